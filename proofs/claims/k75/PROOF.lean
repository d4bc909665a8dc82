import PyProof.Rows.All
import Wide.All
import OpenK.AllK
import Wide.FinOn
import HandS.ForMost
import HandS.ForExc
import HandS.Exc
import HandS.TryOnly
import HandS.ExcOwn
import HandS.Defaults
import HandS.IsInst
import HandS.Flow
import HandS.Wide
import HandS.Lambda
import HandS.HeadHook4
import HandS.ExcCtx
import HandS.MakeKwOnly
import HandS.Small
import HandS.SortInts
import HandS.Conv
import HandS.SetFor
import KE.GoesEnum
import KE.KDictZip
import KE.KDictItemsList
import KE.KUnpackStar
import HandS.Ends
import HandS.HeadEnd
import HandS.Head0
import HandS.Head1
import HandS.Head2
import HandS.HeadHook1
import HandS.HeadHook2
import HandS.DictComp
import HandS.Deep
import HandS.OwnEq
import HandS.Style
import HandS.Text
import HandS.FStr
import PyProof.StrOps2
import HandS.ExcIs
import HandS.TryMany
import HandS.EndTab
import KE.DataMinMax
import KE.SortData
import HandS.NoneIn
import HandS.ClsMeth
import KE.GoesSet
import KE.GoesMore
import PyProof.InstNe
import HandS.Zip
import HandS.TupMul
import HandS.More
import HandS.HeadHook3
import KE.KDictCopyH
import HandS.HotCalls
import KE.KDictKeyed
import HandS.ExcInit
import HandS.ExcField
import KE.KExcIs
import PyProof.Rows.StrMeet
import HandS.WideMore
import PySem.Challenge.RW_reachyard_k75_names_and_values
import PyProof.Rows.StrDigitsNeg
import PyProof.StrLawsTight
import KE.KIntText
import KE.IntTextLaws
set_option Elab.async false
set_option maxRecDepth 100000
set_option maxHeartbeats 0
set_option linter.all false
namespace DL
open PySem L2

/-- data: what a value is worth; oid: an object of the store -/
inductive D where
  | non | bl (b : Bool) | int (i : Int) | str (x : Str) | ty (n : String)
  | cls (c : Str) | tup (xs : List D) | lst (xs : List D) | scr (xs : List D) | dic (kvs : List (Key × D)) | ins (C : Str) (fs : List (Str × D)) | oid (n : Nat) | exc (C : Str) (fs : List (Str × D))
end DL

namespace DL
open PySem L2

end DL

namespace DL
open PySem L2

end DL

namespace DL
open PySem L2

end DL

namespace DL
open PySem L2

end DL

namespace DL
open PySem L2

end DL

namespace DL
open PySem L2

end DL

namespace DL
open PySem L2

end DL

namespace DL
open PySem L2

section
variable {X : Cx} {W : WX} {k : Nat} {a b c e : Expr} {es : List Expr} {fa fb fc fe : FE} {pos : Pos}
def valD (ks : List (Key × D)) (k : Key) : Option D := (ks.find? fun q => decide (q.1 = k)).map (·.2)
end
end DL

namespace DL
open PySem L2

end DL

namespace PySem
open PySem.Spec PyProof.Rows L2
end PySem
namespace DL
open PySem L2
end DL

namespace PySem
open PySem.Spec PySem.Calls PyProof.Rows PySem.W L2
namespace F
end F
end PySem

namespace DL
open PySem L2
end DL

namespace PySem
open PySem.Spec PySem.Calls PyProof.Rows PySem.W L2
end PySem
namespace DL
open PySem L2
end DL

namespace DL
open PySem PySem.Spec PyProof.Rows L2

end DL

namespace DL
open PySem PySem.Spec PyProof.Rows L2
end DL

namespace DL
open PySem PySem.Spec PyProof.Rows L2
end DL

namespace DL
open PySem PySem.Spec PyProof.Rows L2
end DL

namespace DL
open PySem PySem.Spec PyProof.Rows L2
end DL

namespace DL
open PySem PySem.Spec PyProof.Rows L2
end DL

namespace DL
open PySem PySem.Spec PyProof.Rows L2
end DL

namespace DL
open PySem PySem.Spec PyProof.Rows L2
end DL

namespace DL
open PySem PySem.Spec PyProof.Rows L2
end DL

namespace DL
open PySem PySem.Spec PyProof.Rows L2
end DL

namespace DL
open PySem PySem.Spec PyProof.Rows L2
end DL

namespace DL
open PySem PySem.Spec PyProof.Rows L2
end DL

namespace PySem
open PySem.Spec PySem.Calls PyProof.Rows PySem.W L2
namespace F
end F
end PySem

namespace DL
open PySem PySem.Spec PyProof.Rows L2
end DL

namespace HT
open PySem PySem.Spec PyProof.Rows
end HT
namespace L2
open PySem PySem.Spec PyProof.Rows
end L2
namespace DL
open PySem PySem.Spec PyProof.Rows L2
end DL

namespace DL
open PySem PySem.Spec PyProof.Rows L2
end DL

namespace DL
open PySem PySem.Spec PyProof.Rows L2
end DL

namespace DL
open PySem PySem.Spec PyProof.Rows L2
end DL

namespace DL
open PySem PySem.Spec PyProof.Rows L2
end DL

namespace DL
open PySem PySem.Spec PyProof.Rows L2
end DL

namespace DL
open PySem PySem.Spec PyProof.Rows L2

end DL

namespace DL
open PySem PySem.Spec PyProof.Rows L2

end DL

namespace DL
open PySem PySem.Spec PyProof.Rows L2

end DL

namespace DL
open PySem PySem.Spec PyProof.Rows L2

/-- the tables of the defs that make lambdas -/
def tabA (K : PySem.W.Frag) (tq : List (He.Defn × Str)) : List Addr := tq.map fun p => (He.cT K p.1).2
structure SaysO (fa : List He.Fa) (fn : List He.DefD) (tq : List (He.Defn × Str)) (ex : PySem.W.Frag → Bool) (h : Heap) (K : PySem.W.Frag) : Prop where
  says : He.SaysD fa fn K
  ex : ex K = true
  nd : (tabA K tq).Nodup
  hd : ∀ p ∈ tq, PySem.W.codeHdIn K (He.cT K p.1).1 (He.cT K p.1).2 = true
  out : ∀ p ∈ tq, K.lookup (He.cT K p.1).2 = none
  tabs : ∀ p ∈ tq, h.get? (He.cT K p.1).2 = some { cls := .none, data := .fields #[] }
abbrev bmV : List Value := [.type "ValueError", .type "Exception", .type "BaseException", .type "object"]
def raiB (K : PySem.W.Frag) (c : Str) : Bool := PySem.W.excIn K (He.ga K c) bmV "ValueError.__new__" && (PySem.W.keepIn K (.ref (He.ga K c)) && (decide (PySem.W.subIn K (.ref (He.ga K c)) (.type "BaseException") = some true) && (PySem.W.typeIn K (.ref (He.ga K c)) == some (Value.type "type"))))
/-- what isinstance asks of an exception's class -/
def iseB (K : PySem.W.Frag) (c : Str) : Bool := He.eqO (PySem.W.findIn K (.ref (He.ga K c)) "__getattribute__") (some (some (.builtin "BaseException.__getattribute__"))) && (He.eqO (PySem.W.findIn K (.ref (He.ga K c)) "__getattr__") (some none) && (decide (PySem.W.subIn K (.ref (He.ga K c)) (.type "BaseException") = some true) &&
  (PySem.W.hasDictIn K (He.ga K c) && (He.eqO (PySem.W.findIn K (.ref (He.ga K c)) "__class__") (some (some (.builtin "object.__class__"))) && (He.eqO (PySem.W.specialIn K (.builtin "object.__class__") "__get__") (some (some (.builtin "getset_descriptor.__get__"))) &&
    (decide (PySem.W.takesIn K (.builtin "object.__class__") = some true) && decide (PySem.W.mroIn K (He.ga K c) (.type "object") = some true)))))))
/-- a table: which classes an except clause, isinstance takes -/
def exmT (K : PySem.W.Frag) (c : Value) (t : List (Str × Bool)) : Bool := t.all fun q => decide (PySem.W.exmOne K (.ref (He.ga K q.1)) c = some q.2)
def kitT (K : PySem.W.Frag) (c : Value) (t : List (Str × Bool)) : Bool := t.all fun q => decide (PySem.W.kitOne K (.ref (He.ga K q.1)) c = some q.2)
end DL

namespace DL
open PySem L2
end DL

namespace DL
open PySem PySem.Spec PyProof.Rows L2
end DL

namespace DL
open PySem PySem.Spec PyProof.Rows L2
end DL

namespace PySem.W
open PySem PySem.SeqAt PyProof.Rows
end PySem.W
namespace DL
open PySem PySem.Spec PySem.W PySem.SeqAt PyProof.Rows L2
end DL

namespace DL
open PySem PySem.Spec PyProof.Rows L2
end DL

namespace DL
open PySem PySem.Spec PyProof.Rows L2
end DL

namespace DL
open PySem PySem.Spec PyProof.Rows L2
def strsB : List Value → List Str → Bool
  | [], [] => true
  | .str y _ :: r, z :: s => decide (y = z) && strsB r s
  | _, _ => false
end DL

namespace DL
open PySem PySem.Spec PyProof.Rows L2
end DL

namespace DL
open PySem PySem.Spec PyProof.Rows L2
end DL

namespace DL
open PySem PySem.Spec PyProof.Rows L2
end DL

namespace DL
open PySem PySem.Spec PyProof.Rows L2
end DL

namespace DL
open PySem PySem.Spec PyProof.Rows L2
end DL

namespace DL
open PySem PySem.Spec PyProof.Rows L2
end DL

namespace DL
open PySem PySem.Spec PyProof.Rows L2
def hasBit (m a : Nat) : Bool := Nat.beq (Nat.land (Nat.shiftRight m a) 1) 1
/-- what is new of some: the bits of all seen, the new ones, the last one first -/
def newB : List Addr → Nat → List Addr → Nat × List Addr
  | [], m, acc => (m, acc)
  | a :: as, m, acc => match hasBit m a with
    | true => newB as m acc
    | false => newB as (Nat.lor m (Nat.shiftLeft 1 a)) (a :: acc)
def refsB (g : Addr → Option Obj) : List Addr → List Addr
  | [] => []
  | a :: as => (match g a with
    | some o => He.refsD o
    | none => []) ++ refsB g as
def asBn (g : Addr → Option Obj) : Nat → Nat → List Addr → List Addr → List Addr
  | 0, _, _, all => all
  | n + 1, m, fr, all => match newB (refsB g fr) m [] with
    | (m', new) => asBn g n m' new (all ++ new)
def asB (g : Addr → Option Obj) (n : Nat) : List Addr := PySem.cStatics :: asBn g n (Nat.lor (Nat.shiftLeft 1 mainGlobals) (Nat.shiftLeft 1 PySem.cStatics)) [mainGlobals] [mainGlobals]
def obsLb (n : Nat) (fa : List He.Fa) (fn : List He.DefD) (tq : List (He.Defn × Str)) (ex : PySem.W.Frag → Bool) (g : Addr → Option Obj) : He.AlD × Bool :=
  (He.obsD fa fn (He.frT g (asB g n)), ex (He.frT g (asB g n)) && (decide (tabA (He.frT g (asB g n)) tq).Nodup && He.tabsB g (tq.map (·.1)) (He.frT g (asB g n))))
theorem saysOb_of {n : Nat} {fa : List He.Fa} {fn : List He.DefD} {tq : List (He.Defn × Str)} {ex : PySem.W.Frag → Bool} {h : Heap} (e : obsLb n fa fn tq ex h.get? = (He.valD fn, true)) : SaysO fa fn tq ex h (He.frT h.get? (asB h.get? n)) := by
  have e1 := congrArg Prod.fst e
  have e2 : (ex (He.frT h.get? (asB h.get? n)) && (decide (tabA (He.frT h.get? (asB h.get? n)) tq).Nodup && He.tabsB h.get? (tq.map (·.1)) (He.frT h.get? (asB h.get? n)))) = true := congrArg Prod.snd e
  obtain ⟨q1, q2⟩ := He.ba e2
  obtain ⟨q3, q4⟩ := He.ba q2
  have each : ∀ p ∈ tq, PySem.W.codeHdIn (He.frT h.get? (asB h.get? n)) (He.cT (He.frT h.get? (asB h.get? n)) p.1).1 (He.cT (He.frT h.get? (asB h.get? n)) p.1).2 = true ∧ ∃ o, h.get? (He.cT (He.frT h.get? (asB h.get? n)) p.1).2 = some o ∧ He.emptyTab o = true := fun p hp => by
    obtain ⟨z1, z2⟩ := He.ba (List.all_eq_true.mp q4 p.1 (List.mem_map.mpr ⟨p, hp, rfl⟩))
    refine ⟨z1, ?_⟩
    cases q : h.get? (He.cT (He.frT h.get? (asB h.get? n)) p.1).2 with
    | none => rw [q] at z2; cases z2
    | some o =>
      rw [q] at z2
      exact ⟨o, rfl, z2⟩
  refine ⟨e1, q1, of_decide_eq_true q3, fun p hp => (each p hp).1, fun p hp => ?_, fun p hp => ?_⟩
  · obtain ⟨_, o, z1, z2⟩ := each p hp
    exact He.frT_none z1 z2
  · obtain ⟨_, o, z1, z2⟩ := each p hp
    rw [z1, He.emptyTab_eq z2]
def hookLb (n : Nat) (fa : List He.Fa) (fn : List He.DefD) (tq : List (He.Defn × Str)) (ex : PySem.W.Frag → Bool) : PySem.W.Hook where
  α := He.AlD × Bool
  obs := fun s => obsLb n fa fn tq ex s.heap.get?
  val := fun _ => (He.valD fn, true)
  says := fun _ h => ∃ K : PySem.W.Frag, K.In h ∧ SaysO fa fn tq ex h K
  of := fun _ _ e => ⟨_, He.frT_in, saysOb_of e⟩
  keeps := fun _ _ _ ⟨K, hK, c⟩ k => ⟨K, PySem.W.Frag.In.keeps hK k, ⟨c.says, c.ex, c.nd, c.hd, c.out, fun p hp => k _ _ (c.tabs p hp)⟩⟩
theorem obsLb_eq {n : Nat} {fa : List He.Fa} {fn : List He.DefD} {tq : List (He.Defn × Str)} {ex : PySem.W.Frag → Bool} {g : Addr → Option Obj} {s : Shared} (h : ∀ a, g a = s.heap.get? a) : obsLb n fa fn tq ex g = (hookLb n fa fn tq ex).obs s := by
  have e : g = s.heap.get? := funext h
  rw [e] <;> rfl
end DL

namespace DL
open PySem L2
end DL

namespace DL
open PySem L2
end DL

namespace DL
open PySem PySem.Spec PyProof.Rows L2
end DL
namespace SrtO
open PySem PyProof.Rows Srt
end SrtO
namespace DL
open PySem PySem.Spec PyProof.Rows L2
end DL

namespace DL
open PySem PySem.Spec PyProof.Rows L2
end DL

namespace L2
open PySem PySem.Spec PyProof.Rows
end L2
namespace DL
open PySem PySem.Spec PyProof.Rows L2
end DL

namespace DL
open PySem PySem.Spec PyProof.Rows L2
end DL

namespace DL
open PySem PySem.Spec PyProof.Rows L2
end DL

namespace DL
open PySem PySem.Spec PyProof.Rows L2
end DL

namespace L2
open PySem PySem.Spec PyProof.Rows
end L2
namespace DL
open PySem PySem.Spec PyProof.Rows L2
end DL

namespace L2
open PySem PySem.Spec PyProof.Rows
end L2
namespace DL
open PySem PySem.Spec PyProof.Rows L2
end DL

namespace L2
open PySem PySem.Spec PyProof.Rows
end L2
namespace DL
open PySem PySem.Spec PyProof.Rows L2
end DL

namespace DL
open PySem PySem.Spec PyProof.Rows L2
end DL

namespace PySem
open PySem.Spec PySem.Calls PyProof.Rows PySem.W L2
end PySem
namespace DL
open PySem L2
end DL

namespace DL
open PySem PySem.Spec PyProof.Rows L2
end DL

namespace DL
open PySem PySem.Spec PyProof.Rows L2
end DL

namespace DL
open PySem PySem.Spec PyProof.Rows L2
end DL

namespace DL
open PySem PySem.Spec PyProof.Rows L2
end DL

namespace DL
open PySem PySem.Spec PyProof.Rows L2
end DL

namespace DL
open PySem PySem.Spec PyProof.Rows L2
end DL

namespace DL
open PySem PySem.Spec PyProof.Rows L2
end DL

namespace DL
open PySem PySem.Spec PyProof.Rows L2
end DL

namespace DL
open PySem PySem.Spec PyProof.Rows L2
end DL

namespace DL
open PySem PySem.Spec PyProof.Rows L2
end DL

namespace DL
open PySem PySem.Spec PyProof.Rows L2
end DL

namespace DL
open PySem PySem.Spec PyProof.Rows L2
end DL

namespace DL
open PySem PySem.Spec PyProof.Rows L2
def oexB (K : PySem.W.Frag) (C : Addr) : Bool := (match K.lookup C with
  | some ⟨.type "type", _, .cls cd, sl⟩ => (match cd.mro, sl.toList with
    | .ref C' :: bm, [_, _, _, _, some (.builtin n), _] => C' == C && n == "ValueError.__new__" && !cd.hasDel && cd.hasDict && PySem.HandSPX.refsVE bm
    | _, _ => false)
  | _ => false) && (He.eqO (PySem.W.findIn K (.ref C) "__setattr__") (some (some (.builtin "object.__setattr__"))) && (decide (PySem.W.subIn K (.ref C) (.type "BaseException") = some true) && ((PySem.W.typeIn K (.ref C) == some (Value.type "type")) && PySem.W.keepIn K (.ref C))))
def xiB (K : PySem.W.Frag) (c b : Str) (fs : List Str) : Bool := oexB K (He.ga K c) && (PySem.W.readsIn K (He.ga K b) (.type "type") && (He.eqO (PySem.W.specialIn K (.ref (He.ga K b)) "__getattribute__") (some (some (.builtin "type.__getattribute__"))) &&
  ((match PySem.W.findCls K (.ref (He.ga K b)) (.type "type") "__init__" with
    | some (.val (.builtin n)) => n == "ValueError.__init__"
    | _ => false) && (fs.all (fun f => He.eqO (PySem.W.findIn K (.ref (He.ga K c)) f) (some none)) && (He.eqO (PySem.W.findIn K (.ref (He.ga K c)) "__init__") (some (some (.ref (He.ma K (He.ga K c) "__init__")))) &&
    ((PySem.W.typeIn K (.ref (He.ma K (He.ga K c) "__init__")) == some (Value.type "function")) && xfB K (He.ga K c)))))))
end DL

namespace DL
open PySem PySem.Spec PyProof.Rows L2
end DL

namespace DL
open PySem PySem.Spec PyProof.Rows L2
end DL

namespace DL
open PySem PySem.Spec PyProof.Rows L2
end DL

namespace DL
open PySem PySem.Spec PyProof.Rows L2
end DL

namespace DL
open PySem PySem.Spec PyProof.Rows L2
end DL

namespace DL
open PySem PySem.Spec PyProof.Rows L2
end DL

namespace DL
open PySem PySem.Spec PyProof.Rows L2
end DL

namespace DL
open PySem PySem.Spec PyProof.Rows L2
end DL

namespace L2
open PySem PySem.Spec PyProof.Rows
end L2
namespace DL
open PySem PySem.Spec PyProof.Rows L2
end DL

namespace DL
open PySem PySem.Spec PyProof.Rows L2
def kwAt (f : Str × Option Str) (x : Str) (K : PySem.W.Frag) : Addr := match K.lookup (He.fAd K f) with
  | some ⟨_, _, .func fd, _⟩ => (match fd.kwdefaults with
    | .ref T => (match PySem.W.nsIn K T x with
      | some (some (.ref b)) => b
      | _ => 0)
    | _ => 0)
  | _ => 0
def tupdB (K : PySem.W.Frag) (f : Str × Option Str) (x : Str) (zs : List Str) : Bool := match K.lookup (kwAt f x K) with
  | some ⟨.type c, _, .seq its _, _⟩ => decide (c = "tuple") && (decide (its.size ≤ 1000) && strsB its.toList zs)
  | _ => false
end DL

namespace DL
open PySem PySem.Spec PyProof.Rows L2
end DL

namespace K03
open PySem PySem.Spec PyProof.Rows L2 DL
def top (i : Nat) : Stmt := PySem.Challenge.pw_reachyard_k75_names_and_values.main.body.getD i (.Pass ⟨0, 0, 0, 0⟩)
abbrev tb_BadName : List (Str × Bool) := [("BadName", true), ("NoName", false), ("TooMany", false), ("NoCell", false), ("NoField", false), ("BadNumber", false)]
abbrev tb_BadNumber : List (Str × Bool) := [("BadName", false), ("NoName", false), ("TooMany", false), ("NoCell", false), ("NoField", false), ("BadNumber", true)]
abbrev tb_NoCell : List (Str × Bool) := [("BadName", false), ("NoName", false), ("TooMany", false), ("NoCell", true), ("NoField", false), ("BadNumber", false)]
abbrev tb_NoDeed : List (Str × Bool) := [("BadName", false), ("NoName", false), ("TooMany", false), ("NoCell", false), ("NoField", false), ("BadNumber", false)]
abbrev tb_NoField : List (Str × Bool) := [("BadName", false), ("NoName", false), ("TooMany", false), ("NoCell", false), ("NoField", true), ("BadNumber", false)]
abbrev tb_NoName : List (Str × Bool) := [("BadName", false), ("NoName", true), ("TooMany", false), ("NoCell", false), ("NoField", false), ("BadNumber", false)]
abbrev tb_TooMany : List (Str × Bool) := [("BadName", false), ("NoName", false), ("TooMany", true), ("NoCell", false), ("NoField", false), ("BadNumber", false)]
abbrev tb_YardError : List (Str × Bool) := [("BadName", true), ("NoName", true), ("TooMany", true), ("NoCell", true), ("NoField", true), ("BadNumber", true)]
abbrev s_p_law_state : Stmt := top 43
def d_p_law_state : He.DefD := ⟨("_law_state", none), "_law_state", "_law_state", defArgs s_p_law_state, defBody s_p_law_state, defScope s_p_law_state, [], []⟩
abbrev s_p_law_next : Stmt := top 44
def d_p_law_next : He.DefD := ⟨("_law_next", none), "_law_next", "_law_next", defArgs s_p_law_next, defBody s_p_law_next, defScope s_p_law_next, [], []⟩
abbrev s_p_law_name : Stmt := top 45
def d_p_law_name : He.DefD := ⟨("_law_name", none), "_law_name", "_law_name", defArgs s_p_law_name, defBody s_p_law_name, defScope s_p_law_name, [], []⟩
abbrev s_p_law_names : Stmt := top 46
def d_p_law_names : He.DefD := ⟨("_law_names", none), "_law_names", "_law_names", defArgs s_p_law_names, defBody s_p_law_names, defScope s_p_law_names, [], []⟩
abbrev s_House_init : Stmt := inClass (top 41) 0
def d_House_init : He.DefD := ⟨("House", some "__init__"), "__init__", "House.__init__", defArgs s_House_init, defBody s_House_init, defScope s_House_init, [], []⟩
abbrev s_p_law_number : Stmt := top 47
def d_p_law_number : He.DefD := ⟨("_law_number", none), "_law_number", "_law_number", defArgs s_p_law_number, defBody s_p_law_number, defScope s_p_law_number, [], []⟩
abbrev s_p_law_deed : Stmt := top 48
def d_p_law_deed : He.DefD := ⟨("_law_deed", none), "_law_deed", "_law_deed", defArgs s_p_law_deed, defBody s_p_law_deed, defScope s_p_law_deed, [], []⟩
abbrev s_p_law_needs : Stmt := top 49
def d_p_law_needs : He.DefD := ⟨("_law_needs", none), "_law_needs", "_law_needs", defArgs s_p_law_needs, defBody s_p_law_needs, defScope s_p_law_needs, [], []⟩
abbrev s_p_law_whole : Stmt := top 52
def d_p_law_whole : He.DefD := ⟨("_law_whole", none), "_law_whole", "_law_whole", defArgs s_p_law_whole, defBody s_p_law_whole, defScope s_p_law_whole, [], []⟩
abbrev s_p_law_sort : Stmt := top 50
def d_p_law_sort : He.DefD := ⟨("_law_sort", none), "_law_sort", "_law_sort", defArgs s_p_law_sort, defBody s_p_law_sort, defScope s_p_law_sort, [], []⟩
abbrev s_p_law_refused_thing : Stmt := top 53
def d_p_law_refused_thing : He.DefD := ⟨("_law_refused_thing", none), "_law_refused_thing", "_law_refused_thing", defArgs s_p_law_refused_thing, defBody s_p_law_refused_thing, defScope s_p_law_refused_thing, [], []⟩
abbrev s_p_law_refusal : Stmt := top 51
def d_p_law_refusal : He.DefD := ⟨("_law_refusal", none), "_law_refusal", "_law_refusal", defArgs s_p_law_refusal, defBody s_p_law_refusal, defScope s_p_law_refusal, [], []⟩
abbrev s_p_law_gotten : Stmt := top 57
def d_p_law_gotten : He.DefD := ⟨("_law_gotten", none), "_law_gotten", "_law_gotten", defArgs s_p_law_gotten, defBody s_p_law_gotten, defScope s_p_law_gotten, [], []⟩
abbrev s_p_law_done : Stmt := top 56
def d_p_law_done : He.DefD := ⟨("_law_done", none), "_law_done", "_law_done", defArgs s_p_law_done, defBody s_p_law_done, defScope s_p_law_done, [], []⟩
abbrev s_p_law_heard : Stmt := top 59
def d_p_law_heard : He.DefD := ⟨("_law_heard", none), "_law_heard", "_law_heard", defArgs s_p_law_heard, defBody s_p_law_heard, defScope s_p_law_heard, [], []⟩
abbrev s_is_name : Stmt := top 40
def d_is_name : He.DefD := ⟨("is_name", none), "is_name", "is_name", defArgs s_is_name, defBody s_is_name, defScope s_is_name, [], []⟩
abbrev s_BadName_init : Stmt := inClass (top 9) 0
def d_BadName_init : He.DefD := ⟨("BadName", some "__init__"), "__init__", "BadName.__init__", defArgs s_BadName_init, defBody s_BadName_init, defScope s_BadName_init, [], []⟩
abbrev s_NoName_init : Stmt := inClass (top 10) 0
def d_NoName_init : He.DefD := ⟨("NoName", some "__init__"), "__init__", "NoName.__init__", defArgs s_NoName_init, defBody s_NoName_init, defScope s_NoName_init, [], []⟩
abbrev s_House_need : Stmt := inClass (top 41) 4
def d_House_need : He.DefD := ⟨("House", some "need"), "need", "House.need", defArgs s_House_need, defBody s_House_need, defScope s_House_need, [], [("there", .adr (kwAt ("House", some "need") "there")), ("new", .non)]⟩
abbrev s_is_whole : Stmt := top 14
def d_is_whole : He.DefD := ⟨("is_whole", none), "is_whole", "is_whole", defArgs s_is_whole, defBody s_is_whole, defScope s_is_whole, [], []⟩
abbrev s_is_number : Stmt := top 15
def d_is_number : He.DefD := ⟨("is_number", none), "is_number", "is_number", defArgs s_is_number, defBody s_is_number, defScope s_is_number, [], []⟩
abbrev s_House_keep : Stmt := inClass (top 41) 7
def d_House_keep : He.DefD := ⟨("House", some "keep"), "keep", "House.keep", defArgs s_House_keep, defBody s_House_keep, defScope s_House_keep, [], [("named", .non), ("things", .non), ("waits", .non)]⟩
abbrev s_House_with_name : Stmt := inClass (top 41) 8
def d_House_with_name : He.DefD := ⟨("House", some "with_name"), "with_name", "House.with_name", defArgs s_House_with_name, defBody s_House_with_name, defScope s_House_with_name, [], []⟩
abbrev s_House_number : Stmt := inClass (top 41) 9
def d_House_number : He.DefD := ⟨("House", some "number"), "number", "House.number", defArgs s_House_number, defBody s_House_number, defScope s_House_number, [], []⟩
abbrev s_House_nothing : Stmt := inClass (top 41) 10
def d_House_nothing : He.DefD := ⟨("House", some "nothing"), "nothing", "House.nothing", defArgs s_House_nothing, defBody s_House_nothing, defScope s_House_nothing, [], []⟩
abbrev s_House_hold : Stmt := inClass (top 41) 11
def d_House_hold : He.DefD := ⟨("House", some "hold"), "hold", "House.hold", defArgs s_House_hold, defBody s_House_hold, defScope s_House_hold, [], []⟩
abbrev s_House_cell : Stmt := inClass (top 41) 12
def d_House_cell : He.DefD := ⟨("House", some "cell"), "cell", "House.cell", defArgs s_House_cell, defBody s_House_cell, defScope s_House_cell, [], [("last", .bl false)]⟩
abbrev s_House_thing_in : Stmt := inClass (top 41) 5
def d_House_thing_in : He.DefD := ⟨("House", some "thing_in"), "thing_in", "House.thing_in", defArgs s_House_thing_in, defBody s_House_thing_in, defScope s_House_thing_in, [], [("sorts", .adr (kwAt ("House", some "thing_in") "sorts"))]⟩
abbrev s_House_tie : Stmt := inClass (top 41) 13
def d_House_tie : He.DefD := ⟨("House", some "tie"), "tie", "House.tie", defArgs s_House_tie, defBody s_House_tie, defScope s_House_tie, [], []⟩
abbrev s_House_field_in : Stmt := inClass (top 41) 6
def d_House_field_in : He.DefD := ⟨("House", some "field_in"), "field_in", "House.field_in", defArgs s_House_field_in, defBody s_House_field_in, defScope s_House_field_in, [], []⟩
abbrev s_House_get : Stmt := inClass (top 41) 14
def d_House_get : He.DefD := ⟨("House", some "get"), "get", "House.get", defArgs s_House_get, defBody s_House_get, defScope s_House_get, [], []⟩
abbrev s_House_put : Stmt := inClass (top 41) 15
def d_House_put : He.DefD := ⟨("House", some "put"), "put", "House.put", defArgs s_House_put, defBody s_House_put, defScope s_House_put, [], []⟩
abbrev s_House_follow : Stmt := inClass (top 41) 16
def d_House_follow : He.DefD := ⟨("House", some "follow"), "follow", "House.follow", defArgs s_House_follow, defBody s_House_follow, defScope s_House_follow, [], []⟩
abbrev s_House_drop : Stmt := inClass (top 41) 18
def d_House_drop : He.DefD := ⟨("House", some "drop"), "drop", "House.drop", defArgs s_House_drop, defBody s_House_drop, defScope s_House_drop, [], []⟩
abbrev s_p_law_call : Stmt := top 58
def d_p_law_call : He.DefD := ⟨("_law_call", none), "_law_call", "_law_call", defArgs s_p_law_call, defBody s_p_law_call, defScope s_p_law_call, [], []⟩
abbrev s_House_names : Stmt := inClass (top 41) 26
def d_House_names : He.DefD := ⟨("House", some "names"), "names", "House.names", defArgs s_House_names, defBody s_House_names, defScope s_House_names, [], []⟩
abbrev s_House_len : Stmt := inClass (top 41) 1
def d_House_len : He.DefD := ⟨("House", some "__len__"), "__len__", "House.__len__", defArgs s_House_len, defBody s_House_len, defScope s_House_len, [], []⟩
abbrev s_House_value : Stmt := inClass (top 41) 27
def d_House_value : He.DefD := ⟨("House", some "value"), "value", "House.value", defArgs s_House_value, defBody s_House_value, defScope s_House_value, [], []⟩
abbrev s_p_law_value : Stmt := top 60
def d_p_law_value : He.DefD := ⟨("_law_value", none), "_law_value", "_law_value", defArgs s_p_law_value, defBody s_p_law_value, defScope s_p_law_value, [], []⟩
abbrev s_House_same : Stmt := inClass (top 41) 30
def d_House_same : He.DefD := ⟨("House", some "same"), "same", "House.same", defArgs s_House_same, defBody s_House_same, defScope s_House_same, [], []⟩
abbrev s_p_law_stands : Stmt := top 61
def d_p_law_stands : He.DefD := ⟨("_law_stands", none), "_law_stands", "_law_stands", defArgs s_p_law_stands, defBody s_p_law_stands, defScope s_p_law_stands, [], []⟩
abbrev s_House_names_o : Stmt := inClass (top 41) 26
def d_House_names_o : He.DefD := ⟨("House", some "names"), "names", "House.names", defArgs s_House_names_o, defBody s_House_names_o, defScope s_House_names_o, [], []⟩
abbrev s_law : Stmt := top 62
def d_law : He.DefD := ⟨("law", none), "law", "law", defArgs s_law, defBody s_law, defScope s_law, [], []⟩
def fn : List He.DefD := [d_p_law_state, d_p_law_next, d_p_law_name, d_p_law_names, d_House_init, d_p_law_number, d_p_law_deed, d_p_law_needs, d_p_law_whole, d_p_law_sort, d_p_law_refused_thing, d_p_law_refusal, d_p_law_gotten, d_p_law_done, d_p_law_heard, d_is_name, d_BadName_init, d_NoName_init, d_House_need, d_is_whole, d_is_number, d_House_keep, d_House_with_name, d_House_number, d_House_nothing, d_House_hold, d_House_cell, d_House_thing_in, d_House_tie, d_House_field_in, d_House_get, d_House_put, d_House_follow, d_House_drop, d_p_law_call, d_House_names, d_House_len, d_House_value, d_p_law_value, d_House_same, d_p_law_stands, d_House_names_o, d_law]
def fa : List He.Fa := [.glo "_law_state", .glo "_law_next", .glo "_law_name", .glo "_law_names", .glo "_law_number", .glo "_law_deed", .glo "_law_needs", .glo "_law_whole", .glo "_law_sort", .glo "_law_refused_thing", .glo "_law_refusal", .glo "_law_gotten", .glo "_law_done", .glo "_law_heard", .glo "is_name", .glo "is_whole", .glo "is_number", .glo "_law_call", .glo "_law_value", .glo "_law_stands", .glo "law", .free "abs", .free "all", .free "bool", .free "dict", .free "int", .free "isinstance", .free "len", .free "list", .free "min", .free "range", .free "repr", .free "sorted", .free "str", .free "tuple", .int "GREATEST" (1000000000), .int "MOST_FIELDS" (6), .int "MOST_NAMES" (40), .str "SMALL" "abcdefghijklmnopqrstuvwxyz", .glo "BadName", .glo "BadNumber", .glo "NoCell", .glo "NoDeed", .glo "NoField", .glo "NoName", .glo "TooMany", .glo "YardError", .glo "House", .cls "House", .mkr "House", .meth "House" "__len__", .meth "House" "cell", .meth "House" "drop", .meth "House" "field_in", .meth "House" "follow", .meth "House" "get", .meth "House" "hold", .meth "House" "keep", .meth "House" "names", .meth "House" "need", .meth "House" "nothing", .meth "House" "number", .meth "House" "put", .meth "House" "same", .meth "House" "thing_in", .meth "House" "tie", .meth "House" "value", .meth "House" "with_name", .noat "House" "elder", .noat "House" "named", .noat "House" "stands", .noat "House" "things", .noat "House" "tried", .noat "House" "tried_out", .noat "House" "waits"]
def exB (K : PySem.W.Frag) : Bool := tupdB K ("House", some "need") "there" ([] : List Str) && (tupdB K ("House", some "thing_in") "sorts" (["cell", "last"] : List Str) && (raiB K "BadNumber" && (raiB K "NoCell" && (raiB K "NoField" && (raiB K "TooMany" && (xiB K "BadName" "YardError" ["name"] && (xiB K "NoName" "YardError" ["name"] && (iseB K "BadName" && (iseB K "NoName" && (iseB K "TooMany" && (iseB K "NoCell" && (iseB K "NoField" && (iseB K "BadNumber" && (exmT K (.ref (He.ga K "YardError")) tb_YardError && (kitT K (.ref (He.ga K "BadName")) tb_BadName && (kitT K (.ref (He.ga K "BadNumber")) tb_BadNumber && (kitT K (.ref (He.ga K "NoCell")) tb_NoCell && (kitT K (.ref (He.ga K "NoDeed")) tb_NoDeed && (kitT K (.ref (He.ga K "NoField")) tb_NoField && (kitT K (.ref (He.ga K "NoName")) tb_NoName && (kitT K (.ref (He.ga K "TooMany")) tb_TooMany && (true))))))))))))))))))))))
def tq : List (He.Defn × Str) := [(("law", none), (("law" : Str) ++ ".<locals>.") ++ "<lambda>")]
end K03

namespace K03
open PySem PySem.Spec PyProof.Rows L2 DL
def loose0 : List Str := ["_wall", "YardError", "BadWeb", "BadNumber", "NoCell", "NoField", "NoDeed", "TooMany", "BadName", "NoName", "MOST_FIELDS", "GREATEST", "is_whole", "is_number", "is_row", "is_at"]
def loose1 : List Str := ["is_value", "is_cell", "is_web", "led_to", "values_in", "Web", "roads_to", "reached", "named", "cell_named", "numbered", "plain", "value_text", "row_text", "cell_text", "web_text"]
def loose2 : List Str := ["SMALL", "MOST_NAMES", "is_name", "House", "_law_state", "_law_next", "_law_name", "_law_names", "_law_number", "_law_deed", "_law_needs", "_law_sort", "_law_refusal", "_law_whole", "_law_refused_thing", "_law_reach"]
def loose3 : List Str := ["_law_tidied", "_law_done", "_law_gotten", "_law_call", "_law_heard", "_law_value", "_law_stands"]
def loose : List Str := loose0 ++ loose1 ++ loose2 ++ loose3
abbrev R : PySem.W.OpenRow := PySem.W.OpenLaw.row PySem.Challenge.rw_reachyard_k75_names_and_values
abbrev hk : PySem.W.Hook := hookLb 6 fa fn tq exB
def ob (s : PySem.W.SharedT) : He.AlD × Bool := obsLb 6 fa fn tq exB (HandSHeadRun.getT s)
theorem ob_eq (s : PySem.W.SharedT) : ob s = hk.obs s.abs := obsLb_eq (HandSHeadRun.getT_eq s)
theorem runf (w : World) : HandSHeadRun.RunEq R (PySem.W.view R.prog [62]) hk ob 40000 loose (w.withFollow "special-get-raises" false) := by
  intro os
  kernel_rfl
theorem runt (w : World) : HandSHeadRun.RunEq R (PySem.W.view R.prog [62]) hk ob 40000 loose (w.withFollow "special-get-raises" true) := by
  intro os
  kernel_rfl
theorem run (w : World) : HandSHeadRun.RunEq R (PySem.W.view R.prog [62]) hk ob 40000 loose w :=
  PySem.W.byRow2 "special-get-raises" (P := fun w => HandSHeadRun.RunEq R (PySem.W.view R.prog [62]) hk ob 40000 loose w) runf runt w

end K03
set_option Elab.async false
set_option maxRecDepth 100000
set_option maxHeartbeats 0
set_option linter.all false
/-! The data layer, part 1: data, stores, the relation to the abstract heap, the judgements. -/
namespace DL
open PySem L2

/-- objects that may change; frz: one that changes no more -/
inductive SO where
  | lst (ds : List D) | dic (ks : List (Key × D)) | ins (C : Str) (fs : List (Str × D)) | frz (d : D) | tbl (p : Str × Option Str) (q : Str) | dkt (ks : List (List Int × D))
def SO.live : SO → Bool
  | .frz _ => false
  | _ => true
abbrev Store := List SO
/-- an entry of a dict whose keys are tuples of whole numbers (truths count as numbers) -/
def entN (x : List Int × Addr × Value) : DictEntry := { hash := reduceHash (Builtin.Tuple.tupleHashOf (x.1.map hashInt)), key := .ref x.2.1, val := x.2.2 }
/-- such a dict, by what lies at its address -/
def DktO (a : Addr) (xs : List (List Int × Addr × Value)) : HO := .ext fun hp => (a == sysModules) = false ∧ xs.length ≤ sizeLine ∧ ∃ (o : Obj) (es : Array DictEntry) (ep : Nat), hp.get? a = some o ∧ o.ExactDict ∧ o.data = .dict es ep ∧ es.toList = xs.map entN ∧ (xs.map (·.1)).Nodup
def numV : V → Option Int
  | .int i => some i
  | .bl b => some (if b = true then 1 else 0)
  | _ => none
def numsV : List V → Option (List Int)
  | [] => some []
  | v :: vs => (numV v).bind fun i => (numsV vs).map fun is => i :: is
/-- a caught exception: of the class cls, its dict dd -/
def ExcV (cls : Value) (dd : Option Addr) (a : Addr) : HO := .ext fun hp => ∃ (ob : Obj) (fs : Array Value), hp.get? a = some ob ∧ L2N.Zn cls dd ob ∧ ob.data = .fields fs

section
variable (K : PySem.W.Frag) (mg : Str → Option Value) (φ : List Addr) (G : Hp)
mutual
def Dat : D → V → Prop
  | .non, v => v = .non
  | .bl b, v => v = .bl b
  | .int i, v => v = .int i
  | .str x, v => v = .str x
  | .ty n, v => v = .ty n
  | .tup ds, v => ∃ a vs, v = .ref a ∧ SqT K G a vs ∧ DatL ds vs
  | .lst ds, v => ∃ a vs, v = .ref a ∧ G a = some (.lst vs) ∧ DatL ds vs
  | .scr ds, v => ∃ a vs, v = .ref a ∧ SqL K G a vs ∧ DatL ds vs
  | .cls c, v => ∃ A, v = .ref A ∧ mg c = some (.ref A)
  | .dic ks, v => ∃ a kvs, v = .ref a ∧ G a = some (.dK kvs) ∧ DatK ks kvs
  | .ins C fs, v => ∃ a A dx fvs, v = .ref a ∧ mg C = some (.ref A) ∧ G a = some (.ins A dx fvs) ∧ DatF fs fvs
  | .oid n, v => ∃ a, v = .ref a ∧ φ[n]? = some a
  | .exc C fs, v => ∃ a A dx, v = .ref a ∧ mg C = some (.ref A) ∧ G a = some (ExcV (.ref A) dx a) ∧ ((fs = [] ∧ dx = none) ∨ fs ≠ [] ∧ ∃ b fvs, dx = some b ∧ G b = some (.xd fvs) ∧ DatF fs fvs)
def DatL : List D → List V → Prop
  | [], vs => vs = []
  | d :: ds, vs => ∃ v r, vs = v :: r ∧ Dat d v ∧ DatL ds r
def DatK : List (Key × D) → List (Key × V) → Prop
  | [], vs => vs = []
  | (k, d) :: ds, vs => ∃ v r, vs = (k, v) :: r ∧ Dat d v ∧ DatK ds r
def DatF : List (Str × D) → List (Str × V) → Prop
  | [], vs => vs = []
  | (k, d) :: ds, vs => ∃ v r, vs = (k, v) :: r ∧ Dat d v ∧ DatF ds r
end
def DatT : List (List Int × D) → List (List Int × Addr × Value) → Prop
  | [], xs => xs = []
  | (k, d) :: ds, xs => ∃ b u r v vs, xs = (k, b, u) :: r ∧ SqT K G b vs ∧ numsV vs = some k ∧ Dat K mg φ G d v ∧ RelV v u ∧ DatT ds r
end

theorem sqt_mono {K : PySem.W.Frag} {G G' : Hp} (e : Same G G') {a : Addr} {xs : List V} (h : SqT K G a xs) : SqT K G' a xs :=
  h.imp (fun r => r.imp (e _ _) fun ⟨o, q⟩ => ⟨o, e _ _ q⟩) id
section
variable {K : PySem.W.Frag} {mg : Str → Option Value} {φ φ' : List Addr} {G G' : Hp}
theorem pre_get {φ φ' : List Addr} (p : φ <+: φ') {n : Nat} {a : Addr} (h : φ[n]? = some a) : φ'[n]? = some a := by
  obtain ⟨t, rfl⟩ := p
  rw [List.getElem?_append_left (List.getElem?_eq_some_iff.mp h).1]
  exact h
mutual
theorem Dat.mono (p : φ <+: φ') (e : Same G G') : ∀ (d : D) (v : V), Dat K mg φ G d v → Dat K mg φ' G' d v
  | .non, _, h => h
  | .bl _, _, h => h
  | .int _, _, h => h
  | .str _, _, h => h
  | .ty _, _, h => h
  | .tup ds, _, h => by
    unfold Dat at h ⊢
    obtain ⟨a, vs, rfl, h1, h2⟩ := h
    exact ⟨a, vs, rfl, sqt_mono e h1, DatL.mono p e ds vs h2⟩
  | .lst ds, _, h => by
    unfold Dat at h ⊢
    obtain ⟨a, vs, rfl, h1, h2⟩ := h
    exact ⟨a, vs, rfl, e _ _ h1, DatL.mono p e ds vs h2⟩
  | .scr ds, _, h => by
    unfold Dat at h ⊢
    obtain ⟨a, vs, rfl, h1, h2⟩ := h
    exact ⟨a, vs, rfl, Same.seq e h1, DatL.mono p e ds vs h2⟩
  | .cls c, _, h => by
    unfold Dat at h ⊢
    exact h
  | .dic ks, _, h => by
    unfold Dat at h ⊢
    obtain ⟨a, vs, rfl, h1, h2⟩ := h
    exact ⟨a, vs, rfl, e _ _ h1, DatK.mono p e ks vs h2⟩
  | .ins C fs, _, h => by
    unfold Dat at h ⊢
    obtain ⟨a, A, dx, fvs, rfl, h0, h1, h2⟩ := h
    exact ⟨a, A, dx, fvs, rfl, h0, e _ _ h1, DatF.mono p e fs fvs h2⟩
  | .oid n, _, h => by
    unfold Dat at h ⊢
    obtain ⟨a, rfl, h⟩ := h
    exact ⟨a, rfl, pre_get p h⟩
  | .exc C fs, _, h => by
    unfold Dat at h ⊢
    obtain ⟨a, A, dx, rfl, h0, h1, h2⟩ := h
    exact ⟨a, A, dx, rfl, h0, e _ _ h1, h2.imp id fun ⟨z, b, fvs, q0, q1, q2⟩ => ⟨z, b, fvs, q0, e _ _ q1, DatF.mono p e fs fvs q2⟩⟩
theorem DatL.mono (p : φ <+: φ') (e : Same G G') : ∀ (ds : List D) (vs : List V), DatL K mg φ G ds vs → DatL K mg φ' G' ds vs
  | [], _, h => by
    unfold DatL at h ⊢
    exact h
  | d :: ds, _, h => by
    unfold DatL at h ⊢
    obtain ⟨v, r, rfl, h1, h2⟩ := h
    exact ⟨v, r, rfl, Dat.mono p e d v h1, DatL.mono p e ds r h2⟩
theorem DatK.mono (p : φ <+: φ') (e : Same G G') : ∀ (ds : List (Key × D)) (vs : List (Key × V)), DatK K mg φ G ds vs → DatK K mg φ' G' ds vs
  | [], _, h => by
    unfold DatK at h ⊢
    exact h
  | (k, d) :: ds, _, h => by
    unfold DatK at h ⊢
    obtain ⟨v, r, rfl, h1, h2⟩ := h
    exact ⟨v, r, rfl, Dat.mono p e d v h1, DatK.mono p e ds r h2⟩
theorem DatF.mono (p : φ <+: φ') (e : Same G G') : ∀ (ds : List (Str × D)) (vs : List (Str × V)), DatF K mg φ G ds vs → DatF K mg φ' G' ds vs
  | [], _, h => by
    unfold DatF at h ⊢
    exact h
  | (k, d) :: ds, _, h => by
    unfold DatF at h ⊢
    obtain ⟨v, r, rfl, h1, h2⟩ := h
    exact ⟨v, r, rfl, Dat.mono p e d v h1, DatF.mono p e ds r h2⟩
end
theorem DatT.mono (p : φ <+: φ') (e : Same G G') : ∀ (ds : List (List Int × D)) (xs : List (List Int × Addr × Value)), DatT K mg φ G ds xs → DatT K mg φ' G' ds xs
  | [], _, h => by
    unfold DatT at h ⊢
    exact h
  | (k, d) :: ds, _, h => by
    unfold DatT at h ⊢
    obtain ⟨b, u, r, v, vs, rfl, h1, h2, h3, h4, h5⟩ := h
    exact ⟨b, u, r, v, vs, rfl, sqt_mono e h1, h2, Dat.mono p e d v h3, h4, DatT.mono p e ds r h5⟩
theorem DatL.length : ∀ {ds : List D} {vs : List V}, DatL K mg φ G ds vs → vs.length = ds.length
  | [], _, h => by unfold DatL at h; rw [h]; rfl
  | d :: ds, _, h => by
    unfold DatL at h
    obtain ⟨v, r, rfl, _, h2⟩ := h
    rw [List.length_cons, List.length_cons, DatL.length h2]
theorem DatL.get : ∀ {ds : List D} {vs : List V} {i : Nat} {d : D}, DatL K mg φ G ds vs → ds[i]? = some d → ∃ v, vs[i]? = some v ∧ Dat K mg φ G d v
  | [], _, _, _, _, e => by cases e
  | d :: ds, _, 0, _, h, e => by
    unfold DatL at h
    obtain ⟨v, r, rfl, h1, _⟩ := h
    cases e
    exact ⟨v, rfl, h1⟩
  | d :: ds, _, i + 1, _, h, e => by
    unfold DatL at h
    obtain ⟨v, r, rfl, _, h2⟩ := h
    obtain ⟨w, a, b⟩ := DatL.get (i := i) h2 e
    exact ⟨w, a, b⟩
theorem DatL.nil : DatL K mg φ G [] [] := by unfold DatL; rfl
theorem DatL.cons {d : D} {v : V} {ds : List D} {vs : List V} (h : Dat K mg φ G d v) (t : DatL K mg φ G ds vs) : DatL K mg φ G (d :: ds) (v :: vs) := by
  unfold DatL
  exact ⟨v, vs, rfl, h, t⟩
theorem DatL.uncons {d : D} {ds : List D} {vs : List V} (h : DatL K mg φ G (d :: ds) vs) : ∃ v r, vs = v :: r ∧ Dat K mg φ G d v ∧ DatL K mg φ G ds r := by
  unfold DatL at h
  exact h
theorem DatL.append : ∀ {ds es : List D} {vs us : List V}, DatL K mg φ G ds vs → DatL K mg φ G es us → DatL K mg φ G (ds ++ es) (vs ++ us)
  | [], _, _, _, h, t => by
    unfold DatL at h
    subst h
    exact t
  | d :: ds, _, _, _, h, t => by
    obtain ⟨v, r, rfl, h1, h2⟩ := h.uncons
    exact .cons h1 (DatL.append h2 t)
theorem DatL.set : ∀ {ds : List D} {vs : List V} {d : D} {v : V} (i : Nat), DatL K mg φ G ds vs → Dat K mg φ G d v → DatL K mg φ G (ds.set i d) (vs.set i v)
  | [], _, _, _, _, h, _ => by
    unfold DatL at h
    subst h
    exact DatL.nil
  | e :: ds, _, _, _, 0, h, q => by
    obtain ⟨w, r, rfl, _, h2⟩ := h.uncons
    exact .cons q h2
  | e :: ds, _, _, _, i + 1, h, q => by
    obtain ⟨w, r, rfl, h1, h2⟩ := h.uncons
    exact .cons h1 (DatL.set i h2 q)
theorem DatL.map {α : Type} {f : α → D} {g : α → V} : ∀ {l : List α}, (∀ x ∈ l, Dat K mg φ G (f x) (g x)) → DatL K mg φ G (l.map f) (l.map g)
  | [], _ => DatL.nil
  | x :: l, h => .cons (h x List.mem_cons_self) (DatL.map fun y hy => h y (List.mem_cons_of_mem _ hy))
theorem DatL.take : ∀ {ds : List D} {vs : List V} (n : Nat), DatL K mg φ G ds vs → DatL K mg φ G (ds.take n) (vs.take n)
  | _, _, 0, _ => by rw [List.take_zero, List.take_zero]; exact DatL.nil
  | [], _, n + 1, h => by
    unfold DatL at h
    subst h
    exact DatL.nil
  | d :: ds, _, n + 1, h => by
    obtain ⟨v, r, rfl, h1, h2⟩ := h.uncons
    exact .cons h1 (DatL.take n h2)
theorem DatL.drop : ∀ {ds : List D} {vs : List V} (n : Nat), DatL K mg φ G ds vs → DatL K mg φ G (ds.drop n) (vs.drop n)
  | _, _, 0, h => h
  | [], _, n + 1, h => by
    unfold DatL at h
    subst h
    exact DatL.nil
  | d :: ds, _, n + 1, h => by
    obtain ⟨v, r, rfl, h1, h2⟩ := h.uncons
    exact DatL.drop n h2
end

/-! ### the store over the abstract heap -/
def liveA : List Addr → Store → List Addr
  | a :: φ, o :: S => if o.live then a :: liveA φ S else liveA φ S
  | _, _ => []
/-- H without the addresses of l -/
def without (l : List Addr) (H : Hp) : Hp := fun a => if a ∈ l then none else H a
/-- the ground: what changes no more; Z: hidden addresses -/
def gnd (Z : List Addr) (φ : List Addr) (S : Store) (H : Hp) : Hp := without (Z ++ liveA φ S) H
theorem without_some {l : List Addr} {H : Hp} {a : Addr} {o : HO} : without l H a = some o ↔ a ∉ l ∧ H a = some o := by
  unfold without
  by_cases h : a ∈ l
  · rw [if_pos h]
    exact ⟨fun z => (nomatch z), fun z => absurd h z.1⟩
  · rw [if_neg h]
    exact ⟨fun z => ⟨h, z⟩, fun z => z.2⟩
theorem liveA_mem : ∀ {φ : List Addr} {S : Store} {a : Addr}, a ∈ liveA φ S → ∃ (n : Nat) (o : SO), φ[n]? = some a ∧ S[n]? = some o ∧ o.live = true
  | [], _, _, h => by simp [liveA] at h
  | _ :: _, [], _, h => by simp [liveA] at h
  | b :: φ, o :: S, a, h => by
    unfold liveA at h
    have step : a ∈ liveA φ S → ∃ (n : Nat) (o' : SO), (b :: φ)[n]? = some a ∧ (o :: S)[n]? = some o' ∧ o'.live = true := fun q => by
      obtain ⟨n, u, h1, h2, h3⟩ := liveA_mem q
      exact ⟨n + 1, u, h1, h2, h3⟩
    cases hl : o.live with
    | false =>
      rw [hl] at h
      exact step h
    | true =>
      rw [hl] at h
      rcases List.mem_cons.mp h with rfl | q
      · exact ⟨0, o, rfl, rfl, hl⟩
      · exact step q
theorem mem_liveA : ∀ {φ : List Addr} {S : Store} {a : Addr} {n : Nat} {o : SO}, φ[n]? = some a → S[n]? = some o → o.live = true → a ∈ liveA φ S
  | [], _, _, _, _, h, _, _ => by cases h
  | _ :: _, [], _, _, _, _, h, _ => by cases h
  | b :: φ, u :: S, a, 0, o, h1, h2, h3 => by
    cases h1
    cases h2
    unfold liveA
    rw [h3]
    exact List.mem_cons_self
  | b :: φ, u :: S, a, n + 1, o, h1, h2, h3 => by
    have q := mem_liveA (n := n) (φ := φ) (S := S) h1 h2 h3
    unfold liveA
    split
    · exact List.mem_cons_of_mem _ q
    · exact q
theorem liveA_sub {φ : List Addr} {S : Store} {a : Addr} (h : a ∈ liveA φ S) : a ∈ φ := by
  obtain ⟨n, o, h1, _⟩ := liveA_mem h
  exact List.mem_of_getElem? h1
theorem liveA_snoc : ∀ {φ : List Addr} {S : Store} {p : Addr} {o : SO}, φ.length = S.length → liveA (φ ++ [p]) (S ++ [o]) = liveA φ S ++ (if o.live then [p] else [])
  | [], [], p, o, _ => by cases h : o.live <;> simp [liveA, h]
  | a :: φ, u :: S, p, o, h => by
    have q := liveA_snoc (φ := φ) (S := S) (p := p) (o := o) (by simpa using h)
    simp only [List.cons_append, liveA, q]
    split <;> rfl
theorem liveA_set : ∀ {φ : List Addr} {S : Store} {n : Nat} {o u : SO}, S[n]? = some o → u.live = o.live → liveA φ (S.set n u) = liveA φ S
  | [], _, _, _, _, _, _ => by simp [liveA]
  | _ :: _, [], _, _, _, h, _ => by cases h
  | a :: φ, x :: S, 0, o, u, h, e => by
    cases h
    simp only [List.set_cons_zero, liveA, e]
  | a :: φ, x :: S, n + 1, o, u, h, e => by
    have q := liveA_set (φ := φ) (S := S) (n := n) h e
    simp only [List.set_cons_succ, liveA, q]

section
variable (K : PySem.W.Frag) (mg : Str → Option Value)
def SOk (φ : List Addr) (G H : Hp) (a : Addr) : SO → Prop
  | .lst ds => ∃ vs, H a = some (.lst vs) ∧ DatL K mg φ G ds vs
  | .dic ks => ∃ kvs, H a = some (.dK kvs) ∧ DatK K mg φ G ks kvs
  | .ins C fs => ∃ A dx fvs, mg C = some (.ref A) ∧ H a = some (.ins A dx fvs) ∧ DatF K mg φ G fs fvs
  | .frz d => Dat K mg φ G d (.ref a)
  | .dkt ks => ∃ xs, H a = some (DktO a xs) ∧ DatT K mg φ G ks xs
  | .tbl p q => a = (He.cT K p).2 ∧ ∃ ps, H a = some (.tbl ps) ∧ TriplesOk ps.toList ∧ ∀ (pos : Pos) (cv : Value), codeAmong pos ps.toList = some cv → ∃ c, cv = .ref c ∧ G c = some (LamX.CodeO c q)
structure Rel (Z : List Addr) (φ : List Addr) (S : Store) (H : Hp) : Prop where
  len : φ.length = S.length
  nd : φ.Nodup
  zd : ∀ a ∈ φ, a ∉ Z
  zh : ∀ a ∈ Z, H a ≠ none
  ph : ∀ a ∈ φ, H a ≠ none
  ob : ∀ (n : Nat) (a : Addr) (o : SO), φ[n]? = some a → S[n]? = some o → SOk K mg φ (gnd Z φ S H) H a o
end
/-- how a state goes on -/
structure Evo (Z : List Addr) (φ : List Addr) (S : Store) (H : Hp) (φ' : List Addr) (S' : Store) (H' : Hp) : Prop where
  pre : φ <+: φ'
  ext : Same (gnd Z φ S H) (gnd Z φ' S' H')
  out : ∀ a o, H a = some o → a ∉ liveA φ S → H' a = some o
  lv : ∀ a ∈ liveA φ' S', H a ≠ none → a ∈ liveA φ S
theorem Evo.refl {Z φ : List Addr} {S : Store} {H : Hp} : Evo Z φ S H φ S H := ⟨List.prefix_refl _, Same.refl _, fun _ _ h _ => h, fun _ h _ => h⟩
theorem Evo.trans {Z φ φ1 φ2 : List Addr} {S S1 S2 : Store} {H H1 H2 : Hp} (a : Evo Z φ S H φ1 S1 H1) (b : Evo Z φ1 S1 H1 φ2 S2 H2) : Evo Z φ S H φ2 S2 H2 := by
  refine ⟨a.pre.trans b.pre, a.ext.trans b.ext, fun c o h n => ?_, fun c h hn => ?_⟩
  · exact b.out c o (a.out c o h n) fun q => n (a.lv c q (by rw [h]; exact fun z => nomatch z))
  · by_cases q : c ∈ liveA φ S
    · exact q
    · obtain ⟨o, ho⟩ := Option.ne_none_iff_exists'.mp hn
      exact a.lv c (b.lv c h (by rw [a.out c o ho q]; exact fun z => nomatch z)) hn
end DL

/-! The data layer, part 2: how stores change; results; the judgements. -/
namespace DL
open PySem L2

section
variable {K : PySem.W.Frag} {mg : Str → Option Value} {Z φ φ' : List Addr} {S S' : Store} {H H' : Hp}
theorem gnd_same (e : Same H H') : Same (gnd Z φ S H) (gnd Z φ S H') := fun a o h => by
  obtain ⟨h1, h2⟩ := without_some.mp h
  exact without_some.mpr ⟨h1, e a o h2⟩
theorem SOk.mono {φ φ' : List Addr} {G G' H H' : Hp} {a : Addr} (p : φ <+: φ') (e : Same G G') (hl : ∀ o : HO, H a = some o → H' a = some o) : ∀ {o : SO}, SOk K mg φ G H a o → SOk K mg φ' G' H' a o
  | .lst ds, ⟨vs, h1, h2⟩ => ⟨vs, hl _ h1, h2.mono p e⟩
  | .dic ks, ⟨vs, h1, h2⟩ => ⟨vs, hl _ h1, h2.mono p e⟩
  | .ins C fs, ⟨A, dx, fvs, h0, h1, h2⟩ => ⟨A, dx, fvs, h0, hl _ h1, h2.mono p e⟩
  | .frz d, h => Dat.mono p e d _ h
  | .dkt ks, ⟨xs, h1, h2⟩ => ⟨xs, hl _ h1, h2.mono p e⟩
  | .tbl _ _, ⟨h0, ps, h1, h2, h3⟩ => ⟨h0, ps, hl _ h1, h2, fun pos cv hc => by
    obtain ⟨c, q1, q2⟩ := h3 pos cv hc
    exact ⟨c, q1, e _ _ q2⟩⟩
/-- all that stood stands -/
theorem Rel.same (R : Rel K mg Z φ S H) (e : Same H H') : Rel K mg Z φ S H' ∧ Evo Z φ S H φ S H' := by
  have some_of : ∀ a, H a ≠ none → H' a ≠ none := fun a h => by
    obtain ⟨o, ho⟩ := Option.ne_none_iff_exists'.mp h
    rw [e a o ho]
    exact fun z => nomatch z
  exact ⟨⟨R.len, R.nd, R.zd, fun a h => some_of a (R.zh a h), fun a h => some_of a (R.ph a h), fun n a o h1 h2 => (R.ob n a o h1 h2).mono (List.prefix_refl _) (gnd_same e) (e a)⟩,
    ⟨List.prefix_refl _, gnd_same e, fun a o h _ => e a o h, fun a h _ => h⟩⟩
theorem Rel.out_gnd (R : Rel K mg Z φ S H) {p : Addr} (hp : H p = none) : p ∉ Z ++ liveA φ S := fun q => by
  rcases List.mem_append.mp q with z | z
  · exact R.zh p z hp
  · exact R.ph p (liveA_sub z) hp
theorem same_upd {p : Addr} {o : HO} (hp : H p = none) : Same H (upd H p o) := fun b u e => by
  rw [upd_ne (ne_of_none e hp)]
  exact e
/-- a new object that changes no more -/
theorem Rel.fresh (R : Rel K mg Z φ S H) {p : Addr} {o : HO} (hp : H p = none) : Rel K mg Z φ S (upd H p o) ∧ Evo Z φ S H φ S (upd H p o) ∧ gnd Z φ S (upd H p o) p = some o := by
  obtain ⟨a, b⟩ := R.same (same_upd (o := o) hp)
  exact ⟨a, b, without_some.mpr ⟨R.out_gnd hp, upd_same⟩⟩
/-- a new object that may change -/
theorem Rel.newOid (R : Rel K mg Z φ S H) {p : Addr} {so : SO} (e : Same H H') (hp : H p = none) (hp' : H' p ≠ none) (hl : so.live = true) (ok : SOk K mg (φ ++ [p]) (gnd Z (φ ++ [p]) (S ++ [so]) H') H' p so) :
    Rel K mg Z (φ ++ [p]) (S ++ [so]) H' ∧ Evo Z φ S H (φ ++ [p]) (S ++ [so]) H' := by
  have hn := R.out_gnd hp
  have pφ : p ∉ φ := fun q => R.ph p q hp
  have lv : liveA (φ ++ [p]) (S ++ [so]) = liveA φ S ++ [p] := by rw [liveA_snoc R.len, hl]; rfl
  have ext : Same (gnd Z φ S H) (gnd Z (φ ++ [p]) (S ++ [so]) H') := fun a o h => by
    obtain ⟨h1, h2⟩ := without_some.mp h
    refine without_some.mpr ⟨fun q => h1 ?_, e a o h2⟩
    rw [lv] at q
    rcases List.mem_append.mp q with z | z
    · exact List.mem_append_left _ z
    · rcases List.mem_append.mp z with z | z
      · exact List.mem_append_right _ z
      · rw [List.mem_singleton.mp z, hp] at h2
        cases h2
  have some_of : ∀ a, H a ≠ none → H' a ≠ none := fun a h => by
    obtain ⟨o, ho⟩ := Option.ne_none_iff_exists'.mp h
    rw [e a o ho]
    exact fun z => nomatch z
  refine ⟨⟨by rw [List.length_append, List.length_append, R.len]; rfl, List.nodup_append.mpr ⟨R.nd, by simp, fun a ha b hb => ?_⟩, fun a ha => ?_, fun a h => some_of a (R.zh a h), fun a ha => ?_, fun n a o h1 h2 => ?_⟩,
    ⟨⟨[p], rfl⟩, ext, fun a o h _ => e a o h, fun a h hn => ?_⟩⟩
  · rw [List.mem_singleton.mp hb]
    intro z
    rw [z] at ha
    exact pφ ha
  · rcases List.mem_append.mp ha with z | z
    · exact R.zd a z
    · rw [List.mem_singleton.mp z]
      exact fun q => hn (List.mem_append_left _ q)
  · rcases List.mem_append.mp ha with z | z
    · exact some_of a (R.ph a z)
    · rw [List.mem_singleton.mp z]
      exact hp'
  · by_cases hlt : n < φ.length
    · rw [List.getElem?_append_left hlt] at h1
      rw [List.getElem?_append_left (by rw [← R.len]; exact hlt)] at h2
      exact (R.ob n a o h1 h2).mono ⟨[p], rfl⟩ ext (e a)
    · have hlt' : φ.length ≤ n := Nat.le_of_not_lt hlt
      rw [List.getElem?_append_right hlt'] at h1
      rw [List.getElem?_append_right (by rw [← R.len]; exact hlt')] at h2
      have e0 : n - φ.length = 0 := by
        have := (List.getElem?_eq_some_iff.mp h1).1
        simp only [List.length_singleton] at this
        omega
      rw [← R.len] at h2
      rw [e0] at h1 h2
      cases h1
      cases h2
      exact ok
  · rw [lv] at h
    rcases List.mem_append.mp h with z | z
    · exact z
    · rw [List.mem_singleton.mp z] at hn
      exact absurd hp hn
theorem gnd_mut {n : Nat} {a : Addr} {o u : SO} {ho : HO} (h1 : φ[n]? = some a) (h2 : S[n]? = some o) (l1 : o.live = true) (l2 : u.live = true) : gnd Z φ (S.set n u) (upd H a ho) = gnd Z φ S H := by
  funext b
  unfold gnd without
  rw [liveA_set h2 (l2.trans l1.symm)]
  by_cases hb : b = a
  · subst hb
    rw [if_pos (List.mem_append_right _ (mem_liveA h1 h2 l1)), if_pos (List.mem_append_right _ (mem_liveA h1 h2 l1))]
  · rw [upd_ne hb]
/-- an object changes -/
theorem Rel.mutate (R : Rel K mg Z φ S H) {n : Nat} {a : Addr} {o u : SO} {ho : HO} (h1 : φ[n]? = some a) (h2 : S[n]? = some o) (l1 : o.live = true) (l2 : u.live = true) (ok : SOk K mg φ (gnd Z φ S H) (upd H a ho) a u) :
    Rel K mg Z φ (S.set n u) (upd H a ho) ∧ Evo Z φ S H φ (S.set n u) (upd H a ho) := by
  have eg := gnd_mut (Z := Z) (H := H) (ho := ho) h1 h2 l1 l2
  have lv : liveA φ (S.set n u) = liveA φ S := liveA_set h2 (l2.trans l1.symm)
  have some_of : ∀ b, H b ≠ none → upd H a ho b ≠ none := fun b h => by
    by_cases hb : b = a
    · subst hb
      rw [upd_same]
      exact fun z => nomatch z
    · rw [upd_ne hb]
      exact h
  refine ⟨⟨by rw [List.length_set, R.len], R.nd, R.zd, fun b h => some_of b (R.zh b h), fun b h => some_of b (R.ph b h), fun m b w q1 q2 => ?_⟩,
    ⟨List.prefix_refl _, by rw [eg]; exact Same.refl _, fun b w h hn => ?_, fun b h _ => by rw [lv] at h; exact h⟩⟩
  · rw [eg]
    by_cases hm : m = n
    · subst hm
      rw [h1] at q1
      cases q1
      rw [List.getElem?_set_self (List.getElem?_eq_some_iff.mp h2).1] at q2
      cases q2
      exact ok
    · rw [List.getElem?_set_ne (fun z => hm z.symm)] at q2
      refine (R.ob m b w q1 q2).mono (List.prefix_refl _) (Same.refl _) fun ob hb => ?_
      rw [upd_ne]
      · exact hb
      · intro z
        subst z
        exact hm (nd_ix R.nd q1 h1)
  · rw [upd_ne]
    · exact h
    · intro z
      subst z
      exact hn (mem_liveA h1 h2 l1)
theorem liveA_set_sub : ∀ {φ : List Addr} {S : Store} {n : Nat} {u : SO} {a : Addr}, u.live = false → a ∈ liveA φ (S.set n u) → a ∈ liveA φ S
  | [], _, _, _, _, _, h => by simp [liveA] at h
  | _ :: _, [], _, _, _, _, h => by simp [liveA] at h
  | b :: φ, x :: S, 0, u, a, e, h => by
    simp only [List.set_cons_zero, liveA, e] at h
    unfold liveA
    split
    · exact List.mem_cons_of_mem _ h
    · exact h
  | b :: φ, x :: S, n + 1, u, a, e, h => by
    simp only [List.set_cons_succ, liveA] at h
    unfold liveA
    split at h
    · rename_i hx
      rw [if_pos hx]
      rcases List.mem_cons.mp h with rfl | q
      · exact List.mem_cons_self
      · exact List.mem_cons_of_mem _ (liveA_set_sub e q)
    · rename_i hx
      rw [if_neg hx]
      exact liveA_set_sub e h
theorem live_set_not {φ : List Addr} {S : Store} (nd : φ.Nodup) {n : Nat} {u : SO} {a : Addr} (h1 : φ[n]? = some a) (e : u.live = false) : a ∉ liveA φ (S.set n u) := fun q => by
  obtain ⟨m, o, q1, q2, q3⟩ := liveA_mem q
  have hm : m = n := nd_ix nd q1 h1
  subst hm
  have hl := (List.getElem?_eq_some_iff.mp q2).1
  rw [List.getElem?_set_self (by rw [List.length_set] at hl; exact hl)] at q2
  cases q2
  rw [e] at q3
  cases q3
/-- an object changes no more -/
theorem Rel.freeze (R : Rel K mg Z φ S H) {n : Nat} {a : Addr} {d : D} (h1 : φ[n]? = some a) (ok : Dat K mg φ (gnd Z φ (S.set n (.frz d)) H) d (.ref a)) :
    Rel K mg Z φ (S.set n (.frz d)) H ∧ Evo Z φ S H φ (S.set n (.frz d)) H := by
  have ext : Same (gnd Z φ S H) (gnd Z φ (S.set n (.frz d)) H) := fun b o h => by
    obtain ⟨q1, q2⟩ := without_some.mp h
    refine without_some.mpr ⟨fun q => q1 ?_, q2⟩
    rcases List.mem_append.mp q with z | z
    · exact List.mem_append_left _ z
    · exact List.mem_append_right _ (liveA_set_sub rfl z)
  refine ⟨⟨by rw [List.length_set, R.len], R.nd, R.zd, R.zh, R.ph, fun m b w q1 q2 => ?_⟩, ⟨List.prefix_refl _, ext, fun b w h _ => h, fun b h _ => liveA_set_sub rfl h⟩⟩
  by_cases hm : m = n
  · subst hm
    rw [h1] at q1
    cases q1
    have hl := (List.getElem?_eq_some_iff.mp q2).1
    rw [List.getElem?_set_self (by rw [List.length_set] at hl; exact hl)] at q2
    cases q2
    exact ok
  · rw [List.getElem?_set_ne (fun z => hm z.symm)] at q2
    exact (R.ob m b w q1 q2).mono (List.prefix_refl _) ext fun _ z => z
theorem gnd_frz (R : Rel K mg Z φ S H) {n : Nat} {a : Addr} {d : D} (h1 : φ[n]? = some a) {o : HO} (ho : H a = some o) : gnd Z φ (S.set n (.frz d)) H a = some o :=
  without_some.mpr ⟨fun q => (List.mem_append.mp q).elim (R.zd a (List.mem_of_getElem? h1)) (live_set_not R.nd h1 rfl), ho⟩
theorem evo_frz {n : Nat} {d : D} : Same (gnd Z φ S H) (gnd Z φ (S.set n (.frz d)) H) := fun b o h => by
  obtain ⟨q1, q2⟩ := without_some.mp h
  refine without_some.mpr ⟨fun q => q1 ?_, q2⟩
  rcases List.mem_append.mp q with z | z
  · exact List.mem_append_left _ z
  · exact List.mem_append_right _ (liveA_set_sub rfl z)
theorem Dat.evo {d : D} {v : V} (E : Evo Z φ S H φ' S' H') (h : Dat K mg φ (gnd Z φ S H) d v) : Dat K mg φ' (gnd Z φ' S' H') d v := Dat.mono E.pre E.ext d v h
theorem DatL.evo {d : List D} {v : List V} (E : Evo Z φ S H φ' S' H') (h : DatL K mg φ (gnd Z φ S H) d v) : DatL K mg φ' (gnd Z φ' S' H') d v := DatL.mono E.pre E.ext d v h
end

/-! ### results -/
inductive Res (α : Type) where
  | ok (a : α) (S : Store) | ex (C : Str) (fs : List (Str × D)) (S : Store) | stuck
def Res.bind {α β : Type} (r : Res α) (k : α → Store → Res β) : Res β := match r with
  | .ok a S => k a S
  | .ex C fs S => .ex C fs S
  | .stuck => .stuck
@[simp] theorem Res.bind_ok {α β : Type} (a : α) (S : Store) (k : α → Store → Res β) : (Res.ok a S).bind k = k a S := rfl
@[simp] theorem Res.bind_ex {α β : Type} (C : Str) (fs : List (Str × D)) (S : Store) (k : α → Store → Res β) : (Res.ex C fs S).bind k = .ex C fs S := rfl
@[simp] theorem Res.bind_stuck {α β : Type} (k : α → Store → Res β) : (Res.stuck : Res α).bind k = .stuck := rfl
abbrev EnvD := List (Option D)

section
variable (K : PySem.W.Frag) (mg : Str → Option Value)
def ExD (φ : List Addr) (G : Hp) (fs : List (Str × D)) (dx : Option Addr) : Prop := (fs = [] ∧ dx = none) ∨ fs ≠ [] ∧ ∃ a fvs, dx = some a ∧ G a = some (.xd fvs) ∧ DatF K mg φ G fs fvs
/-- what is wanted behind a result -/
def Want {α β : Type} (R : List Addr → Hp → α → β → Prop) (Z φ : List Addr) (S : Store) (H : Hp) (r : Res α) (Q : β → Hp → Prop) (E : XK) : Prop := match r with
  | .ok a S' => ∀ b φ' H', Rel K mg Z φ' S' H' → Evo Z φ S H φ' S' H' → R φ' (gnd Z φ' S' H') a b → Q b H'
  | .ex C fs S' => ∀ A dx φ' H', mg C = some (.ref A) → Rel K mg Z φ' S' H' → Evo Z φ S H φ' S' H' → ExD K mg φ' (gnd Z φ' S' H') fs dx → E (.ref A) dx H'
  | .stuck => False
abbrev RDat : List Addr → Hp → D → V → Prop := fun φ G d v => Dat K mg φ G d v
abbrev RLst : List Addr → Hp → List D → List V → Prop := fun φ G d v => DatL K mg φ G d v
abbrev REq {α : Type} : List Addr → Hp → α → α → Prop := fun _ _ a b => a = b
def Slots (φ : List Addr) (G : Hp) (ρ : EnvD) (σ : L2.St) : Prop := ρ.length = σ.length ∧ ∀ (i : Nat) (d : D), ρ[i]? = some (some d) → ∃ v, σ[i]? = some (some v) ∧ Dat K mg φ G d v
end
section
variable {K : PySem.W.Frag} {mg : Str → Option Value} {Z φ φ' : List Addr} {S S' : Store} {H H' : Hp} {α β γ δ : Type}
theorem Want.go {R : List Addr → Hp → α → β → Prop} {r : Res α} {Q : β → Hp → Prop} {E : XK} (e : Evo Z φ S H φ' S' H') (h : Want K mg R Z φ S H r Q E) : Want K mg R Z φ' S' H' r Q E := by
  cases r with
  | ok a S1 => exact fun b φ1 H1 r1 e1 d => h b φ1 H1 r1 (e.trans e1) d
  | ex C fs S1 => exact fun A dx φ1 H1 m r1 e1 d => h A dx φ1 H1 m r1 (e.trans e1) d
  | stuck => exact h
theorem Want.bind {R : List Addr → Hp → α → β → Prop} {R' : List Addr → Hp → γ → δ → Prop} {r : Res α} {k : α → Store → Res γ} {Q : δ → Hp → Prop} {Q1 : β → Hp → Prop} {E : XK} (h : Want K mg R' Z φ S H (r.bind k) Q E)
    (f : ∀ a S1 b φ1 H1, Rel K mg Z φ1 S1 H1 → Evo Z φ S H φ1 S1 H1 → R φ1 (gnd Z φ1 S1 H1) a b → Want K mg R' Z φ1 S1 H1 (k a S1) Q E → Q1 b H1) : Want K mg R Z φ S H r Q1 E := by
  cases r with
  | ok a S1 => exact fun b φ1 H1 r1 e1 d => f a S1 b φ1 H1 r1 e1 d (h.go e1)
  | ex C fs S1 => exact h
  | stuck => exact h
theorem Want.imp {R : List Addr → Hp → α → β → Prop} {r : Res α} {Q Q1 : β → Hp → Prop} {E : XK} (h : Want K mg R Z φ S H r Q E) (f : ∀ b H', Q b H' → Q1 b H') : Want K mg R Z φ S H r Q1 E := by
  cases r with
  | ok a S1 => exact fun b φ1 H1 r1 e1 d => f _ _ (h b φ1 H1 r1 e1 d)
  | ex C fs S1 => exact h
  | stuck => exact h
/-- the result stands -/
theorem Want.now {R : List Addr → Hp → α → β → Prop} {a : α} {b : β} {Q : β → Hp → Prop} {E : XK} (h : Want K mg R Z φ S H (.ok a S) Q E) (r : Rel K mg Z φ S H) (d : R φ (gnd Z φ S H) a b) : Q b H := h b φ H r Evo.refl d
theorem Slots.evo {ρ : EnvD} {σ : L2.St} (e : Evo Z φ S H φ' S' H') (h : Slots K mg φ (gnd Z φ S H) ρ σ) : Slots K mg φ' (gnd Z φ' S' H') ρ σ := ⟨h.1, fun i d q => by
  obtain ⟨v, a, b⟩ := h.2 i d q
  exact ⟨v, a, b.evo e⟩⟩
theorem Slots.set {G : Hp} {ρ : EnvD} {σ : L2.St} {i : Nat} {d : D} {v : V} (h : Slots K mg φ G ρ σ) (hd : Dat K mg φ G d v) : Slots K mg φ G (ρ.set i (some d)) (σ.set i (some v)) := by
  refine ⟨by rw [List.length_set, List.length_set, h.1], fun j e q => ?_⟩
  by_cases hj : j = i
  · subst hj
    have hl := (List.getElem?_eq_some_iff.mp q).1
    rw [List.length_set] at hl
    rw [List.getElem?_set_self hl] at q
    cases q
    exact ⟨v, by rw [List.getElem?_set_self (by rw [← h.1]; exact hl)], hd⟩
  · rw [List.getElem?_set_ne (fun z => hj z.symm)] at q
    obtain ⟨w, a, b⟩ := h.2 j e q
    exact ⟨w, by rw [List.getElem?_set_ne (fun z => hj z.symm)]; exact a, b⟩
end

/-! ### the judgements -/
section
variable (X : Cx) (W : WX)
abbrev FE := EnvD → Store → Res D
abbrev FT := EnvD → Store → Res Bool
abbrev FA := EnvD → Store → Res (List D)
variable {X W}
/-- the canonical readings of mirrors -/
def tD (K : PySem.W.Frag) (mg : Str → Option Value) (W : WX) (f : FE) : TE := fun σ H Q => ∃ Z φ S ρ, Rel K mg Z φ S H ∧ Slots K mg φ (gnd Z φ S H) ρ σ ∧ Want K mg (RDat K mg) Z φ S H (f ρ S) Q (WE W σ)
def tDT (K : PySem.W.Frag) (mg : Str → Option Value) (W : WX) (f : FT) : TT := fun σ H Q => ∃ Z φ S ρ, Rel K mg Z φ S H ∧ Slots K mg φ (gnd Z φ S H) ρ σ ∧ Want K mg REq Z φ S H (f ρ S) Q (WE W σ)
def tDA (K : PySem.W.Frag) (mg : Str → Option Value) (W : WX) (f : FA) : TA := fun σ H Q => ∃ Z φ S ρ, Rel K mg Z φ S H ∧ Slots K mg φ (gnd Z φ S H) ρ σ ∧ Want K mg (RLst K mg) Z φ S H (f ρ S) Q (WE W σ)
theorem PE.weak {e : Expr} {t t' : TE} (h : PE X e t) (i : ∀ σ H Q, t' σ H Q → t σ H Q) : PE X e t' := ⟨fun pins s σ H Q I q => h.run pins s σ H Q I (i _ _ _ q)⟩
theorem PT.weak {e : Expr} {t t' : TT} (h : PT X e t) (i : ∀ σ H Q, t' σ H Q → t σ H Q) : PT X e t' := ⟨fun pins s σ H Q I q => h.run pins s σ H Q I (i _ _ _ q)⟩
theorem PW.weak {e : Expr} {t t' : TT} (h : L2.PW X e t) (i : ∀ σ H Q, t' σ H Q → t σ H Q) : L2.PW X e t' := ⟨fun wh pins s σ H Q I q => h.run wh pins s σ H Q I (i _ _ _ q)⟩
theorem PA.weak {e : List Expr} {t t' : TA} (h : PA X e t) (i : ∀ σ H Q, t' σ H Q → t σ H Q) : PA X e t' := ⟨fun po pins s σ H Q I q => h.run po pins s σ H Q I (i _ _ _ q)⟩
theorem PK.weak {e : List Keyword} {t t' : TA} (h : L2.PK X e t) (i : ∀ σ H Q, t' σ H Q → t σ H Q) : L2.PK X e t' := ⟨fun po pins s σ H Q I q => h.run po pins s σ H Q I (i _ _ _ q)⟩
theorem PS.weak {e : Stmt} {t t' : TS} (h : PS X e t) (i : ∀ D σ H, t' D σ H → t D σ H) : PS X e t' := ⟨fun pins s σ H D I q => h.run pins s σ H D I (i _ _ _ q)⟩
theorem PSs.weak {e : List Stmt} {t t' : TS} (h : PSs X e t) (i : ∀ D σ H, t' D σ H → t D σ H) : PSs X e t' := ⟨fun pins s σ H D I q => h.run pins s σ H D I (i _ _ _ q)⟩
variable (X W)
abbrev IsE (t : TE) (f : FE) : Prop := ∀ Z φ S ρ σ H (Q : VK), Rel X.K X.mg Z φ S H → Slots X.K X.mg φ (gnd Z φ S H) ρ σ → Want X.K X.mg (RDat X.K X.mg) Z φ S H (f ρ S) Q (WE W σ) → t σ H Q
abbrev IsT (t : TT) (f : FT) : Prop := ∀ Z φ S ρ σ H (Q : Bool → Hp → Prop), Rel X.K X.mg Z φ S H → Slots X.K X.mg φ (gnd Z φ S H) ρ σ → Want X.K X.mg REq Z φ S H (f ρ S) Q (WE W σ) → t σ H Q
abbrev IsA (t : TA) (f : FA) : Prop := ∀ Z φ S ρ σ H (Q : List V → Hp → Prop), Rel X.K X.mg Z φ S H → Slots X.K X.mg φ (gnd Z φ S H) ρ σ → Want X.K X.mg (RLst X.K X.mg) Z φ S H (f ρ S) Q (WE W σ) → t σ H Q
def DE (e : Expr) (f : FE) : Prop := PE X e (tD X.K X.mg W f)
def DT (e : Expr) (f : FT) : Prop := PT X e (tDT X.K X.mg W f)
def DW (e : Expr) (f : FT) : Prop := L2.PW X e (tDT X.K X.mg W f)
def DA (es : List Expr) (f : FA) : Prop := PA X es (tDA X.K X.mg W f)
def DKw (ks : List Keyword) (f : FA) : Prop := L2.PK X ks (tDA X.K X.mg W f)
variable {X W}
theorem DE.mk {e : Expr} {f : FE} {t : TE} (p : PE X e t) (h : IsE X W t f) : DE X W e f := PE.weak p fun σ H Q ⟨Z, φ, S, ρ, R, sl, w⟩ => h Z φ S ρ σ H Q R sl w
theorem DE.ex {e : Expr} {f : FE} (h : DE X W e f) : ∃ t : TE, PE X e t ∧ IsE X W t f := ⟨_, h, fun Z φ S ρ σ H Q R sl w => ⟨Z, φ, S, ρ, R, sl, w⟩⟩
theorem DT.mk {e : Expr} {f : FT} {t : TT} (p : PT X e t) (h : IsT X W t f) : DT X W e f := PT.weak p fun σ H Q ⟨Z, φ, S, ρ, R, sl, w⟩ => h Z φ S ρ σ H Q R sl w
theorem DT.ex {e : Expr} {f : FT} (h : DT X W e f) : ∃ t : TT, PT X e t ∧ IsT X W t f := ⟨_, h, fun Z φ S ρ σ H Q R sl w => ⟨Z, φ, S, ρ, R, sl, w⟩⟩
theorem DW.mk {e : Expr} {f : FT} {t : TT} (p : L2.PW X e t) (h : IsT X W t f) : DW X W e f := PW.weak p fun σ H Q ⟨Z, φ, S, ρ, R, sl, w⟩ => h Z φ S ρ σ H Q R sl w
theorem DW.ex {e : Expr} {f : FT} (h : DW X W e f) : ∃ t : TT, L2.PW X e t ∧ IsT X W t f := ⟨_, h, fun Z φ S ρ σ H Q R sl w => ⟨Z, φ, S, ρ, R, sl, w⟩⟩
theorem DA.mk {e : List Expr} {f : FA} {t : TA} (p : PA X e t) (h : IsA X W t f) : DA X W e f := PA.weak p fun σ H Q ⟨Z, φ, S, ρ, R, sl, w⟩ => h Z φ S ρ σ H Q R sl w
theorem DA.ex {e : List Expr} {f : FA} (h : DA X W e f) : ∃ t : TA, PA X e t ∧ IsA X W t f := ⟨_, h, fun Z φ S ρ σ H Q R sl w => ⟨Z, φ, S, ρ, R, sl, w⟩⟩
theorem DKw.mk {e : List Keyword} {f : FA} {t : TA} (p : L2.PK X e t) (h : IsA X W t f) : DKw X W e f := PK.weak p fun σ H Q ⟨Z, φ, S, ρ, R, sl, w⟩ => h Z φ S ρ σ H Q R sl w
theorem DKw.ex {e : List Keyword} {f : FA} (h : DKw X W e f) : ∃ t : TA, L2.PK X e t ∧ IsA X W t f := ⟨_, h, fun Z φ S ρ σ H Q R sl w => ⟨Z, φ, S, ρ, R, sl, w⟩⟩
variable (X W)
/-- a statement's result -/
inductive Out where
  | nx (ρ : EnvD) (S : Store) | rt (d : D) (S : Store) | bk (ρ : EnvD) (S : Store) | ct (ρ : EnvD) (S : Store) | ex (C : Str) (fs : List (Str × D)) (ρ : EnvD) (S : Store) | stuck
abbrev FS := EnvD → Store → Out
def WantS (Z φ : List Addr) (S : Store) (H : Hp) (o : Out) (Dd : Ends) : Prop := match o with
  | .nx ρ S' => ∀ σ φ' H', Rel X.K X.mg Z φ' S' H' → Evo Z φ S H φ' S' H' → Slots X.K X.mg φ' (gnd Z φ' S' H') ρ σ → Dd.nx σ H'
  | .rt d S' => ∀ v φ' H', Rel X.K X.mg Z φ' S' H' → Evo Z φ S H φ' S' H' → Dat X.K X.mg φ' (gnd Z φ' S' H') d v → Dd.rt v H'
  | .bk ρ S' => ∀ σ φ' H', Rel X.K X.mg Z φ' S' H' → Evo Z φ S H φ' S' H' → Slots X.K X.mg φ' (gnd Z φ' S' H') ρ σ → Dd.bk σ H'
  | .ct ρ S' => ∀ σ φ' H', Rel X.K X.mg Z φ' S' H' → Evo Z φ S H φ' S' H' → Slots X.K X.mg φ' (gnd Z φ' S' H') ρ σ → Dd.ct σ H'
  | .ex C fs ρ S' => ∀ A dx σ φ' H', X.mg C = some (.ref A) → Rel X.K X.mg Z φ' S' H' → Evo Z φ S H φ' S' H' → Slots X.K X.mg φ' (gnd Z φ' S' H') ρ σ → ExD X.K X.mg φ' (gnd Z φ' S' H') fs dx → W (.ref A) dx σ H'
  | .stuck => False
def tDS (g : FS) : TS := fun Dd σ H => ∃ Z φ S ρ, Rel X.K X.mg Z φ S H ∧ Slots X.K X.mg φ (gnd Z φ S H) ρ σ ∧ WantS X W Z φ S H (g ρ S) Dd
abbrev IsS (t : TS) (g : FS) : Prop := ∀ Z φ S ρ σ H Dd, Rel X.K X.mg Z φ S H → Slots X.K X.mg φ (gnd Z φ S H) ρ σ → WantS X W Z φ S H (g ρ S) Dd → t Dd σ H
def DS (st : Stmt) (g : FS) : Prop := PS X st (tDS X W g)
def DSs (sts : List Stmt) (g : FS) : Prop := PSs X sts (tDS X W g)
variable {X W}
theorem DS.mk {e : Stmt} {f : FS} {t : TS} (p : PS X e t) (h : IsS X W t f) : DS X W e f := PS.weak p fun D σ H ⟨Z, φ, S, ρ, R, sl, w⟩ => h Z φ S ρ σ H D R sl w
theorem DS.ex {e : Stmt} {f : FS} (h : DS X W e f) : ∃ t : TS, PS X e t ∧ IsS X W t f := ⟨_, h, fun Z φ S ρ σ H D R sl w => ⟨Z, φ, S, ρ, R, sl, w⟩⟩
theorem DSs.mk {e : List Stmt} {f : FS} {t : TS} (p : PSs X e t) (h : IsS X W t f) : DSs X W e f := PSs.weak p fun D σ H ⟨Z, φ, S, ρ, R, sl, w⟩ => h Z φ S ρ σ H D R sl w
theorem DSs.ex {e : List Stmt} {f : FS} (h : DSs X W e f) : ∃ t : TS, PSs X e t ∧ IsS X W t f := ⟨_, h, fun Z φ S ρ σ H D R sl w => ⟨Z, φ, S, ρ, R, sl, w⟩⟩
end
section
variable {X : Cx} {W : WX} {Z φ φ' : List Addr} {S S' : Store} {H H' : Hp} {Dd : Ends}
theorem WantS.go {o : Out} (e : Evo Z φ S H φ' S' H') (h : WantS X W Z φ S H o Dd) : WantS X W Z φ' S' H' o Dd := by
  cases o with
  | nx ρ S1 => exact fun σ φ1 H1 r1 e1 d => h σ φ1 H1 r1 (e.trans e1) d
  | rt d S1 => exact fun σ φ1 H1 r1 e1 d => h σ φ1 H1 r1 (e.trans e1) d
  | bk ρ S1 => exact fun σ φ1 H1 r1 e1 d => h σ φ1 H1 r1 (e.trans e1) d
  | ct ρ S1 => exact fun σ φ1 H1 r1 e1 d => h σ φ1 H1 r1 (e.trans e1) d
  | ex C fs ρ S1 => exact fun A dx σ φ1 H1 m r1 e1 sl d => h A dx σ φ1 H1 m r1 (e.trans e1) sl d
  | stuck => exact h
/-- an expression's result within a statement -/
def Res.into {α : Type} (r : Res α) (ρ : EnvD) (k : α → Store → Out) : Out := match r with
  | .ok a S => k a S
  | .ex C fs S => .ex C fs ρ S
  | .stuck => .stuck
@[simp] theorem Res.into_ok {α : Type} (a : α) (S : Store) (ρ : EnvD) (k : α → Store → Out) : (Res.ok a S).into ρ k = k a S := rfl
@[simp] theorem Res.into_ex {α : Type} (C : Str) (fs : List (Str × D)) (S : Store) (ρ : EnvD) (k : α → Store → Out) : (Res.ex C fs S).into ρ k = .ex C fs ρ S := rfl
@[simp] theorem Res.into_stuck {α : Type} (ρ : EnvD) (k : α → Store → Out) : (Res.stuck : Res α).into ρ k = .stuck := rfl
theorem WantS.into {α β : Type} {R : List Addr → Hp → α → β → Prop} {r : Res α} {ρ : EnvD} {σ : L2.St} {k : α → Store → Out} {Q1 : β → Hp → Prop} (sl : Slots X.K X.mg φ (gnd Z φ S H) ρ σ) (h : WantS X W Z φ S H (r.into ρ k) Dd)
    (f : ∀ a S1 b φ1 H1, Rel X.K X.mg Z φ1 S1 H1 → Evo Z φ S H φ1 S1 H1 → R φ1 (gnd Z φ1 S1 H1) a b → WantS X W Z φ1 S1 H1 (k a S1) Dd → Q1 b H1) : Want X.K X.mg R Z φ S H r Q1 (WE W σ) := by
  cases r with
  | ok a S1 => exact fun b φ1 H1 r1 e1 d => f a S1 b φ1 H1 r1 e1 d (h.go e1)
  | ex C fs S1 => exact fun A dx φ1 H1 m r1 e1 d => h A dx σ φ1 H1 m r1 e1 (sl.evo e1) d
  | stuck => exact h
end
end DL

/-! The data layer, part 3: names, constants, operators, tests, displays, items, built-ins. -/
namespace DL
open PySem L2

section
variable {K : PySem.W.Frag} {mg : Str → Option Value} {Z φ : List Addr} {S : Store} {H : Hp}
theorem gnd_sub : Same (gnd Z φ S H) H := fun a o h => (without_some.mp h).2
/-- the items of a list, wherever it lies -/
def asL (S : Store) : D → Option (List D)
  | .lst ds => some ds
  | .scr ds => some ds
  | .oid n => match S[n]? with
    | some (.lst ds) => some ds
    | some (.frz (.lst ds)) => some ds
    | _ => none
  | _ => none
/-- the items of a list or a tuple -/
def asQ (S : Store) : D → Option (List D)
  | .tup ds => some ds
  | d => asL S d
theorem asL_ok (R : Rel K mg Z φ S H) {d : D} {v : V} {ds : List D} (h : Dat K mg φ (gnd Z φ S H) d v) (e : asL S d = some ds) : ∃ a vs, v = .ref a ∧ SqL K H a vs ∧ DatL K mg φ (gnd Z φ S H) ds vs := by
  cases d with
  | lst es =>
    cases e
    unfold Dat at h
    obtain ⟨a, vs, rfl, h1, h2⟩ := h
    exact ⟨a, vs, rfl, .of (gnd_sub _ _ h1), h2⟩
  | scr es =>
    cases e
    unfold Dat at h
    obtain ⟨a, vs, rfl, h1, h2⟩ := h
    exact ⟨a, vs, rfl, Same.seq gnd_sub h1, h2⟩
  | oid n =>
    unfold Dat at h
    obtain ⟨a, rfl, h1⟩ := h
    cases q : S[n]? with
    | none => simp [asL, q] at e
    | some o =>
      simp only [asL, q] at e
      have ok := R.ob n a o h1 q
      cases o with
      | lst es =>
        cases e
        obtain ⟨vs, q1, q2⟩ := ok
        exact ⟨a, vs, rfl, .of q1, q2⟩
      | frz d =>
        cases d with
        | lst es =>
          cases e
          have ok' : Dat K mg φ (gnd Z φ S H) (.lst _) (.ref a) := ok
          unfold Dat at ok'
          obtain ⟨b, vs, e1, q1, q2⟩ := ok'
          cases e1
          exact ⟨a, vs, rfl, .of (gnd_sub _ _ q1), q2⟩
        | _ => cases e
      | _ => cases e
  | _ => cases e
theorem asQ_ok (R : Rel K mg Z φ S H) {d : D} {v : V} {ds : List D} (h : Dat K mg φ (gnd Z φ S H) d v) (e : asQ S d = some ds) : ∃ a vs, v = .ref a ∧ (SqL K H a vs ∨ SqT K H a vs) ∧ DatL K mg φ (gnd Z φ S H) ds vs := by
  cases d with
  | tup es =>
    cases e
    unfold Dat at h
    obtain ⟨a, vs, rfl, h1, h2⟩ := h
    exact ⟨a, vs, rfl, .inr (sqt_mono gnd_sub h1), h2⟩
  | _ =>
    obtain ⟨a, vs, e1, h1, h2⟩ := asL_ok R h e
    exact ⟨a, vs, e1, .inl h1, h2⟩
end

section
variable {X : Cx} {W : WX} {a b c e : Expr} {es : List Expr} {fa fb fc fe : FE} {pos : Pos}

/-! ### names and constants -/
def fVar (i : Nat) : FE := fun ρ S => match ρ[i]? with
  | some (some d) => .ok d S
  | _ => .stuck
def fC (d : D) : FE := fun _ S => .ok d S
theorem de_var {i : Nat} {x : Str} (p : PE X (.Name x pos) (tVar i)) : DE X W (.Name x pos) (fVar i) :=
  .mk p (fun Z φ S ρ σ H Q R sl w => by
    unfold fVar at w
    cases h : ρ[i]? with
    | none => rw [h] at w; exact w.elim
    | some o =>
      cases o with
      | none => rw [h] at w; exact w.elim
      | some d =>
        rw [h] at w
        obtain ⟨v, h1, h2⟩ := sl.2 i d h
        exact ⟨v, h1, w.now R h2⟩)
theorem de_c {t : TE} {v : V} {d : D} (p : PE X e t) (ht : t = tC v) (hd : ∀ φ G, Dat X.K X.mg φ G d v) : DE X W e (fC d) := by
  subst ht
  exact .mk p (fun Z φ S ρ σ H Q R sl w => w.now R (hd _ _))
theorem de_int {i : Int} {j} : DE X W (.Constant (.int i) j pos) (fC (.int i)) := de_c pe_int rfl fun _ _ => by unfold Dat; rfl
theorem de_bl {i : Bool} {j} : DE X W (.Constant (.bool i) j pos) (fC (.bl i)) := de_c pe_bl rfl fun _ _ => by unfold Dat; rfl
theorem de_non {j} : DE X W (.Constant .none j pos) (fC .non) := de_c pe_non rfl fun _ _ => by unfold Dat; rfl
theorem de_str {i : Str} {j} : DE X W (.Constant (.str i) j pos) (fC (.str i)) := de_c pe_str rfl fun _ _ => by unfold Dat; rfl
/-- a module's int -/
theorem de_globI {x : Str} {i : Int} {t : Tok} (hg : Gl X x) (hm : X.mg x = some (.int i t)) (hd : (x == ("__debug__" : Str)) = false := by decide) : DE X W (.Name x pos) (fC (.int i)) :=
  de_c (pe_glob (v := .int i) hg hm ⟨t, rfl⟩ hd) rfl fun _ _ => by unfold Dat; rfl
/-- a module's text -/
theorem de_globS {x y : Str} {t : Tok} (hg : Gl X x) (hm : X.mg x = some (.str y t)) (hd : (x == ("__debug__" : Str)) = false := by decide) : DE X W (.Name x pos) (fC (.str y)) :=
  de_c (pe_glob (v := .str y) hg hm ⟨t, rfl⟩ hd) rfl fun _ _ => by unfold Dat; rfl
/-- a built-in class as a value -/
theorem de_ty {x : Str} {n : String} (hg : Gl X x) (hm : X.mg x = none) (hv : bootBuiltins x = some (.type n)) (hn : x ≠ "__name__" := by decide) (hd : (x == ("__debug__" : Str)) = false := by decide) : DE X W (.Name x pos) (fC (.ty n)) :=
  de_c (pe_bltn (v := .ty n) hg hm hv rfl hn hd) rfl fun _ _ => by unfold Dat; rfl

/-! ### operators -/
abbrev G2 := D → D → Store → Res D
def OpD (X : Cx) (r : R2) (g : G2) : Prop := ∀ (Z φ : List Addr) (S : Store) (H : Hp) (x y : D) (u v : V) (Q : VK) (E : XK), Rel X.K X.mg Z φ S H → Dat X.K X.mg φ (gnd Z φ S H) x u → Dat X.K X.mg φ (gnd Z φ S H) y v →
  Want X.K X.mg (RDat X.K X.mg) Z φ S H (g x y S) Q E → r u v H Q
def fBin (g : G2) (fa fb : FE) : FE := fun ρ S => (fa ρ S).bind fun x S => (fb ρ S).bind fun y S => g x y S
theorem dbin {ta tb : TE} {r : R2} {g : G2} (hg : OpD X r g)
    (ha : ∀ Z φ S ρ σ H (Q : VK), Rel X.K X.mg Z φ S H → Slots X.K X.mg φ (gnd Z φ S H) ρ σ → Want X.K X.mg (RDat X.K X.mg) Z φ S H (fa ρ S) Q (WE W σ) → ta σ H Q)
    (hb : ∀ Z φ S ρ σ H (Q : VK), Rel X.K X.mg Z φ S H → Slots X.K X.mg φ (gnd Z φ S H) ρ σ → Want X.K X.mg (RDat X.K X.mg) Z φ S H (fb ρ S) Q (WE W σ) → tb σ H Q)
    (Z φ S ρ σ H) (Q : VK) (R : Rel X.K X.mg Z φ S H) (sl : Slots X.K X.mg φ (gnd Z φ S H) ρ σ) (w : Want X.K X.mg (RDat X.K X.mg) Z φ S H (fBin g fa fb ρ S) Q (WE W σ)) : tOp r ta tb σ H Q :=
  ha Z φ S ρ σ H _ R sl (w.bind fun x S1 u φ1 H1 R1 E1 d1 w1 => hb Z φ1 S1 ρ σ H1 _ R1 (sl.evo E1) (w1.bind fun y S2 v φ2 H2 R2 E2 d2 w2 => hg Z φ2 S2 H2 x y u v Q _ R2 (Dat.evo E2 d1) d2 w2))
theorem de_bin {op : Operator} {r : R2} {g : G2} (ho : OpR X (binaryOp op) r) (hg : OpD X r g) (ha : DE X W a fa) (hb : DE X W b fb) : DE X W (.BinOp a op b pos) (fBin g fa fb) := by
  obtain ⟨ta, pa, qa⟩ := (ha).ex
  obtain ⟨tb, pb, qb⟩ := (hb).ex
  exact .mk (pe_op ho pa pb) (dbin hg qa qb)
theorem de_cmp {op : CmpOp} {r : R2} {g : G2} (ho : OpR X (compareOp op) r) (hg : OpD X r g) (ha : DE X W a fa) (hb : DE X W b fb) (hm : behindInMarks op b = false) : DE X W (.Compare a [op] [b] pos) (fBin g fa fb) := by
  obtain ⟨ta, pa, qa⟩ := (ha).ex
  obtain ⟨tb, pb, qb⟩ := (hb).ex
  exact .mk (pe_cmpR ho pa pb hm) (dbin hg qa qb)
theorem de_ix {r : R2} {g : G2} (ho : IxR X r) (hg : OpD X r g) (ha : DE X W a fa) (hb : DE X W b fb) (hs : PlainIx b) : DE X W (.Subscript a b pos) (fBin g fa fb) := by
  obtain ⟨ta, pa, qa⟩ := (ha).ex
  obtain ⟨tb, pb, qb⟩ := (hb).ex
  exact .mk (pe_ix ho pa pb hs) (dbin hg qa qb)
/-- the answer as a test -/
def toB (f : FE) : FT := fun ρ S => (f ρ S).bind fun d S => match d with
  | .bl k => .ok k S
  | _ => .stuck
theorem toB_ok {t : TE} {f : FE}
    (ha : ∀ Z φ S ρ σ H (Q : VK), Rel X.K X.mg Z φ S H → Slots X.K X.mg φ (gnd Z φ S H) ρ σ → Want X.K X.mg (RDat X.K X.mg) Z φ S H (f ρ S) Q (WE W σ) → t σ H Q)
    (Z φ S ρ σ H) (Q : Bool → Hp → Prop) (R : Rel X.K X.mg Z φ S H) (sl : Slots X.K X.mg φ (gnd Z φ S H) ρ σ) (w : Want X.K X.mg REq Z φ S H (toB f ρ S) Q (WE W σ)) : t σ H fun x H' => ∃ k, x = .bl k ∧ Q k H' :=
  ha Z φ S ρ σ H _ R sl (w.bind fun x S1 u φ1 H1 R1 E1 d1 w1 => by
    cases x with
    | bl k =>
      unfold RDat Dat at d1
      exact ⟨k, d1, w1.now R1 rfl⟩
    | _ => exact w1.elim)
theorem dt_cmp {op : CmpOp} {r : R2} {g : G2} (ho : OpR X (compareOp op) r) (hg : OpD X r g) (ha : DE X W a fa) (hb : DE X W b fb) (hm : behindInMarks op b = false) : DT X W (.Compare a [op] [b] pos) (toB (fBin g fa fb)) := by
  obtain ⟨ta, pa, qa⟩ := (ha).ex
  obtain ⟨tb, pb, qb⟩ := (hb).ex
  exact .mk (pt_cmpR ho pa pb hm) (toB_ok (dbin hg qa qb))
theorem dt_val (ha : DE X W a fa) (he : ∀ whole, isTrue a X.env whole = (do let v ← whole; standAt a.pos; holding [v] (truthy v)) := by intro _; rfl) : DT X W a (toB fa) := by
  obtain ⟨ta, pa, qa⟩ := (ha).ex
  exact .mk (pt_val pa he) (toB_ok qa)
def fUn (g : D → Store → Res D) (fa : FE) : FE := fun ρ S => (fa ρ S).bind g
def UnD (X : Cx) (r : V → Hp → VK → Prop) (g : D → Store → Res D) : Prop := ∀ (Z φ : List Addr) (S : Store) (H : Hp) (x : D) (u : V) (Q : VK) (E : XK), Rel X.K X.mg Z φ S H → Dat X.K X.mg φ (gnd Z φ S H) x u →
  Want X.K X.mg (RDat X.K X.mg) Z φ S H (g x S) Q E → r u H Q
theorem de_un {op : UnaryOp} {r : V → Hp → VK → Prop} {g : D → Store → Res D} (ho : UnR X (unaryOp op) r) (hg : UnD X r g) (ha : DE X W a fa) : DE X W (.UnaryOp op a pos) (fUn g fa) := by
  obtain ⟨ta, pa, qa⟩ := (ha).ex
  exact .mk (pe_un ho pa) (fun Z φ S ρ σ H Q R sl w => qa Z φ S ρ σ H _ R sl (w.bind fun x S1 u φ1 H1 R1 E1 d1 w1 => hg Z φ1 S1 H1 x u Q _ R1 d1 w1))
theorem OpD.or {r r' : R2} {g g' : G2} (p : D → D → Store → Bool) (h : OpD X r g) (h' : OpD X r' g') : OpD X (fun x y H Q => r x y H Q ∨ r' x y H Q) (fun x y S => if p x y S then g x y S else g' x y S) := fun Z φ S H x y u v Q E R dx dy w => by
  by_cases q : p x y S = true
  · exact .inl (h Z φ S H x y u v Q E R dx dy (by simpa only [q, if_true] using w))
  · exact .inr (h' Z φ S H x y u v Q E R dx dy (by simpa [q] using w))

/-! ints -/
def gI (C : Int → Int → Bool) (f : Int → Int → D) : G2 := fun x y S => match x, y with
  | .int i, .int j => if C i j then .ok (f i j) S else .stuck
  | _, _ => .stuck
theorem gI_inv {C : Int → Int → Bool} {f : Int → Int → D} {x y : D} {S : Store} {Z φ : List Addr} {H : Hp} {Q : VK} {E : XK} (w : Want X.K X.mg (RDat X.K X.mg) Z φ S H (gI C f x y S) Q E) :
    ∃ i j, x = .int i ∧ y = .int j ∧ C i j = true ∧ Want X.K X.mg (RDat X.K X.mg) Z φ S H (.ok (f i j) S) Q E := by
  unfold gI at w
  cases x with
  | int i =>
    cases y with
    | int j =>
      by_cases q : C i j = true
      · simp only [q, if_true] at w
        exact ⟨i, j, rfl, rfl, q, w⟩
      · simp only [q] at w
        exact w.elim
    | _ => exact w.elim
  | _ => exact w.elim
theorem opd_I {C : Int → Int → Prop} {c : Int → Int → Bool} {g : Int → Int → V} {f : Int → Int → D} (hc : ∀ i j, c i j = true → C i j) (hf : ∀ i j φ G, Dat X.K X.mg φ G (f i j) (g i j)) : OpD X (rI C g) (gI c f) :=
  fun Z φ S H x y u v Q E R dx dy w => by
    obtain ⟨i, j, rfl, rfl, q, w⟩ := gI_inv w
    unfold Dat at dx dy
    exact ⟨i, j, dx, dy, hc i j q, w.now R (hf i j _ _)⟩
theorem opd_I0 {g : Int → Int → V} {f : Int → Int → D} (hf : ∀ i j φ G, Dat X.K X.mg φ G (f i j) (g i j)) : OpD X (rI0 g) (gI (fun _ _ => true) f) :=
  fun Z φ S H x y u v Q E R dx dy w => by
    obtain ⟨i, j, rfl, rfl, q, w⟩ := gI_inv w
    unfold Dat at dx dy
    exact ⟨i, j, dx, dy, w.now R (hf i j _ _)⟩
theorem dat_int {φ : List Addr} {G : Hp} (i : Int) : Dat X.K X.mg φ G (.int i) (.int i) := by unfold Dat; rfl
theorem dat_bl {φ : List Addr} {G : Hp} (i : Bool) : Dat X.K X.mg φ G (.bl i) (.bl i) := by unfold Dat; rfl
theorem dat_str {φ : List Addr} {G : Hp} (i : Str) : Dat X.K X.mg φ G (.str i) (.str i) := by unfold Dat; rfl
theorem dat_non {φ : List Addr} {G : Hp} : Dat X.K X.mg φ G .non .non := by unfold Dat; rfl
def gSub : G2 := gI (fun _ _ => true) fun i j => .int (i - j)
noncomputable def cMul (i j : Int) : Bool := @decide ((-18446744073709551616 < i ∧ i < 18446744073709551616) ∨ (-18446744073709551616 < j ∧ j < 18446744073709551616)) (Classical.propDecidable _)
noncomputable def gMul : G2 := gI cMul fun i j => .int (i * j)
def gMod : G2 := gI (fun _ j => decide (0 < j)) fun i j => .int (i % j)
noncomputable def cDiv (_ j : Int) : Bool := @decide (0 < j ∧ j < 1073741824) (Classical.propDecidable _)
noncomputable def gDiv : G2 := gI cDiv fun i j => .int (i / j)
noncomputable def cPow (i j : Int) : Bool := @decide (0 ≤ j ∧ j ≤ 1000000 ∧ i.natAbs < 18446744073709551616) (Classical.propDecidable _)
noncomputable def gPow : G2 := gI cPow fun i j => .int (i ^ j.toNat)
theorem de_sub (ha : DE X W a fa) (hb : DE X W b fb) : DE X W (.BinOp a .Sub b pos) (fBin gSub fa fb) := de_bin op_sub (opd_I0 fun _ _ _ _ => dat_int _) ha hb
theorem de_mul (ha : DE X W a fa) (hb : DE X W b fb) : DE X W (.BinOp a .Mult b pos) (fBin gMul fa fb) :=
  de_bin op_mul (opd_I (fun i j h => by simpa [cMul, CMul] using h) fun _ _ _ _ => dat_int _) ha hb
theorem de_mod (ha : DE X W a fa) (hb : DE X W b fb) : DE X W (.BinOp a .Mod b pos) (fBin gMod fa fb) := de_bin op_mod (opd_I (fun i j h => by simpa using h) fun _ _ _ _ => dat_int _) ha hb
theorem de_pow (ha : DE X W a fa) (hb : DE X W b fb) : DE X W (.BinOp a .Pow b pos) (fBin gPow fa fb) := de_bin op_pow (opd_I (fun i j h => by simpa [cPow, CPow, and_assoc] using h) fun _ _ _ _ => dat_int _) ha hb
def gNeg : D → Store → Res D := fun x S => match x with
  | .int i => .ok (.int (-i)) S
  | _ => .stuck
theorem de_neg (ha : DE X W a fa) : DE X W (.UnaryOp .USub a pos) (fUn gNeg fa) := de_un un_neg (fun Z φ S H x u Q E R dx w => by
  cases x with
  | int i =>
    unfold Dat at dx
    exact ⟨i, dx, w.now R (dat_int _)⟩
  | _ => exact w.elim) ha
def gLt : G2 := gI (fun _ _ => true) fun i j => .bl (decide (i < j))
def gLe : G2 := gI (fun _ _ => true) fun i j => .bl (decide (i ≤ j))
def gGt : G2 := gI (fun _ _ => true) fun i j => .bl (decide (j < i))
def gGe : G2 := gI (fun _ _ => true) fun i j => .bl (decide (j ≤ i))
theorem opd_le : OpD X (rI0 fun i j => .bl (decide (i ≤ j))) gLe := opd_I0 fun _ _ _ _ => dat_bl _
theorem opd_gt : OpD X (rI0 fun i j => .bl (decide (j < i))) gGt := opd_I0 fun _ _ _ _ => dat_bl _
theorem opd_ge : OpD X (rI0 fun i j => .bl (decide (j ≤ i))) gGe := opd_I0 fun _ _ _ _ => dat_bl _
/-! is None -/
def D.isNon : D → Bool
  | .non => true
  | _ => false
theorem isNon_V {φ : List Addr} {G : Hp} {K : PySem.W.Frag} {mg : Str → Option Value} {d : D} {v : V} (h : Dat K mg φ G d v) : decide (v = .non) = d.isNon := by
  cases d <;> unfold Dat at h <;> first
    | (subst h; rfl)
    | (obtain ⟨_, _, rfl, _⟩ := h; rfl)
    | (obtain ⟨_, rfl, _⟩ := h; rfl)
    | (obtain ⟨_, _, _, _, rfl, _⟩ := h; rfl)
    | (obtain ⟨_, _, _, rfl, _⟩ := h; rfl)
def gIs : G2 := fun x y S => if y.isNon then .ok (.bl x.isNon) S else .stuck
def gIsNot : G2 := fun x y S => if y.isNon then .ok (.bl (!x.isNon)) S else .stuck
theorem opd_is : OpD X (fun x y H Q => y = .non ∧ Q (.bl (decide (x = .non))) H) gIs := fun Z φ S H x y u v Q E R dx dy w => by
  unfold gIs at w
  by_cases q : y.isNon = true
  · rw [if_pos q] at w
    have e := isNon_V dy
    rw [q] at e
    refine ⟨of_decide_eq_true e, ?_⟩
    rw [isNon_V dx]
    exact w.now R (dat_bl _)
  · rw [if_neg q] at w
    exact w.elim
theorem opd_isnot : OpD X (fun x y H Q => y = .non ∧ Q (.bl (!decide (x = .non))) H) gIsNot := fun Z φ S H x y u v Q E R dx dy w => by
  unfold gIsNot at w
  by_cases q : y.isNon = true
  · rw [if_pos q] at w
    have e := isNon_V dy
    rw [q] at e
    refine ⟨of_decide_eq_true e, ?_⟩
    rw [isNon_V dx]
    exact w.now R (dat_bl _)
  · rw [if_neg q] at w
    exact w.elim

/-! ### and, or, not, if -/
def fAndT (ta tb : FT) : FT := fun ρ S => (ta ρ S).bind fun k S => if k then tb ρ S else .ok false S
def fOrT (ta tb : FT) : FT := fun ρ S => (ta ρ S).bind fun k S => if k then .ok true S else tb ρ S
def fNotT (ta : FT) : FT := fun ρ S => (ta ρ S).bind fun k S => .ok (!k) S
variable {ga gb : FT} {rest : List Expr}
theorem dw_and1 (ha : DT X W a ga) : DW X W (.BoolOp .And [a] pos) ga := by
  obtain ⟨t, p, q⟩ := (ha).ex
  exact .mk (pw_and1 p) q
theorem dw_or1 (ha : DT X W a ga) : DW X W (.BoolOp .Or [a] pos) ga := by
  obtain ⟨t, p, q⟩ := (ha).ex
  exact .mk (pw_or1 p) q
theorem dw_and (ha : DT X W a ga) (hb : DW X W (.BoolOp .And (b :: rest) pos) gb) : DW X W (.BoolOp .And (a :: b :: rest) pos) (fAndT ga gb) := by
  obtain ⟨t, p, q⟩ := (ha).ex
  obtain ⟨u, p', q'⟩ := (hb).ex
  refine .mk (pw_and p p') (fun Z φ S ρ σ H Q R sl w => q Z φ S ρ σ H _ R sl (w.bind fun k S1 k' φ1 H1 R1 E1 e w1 => ?_))
  cases e
  cases k with
  | true => exact iteT (q' Z φ1 S1 ρ σ H1 Q R1 (sl.evo E1) w1)
  | false => exact iteF (w1.now R1 rfl)
theorem dw_or (ha : DT X W a ga) (hb : DW X W (.BoolOp .Or (b :: rest) pos) gb) : DW X W (.BoolOp .Or (a :: b :: rest) pos) (fOrT ga gb) := by
  obtain ⟨t, p, q⟩ := (ha).ex
  obtain ⟨u, p', q'⟩ := (hb).ex
  refine .mk (pw_or p p') (fun Z φ S ρ σ H Q R sl w => q Z φ S ρ σ H _ R sl (w.bind fun k S1 k' φ1 H1 R1 E1 e w1 => ?_))
  cases e
  cases k with
  | true => exact iteT (w1.now R1 rfl)
  | false => exact iteF (q' Z φ1 S1 ρ σ H1 Q R1 (sl.evo E1) w1)
theorem DW.dt (h : DW X W a ga) : DT X W a ga := by
  obtain ⟨t, p, q⟩ := (h).ex
  exact .mk (p.pt) q
theorem dt_not (h : DT X W a ga) : DT X W (.UnaryOp .Not a pos) (fNotT ga) := by
  obtain ⟨t, p, q⟩ := (h).ex
  refine .mk (pt_not p) (fun Z φ S ρ σ H Q R sl w => q Z φ S ρ σ H _ R sl (w.bind fun k S1 k' φ1 H1 R1 E1 e w1 => ?_))
  cases e
  exact w1.now R1 rfl
/-- and, or as values, all but the last a truth -/
def fAndV (fa fb : FE) : FE := fun ρ S => (fa ρ S).bind fun d S => match d with
  | .bl true => fb ρ S
  | .bl false => .ok (.bl false) S
  | _ => .stuck
def fOrV (fa fb : FE) : FE := fun ρ S => (fa ρ S).bind fun d S => match d with
  | .bl true => .ok (.bl true) S
  | .bl false => fb ρ S
  | _ => .stuck
theorem de_one {op} (h : DE X W a fa) : DE X W (.BoolOp op [a] pos) fa := by
  obtain ⟨t, p, q⟩ := (h).ex
  exact .mk (pe_one p) q
theorem de_and (ha : DE X W a fa) (hb : DE X W (.BoolOp .And (b :: rest) pos) fb) : DE X W (.BoolOp .And (a :: b :: rest) pos) (fAndV fa fb) := by
  obtain ⟨t, p, q⟩ := (ha).ex
  obtain ⟨u, p', q'⟩ := (hb).ex
  refine .mk (pe_and p p') (fun Z φ S ρ σ H Q R sl w => q Z φ S ρ σ H _ R sl (w.bind fun x S1 v φ1 H1 R1 E1 d w1 => ?_))
  cases x with
  | bl k =>
    unfold RDat Dat at d
    refine ⟨k, d, ?_⟩
    cases k with
    | true => exact iteT (q' Z φ1 S1 ρ σ H1 Q R1 (sl.evo E1) w1)
    | false => exact iteF (w1.now R1 (dat_bl _))
  | _ => exact w1.elim
def fNotV (fa : FE) : FE := fun ρ S => (fa ρ S).bind fun d S => match d with
  | .bl k => .ok (.bl (!k)) S
  | _ => .stuck
theorem de_not (ha : DE X W a fa) : DE X W (.UnaryOp .Not a pos) (fNotV fa) := by
  obtain ⟨t, p, q⟩ := (ha).ex
  refine .mk (pe_not p) (fun Z φ S ρ σ H Q R sl w => q Z φ S ρ σ H _ R sl (w.bind fun x S1 v φ1 H1 R1 E1 d w1 => ?_))
  cases x with
  | bl k =>
    unfold RDat Dat at d
    exact ⟨k, d, w1.now R1 (dat_bl _)⟩
  | _ => exact w1.elim
def fIf (t : FT) (fa fb : FE) : FE := fun ρ S => (t ρ S).bind fun k S => if k then fa ρ S else fb ρ S
theorem de_ifExp (hc : DT X W c ga) (ha : DE X W a fa) (hb : DE X W b fb) : DE X W (.IfExp c a b pos) (fIf ga fa fb) := by
  obtain ⟨tc, pc, qc⟩ := (hc).ex
  obtain ⟨t, p, q⟩ := (ha).ex
  obtain ⟨u, p', q'⟩ := (hb).ex
  refine .mk (pe_ifExp pc p p') (fun Z φ S ρ σ H Q R sl w => qc Z φ S ρ σ H _ R sl (w.bind fun k S1 k' φ1 H1 R1 E1 e w1 => ?_))
  cases e
  cases k with
  | true => exact iteT (q Z φ1 S1 ρ σ H1 Q R1 (sl.evo E1) w1)
  | false => exact iteF (q' Z φ1 S1 ρ σ H1 Q R1 (sl.evo E1) w1)
/-- a < b < c -/
def fChain (g g' : G2) (fa fb fc : FE) : FE := fun ρ S => (fa ρ S).bind fun x S => (fb ρ S).bind fun y S => (g x y S).bind fun z S => match z with
  | .bl true => (fc ρ S).bind fun u S => g' y u S
  | .bl false => .ok (.bl false) S
  | _ => .stuck

/-! ### displays -/
theorem da_nil : DA X W [] (fun _ S => .ok [] S) := .mk pa_nil (fun Z φ S ρ σ H Q R sl w => w.now R DatL.nil)
def fCons (fa : FE) (fr : FA) : FA := fun ρ S => (fa ρ S).bind fun x S => (fr ρ S).bind fun xs S => .ok (x :: xs) S
theorem da_cons {fr : FA} (ha : DE X W e fe) (hr : DA X W es fr) (hs : starEach (e :: es) X.env = (false, eval e X.env) :: starEach es X.env := by rfl) : DA X W (e :: es) (fCons fe fr) := by
  obtain ⟨t, p, q⟩ := (ha).ex
  obtain ⟨u, p', q'⟩ := (hr).ex
  refine .mk (pa_cons p p' hs) (fun Z φ S ρ σ H Q R sl w => q Z φ S ρ σ H _ R sl (w.bind fun x S1 v φ1 H1 R1 E1 d w1 => ?_))
  exact q' Z φ1 S1 ρ σ H1 _ R1 (sl.evo E1) (w1.bind fun xs S2 vs φ2 H2 R2 E2 d2 w2 => w2.now R2 (.cons (Dat.evo E2 d) d2))
def short (n : Nat) : Bool := decide (n ≤ sizeLine)
def fTup (fa : FA) : FE := fun ρ S => (fa ρ S).bind fun xs S => if short xs.length then .ok (.tup xs) S else .stuck
def fLst (fa : FA) : FE := fun ρ S => (fa ρ S).bind fun xs S => if short xs.length then .ok (.lst xs) S else .stuck
def fLstO (fa : FA) : FE := fun ρ S => (fa ρ S).bind fun xs S => if short xs.length then .ok (.oid S.length) (S ++ [.lst xs]) else .stuck
section
variable {K : PySem.W.Frag} {mg : Str → Option Value} {Z φ : List Addr} {S : Store} {H : Hp}
theorem dat_newL (R : Rel K mg Z φ S H) {ds : List D} {vs : List V} (h : DatL K mg φ (gnd Z φ S H) ds vs) {p : Addr} (hp : H p = none) :
    Rel K mg Z φ S (upd H p (.lst vs)) ∧ Evo Z φ S H φ S (upd H p (.lst vs)) ∧ Dat K mg φ (gnd Z φ S (upd H p (.lst vs))) (.lst ds) (.ref p) := by
  obtain ⟨r, e, g⟩ := R.fresh (o := .lst vs) hp
  refine ⟨r, e, ?_⟩
  unfold Dat
  exact ⟨p, vs, rfl, g, DatL.evo e h⟩
theorem dat_newT (R : Rel K mg Z φ S H) {ds : List D} {vs : List V} (h : DatL K mg φ (gnd Z φ S H) ds vs) {p : Addr} (hp : H p = none) :
    Rel K mg Z φ S (upd H p (.tup vs)) ∧ Evo Z φ S H φ S (upd H p (.tup vs)) ∧ Dat K mg φ (gnd Z φ S (upd H p (.tup vs))) (.tup ds) (.ref p) := by
  obtain ⟨r, e, g⟩ := R.fresh (o := .tup vs) hp
  refine ⟨r, e, ?_⟩
  unfold Dat
  exact ⟨p, vs, rfl, .of g, DatL.evo e h⟩
theorem dat_newO (R : Rel K mg Z φ S H) {ds : List D} {vs : List V} (h : DatL K mg φ (gnd Z φ S H) ds vs) {p : Addr} (hp : H p = none) :
    Rel K mg Z (φ ++ [p]) (S ++ [.lst ds]) (upd H p (.lst vs)) ∧ Evo Z φ S H (φ ++ [p]) (S ++ [.lst ds]) (upd H p (.lst vs)) ∧ Dat K mg (φ ++ [p]) (gnd Z (φ ++ [p]) (S ++ [.lst ds]) (upd H p (.lst vs))) (.oid S.length) (.ref p) := by
  have lv : liveA (φ ++ [p]) (S ++ [.lst ds]) = liveA φ S ++ [p] := by rw [liveA_snoc R.len]; rfl
  have ext : Same (gnd Z φ S H) (gnd Z (φ ++ [p]) (S ++ [.lst ds]) (upd H p (.lst vs))) := fun a o h => by
    obtain ⟨h1, h2⟩ := without_some.mp h
    refine without_some.mpr ⟨fun q => h1 ?_, same_upd hp a o h2⟩
    rw [lv] at q
    rcases List.mem_append.mp q with z | z
    · exact List.mem_append_left _ z
    · rcases List.mem_append.mp z with z | z
      · exact List.mem_append_right _ z
      · rw [List.mem_singleton.mp z, hp] at h2
        cases h2
  obtain ⟨r, e⟩ := R.newOid (so := .lst ds) (same_upd (o := .lst vs) hp) hp (by rw [upd_same]; exact fun z => nomatch z) rfl ⟨vs, upd_same, DatL.mono ⟨[p], rfl⟩ ext _ _ h⟩
  refine ⟨r, e, ?_⟩
  unfold Dat
  exact ⟨p, rfl, by rw [List.getElem?_append_right (by rw [R.len]; exact Nat.le_refl _), ← R.len, Nat.sub_self]; rfl⟩
end
theorem de_tup {x1} {fr : FA} (h : DA X W es fr) : DE X W (.Tuple es x1 pos) (fTup fr) := by
  obtain ⟨t, p, q⟩ := (h).ex
  refine .mk (pe_tup p) (fun Z φ S ρ σ H Q R sl w => q Z φ S ρ σ H _ R sl (w.bind fun xs S1 vs φ1 H1 R1 E1 d w1 => ?_))
  by_cases hs : short xs.length = true
  · rw [if_pos hs] at w1
    refine ⟨by rw [DatL.length d]; exact of_decide_eq_true hs, fun p hp => ?_⟩
    obtain ⟨r, e, g⟩ := dat_newT R1 d hp
    exact w1 _ _ _ r e g
  · rw [if_neg hs] at w1
    exact w1.elim
theorem de_lst {fr : FA} (h : DA X W es fr) : DE X W (.List es pos) (fLst fr) := by
  obtain ⟨t, p, q⟩ := (h).ex
  refine .mk (pe_lst p) (fun Z φ S ρ σ H Q R sl w => q Z φ S ρ σ H _ R sl (w.bind fun xs S1 vs φ1 H1 R1 E1 d w1 => ?_))
  by_cases hs : short xs.length = true
  · rw [if_pos hs] at w1
    refine ⟨by rw [DatL.length d]; exact of_decide_eq_true hs, fun p hp => ?_⟩
    obtain ⟨r, e, g⟩ := dat_newL R1 d hp
    exact w1 _ _ _ r e g
  · rw [if_neg hs] at w1
    exact w1.elim
theorem de_lstO {fr : FA} (h : DA X W es fr) : DE X W (.List es pos) (fLstO fr) := by
  obtain ⟨t, p, q⟩ := (h).ex
  refine .mk (pe_lst p) (fun Z φ S ρ σ H Q R sl w => q Z φ S ρ σ H _ R sl (w.bind fun xs S1 vs φ1 H1 R1 E1 d w1 => ?_))
  by_cases hs : short xs.length = true
  · rw [if_pos hs] at w1
    refine ⟨by rw [DatL.length d]; exact of_decide_eq_true hs, fun p hp => ?_⟩
    obtain ⟨r, e, g⟩ := dat_newO R1 d hp
    exact w1 _ _ _ r e g
  · rw [if_neg hs] at w1
    exact w1.elim
end
end DL

/-! The data layer, part 4: targets, what is walked, statements, comprehensions. -/
namespace DL
open PySem L2

/-! ### targets -/
abbrev FG := D → EnvD → Store → Option EnvD
def tG (K : PySem.W.Frag) (mg : Str → Option Value) (is : List Nat) (m : FG) : TG := fun v σ H Q => ∃ Z φ S ρ d ρ', Rel K mg Z φ S H ∧ Slots K mg φ (gnd Z φ S H) ρ σ ∧ Dat K mg φ (gnd Z φ S H) d v ∧ m d ρ S = some ρ' ∧
  ∀ σ', Slots K mg φ (gnd Z φ S H) ρ' σ' → (∀ vs : List Nat, (∀ i ∈ is, i ∈ vs) → wipe σ' vs = wipe σ vs) → Q σ' H
def tGs (K : PySem.W.Frag) (mg : Str → Option Value) (is : List Nat) (m : List D → EnvD → Store → Option EnvD) : TGs := fun vs σ H Q => ∃ Z φ S ρ ds ρ', Rel K mg Z φ S H ∧ Slots K mg φ (gnd Z φ S H) ρ σ ∧ DatL K mg φ (gnd Z φ S H) ds vs ∧ m ds ρ S = some ρ' ∧
  ∀ σ', Slots K mg φ (gnd Z φ S H) ρ' σ' → (∀ vs : List Nat, (∀ i ∈ is, i ∈ vs) → wipe σ' vs = wipe σ vs) → Q σ' H
def DG (X : Cx) (tg : Expr) (is : List Nat) (m : FG) : Prop := PG X tg (tG X.K X.mg is m)
def DGs (X : Cx) (tgs : List Expr) (is : List Nat) (m : List D → EnvD → Store → Option EnvD) : Prop := PGs X tgs (tGs X.K X.mg is m)
theorem PG.weak {X : Cx} {e : Expr} {t t' : TG} (h : PG X e t) (i : ∀ v σ H Q, t' v σ H Q → t v σ H Q) : PG X e t' := ⟨fun pins s σ H v u Q I r q => h.run pins s σ H v u Q I r (i _ _ _ _ q)⟩
theorem PGs.weak {X : Cx} {e : List Expr} {t t' : TGs} (h : PGs X e t) (i : ∀ v σ H Q, t' v σ H Q → t v σ H Q) : PGs X e t' := ⟨fun pins s σ H v u Q I r q => h.run pins s σ H v u Q I r (i _ _ _ _ q)⟩
theorem wipe_set {σ : L2.St} {x : Option V} {i : Nat} : ∀ {vs : List Nat}, i ∈ vs → wipe (σ.set i x) vs = wipe σ vs
  | [], h => absurd h (by simp)
  | v :: vs, h => by
    unfold wipe
    by_cases q : i ∈ vs
    · rw [wipe_set q]
    · have e : i = v := by
        rcases List.mem_cons.mp h with z | z
        · exact z
        · exact absurd z q
      subst e
      have aux : ∀ {vs : List Nat}, i ∉ vs → wipe (σ.set i x) vs = (wipe σ vs).set i x := by
        intro vs
        induction vs with
        | nil => intro _; rfl
        | cons w ws ih =>
          intro hn
          simp only [List.mem_cons, not_or] at hn
          unfold wipe
          rw [ih hn.2, List.set_comm _ _ (fun z => hn.1 z)]
      rw [aux q, List.set_set]
section
variable {X : Cx} {pos : Pos}
def mName (i : Nat) : FG := fun d ρ _ => some (ρ.set i (some d))
theorem dg_name {i : Nat} {x : Str} (p : PG X (.Name x pos) (gName i)) : DG X (.Name x pos) [i] (mName i) :=
  PG.weak p fun v σ H Q ⟨Z, φ, S, ρ, d, ρ', R, sl, hd, hm, q⟩ => by
    cases hm
    exact q _ (sl.set hd) fun vs h => wipe_set (h i (by simp))
theorem dgs_nil : DGs X [] [] (fun ds ρ _ => match ds with | [] => some ρ | _ => none) :=
  PGs.weak pgs_nil fun v σ H Q ⟨Z, φ, S, ρ, ds, ρ', R, sl, hd, hm, q⟩ => by
    cases ds with
    | nil =>
      cases hm
      unfold DatL at hd
      exact ⟨hd, q _ sl fun _ _ => rfl⟩
    | cons _ _ => cases hm
def mCons (m : FG) (ms : List D → EnvD → Store → Option EnvD) : List D → EnvD → Store → Option EnvD := fun ds ρ S => match ds with
  | d :: ds => (m d ρ S).bind fun ρ => ms ds ρ S
  | [] => none
theorem dgs_cons {e : Expr} {es : List Expr} {is js : List Nat} {m : FG} {ms : List D → EnvD → Store → Option EnvD} (h : DG X e is m) (r : DGs X es js ms)
    (hs : (assignEach (e :: es) X.env).map (·.2) = assign e X.env :: (assignEach es X.env).map (·.2) := by rfl) : DGs X (e :: es) (is ++ js) (mCons m ms) :=
  PGs.weak (pgs_cons h r hs) fun v σ H Q ⟨Z, φ, S, ρ, ds, ρ', R, sl, hd, hm, q⟩ => by
    cases ds with
    | nil => cases hm
    | cons d ds =>
      obtain ⟨u, us, rfl, h1, h2⟩ := hd.uncons
      unfold mCons at hm
      obtain ⟨ρ1, e1, e2⟩ := Option.bind_eq_some_iff.mp hm
      refine ⟨u, us, rfl, Z, φ, S, ρ, d, ρ1, R, sl, h1, e1, fun σ1 sl1 w1 => ?_⟩
      refine ⟨Z, φ, S, ρ1, ds, ρ', R, sl1, h2, e2, fun σ2 sl2 w2 => ?_⟩
      exact q σ2 sl2 fun vs hv => (w2 vs fun i hi => hv i (List.mem_append_right _ hi)).trans (w1 vs fun i hi => hv i (List.mem_append_left _ hi))
def mTup (n : Nat) (ms : List D → EnvD → Store → Option EnvD) : FG := fun d ρ S => match d with
  | .tup ds => if ds.length = n then ms ds ρ S else none
  | _ => none
theorem dg_tup {es : List Expr} {k n : Nat} {is : List Nat} {ms : List D → EnvD → Store → Option EnvD} (hc : X.calm = true) (h : DGs X es is ms)
    (hn : (assignEach es X.env).length = n := by rfl) (hst : (assignEach es X.env).findIdx? (·.1) = none := by rfl) : DG X (.Tuple es k pos) is (mTup n ms) :=
  PG.weak (pg_tup hc h hn hst) fun v σ H Q ⟨Z, φ, S, ρ, d, ρ', R, sl, hd, hm, q⟩ => by
    unfold mTup at hm
    cases d with
    | tup ds =>
      unfold Dat at hd
      obtain ⟨a, vs, rfl, h1, h2⟩ := hd
      by_cases hl : ds.length = n
      · simp only [hl, if_true] at hm
        exact ⟨a, vs, rfl, sqt_mono gnd_sub h1, h2.length.trans hl, Z, φ, S, ρ, ds, ρ', R, sl, h2, hm, q⟩
      · simp only [hl, if_false] at hm
        cases hm
    | _ => cases hm
end

/-! ### what is walked -/
/-- the items; of what may change: that it stays as it was -/
structure ItD where
  items : List D
  chk : Option (D × List D) := none
def okC : Option (D × List D) → Store → Prop
  | none, _ => True
  | some (d, ds), S => asL S d = some ds
section
variable (K : PySem.W.Frag) (mg : Str → Option Value)
def RI (Z φ : List Addr) (S : Store) (H : Hp) (it : ItD) (J : It) : Prop := ∀ (i : Nat) (Z' φ' : List Addr) (S' : Store) (H' : Hp), (∀ a ∈ Z, a ∈ Z') → Rel K mg Z' φ' S' H' → (φ <+: φ') → Same (gnd Z φ S H) (gnd Z' φ' S' H') → okC it.chk S' →
  (∀ d, it.items[i]? = some d → J.go i H' ∧ ∀ x H'', J.yld i H' x H'' → Rel K mg Z' φ' S' H'' ∧ Evo Z' φ' S' H' φ' S' H'' ∧ Dat K mg φ' (gnd Z' φ' S' H'') d x) ∧ (it.items.length ≤ i → J.stop i H')
def WantI (Z φ : List Addr) (S : Store) (H : Hp) (r : Res ItD) (Q : It → Hp → Prop) (E : XK) : Prop := match r with
  | .ok it S' => ∀ J φ' H', Rel K mg Z φ' S' H' → Evo Z φ S H φ' S' H' → RI K mg Z φ' S' H' it J → Q J H'
  | .ex C fs S' => ∀ A dx φ' H', mg C = some (.ref A) → Rel K mg Z φ' S' H' → Evo Z φ S H φ' S' H' → ExD K mg φ' (gnd Z φ' S' H') fs dx → E (.ref A) dx H'
  | .stuck => False
end
theorem WantI.go {K : PySem.W.Frag} {mg : Str → Option Value} {Z φ φ' : List Addr} {S S' : Store} {H H' : Hp} {r : Res ItD} {Q : It → Hp → Prop} {E : XK} (e : Evo Z φ S H φ' S' H') (h : WantI K mg Z φ S H r Q E) : WantI K mg Z φ' S' H' r Q E := by
  cases r with
  | ok a S1 => exact fun b φ1 H1 r1 e1 d => h b φ1 H1 r1 (e.trans e1) d
  | ex C fs S1 => exact fun A dx φ1 H1 m r1 e1 d => h A dx φ1 H1 m r1 (e.trans e1) d
  | stuck => exact h
theorem WantI.bind {α β : Type} {K : PySem.W.Frag} {mg : Str → Option Value} {Z φ : List Addr} {S : Store} {H : Hp} {R : List Addr → Hp → α → β → Prop} {r : Res α} {k : α → Store → Res ItD} {Q : It → Hp → Prop} {Q1 : β → Hp → Prop} {E : XK} (h : WantI K mg Z φ S H (r.bind k) Q E)
    (f : ∀ a S1 b φ1 H1, Rel K mg Z φ1 S1 H1 → Evo Z φ S H φ1 S1 H1 → R φ1 (gnd Z φ1 S1 H1) a b → WantI K mg Z φ1 S1 H1 (k a S1) Q E → Q1 b H1) : Want K mg R Z φ S H r Q1 E := by
  cases r with
  | ok a S1 => exact fun b φ1 H1 r1 e1 d => f a S1 b φ1 H1 r1 e1 d (h.go e1)
  | ex C fs S1 => exact h
  | stuck => exact h
abbrev FI := EnvD → Store → Res ItD
def tDI (K : PySem.W.Frag) (mg : Str → Option Value) (W : WX) (f : FI) : TI := fun σ H R => ∃ Z φ S ρ, Rel K mg Z φ S H ∧ Slots K mg φ (gnd Z φ S H) ρ σ ∧ WantI K mg Z φ S H (f ρ S) R (WE W σ)
def DI (X : Cx) (W : WX) (tg e : Expr) (f : FI) : Prop := PI X tg e (tDI X.K X.mg W f)
abbrev IsI (X : Cx) (W : WX) (t : TI) (f : FI) : Prop := ∀ Z φ S ρ σ H (Q : It → Hp → Prop), Rel X.K X.mg Z φ S H → Slots X.K X.mg φ (gnd Z φ S H) ρ σ → WantI X.K X.mg Z φ S H (f ρ S) Q (WE W σ) → t σ H Q
theorem PI.weak {X : Cx} {tg e : Expr} {t t' : TI} (h : PI X tg e t) (i : ∀ σ H R, t' σ H R → t σ H R) : PI X tg e t' := ⟨fun pins s σ H R I q => h.run pins s σ H R I (i _ _ _ q)⟩
theorem PI.or {X : Cx} {tg e : Expr} {t t' : TI} (h : PI X tg e t) (h' : PI X tg e t') : PI X tg e (fun σ H R => t σ H R ∨ t' σ H R) := ⟨fun pins s σ H R I q => q.elim (fun z => h.run pins s σ H R I z) fun z => h'.run pins s σ H R I z⟩
theorem DI.mk {X : Cx} {W : WX} {tg e : Expr} {f : FI} {t : TI} (p : PI X tg e t) (h : IsI X W t f) : DI X W tg e f := PI.weak p fun σ H Q ⟨Z, φ, S, ρ, R, sl, w⟩ => h Z φ S ρ σ H Q R sl w
theorem DI.is {X : Cx} {W : WX} {f : FI} : IsI X W (tDI X.K X.mg W f) f := fun Z φ S ρ σ H Q R sl w => ⟨Z, φ, S, ρ, R, sl, w⟩
section
variable {X : Cx} {W : WX} {tg e : Expr} {fe : FE} {pos p : Pos}
/-- over a list or a tuple -/
def fSeq (fe : FE) : FI := fun ρ S => (fe ρ S).bind fun d S => match d with
  | .tup ds => .ok ⟨ds, none⟩ S
  | .lst ds => .ok ⟨ds, none⟩ S
  | .scr ds => .ok ⟨ds, none⟩ S
  | d => match asL S d with
    | some ds => .ok ⟨ds, some (d, ds)⟩ S
    | none => .stuck
theorem ri_list {Z φ : List Addr} {S : Store} {H : Hp} {d : D} {a : Addr} {ds : List D} {c : Option (D × List D)} (hd : Dat X.K X.mg φ (gnd Z φ S H) d (.ref a)) (hc : ∀ S', okC c S' → asL S' d = some ds) : RI X.K X.mg Z φ S H ⟨ds, c⟩ (Itl X.K a) :=
  fun i Z' φ' S' H' hZ R hp hs ok => by
    have hd' := Dat.mono hp hs d _ hd
    obtain ⟨b, vs, e, h1, h2⟩ := asL_ok R hd' (hc S' ok)
    cases e
    refine ⟨fun x hx => ?_, fun hl => ⟨vs, h1, by rw [h2.length]; exact hl⟩⟩
    obtain ⟨u, hu, du⟩ := h2.get hx
    refine ⟨⟨vs, u, h1, hu⟩, fun y H'' yl => ?_⟩
    obtain ⟨rfl, q⟩ := yl
    have z := q vs h1
    rw [hu] at z
    cases z
    exact ⟨R, Evo.refl, du⟩
theorem ri_tup {Z φ : List Addr} {S : Store} {H : Hp} {a : Addr} {ds : List D} (hd : Dat X.K X.mg φ (gnd Z φ S H) (.tup ds) (.ref a)) : RI X.K X.mg Z φ S H ⟨ds, none⟩ (Itt X.K a) :=
  fun i Z' φ' S' H' hZ R hp hs ok => by
    have hd' := Dat.mono hp hs _ _ hd
    unfold Dat at hd'
    obtain ⟨b, vs, e, h1, h2⟩ := hd'
    cases e
    have h1' := sqt_mono gnd_sub h1
    refine ⟨fun x hx => ?_, fun hl => ⟨vs, h1', by rw [h2.length]; exact hl⟩⟩
    obtain ⟨u, hu, du⟩ := h2.get hx
    refine ⟨⟨vs, u, h1', hu⟩, fun y H'' yl => ?_⟩
    obtain ⟨rfl, q⟩ := yl
    have z := q vs h1'
    rw [hu] at z
    cases z
    exact ⟨R, Evo.refl, du⟩
theorem RI.evo {Z φ φ' : List Addr} {S S' : Store} {H H' : Hp} {it : ItD} {J : It} (e : Evo Z φ S H φ' S' H') (h : RI X.K X.mg Z φ S H it J) : RI X.K X.mg Z φ' S' H' it J := fun i Z1 φ1 S1 H1 hZ R hp hs ok =>
  h i Z1 φ1 S1 H1 hZ R (e.pre.trans hp) (e.ext.trans hs) ok
/-- the result of an expression, known -/
theorem Want.cases {α β : Type} {K : PySem.W.Frag} {mg : Str → Option Value} {Z φ : List Addr} {S : Store} {H : Hp} {R : List Addr → Hp → α → β → Prop} {r : Res α} {P : Prop} {Q : β → Hp → Prop} {E : XK}
    (hok : ∀ a S1, r = .ok a S1 → P) (hx : ∀ C fs S1, r = .ex C fs S1 → P) (hs : r = .stuck → P) : P := by
  cases r with
  | ok a S1 => exact hok a S1 rfl
  | ex C fs S1 => exact hx C fs S1 rfl
  | stuck => exact hs rfl
theorem di_seq (he : DE X W e fe) : DI X W tg e (fSeq fe) := by
  refine PI.weak (PI.or (pi_list he) (pi_tup he)) fun σ H R ⟨Z, φ, S, ρ, R0, sl, w⟩ => ?_
  have run : ∀ {Q1 : VK}, (∀ d S1 v φ1 H1, Rel X.K X.mg Z φ1 S1 H1 → Evo Z φ S H φ1 S1 H1 → Dat X.K X.mg φ1 (gnd Z φ1 S1 H1) d v → fe ρ S = .ok d S1 → Q1 v H1) → (∀ r, r = fe ρ S → r ≠ .stuck) → Want X.K X.mg (RDat X.K X.mg) Z φ S H (fe ρ S) Q1 (WE W σ) := fun f hns => by
    unfold fSeq at w
    cases hr : fe ρ S with
    | ok d S1 => exact fun v φ1 H1 r1 e1 dd => f d S1 v φ1 H1 r1 e1 dd hr
    | ex C fs S1 => rw [hr] at w; exact w
    | stuck => exact absurd rfl (hns _ hr.symm)
  have ns : ∀ r, r = fe ρ S → r ≠ .stuck := fun r h z => by
    unfold fSeq at w
    rw [← h, z] at w
    exact w
  by_cases ht : ∃ ds S1, fe ρ S = .ok (.tup ds) S1
  · obtain ⟨ds, S1, ht⟩ := ht
    refine .inr ⟨Z, φ, S, ρ, R0, sl, run (fun d S2 v φ1 H1 r1 e1 dd hr => ?_) ns⟩
    rw [ht] at hr
    cases hr
    unfold fSeq at w
    rw [ht] at w
    have dd0 := dd
    unfold Dat at dd
    obtain ⟨a, vs, rfl, h1, h2⟩ := dd
    exact ⟨a, rfl, ⟨vs, sqt_mono gnd_sub h1⟩, w _ _ _ r1 e1 (ri_tup dd0)⟩
  · refine .inl ⟨Z, φ, S, ρ, R0, sl, run (fun d S1 v φ1 H1 r1 e1 dd hr => ?_) ns⟩
    unfold fSeq at w
    rw [hr] at w
    simp only [Res.bind_ok] at w
    cases d with
    | tup ds => exact absurd ⟨ds, S1, hr⟩ ht
    | lst ds =>
      obtain ⟨a, vs, rfl, h1, h2⟩ := asL_ok r1 dd rfl
      exact ⟨a, rfl, ⟨vs, h1⟩, w _ _ _ r1 e1 (ri_list (d := .lst ds) dd fun _ _ => rfl)⟩
    | scr ds =>
      obtain ⟨a, vs, rfl, h1, h2⟩ := asL_ok r1 dd rfl
      exact ⟨a, rfl, ⟨vs, h1⟩, w _ _ _ r1 e1 (ri_list (d := .scr ds) dd fun _ _ => rfl)⟩
    | oid n =>
      simp only at w
      cases hq : asL S1 (.oid n) with
      | none => rw [hq] at w; exact w.elim
      | some ds =>
        rw [hq] at w
        obtain ⟨a, vs, rfl, h1, h2⟩ := asL_ok r1 dd hq
        exact ⟨a, rfl, ⟨vs, h1⟩, w _ _ _ r1 e1 (ri_list (d := .oid n) dd fun _ ok => ok)⟩
    | _ => exact w.elim
/-- range(a), range(a, b) -/
def rng (lo hi : Int) : List D := (List.range (hi - lo).toNat).map fun i => .int (lo + (i : Nat))
noncomputable def cRng (i : Int) : Bool := @decide (-4611686018427387904 ≤ i ∧ i < 4611686018427387904) (Classical.propDecidable _)
noncomputable def fRng1 (fa : FA) : FI := fun ρ S => (fa ρ S).bind fun ds S => match ds with
  | [.int j] => if cRng j then .ok ⟨rng 0 j, none⟩ S else .stuck
  | _ => .stuck
theorem ri_rng {Z φ : List Addr} {S : Store} {H : Hp} {lo hi : Int} : RI X.K X.mg Z φ S H ⟨rng lo hi, none⟩ (Itr lo (hi - lo).toNat) := fun i Z' φ' S' H' hZ R hp hs ok => by
  refine ⟨fun d hd => ?_, fun hl => ?_⟩
  · unfold rng at hd
    rw [List.getElem?_map] at hd
    have hi' : i < (hi - lo).toNat := by
      cases q : (List.range (hi - lo).toNat)[i]? with
      | none => rw [q] at hd; cases hd
      | some j => have := (List.getElem?_eq_some_iff.mp q).1; simpa using this
    rw [List.getElem?_range hi'] at hd
    cases hd
    refine ⟨hi', fun x H'' y => ?_⟩
    obtain ⟨rfl, rfl⟩ := y
    exact ⟨R, Evo.refl, dat_int _⟩
  · show (hi - lo).toNat ≤ i
    simpa [rng] using hl
theorem datL1 {φ : List Addr} {G : Hp} {d : D} {vs : List V} (h : DatL X.K X.mg φ G [d] vs) : ∃ v, vs = [v] ∧ Dat X.K X.mg φ G d v := by
  obtain ⟨v, r, rfl, h1, h2⟩ := h.uncons
  unfold DatL at h2
  subst h2
  exact ⟨v, rfl, h1⟩
theorem datL2 {φ : List Addr} {G : Hp} {d e : D} {vs : List V} (h : DatL X.K X.mg φ G [d, e] vs) : ∃ v u, vs = [v, u] ∧ Dat X.K X.mg φ G d v ∧ Dat X.K X.mg φ G e u := by
  obtain ⟨v, r, rfl, h1, h2⟩ := h.uncons
  obtain ⟨u, rfl, h3⟩ := datL1 h2
  exact ⟨v, u, rfl, h1, h3⟩
theorem dInt {φ : List Addr} {G : Hp} {i : Int} {v : V} (h : Dat X.K X.mg φ G (.int i) v) : v = .int i := by
  unfold Dat at h
  exact h
theorem dStr {φ : List Addr} {G : Hp} {i : Str} {v : V} (h : Dat X.K X.mg φ G (.str i) v) : v = .str i := by
  unfold Dat at h
  exact h
theorem dBl {φ : List Addr} {G : Hp} {i : Bool} {v : V} (h : Dat X.K X.mg φ G (.bl i) v) : v = .bl i := by
  unfold Dat at h
  exact h
theorem di_range1 {a : Expr} {fa : FA} (hg : Gl X "range") (hm : X.mg "range" = none) (ha : DA X W [a] fa) (hs : starEach [a] X.env = [(false, eval a X.env)] := by rfl) : DI X W tg (.Call (.Name "range" p) [a] [] pos) (fRng1 fa) := by
  obtain ⟨t, p, q⟩ := ha.ex
  refine .mk (pi_range1 hg hm p hs) fun Z φ S ρ σ H R R0 sl w => q Z φ S ρ σ H _ R0 sl (w.bind fun ds S1 vs φ1 H1 R1 E1 d w1 => ?_)
  split at w1
  · rename_i j
    obtain ⟨v, rfl, h1⟩ := datL1 d
    cases dInt h1
    by_cases hc : cRng j = true
    · simp only [hc, if_true] at w1
      unfold cRng at hc
      simp only [Bool.and_eq_true, decide_eq_true_eq] at hc
      refine ⟨j, rfl, hc.1, hc.2, w1 _ _ _ R1 Evo.refl ?_⟩
      have z := ri_rng (X := X) (Z := Z) (φ := φ1) (S := S1) (H := H1) (lo := 0) (hi := j)
      rw [Int.sub_zero] at z
      exact z
    · simp only [hc] at w1
      exact w1.elim
  · exact w1.elim
/-- enumerate(list) -/
def enumD : Nat → List D → List D
  | _, [] => []
  | n, d :: ds => .tup [.int (n : Nat), d] :: enumD (n + 1) ds
def fEnum (fa : FA) : FI := fun ρ S => (fa ρ S).bind fun ds S => match ds with
  | [.lst ds] => .ok ⟨enumD 0 ds, none⟩ S
  | [d] => match asL S d with
    | some ds => .ok ⟨enumD 0 ds, some (d, ds)⟩ S
    | none => .stuck
  | _ => .stuck
end

/-! ### the context of a body -/
structure Cn (X : Cx) (W : WX) (k : Nat) : Prop where
  room : Room k X.A
  gd : X.A.guards = some []
  calm : X.calm = true
  nd : X.N.Nodup
  po : PassesOwn (model X.prog X.w) X.A X.env X.xe
  tk : L2N.Takes X W
abbrev W0 : WX := fun _ _ _ _ => False
theorem takes0N {X : Cx} : L2N.Takes X W0 := fun _ _ ⟨_, _, _, _, _, _, _, _, _, _, _, _, _, _, _, _, h⟩ => h.elim

/-! ### statements -/
section
variable {X : Cx} {W : WX} {pos : Pos} {st : Stmt} {sts : List Stmt} {g g' : FS} {e : Expr} {fe : FE} {k : Nat}
def gNil : FS := fun ρ S => .nx ρ S
def Out.seq (o : Out) (k : EnvD → Store → Out) : Out := match o with
  | .nx ρ S => k ρ S
  | o => o
@[simp] theorem Out.seq_nx (ρ : EnvD) (S : Store) (k : EnvD → Store → Out) : (Out.nx ρ S).seq k = k ρ S := rfl
@[simp] theorem Out.seq_rt (d : D) (S : Store) (k : EnvD → Store → Out) : (Out.rt d S).seq k = .rt d S := rfl
@[simp] theorem Out.seq_bk (ρ : EnvD) (S : Store) (k : EnvD → Store → Out) : (Out.bk ρ S).seq k = .bk ρ S := rfl
@[simp] theorem Out.seq_ct (ρ : EnvD) (S : Store) (k : EnvD → Store → Out) : (Out.ct ρ S).seq k = .ct ρ S := rfl
@[simp] theorem Out.seq_ex (C fs) (ρ : EnvD) (S : Store) (k : EnvD → Store → Out) : (Out.ex C fs ρ S).seq k = .ex C fs ρ S := rfl
@[simp] theorem Out.seq_stuck (k : EnvD → Store → Out) : (Out.stuck).seq k = .stuck := rfl
def gSeq (g g' : FS) : FS := fun ρ S => (g ρ S).seq g'
theorem dss_nil : DSs X W [] gNil := .mk pss_nil fun Z φ S ρ σ H Dd R sl w => w σ φ H R Evo.refl sl
theorem dss_one (h : DS X W st g) : DSs X W [st] g := by
  obtain ⟨t, p, q⟩ := h.ex
  exact .mk (pss_one p) q
theorem dss_cons (h : DS X W st g) (r : DSs X W sts g') : DSs X W (st :: sts) (gSeq g g') := by
  obtain ⟨t, p, q⟩ := h.ex
  obtain ⟨u, p', q'⟩ := r.ex
  refine .mk (pss_cons p p') fun Z φ S ρ σ H Dd R sl w => q Z φ S ρ σ H _ R sl ?_
  unfold gSeq at w
  cases hr : g ρ S with
  | nx ρ1 S1 =>
    rw [hr] at w
    exact fun σ1 φ1 H1 R1 E1 sl1 => q' Z φ1 S1 ρ1 σ1 H1 Dd R1 sl1 (w.go E1)
  | _ => rw [hr] at w; exact w
def gExpr (fe : FE) : FS := fun ρ S => (fe ρ S).into ρ fun _ S => .nx ρ S
theorem ds_expr (he : DE X W e fe) (hs : swapsWith e none pos.line X.env = pure false := by rfl) : DS X W (.Expr e pos) (gExpr fe) := by
  obtain ⟨t, p, q⟩ := he.ex
  exact .mk (ps_expr p hs) fun Z φ S ρ σ H Dd R sl w => q Z φ S ρ σ H _ R sl (w.into sl fun d S1 v φ1 H1 R1 E1 dd w1 => w1 σ φ1 H1 R1 Evo.refl (sl.evo E1))
def gRet (fe : FE) : FS := fun ρ S => (fe ρ S).into ρ fun d S => .rt d S
theorem ds_ret (he : DE X W e fe) : DS X W (.Return (some e) pos) (gRet fe) := by
  obtain ⟨t, p, q⟩ := he.ex
  exact .mk (ps_ret p) fun Z φ S ρ σ H Dd R sl w => q Z φ S ρ σ H _ R sl (w.into sl fun d S1 v φ1 H1 R1 E1 dd w1 => w1 v φ1 H1 R1 Evo.refl dd)
def gIf (c : FT) (g g' : FS) : FS := fun ρ S => (c ρ S).into ρ fun k S => if k then g ρ S else g' ρ S
theorem ds_if {c : Expr} {fc : FT} {a b : List Stmt} (hc : DT X W c fc) (ha : DSs X W a g) (hb : DSs X W b g') : DS X W (.If c a b pos) (gIf fc g g') := by
  obtain ⟨t, p, q⟩ := hc.ex
  obtain ⟨ta, pa, qa⟩ := ha.ex
  obtain ⟨tb, pb, qb⟩ := hb.ex
  refine .mk (ps_if p pa pb) fun Z φ S ρ σ H Dd R sl w => q Z φ S ρ σ H _ R sl (w.into sl fun k S1 k' φ1 H1 R1 E1 e w1 => ?_)
  cases e
  cases k with
  | true => exact iteT (qa Z φ1 S1 ρ σ H1 Dd R1 (sl.evo E1) w1)
  | false => exact iteF (qb Z φ1 S1 ρ σ H1 Dd R1 (sl.evo E1) w1)
/-- name = value -/
def gSet (i : Nat) (fe : FE) : FS := fun ρ S => (fe ρ S).into ρ fun d S => .nx (ρ.set i (some d)) S
theorem ds_setP {i : Nat} {x : Str} {pos' : Pos} (hp : ∀ t, PE X e t → PS X (.Assign [.Name x pos'] e pos) (tAsg t (L2.gName i))) (he : DE X W e fe) : DS X W (.Assign [.Name x pos'] e pos) (gSet i fe) := by
  obtain ⟨t, p, q⟩ := he.ex
  exact .mk (hp _ p) fun Z φ S ρ σ H Dd R sl w => q Z φ S ρ σ H _ R sl (w.into sl fun d S1 v φ1 H1 R1 E1 dd w1 => w1 _ φ1 H1 R1 Evo.refl ((sl.evo E1).set dd))
theorem ds_set (C : Cn X W k) {i : Nat} {x : Str} {pos' : Pos} (hi : X.N[i]? = some x) (hx : Loc X.env.scope x) (he : DE X W e fe) (hs : swapsWith e (some (.Name x pos')) pos.line X.env = pure false := by rfl)
    (hf : X.fn x = true ∨ X.env.scope.names.lookup x = some .local := by first | exact .inl rfl | exact .inr rfl) : DS X W (.Assign [.Name x pos'] e pos) (gSet i fe) :=
  ds_setP (fun _ p => ps_set C.nd hi hx p hs hf) he
/-- target = value -/
def gAsg (m : FG) (fe : FE) : FS := fun ρ S => (fe ρ S).into ρ fun d S => match m d ρ S with
  | some ρ => .nx ρ S
  | none => .stuck
theorem ds_asg {tg : Expr} {is : List Nat} {m : FG} (he : DE X W e fe) (hg : DG X tg is m) (hs : swapsWithSole [tg] e pos.line X.env = pure false := by rfl) (hw : swappedStores [tg] e X.env = pure none := by rfl)
    (h1 : (assignEach [tg] X.env).map (·.2) = [assign tg X.env] := by rfl) : DS X W (.Assign [tg] e pos) (gAsg m fe) := by
  obtain ⟨t, p, q⟩ := he.ex
  refine .mk (ps_asg p hg hs hw h1) fun Z φ S ρ σ H Dd R sl w => q Z φ S ρ σ H _ R sl (w.into sl fun d S1 v φ1 H1 R1 E1 dd w1 => ?_)
  cases hm : m d ρ S1 with
  | none => rw [hm] at w1; exact w1.elim
  | some ρ1 =>
    rw [hm] at w1
    exact ⟨Z, φ1, S1, ρ, d, ρ1, R1, sl.evo E1, dd, hm, fun σ1 sl1 _ => w1 σ1 φ1 H1 R1 Evo.refl sl1⟩

/-! loops -/
open Classical in
noncomputable def loopF (c : Option (D × List D)) (m : FG) (body : FS) : List D → EnvD → Store → Out
  | [], ρ, S => if okC c S then .nx ρ S else .stuck
  | d :: ds, ρ, S => if okC c S then (match m d ρ S with
    | some ρ => (match body ρ S with
      | .nx ρ S => loopF c m body ds ρ S
      | .ct ρ S => loopF c m body ds ρ S
      | .bk ρ S => .nx ρ S
      | o => o)
    | none => .stuck) else .stuck
noncomputable def gFor (fi : FI) (m : FG) (body : FS) : FS := fun ρ S => (fi ρ S).into ρ fun it S => loopF it.chk m body it.items ρ S
theorem WantS.intoI {Z φ : List Addr} {S : Store} {H : Hp} {Dd : Ends} {r : Res ItD} {ρ : EnvD} {σ : L2.St} {k : ItD → Store → Out} {Q1 : It → Hp → Prop} (sl : Slots X.K X.mg φ (gnd Z φ S H) ρ σ) (h : WantS X W Z φ S H (r.into ρ k) Dd)
    (f : ∀ it S1 J φ1 H1, Rel X.K X.mg Z φ1 S1 H1 → Evo Z φ S H φ1 S1 H1 → RI X.K X.mg Z φ1 S1 H1 it J → WantS X W Z φ1 S1 H1 (k it S1) Dd → Q1 J H1) : WantI X.K X.mg Z φ S H r Q1 (WE W σ) := by
  cases r with
  | ok a S1 => exact fun b φ1 H1 r1 e1 d => f a S1 b φ1 H1 r1 e1 d (h.go e1)
  | ex C fs S1 => exact fun A dx φ1 H1 m r1 e1 d => h A dx σ φ1 H1 m r1 e1 (sl.evo e1) d
  | stuck => exact h
theorem ds_for (C : Cn X W k) {tg iter : Expr} {body : List Stmt} {fi : FI} {is : List Nat} {m : FG} (hi : DI X W tg iter fi) (hg : DG X tg is m) (hb : DSs X W body g) (hs : ∀ x, foldedSetIterable iter X.env x = pure x := by intro _; rfl) :
    DS X W (.For tg iter body [] pos) (gFor fi m g) := by
  obtain ⟨tb, pb, qb⟩ := hb.ex
  refine .mk (ps_for C.po C.calm hi hg pb hs) fun Z φ S ρ σ H Dd R sl w => DI.is Z φ S ρ σ H _ R sl (w.intoI sl fun it S1 J φ1 H1 R1 E1 rj w1 => ?_)
  refine ⟨fun i n σ' H' => n = it.items.length - i ∧ i ≤ it.items.length ∧ ∃ φ' S' ρ', Rel X.K X.mg Z φ' S' H' ∧ Evo Z φ1 S1 H1 φ' S' H' ∧ Slots X.K X.mg φ' (gnd Z φ' S' H') ρ' σ' ∧ WantS X W Z φ' S' H' (loopF it.chk m g (it.items.drop i) ρ' S') Dd,
    ⟨_, rfl, Nat.zero_le _, φ1, S1, ρ, R1, Evo.refl, sl.evo E1, w1⟩, ?_⟩
  rintro i n σ2 H2 ⟨rfl, hle, φ2, S2, ρ2, R2, E2, sl2, w2⟩
  by_cases hlt : i < it.items.length
  · obtain ⟨d, hd⟩ : ∃ d, it.items[i]? = some d := ⟨_, List.getElem?_eq_getElem hlt⟩
    have hdr : it.items.drop i = d :: it.items.drop (i + 1) := by
      rw [List.drop_eq_getElem_cons hlt]
      congr 1
      rw [List.getElem?_eq_getElem hlt] at hd
      exact Option.some.inj hd
    rw [hdr] at w2
    unfold loopF at w2
    by_cases hc : okC it.chk S2
    · rw [if_pos hc] at w2
      have rr := (rj i Z φ2 S2 H2 (fun _ h => h) R2 E2.pre E2.ext hc).1 d hd
      refine .inr ⟨rr.1, fun σ' H' => ∃ φ' S' ρ', Rel X.K X.mg Z φ' S' H' ∧ Evo Z φ1 S1 H1 φ' S' H' ∧ Slots X.K X.mg φ' (gnd Z φ' S' H') ρ' σ' ∧ WantS X W Z φ' S' H' (loopF it.chk m g (it.items.drop (i + 1)) ρ' S') Dd, fun σ' H' hN => ⟨_, by omega, rfl, hlt, hN⟩, fun x H3 y => ?_⟩
      obtain ⟨R3, E3, d3⟩ := rr.2 x H3 y
      cases hm : m d ρ2 S2 with
      | none => rw [hm] at w2; exact w2.elim
      | some ρ3 =>
        rw [hm] at w2
        refine ⟨Z, φ2, S2, ρ2, d, ρ3, R3, sl2.evo E3, d3, hm, fun σ3 sl3 _ => qb Z φ2 S2 ρ3 σ3 H3 _ R3 sl3 ?_⟩
        have w3 := w2.go E3
        cases hr : g ρ3 S2 with
        | nx ρ4 S4 =>
          simp only [hr] at w3
          exact fun σ4 φ4 H4 R4 E4 sl4 => ⟨φ4, S4, ρ4, R4, (E2.trans E3).trans E4, sl4, w3.go E4⟩
        | ct ρ4 S4 =>
          simp only [hr] at w3
          exact fun σ4 φ4 H4 R4 E4 sl4 => ⟨φ4, S4, ρ4, R4, (E2.trans E3).trans E4, sl4, w3.go E4⟩
        | bk ρ4 S4 =>
          simp only [hr] at w3
          exact w3
        | rt d4 S4 =>
          simp only [hr] at w3
          exact w3
        | ex C4 fs4 ρ4 S4 =>
          simp only [hr] at w3
          exact w3
        | stuck =>
          simp only [hr] at w3
          exact w3.elim
    · rw [if_neg hc] at w2
      exact w2.elim
  · have e : i = it.items.length := by omega
    subst e
    rw [List.drop_length] at w2
    unfold loopF at w2
    by_cases hc : okC it.chk S2
    · rw [if_pos hc] at w2
      exact .inl ⟨(rj _ Z φ2 S2 H2 (fun _ h => h) R2 E2.pre E2.ext hc).2 (Nat.le_refl _), w2 σ2 φ2 H2 R2 Evo.refl sl2⟩
    · rw [if_neg hc] at w2
      exact w2.elim
end
end DL

/-! The data layer, part 5: comprehensions; defs, their calls; the law's end. -/
namespace DL
open PySem L2

def Res.noEx {α : Type} (r : Res α) : Res α := match r with
  | .ok a S => .ok a S
  | _ => .stuck
@[simp] theorem Res.noEx_ok {α : Type} (a : α) (S : Store) : (Res.ok a S).noEx = .ok a S := rfl
section
variable {K : PySem.W.Frag} {mg : Str → Option Value} {Z φ φ1 φ' φ2 : List Addr} {S S1 S' S2 : Store} {H H1 H' H2 : Hp} {p : Addr}
/-! hidden addresses -/
theorem gnd_hide : Same (gnd (p :: Z) φ S H) (gnd Z φ S H) := fun a o h => by
  obtain ⟨h1, h2⟩ := without_some.mp h
  exact without_some.mpr ⟨fun q => h1 (List.mem_cons_of_mem _ q), h2⟩
theorem Evo.hideExt (e : Evo Z φ1 S1 H1 φ S H) (hp : H1 p = none) : Same (gnd Z φ1 S1 H1) (gnd (p :: Z) φ S H) := fun a o h => by
  have q := (without_some.mp h).2
  obtain ⟨h1, h2⟩ := without_some.mp (e.ext a o h)
  refine without_some.mpr ⟨fun z => ?_, h2⟩
  rcases List.mem_cons.mp z with z | z
  · rw [z, hp] at q
    cases q
  · exact h1 z
theorem Evo.hide (e : Evo Z φ1 S1 H1 φ S H) (hp : H1 p = none) (f : Evo (p :: Z) φ S H φ2 S2 H2) : Evo Z φ1 S1 H1 φ2 S2 H2 := by
  refine ⟨e.pre.trans f.pre, ((e.hideExt hp).trans f.ext).trans gnd_hide, fun c o h n => ?_, fun c h hn => ?_⟩
  · exact f.out c o (e.out c o h n) fun q => n (e.lv c q (by rw [h]; exact fun z => nomatch z))
  · by_cases q : c ∈ liveA φ1 S1
    · exact q
    · obtain ⟨o, ho⟩ := Option.ne_none_iff_exists'.mp hn
      exact e.lv c (f.lv c h (by rw [e.out c o ho q]; exact fun z => nomatch z)) hn
theorem Rel.unhide (R : Rel K mg (p :: Z) φ S H) : Rel K mg Z φ S H :=
  ⟨R.len, R.nd, fun a h q => R.zd a h (List.mem_cons_of_mem _ q), fun a h => R.zh a (List.mem_cons_of_mem _ h), R.ph, fun n a o h1 h2 => (R.ob n a o h1 h2).mono (List.prefix_refl _) gnd_hide fun _ z => z⟩
/-- a new object is hidden -/
theorem Rel.hidden (R : Rel K mg Z φ S H) (hp : H p = none) {o : HO} : Rel K mg (p :: Z) φ S (upd H p o) := by
  obtain ⟨r, e, g⟩ := R.fresh (o := o) hp
  have pφ : p ∉ φ := fun q => R.ph p q hp
  have eg : gnd (p :: Z) φ S (upd H p o) = gnd Z φ S H := by
    funext a
    by_cases ha : a = p
    · subst ha
      have h1 : gnd (a :: Z) φ S (upd H a o) a = none := by
        unfold gnd without
        rw [if_pos (List.mem_append_left _ List.mem_cons_self)]
      have h2 : gnd Z φ S H a = none := by
        unfold gnd without
        rw [hp]
        split <;> rfl
      rw [h1, h2]
    · unfold gnd without
      rw [upd_ne ha]
      by_cases hq : a ∈ Z ++ liveA φ S
      · rw [if_pos hq, if_pos (by rw [List.cons_append]; exact List.mem_cons_of_mem _ hq)]
      · rw [if_neg hq, if_neg (by rw [List.cons_append]; exact fun z => (List.mem_cons.mp z).elim ha hq)]
  refine ⟨R.len, R.nd, fun a h q => ?_, fun a h => ?_, r.ph, fun n a u h1 h2 => ?_⟩
  · rcases List.mem_cons.mp q with z | z
    · rw [z] at h
      exact pφ h
    · exact R.zd a h z
  · rcases List.mem_cons.mp h with z | z
    · rw [z, upd_same]
      exact fun q => nomatch q
    · exact r.zh a z
  · rw [eg]
    refine (R.ob n a u h1 h2).mono (List.prefix_refl _) (Same.refl _) fun ob z => ?_
    rw [upd_ne (ne_of_none z hp)]
    exact z
/-- a hidden object changes -/
theorem Rel.hidMut (R : Rel K mg (p :: Z) φ S H) {o : HO} : Rel K mg (p :: Z) φ S (upd H p o) ∧ gnd (p :: Z) φ S (upd H p o) = gnd (p :: Z) φ S H := by
  have eg : gnd (p :: Z) φ S (upd H p o) = gnd (p :: Z) φ S H := by
    funext a
    unfold gnd without
    by_cases ha : a = p
    · rw [ha, if_pos (List.mem_append_left _ List.mem_cons_self), if_pos (List.mem_append_left _ List.mem_cons_self)]
    · rw [upd_ne ha]
  have some_of : ∀ b, H b ≠ none → upd H p o b ≠ none := fun b h => by
    by_cases hb : b = p
    · subst hb
      rw [upd_same]
      exact fun z => nomatch z
    · rw [upd_ne hb]
      exact h
  refine ⟨⟨R.len, R.nd, R.zd, fun b h => some_of b (R.zh b h), fun b h => some_of b (R.ph b h), fun n a u h1 h2 => ?_⟩, eg⟩
  rw [eg]
  refine (R.ob n a u h1 h2).mono (List.prefix_refl _) (Same.refl _) fun ob z => ?_
  rw [upd_ne]
  · exact z
  · intro q
    rw [q] at h1
    exact R.zd p (List.mem_of_getElem? h1) List.mem_cons_self
theorem Evo.hidMut (e : Evo Z φ1 S1 H1 φ S H) (hp : H1 p = none) {o : HO} : Evo Z φ1 S1 H1 φ S (upd H p o) := by
  refine ⟨e.pre, fun a u h => ?_, fun a u h n => ?_, e.lv⟩
  · have q := (without_some.mp h).2
    obtain ⟨h1, h2⟩ := without_some.mp (e.ext a u h)
    refine without_some.mpr ⟨h1, ?_⟩
    rw [upd_ne (ne_of_none q hp)]
    exact h2
  · rw [upd_ne (ne_of_none h hp)]
    exact e.out a u h n
/-- the hidden list becomes an object of the store -/
theorem Rel.shown (R : Rel K mg (p :: Z) φ S H) (pZ : p ∉ Z) {ds : List D} {vs : List V} (hp : H p = some (.lst vs)) (hd : DatL K mg φ (gnd (p :: Z) φ S H) ds vs) :
    Rel K mg Z (φ ++ [p]) (S ++ [.lst ds]) H ∧ gnd Z (φ ++ [p]) (S ++ [.lst ds]) H = gnd (p :: Z) φ S H := by
  have pφ : p ∉ φ := fun q => R.zd p q List.mem_cons_self
  have lv : liveA (φ ++ [p]) (S ++ [.lst ds]) = liveA φ S ++ [p] := by rw [liveA_snoc R.len]; rfl
  have eg : gnd Z (φ ++ [p]) (S ++ [.lst ds]) H = gnd (p :: Z) φ S H := by
    funext a
    unfold gnd without
    rw [lv]
    by_cases q : a ∈ p :: Z ++ liveA φ S
    · rw [if_pos q, if_pos]
      rw [List.cons_append] at q
      rcases List.mem_cons.mp q with z | z
      · exact List.mem_append_right _ (List.mem_append_right _ (by rw [z]; exact List.mem_singleton.mpr rfl))
      · rcases List.mem_append.mp z with z | z
        · exact List.mem_append_left _ z
        · exact List.mem_append_right _ (List.mem_append_left _ z)
    · rw [if_neg q, if_neg]
      intro z
      refine q ?_
      rw [List.cons_append]
      rcases List.mem_append.mp z with z | z
      · exact List.mem_cons_of_mem _ (List.mem_append_left _ z)
      · rcases List.mem_append.mp z with z | z
        · exact List.mem_cons_of_mem _ (List.mem_append_right _ z)
        · rw [List.mem_singleton.mp z]
          exact List.mem_cons_self
  refine ⟨⟨by rw [List.length_append, List.length_append, R.len]; rfl, List.nodup_append.mpr ⟨R.nd, by simp, fun a ha b hb => ?_⟩, fun a ha q => ?_, fun a h => R.zh a (List.mem_cons_of_mem _ h), fun a ha => ?_, fun n a o h1 h2 => ?_⟩, eg⟩
  · rw [List.mem_singleton.mp hb]
    intro z
    rw [z] at ha
    exact pφ ha
  · rcases List.mem_append.mp ha with z | z
    · exact R.zd a z (List.mem_cons_of_mem _ q)
    · rw [List.mem_singleton.mp z] at q
      exact pZ q
  · rcases List.mem_append.mp ha with z | z
    · exact R.ph a z
    · rw [List.mem_singleton.mp z, hp]
      exact fun q => nomatch q
  · rw [eg]
    by_cases hlt : n < φ.length
    · rw [List.getElem?_append_left hlt] at h1
      rw [List.getElem?_append_left (by rw [← R.len]; exact hlt)] at h2
      exact (R.ob n a o h1 h2).mono ⟨[p], rfl⟩ (Same.refl _) fun _ z => z
    · have hlt' : φ.length ≤ n := Nat.le_of_not_lt hlt
      rw [List.getElem?_append_right hlt'] at h1
      rw [List.getElem?_append_right (by rw [← R.len]; exact hlt')] at h2
      have e0 : n - φ.length = 0 := by
        have := (List.getElem?_eq_some_iff.mp h1).1
        simp only [List.length_singleton] at this
        omega
      rw [← R.len] at h2
      rw [e0] at h1 h2
      cases h1
      cases h2
      exact ⟨vs, hp, DatL.mono ⟨[p], rfl⟩ (Same.refl _) _ _ hd⟩
end

/-! ### comprehensions -/
open Classical in
noncomputable def compF (c : Option (D × List D)) (m : FG) (ft : FT) (fe : FE) : List D → EnvD → Store → Res (List D)
  | [], _, S => if okC c S then .ok [] S else .stuck
  | d :: ds, ρ, S => if okC c S then (match m d ρ S with
    | some ρ1 => (ft ρ1 S).noEx.bind fun b S => if b then (fe ρ1 S).noEx.bind fun y S => (compF c m ft fe ds ρ S).bind fun ys S => .ok (y :: ys) S else compF c m ft fe ds ρ S
    | none => .stuck) else .stuck
def wipeD (ρ : EnvD) : List Nat → EnvD
  | [] => ρ
  | v :: vs => (wipeD ρ vs).set v none
theorem slots_wipe {K : PySem.W.Frag} {mg : Str → Option Value} {φ : List Addr} {G : Hp} {ρ : EnvD} {σ : L2.St} (h : Slots K mg φ G ρ σ) : ∀ vs : List Nat, Slots K mg φ G (wipeD ρ vs) (wipe σ vs)
  | [] => h
  | v :: vs => by
    obtain ⟨a, b⟩ := slots_wipe h vs
    unfold wipeD wipe
    refine ⟨by rw [List.length_set, List.length_set, a], fun i d q => ?_⟩
    by_cases hi : v = i
    · subst hi
      have hl := (List.getElem?_eq_some_iff.mp q).1
      rw [List.length_set] at hl
      rw [List.getElem?_set_self hl] at q
      cases q
    · rw [List.getElem?_set_ne hi] at q
      obtain ⟨u, h1, h2⟩ := b i d q
      exact ⟨u, by rw [List.getElem?_set_ne hi]; exact h1, h2⟩
abbrev Fin' := List D → Store → Res D
noncomputable def fComp (fi : FI) (m : FG) (ft : FT) (fe : FE) (own : List Nat) (fin : Fin') : FE := fun ρ S => (fi ρ S).bind fun it S => (compF it.chk m ft fe it.items (wipeD ρ own) S).bind fin
def finL : Fin' := fun ds S => if short ds.length then .ok (.lst ds) S else .stuck
/-- what an end must be -/
def FinOk (fin : Fin') : Prop := (∀ ds S, fin ds S ≠ .stuck → ds.length ≤ sizeLine) ∧ ∀ (K : PySem.W.Frag) (mg : Str → Option Value) (Z φ1 φ : List Addr) (S1 S : Store) (H1 H : Hp) (p : Addr) (ds : List D) (vs : List V) (Q : VK) (E : XK),
  Rel K mg (p :: Z) φ S H → Evo Z φ1 S1 H1 φ S H → H1 p = none → p ∉ Z → H p = some (.lst vs) → DatL K mg φ (gnd (p :: Z) φ S H) ds vs → Want K mg (RDat K mg) Z φ1 S1 H1 (fin ds S) Q E → Q (.ref p) H
theorem finL_ok : FinOk finL := by
  refine ⟨fun ds S h => ?_, fun K mg Z φ1 φ S1 S H1 H p ds vs Q E R e hp pZ hH hd w => ?_⟩
  · unfold finL at h
    by_cases q : short ds.length = true
    · exact of_decide_eq_true q
    · rw [if_neg q] at h
      exact absurd rfl h
  · unfold finL at w
    by_cases q : short ds.length = true
    · rw [if_pos q] at w
      refine w _ φ H R.unhide e ?_
      unfold RDat Dat
      refine ⟨p, vs, rfl, without_some.mpr ⟨fun z => ?_, hH⟩, DatL.mono (List.prefix_refl _) gnd_hide _ _ hd⟩
      rcases List.mem_append.mp z with z | z
      · exact pZ z
      · exact R.zd p (liveA_sub z) List.mem_cons_self
    · rw [if_neg q] at w
      exact w.elim
section
variable {X : Cx} {W : WX} {k : Nat}
theorem Want.noEx {α β : Type} {Z φ : List Addr} {S : Store} {H : Hp} {R : List Addr → Hp → α → β → Prop} {r : Res α} {Q : β → Hp → Prop} {E : XK} (hn : r.noEx ≠ .stuck)
    (f : ∀ a S1 b φ1 H1, r = .ok a S1 → Rel X.K X.mg Z φ1 S1 H1 → Evo Z φ S H φ1 S1 H1 → R φ1 (gnd Z φ1 S1 H1) a b → Q b H1) : Want X.K X.mg R Z φ S H r Q E := by
  cases r with
  | ok a S1 => exact fun b φ1 H1 r1 e1 d => f a S1 b φ1 H1 rfl r1 e1 d
  | _ => exact absurd rfl hn
theorem isE_lc {fi : FI} {is : List Nat} {m : FG} {ft : FT} {fe : FE} {own : List Nat} {fin : Fin'} (hf : FinOk fin) (hio : ∀ i ∈ is, i ∈ own) :
    IsE X W (tLc (tDI X.K X.mg W fi) (tG X.K X.mg is m) (tDT X.K X.mg W0 ft) (tD X.K X.mg W0 fe) own) (fComp fi m ft fe own fin) := fun Z φ S ρ σ H Q R sl w => by
  have wi : WantI X.K X.mg Z φ S H (fi ρ S) (fun J H1 => ∀ D, H1 D = none → ∃ W : Nat → Nat → Hp → Prop, (∃ m, W 0 m (upd H1 D (.lst []))) ∧ ∀ i mm H, W i mm H →
      (J.stop i H ∧ Q (.ref D) H) ∨ (J.go i H ∧ ∃ Nx : Hp → Prop, (∀ H', Nx H' → ∃ m', m' < mm ∧ W (i + 1) m' H') ∧ ∀ x H', J.yld i H x H' → tG X.K X.mg is m x (wipe σ own) H' fun σ2 H2 => wipe σ2 own = wipe σ own ∧ tDT X.K X.mg W0 ft σ2 H2 fun b H3 =>
        if b = true then tD X.K X.mg W0 fe σ2 H3 fun y H4 => ∃ acc, H4 D = some (.lst acc) ∧ acc.length < sizeLine ∧ Nx (upd H4 D (.lst (acc ++ [y]))) else Nx H3)) (WE W σ) := by
    have aux : ∀ it S1 J φ1 H1, Rel X.K X.mg Z φ1 S1 H1 → Evo Z φ S H φ1 S1 H1 → RI X.K X.mg Z φ1 S1 H1 it J → Want X.K X.mg (RDat X.K X.mg) Z φ1 S1 H1 ((compF it.chk m ft fe it.items (wipeD ρ own) S1).bind fin) Q (WE W σ) →
        ∀ D, H1 D = none → ∃ W : Nat → Nat → Hp → Prop, (∃ m, W 0 m (upd H1 D (.lst []))) ∧ ∀ i mm H, W i mm H →
      (J.stop i H ∧ Q (.ref D) H) ∨ (J.go i H ∧ ∃ Nx : Hp → Prop, (∀ H', Nx H' → ∃ m', m' < mm ∧ W (i + 1) m' H') ∧ ∀ x H', J.yld i H x H' → tG X.K X.mg is m x (wipe σ own) H' fun σ2 H2 => wipe σ2 own = wipe σ own ∧ tDT X.K X.mg W0 ft σ2 H2 fun b H3 =>
        if b = true then tD X.K X.mg W0 fe σ2 H3 fun y H4 => ∃ acc, H4 D = some (.lst acc) ∧ acc.length < sizeLine ∧ Nx (upd H4 D (.lst (acc ++ [y]))) else Nx H3) := by
      intro it S1 J φ1 H1 R1 E1 rj w1 p hp
      have pZ : p ∉ Z := fun q => R1.zh p q hp
      let Inv' : Nat → Hp → Prop := fun i H' => ∃ φ' S' acc vs, Rel X.K X.mg (p :: Z) φ' S' H' ∧ Evo Z φ1 S1 H1 φ' S' H' ∧ H' p = some (.lst vs) ∧ DatL X.K X.mg φ' (gnd (p :: Z) φ' S' H') acc vs ∧
        Want X.K X.mg (RDat X.K X.mg) Z φ1 S1 H1 ((compF it.chk m ft fe (it.items.drop i) (wipeD ρ own) S').bind fun ys S => fin (acc ++ ys) S) Q (WE W σ)
      refine ⟨fun i n H' => n = it.items.length - i ∧ i ≤ it.items.length ∧ Inv' i H', ⟨_, rfl, Nat.zero_le _, φ1, S1, [], [], R1.hidden hp, ?_, upd_same, DatL.nil, w1⟩, ?_⟩
      · exact (Evo.refl (Z := Z) (φ := φ1) (S := S1) (H := H1)).hidMut hp
      rintro i n H2 ⟨rfl, hle, φ2, S2, acc, vs, R2, E2, hH2, dv, w2⟩
      have slw : Slots X.K X.mg φ2 (gnd (p :: Z) φ2 S2 H2) (wipeD ρ own) (wipe σ own) := by
        refine slots_wipe ⟨sl.1, fun j d q => ?_⟩ own
        obtain ⟨u, h1, h2⟩ := sl.2 j d q
        exact ⟨u, h1, Dat.mono (E1.pre.trans E2.pre) (E1.ext.trans (E2.hideExt hp)) _ _ h2⟩
      by_cases hlt : i < it.items.length
      · obtain ⟨d, hd⟩ : ∃ d, it.items[i]? = some d := ⟨_, List.getElem?_eq_getElem hlt⟩
        have hdr : it.items.drop i = d :: it.items.drop (i + 1) := by
          rw [List.drop_eq_getElem_cons hlt]
          congr 1
          rw [List.getElem?_eq_getElem hlt] at hd
          exact Option.some.inj hd
        rw [hdr] at w2
        unfold compF at w2
        by_cases hc : okC it.chk S2
        · rw [if_pos hc] at w2
          have rr := (rj i (p :: Z) φ2 S2 H2 (fun _ h => List.mem_cons_of_mem _ h) R2 E2.pre (E2.hideExt hp) hc).1 d hd
          refine .inr ⟨rr.1, Inv' (i + 1), fun H' hN => ⟨_, by omega, rfl, hlt, hN⟩, fun x H3 y => ?_⟩
          obtain ⟨R3, E3, d3⟩ := rr.2 x H3 y
          cases hm : m d (wipeD ρ own) S2 with
          | none => rw [hm] at w2; exact w2.elim
          | some ρ3 =>
            simp only [hm] at w2
            refine ⟨p :: Z, φ2, S2, wipeD ρ own, d, ρ3, R3, slw.evo E3, d3, hm, fun σ3 sl3 hw => ⟨?_, p :: Z, φ2, S2, ρ3, R3, sl3, ?_⟩⟩
            · rw [hw own hio]
              have ww : ∀ vs : List Nat, (∀ i ∈ vs, i ∈ own) → wipe (wipe σ own) vs = wipe σ own := by
                intro vs
                induction vs with
                | nil => intro _; rfl
                | cons v vs ih =>
                  intro hv
                  show (wipe (wipe σ own) vs).set v none = wipe σ own
                  rw [ih fun i hi => hv i (List.mem_cons_of_mem _ hi)]
                  have hv' := hv v List.mem_cons_self
                  have gen : ∀ own : List Nat, v ∈ own → (wipe σ own).set v none = wipe σ own := by
                    intro own
                    induction own with
                    | nil => intro h; simp at h
                    | cons u us ih2 =>
                      intro h
                      unfold wipe
                      by_cases hu : v = u
                      · subst hu
                        rw [List.set_set]
                      · rw [List.set_comm _ _ (fun z => hu z.symm), ih2 ((List.mem_cons.mp h).resolve_left hu)]
                  exact gen own hv'
              exact ww own fun _ h => h
            have ev2 : Evo Z φ1 S1 H1 φ2 S2 H3 := E2.hide hp E3
            have stuckT : (ft ρ3 S2).noEx ≠ .stuck := fun z => by
              rw [z] at w2
              exact w2
            refine Want.noEx stuckT fun b S4 b' φ4 H4 hb R4 E4 eb => ?_
            cases eb
            rw [hb] at w2
            simp only [Res.noEx_ok, Res.bind_ok] at w2
            have ev4 := ev2.hide hp E4
            have hp3 : H3 p = some (.lst vs) := E3.out p _ hH2 fun q => R2.zd p (liveA_sub q) List.mem_cons_self
            have hp4 : H4 p = some (.lst vs) := E4.out p _ hp3 fun q => R3.zd p (liveA_sub q) List.mem_cons_self
            have dv4 := DatL.evo E4 (DatL.evo E3 dv)
            cases b with
            | false =>
              exact iteF ⟨φ4, S4, acc, vs, R4, ev4, hp4, dv4, w2⟩
            | true =>
              simp only [if_true] at w2
              refine iteT ⟨p :: Z, φ4, S4, ρ3, R4, sl3.evo E4, ?_⟩
              have stuckE : (fe ρ3 S4).noEx ≠ .stuck := fun z => by
                rw [z] at w2
                exact w2
              refine Want.noEx stuckE fun yd S5 yv φ5 H5 hy R5 E5 dy => ?_
              rw [hy] at w2
              simp only [Res.noEx_ok, Res.bind_ok] at w2
              have hp5 : H5 p = some (.lst vs) := E5.out p _ hp4 fun q => R4.zd p (liveA_sub q) List.mem_cons_self
              have dv5 := DatL.evo E5 dv4
              obtain ⟨R6, eg⟩ := R5.hidMut (o := .lst (vs ++ [yv]))
              have w3 : Want X.K X.mg (RDat X.K X.mg) Z φ1 S1 H1 ((compF it.chk m ft fe (it.items.drop (i + 1)) (wipeD ρ own) S5).bind fun ys S => fin ((acc ++ [yd]) ++ ys) S) Q (WE W σ) := by
                cases hq : compF it.chk m ft fe (it.items.drop (i + 1)) (wipeD ρ own) S5 with
                | ok ys S7 =>
                  rw [hq] at w2
                  simp only [Res.bind_ok] at w2 ⊢
                  rw [List.append_assoc]
                  exact w2
                | _ => rw [hq] at w2; exact w2
              refine ⟨vs, hp5, ?_, φ5, S5, acc ++ [yd], vs ++ [yv], R6, (ev4.hide hp E5).hidMut hp, upd_same, by rw [eg]; exact dv5.append (.cons dy DatL.nil), w3⟩
              cases hq : compF it.chk m ft fe (it.items.drop (i + 1)) (wipeD ρ own) S5 with
              | ok ys S7 =>
                rw [hq] at w3
                have ns : fin ((acc ++ [yd]) ++ ys) S7 ≠ .stuck := fun z => by
                  simp only [Res.bind_ok, z] at w3
                  exact w3
                have hl := hf.1 _ _ ns
                rw [dv5.length]
                simp only [List.length_append, List.length_singleton] at hl
                omega
              | ex C fs S7 =>
                exfalso
                have : ∀ (ds : List D) (ρ : EnvD) (S : Store) C fs S', compF it.chk m ft fe ds ρ S ≠ .ex C fs S' := by
                  intro ds
                  induction ds with
                  | nil =>
                    intro ρ S C fs S' z
                    unfold compF at z
                    split at z <;> cases z
                  | cons d ds ih =>
                    intro ρ S C fs S' z
                    unfold compF at z
                    split at z
                    · split at z
                      · rename_i ρ1 _
                        cases h1 : ft ρ1 S with
                        | ok b S2 =>
                          rw [h1] at z
                          simp only [Res.noEx_ok, Res.bind_ok] at z
                          cases b with
                          | false => exact ih _ _ _ _ _ z
                          | true =>
                            simp only [if_true] at z
                            cases h2 : fe ρ1 S2 with
                            | ok y S3 =>
                              rw [h2] at z
                              simp only [Res.noEx_ok, Res.bind_ok] at z
                              cases h3 : compF it.chk m ft fe ds ρ S3 with
                              | ex _ _ _ => exact ih _ _ _ _ _ h3
                              | _ => rw [h3] at z; cases z
                            | _ => rw [h2] at z; cases z
                        | _ => rw [h1] at z; cases z
                      · cases z
                    · cases z
                exact this _ _ _ _ _ _ hq
              | stuck =>
                rw [hq] at w3
                exact w3.elim
        · rw [if_neg hc] at w2
          exact w2.elim
      · have e : i = it.items.length := by omega
        subst e
        rw [List.drop_length] at w2
        unfold compF at w2
        by_cases hc : okC it.chk S2
        · rw [if_pos hc] at w2
          simp only [Res.bind_ok, List.append_nil] at w2
          exact .inl ⟨(rj _ (p :: Z) φ2 S2 H2 (fun _ h => List.mem_cons_of_mem _ h) R2 E2.pre (E2.hideExt hp) hc).2 (Nat.le_refl _), hf.2 X.K X.mg Z φ1 φ2 S1 S2 H1 H2 p acc vs Q _ R2 E2 hp pZ hH2 dv w2⟩
        · rw [if_neg hc] at w2
          exact w2.elim
    unfold fComp at w
    cases hr : fi ρ S with
    | ok it S1 =>
      rw [hr] at w
      exact fun J φ1 H1 R1 E1 rj => aux it S1 J φ1 H1 R1 E1 rj (w.go E1)
    | ex C fs S1 => rw [hr] at w; exact w
    | stuck => rw [hr] at w; exact w
  exact ⟨Z, φ, S, ρ, R, sl, wi⟩

/-! tests of a comprehension -/
def DTs (X : Cx) (W : WX) (ifs : List Expr) (ft : FT) : Prop := PTs X ifs (tDT X.K X.mg W ft)
def fYes : FT := fun _ S => .ok true S
theorem dts_nil : DTs X W [] fYes := ⟨fun pins s σ H Q I h => by
  obtain ⟨Z, φ, S, ρ, R, sl, w⟩ := h
  exact pts_nil.run pins s σ H Q I (w.now R rfl)⟩
theorem dts_one {c : Expr} {ft : FT} (h : DT X W c ft) : DTs X W [c] ft := pts_one h
theorem Cn.blk (C : Cn X W k) {s : Shared} {H : Hp} {scope : Scope} {ce : Env} {fp : List Addr} : Cn (X.blk s H scope ce fp) W0 k :=
  ⟨C.room, C.gd, C.calm, C.nd, PassesOwn.never, takes0N⟩
theorem de_lc (C : Cn X W k) {fin : Fin'} (hf : FinOk fin) {elt tg iter : Expr} {ifs : List Expr} {scope : Scope} {own : List (Str × Nat)} {pos : Pos} {fi : FI} {is : List Nat} {m : FG} {ft : FT} {fe : FE} (hi : DI X W tg iter fi) (ok : BlkOk X.N X.env.scope scope own)
    (hg : ∀ (s : Shared) (H : Hp) (C : Addr) (cl : List (Str × Addr)) (fp : List Addr), DG (X.blk s H scope (compEnvC scope cl C X.env) fp) tg is m) (ht : ∀ (s : Shared) (H : Hp) (C : Addr) (cl : List (Str × Addr)) (fp : List Addr), DTs (X.blk s H scope (compEnvC scope cl C X.env) fp) W0 ifs ft)
    (he : ∀ (s : Shared) (H : Hp) (C : Addr) (cl : List (Str × Addr)) (fp : List Addr), DE (X.blk s H scope (compEnvC scope cl C X.env) fp) W0 elt fe) (hio : ∀ i ∈ is, i ∈ own.map (·.2) := by decide) (hs : ∀ x, foldedSetIterable iter X.env x = pure x := by intro _; rfl) :
    DE X W (.ListComp elt [⟨tg, iter, ifs, 0⟩] scope pos) (fComp fi m ft fe (own.map (·.2)) fin) :=
  .mk (pe_lc (g := tG X.K X.mg is m) (tt := tDT X.K X.mg W0 ft) (te := tD X.K X.mg W0 fe) C.calm C.nd hi ok hg ht he hs) (isE_lc hf hio)
theorem ds_setOf {t : TE} {fe : FE} {e : Expr} {x : Str} {i : Nat} {pos pos' : Pos} (p : PS X (.Assign [.Name x pos'] e pos) (tAsg t (L2.gName i))) (q : IsE X W t fe) : DS X W (.Assign [.Name x pos'] e pos) (gSet i fe) :=
  .mk p fun Z φ S ρ σ H Dd R sl w => q Z φ S ρ σ H _ R sl (w.into sl fun d S1 v φ1 H1 R1 E1 dd w1 => w1 _ φ1 H1 R1 Evo.refl ((sl.evo E1).set dd))
theorem ds_setLc (C : Cn X W k) {fin : Fin'} (hf : FinOk fin) {i : Nat} {y : Str} {py spos : Pos} {elt tg iter : Expr} {ifs : List Expr} {scope : Scope} {own : List (Str × Nat)} {pos : Pos} {fi : FI} {is : List Nat} {m : FG} {ft : FT} {fe : FE} (hy : X.N[i]? = some y) (hyl : X.env.scope.names.lookup y = some .local)
    (hsw : swapsWith (.ListComp elt [⟨tg, iter, ifs, 0⟩] scope pos) (some (.Name y py)) spos.line X.env = pure true) (hi : DI X W tg iter fi) (ok : BlkOk X.N X.env.scope scope own)
    (hg : ∀ (s : Shared) (H : Hp) (C : Addr) (cl : List (Str × Addr)) (fp : List Addr), DG (X.blk s H scope (compEnvC scope cl C X.env) fp) tg is m) (ht : ∀ (s : Shared) (H : Hp) (C : Addr) (cl : List (Str × Addr)) (fp : List Addr), DTs (X.blk s H scope (compEnvC scope cl C X.env) fp) W0 ifs ft)
    (he : ∀ (s : Shared) (H : Hp) (C : Addr) (cl : List (Str × Addr)) (fp : List Addr), DE (X.blk s H scope (compEnvC scope cl C X.env) fp) W0 elt fe) (hio : ∀ i ∈ is, i ∈ own.map (·.2) := by decide) (hs : ∀ x, foldedSetIterable iter X.env x = pure x := by intro _; rfl) :
    DS X W (.Assign [.Name y py] (.ListComp elt [⟨tg, iter, ifs, 0⟩] scope pos) spos) (gSet i (fComp fi m ft fe (own.map (·.2)) fin)) :=
  ds_setOf (ps_setLc (g := tG X.K X.mg is m) (tt := tDT X.K X.mg W0 ft) (te := tD X.K X.mg W0 fe) C.calm C.nd hy hyl hsw hi ok hg ht he hs) (isE_lc hf hio)
end

/-! ### defs -/
/-- a def's promise; what is under way around it is known -/
structure FnG (P : Program) (w : World) (K : PySem.W.Frag) (mg : Str → Option Value) (base : Heap) (k : Nat) (f : Addr) (fd : FuncData) (ps : List Str) (sp : Sp) : Prop where
  len : ∀ vs H Q E, sp vs H Q E → vs.length = ps.length
  run : ∀ (A : Around) (outer : List Env) (s : Shared) (H : Hp) (args : Args) (us : List Value) (vs : List V) (Q : VK) (E : XK), Room k A → A.guards = some [] → Env0 P w K mg base A outer s H → BindsTo s fd args (ps.zip us) → Vals vs us → sp vs H Q E →
    codeAny (model P w) A (.call (.ref f) args) (CR (L2N.CX P w) outer P w H s Q E) s
abbrev Sem' := List D → Store → Res D
def spD (K : PySem.W.Frag) (mg : Str → Option Value) (n : Nat) (sem : Sem') : Sp := fun vs H Q E => vs.length = n ∧ ∃ Z φ S ds, Rel K mg Z φ S H ∧ DatL K mg φ (gnd Z φ S H) ds vs ∧ Want K mg (RDat K mg) Z φ S H (sem ds S) Q E
def startD (n : Nat) (ds : List D) : EnvD := ds.map some ++ List.replicate (n - ds.length) none
def Out.res (o : Out) : Res D := match o with
  | .nx _ S => .ok .non S
  | .rt d S => .ok d S
  | .ex C fs _ S => .ex C fs S
  | _ => .stuck
def semOf (n : Nat) (g : FS) : Sem' := fun ds S => (g (startD n ds) S).res
theorem slots_start {K : PySem.W.Frag} {mg : Str → Option Value} {φ : List Addr} {G : Hp} {N : List Str} {ds : List D} {vs : List V} (h : DatL K mg φ G ds vs) : Slots K mg φ G (startD N.length ds) (L2.start N vs) := by
  have hl := h.length
  unfold startD L2.start
  rw [hl]
  refine ⟨by simp [hl], fun i d q => ?_⟩
  by_cases hi : i < ds.length
  · rw [List.getElem?_append_left (by simpa using hi), List.getElem?_map] at q
    cases hq : ds[i]? with
    | none => rw [hq] at q; cases q
    | some e =>
      rw [hq] at q
      cases q
      obtain ⟨v, h1, h2⟩ := h.get hq
      exact ⟨v, by rw [List.getElem?_append_left (by simpa [hl] using hi), List.getElem?_map, h1]; rfl, h2⟩
  · rw [List.getElem?_append_right (by simpa using hi), List.getElem?_replicate] at q
    split at q <;> cases q
/-- THE RULE: a def by its body's mirror -/
theorem fnG {P : Program} {w : World} {K : PySem.W.Frag} {mg : Str → Option Value} {base : Heap} {x qual : Str} {params : Arguments} {body : List Stmt} {scope : Scope} {dvs : List V} {kws : List (Str × V)} {f : Addr} {fd : FuncData} {N ps : List Str} {k : Nat} {g : FS}
    (F : FunD K x qual params body scope dvs kws f fd) (S : FnScope N ps scope)
    (hb : ∀ (cdv : Value) (A : Around) (outer : List Env) (s : Shared) (H : Hp) (E : XK), Cn (cxOf (L2N.CX P w) P w K mg base N qual scope f cdv A outer s H E) (fun c d _ H' => E c d H') k →
      DSs (cxOf (L2N.CX P w) P w K mg base N qual scope f cdv A outer s H E) (fun c d _ H' => E c d H') body g) : FnG P w K mg base (k + 1) f fd ps (spD K mg ps.length (semOf N.length g)) := by
  obtain ⟨oc, od, dV, kV, doc, pm, an, cdv, ct, osl, rfl, lk, hcd, _, _⟩ := F.ex
  refine ⟨fun vs H Q E h => h.1, fun A outer s H args us vs Q E hr hgd e0 hbd r hsp => ?_⟩
  have hl : us.length = ps.length := r.length.symm.trans hsp.1
  have keep : ∀ b o, base.get? b = some o → s.heap.get? b = some o := fun b o e => (e0.bs b o e).1
  have inK : K.In s.heap := e0.mod.kin.keeps keep
  have par : ∀ y ∈ ps.zip us, scope.names.lookup y.1 = some .local ∨
      (scope.names.lookup y.1 = some .cell ∧ ((cellsFrom (s.heap.objs.size + 1) scope.names []).lookup y.1).isSome = true) := by
    rintro ⟨n, v⟩ hy
    exact (S.par n (List.of_mem_zip hy).1).imp id fun q => ⟨q, PySem.W.cellsFrom_some _ _ _ (.inl q)⟩
  refine codeAny_call_function hr.depth (inK _ _ lk) rfl S.co S.gen rfl
    (PySem.W.codeRec_of inK hcd) (hbd _ _ _ _ ?_)
  refine wpAny_newFunctionEnv_cells S.kind par fun env he s1 entered => ?_
  subst he
  refine ⟨(e0.mod.nolimit.keeps keep).keeps entered.toInCall.keep, codeAny_func ?_⟩
  -- the body's own context
  have body' := hb cdv A outer s H E ⟨hr.deeper _, hgd, rfl, S.nd, passes_of rfl, L2N.takes_of rfl rfl rfl rfl⟩
  obtain ⟨hlen, Z, φ, S0, ds, R, dl, w0⟩ := hsp
  have I0 := inv_start (CX := L2N.CX P w) (mg := mg) (base := base) (cd := cdv) (qual := qual) (f := f) (E := E) S hr.hd e0 hlen r entered
  have q0 : tDS (cxOf (L2N.CX P w) P w K mg base N qual scope f cdv A outer s H E) (fun c d _ H' => E c d H') g { nx := fun _ H' => Q .non H', rt := Q } (L2.start N vs) H := by
    refine ⟨Z, φ, S0, startD N.length ds, R, slots_start dl, ?_⟩
    unfold semOf at w0
    cases hg : g (startD N.length ds) S0 with
    | nx ρ S1 =>
      rw [hg] at w0
      exact fun σ φ1 H1 R1 E1 _ => w0 .non φ1 H1 R1 E1 (by unfold RDat Dat; rfl)
    | rt d S1 =>
      rw [hg] at w0
      exact w0
    | ex C fs ρ S1 =>
      rw [hg] at w0
      exact fun A1 dx σ φ1 H1 m R1 E1 _ x => w0 A1 dx φ1 H1 m R1 E1 x
    | _ =>
      rw [hg] at w0
      exact w0.elim
  refine wpAny_mono (PSs.run body' [] s1 (L2.start N vs) H _ I0 q0) (fun fl s' hs => ?_) fun _ _ z => z
  have fin : ∀ {σ' : L2.St} {H' : Hp} {v : V} {u : Value}, Inv (cxOf (L2N.CX P w) P w K mg base N qual scope f cdv A outer s H E) [] σ' H' s' → RelV v u →
      Q v H' → CE outer P w H s Q u s' := fun J rv q => ⟨_, _, J.os, J.bare, J.base, J.hok, rv, q⟩
  cases fl with
  | ret u =>
    obtain ⟨v, σ', H', J, rv, q⟩ := hs
    exact fin J rv q
  | next =>
    obtain ⟨σ', H', J, q⟩ := hs
    exact fin (v := .non) J rfl q
  | brk => exact hs.choose_spec.choose_spec.2.elim
  | cont => exact hs.choose_spec.choose_spec.2.elim
end DL

/-! The data layer, part 6: calls. -/
namespace DL
open PySem L2

/-! ### data without objects of the store -/
mutual
def D.pure : D → Bool
  | .oid _ => false
  | .tup ds => pureL ds
  | .lst ds => pureL ds
  | .scr ds => pureL ds
  | .dic ks => pureK ks
  | .ins _ fs => pureF fs
  | .exc _ fs => pureF fs
  | _ => true
def pureL : List D → Bool
  | [] => true
  | d :: ds => d.pure && pureL ds
def pureK : List (Key × D) → Bool
  | [] => true
  | (_, d) :: ds => d.pure && pureK ds
def pureF : List (Str × D) → Bool
  | [] => true
  | (_, d) :: ds => d.pure && pureF ds
end
section
variable {K : PySem.W.Frag} {mg : Str → Option Value} {φ φ' : List Addr} {G : Hp}
mutual
theorem Dat.pure : ∀ {d : D} {v : V}, d.pure = true → Dat K mg φ G d v → Dat K mg φ' G d v
  | .non, _, _, h => h
  | .bl _, _, _, h => h
  | .int _, _, _, h => h
  | .str _, _, _, h => h
  | .ty _, _, _, h => h
  | .tup ds, _, p, h => by
    unfold Dat at h ⊢
    unfold D.pure at p
    obtain ⟨a, vs, rfl, h1, h2⟩ := h
    exact ⟨a, vs, rfl, h1, DatL.pure p h2⟩
  | .lst ds, _, p, h => by
    unfold Dat at h ⊢
    unfold D.pure at p
    obtain ⟨a, vs, rfl, h1, h2⟩ := h
    exact ⟨a, vs, rfl, h1, DatL.pure p h2⟩
  | .scr ds, _, p, h => by
    unfold Dat at h ⊢
    unfold D.pure at p
    obtain ⟨a, vs, rfl, h1, h2⟩ := h
    exact ⟨a, vs, rfl, h1, DatL.pure p h2⟩
  | .cls c, _, _, h => by
    unfold Dat at h ⊢
    exact h
  | .dic ks, _, p, h => by
    unfold Dat at h ⊢
    unfold D.pure at p
    obtain ⟨a, vs, rfl, h1, h2⟩ := h
    exact ⟨a, vs, rfl, h1, DatK.pure p h2⟩
  | .ins C fs, _, p, h => by
    unfold Dat at h ⊢
    unfold D.pure at p
    obtain ⟨a, A, dx, fvs, rfl, h0, h1, h2⟩ := h
    exact ⟨a, A, dx, fvs, rfl, h0, h1, DatF.pure p h2⟩
  | .oid n, _, p, h => by
    unfold D.pure at p
    cases p
  | .exc C fs, _, p, h => by
    unfold Dat at h ⊢
    unfold D.pure at p
    obtain ⟨a, A, dx, rfl, h0, h1, h2⟩ := h
    exact ⟨a, A, dx, rfl, h0, h1, h2.imp id fun ⟨z, b, fvs, q0, q1, q2⟩ => ⟨z, b, fvs, q0, q1, DatF.pure p q2⟩⟩
theorem DatL.pure : ∀ {ds : List D} {vs : List V}, pureL ds = true → DatL K mg φ G ds vs → DatL K mg φ' G ds vs
  | [], _, _, h => by
    unfold DatL at h ⊢
    exact h
  | d :: ds, _, p, h => by
    unfold DatL at h ⊢
    unfold pureL at p
    rw [Bool.and_eq_true] at p
    obtain ⟨v, r, rfl, h1, h2⟩ := h
    exact ⟨v, r, rfl, Dat.pure p.1 h1, DatL.pure p.2 h2⟩
theorem DatK.pure : ∀ {ds : List (Key × D)} {vs : List (Key × V)}, pureK ds = true → DatK K mg φ G ds vs → DatK K mg φ' G ds vs
  | [], _, _, h => by
    unfold DatK at h ⊢
    exact h
  | (k, d) :: ds, _, p, h => by
    unfold DatK at h ⊢
    unfold pureK at p
    rw [Bool.and_eq_true] at p
    obtain ⟨v, r, rfl, h1, h2⟩ := h
    exact ⟨v, r, rfl, Dat.pure p.1 h1, DatK.pure p.2 h2⟩
theorem DatF.pure : ∀ {ds : List (Str × D)} {vs : List (Str × V)}, pureF ds = true → DatF K mg φ G ds vs → DatF K mg φ' G ds vs
  | [], _, _, h => by
    unfold DatF at h ⊢
    exact h
  | (k, d) :: ds, _, p, h => by
    unfold DatF at h ⊢
    unfold pureF at p
    rw [Bool.and_eq_true] at p
    obtain ⟨v, r, rfl, h1, h2⟩ := h
    exact ⟨v, r, rfl, Dat.pure p.1 h1, DatF.pure p.2 h2⟩
end
end
def SO.pure : SO → Bool
  | .lst ds => pureL ds
  | .dic ks => pureK ks
  | .ins _ fs => pureF fs
  | .frz d => d.pure
  | .tbl _ _ => false
  | .dkt _ => false
theorem SOk.pure {K : PySem.W.Frag} {mg : Str → Option Value} {φ φ' : List Addr} {G H : Hp} {a : Addr} : ∀ {o : SO}, o.pure = true → SOk K mg φ G H a o → SOk K mg φ' G H a o
  | .lst ds, p, ⟨vs, h1, h2⟩ => ⟨vs, h1, h2.pure p⟩
  | .dic ks, p, ⟨vs, h1, h2⟩ => ⟨vs, h1, h2.pure p⟩
  | .ins C fs, p, ⟨A, dx, fvs, h0, h1, h2⟩ => ⟨A, dx, fvs, h0, h1, h2.pure p⟩
  | .frz d, p, h => Dat.pure p h
  | .tbl _ _, p, _ => nomatch p
  | .dkt _, p, _ => nomatch p

/-! ### a call with the objects that it is handed, and no others -/
def subArgs (S : Store) : List D → Nat → Option (List D × List Nat)
  | [], _ => some ([], [])
  | .oid k :: ds, n => match S[k]? with
    | some (.frz d) => if d.pure then (subArgs S ds n).map fun q => (d :: q.1, q.2) else none
    | some o => if o.pure then (subArgs S ds (n + 1)).map fun q => (.oid n :: q.1, k :: q.2) else none
    | none => none
  | d :: ds, n => if d.pure then (subArgs S ds n).map fun q => (d :: q.1, q.2) else none
def putBack (S : Store) : List Nat → Store → Store
  | k :: ks, o :: Sc => putBack (S.set k o) ks Sc
  | _, _ => S
def subOf (S : Store) (ks : List Nat) : Store := ks.map fun k => S.getD k (.frz .non)
def callSub (sem : Sem') : Sem' := fun args S => match subArgs S args 0 with
  | some (args', ks) => if ks.Nodup then (match sem args' (subOf S ks) with
    | .ok d Sc => if d.pure && ((Sc.take ks.length).all SO.pure && decide (ks.length ≤ Sc.length)) then .ok d (putBack S ks Sc) else .stuck
    | .ex C fs Sc => if pureF fs && ((Sc.take ks.length).all SO.pure && decide (ks.length ≤ Sc.length)) then .ex C fs (putBack S ks Sc) else .stuck
    | .stuck => .stuck) else .stuck
  | none => .stuck
theorem putBack_length : ∀ (ks : List Nat) (S Sc : Store), (putBack S ks Sc).length = S.length
  | [], _, _ => by simp [putBack]
  | k :: ks, S, [] => rfl
  | k :: ks, S, o :: Sc => by unfold putBack; rw [putBack_length, List.length_set]
theorem putBack_out : ∀ (ks : List Nat) (S Sc : Store) (n : Nat), n ∉ ks → (putBack S ks Sc)[n]? = S[n]?
  | [], _, _, _, _ => by simp [putBack]
  | k :: ks, S, [], _, _ => rfl
  | k :: ks, S, o :: Sc, n, h => by
    simp only [List.mem_cons, not_or] at h
    unfold putBack
    rw [putBack_out ks _ _ n h.2, List.getElem?_set_ne (fun z => h.1 z.symm)]
theorem putBack_in : ∀ (ks : List Nat) (S Sc : Store) (j n : Nat) (o : SO), ks.Nodup → ks[j]? = some n → n < S.length → Sc[j]? = some o → (putBack S ks Sc)[n]? = some o
  | [], _, _, _, _, _, _, h, _, _ => by cases h
  | k :: ks, S, [], _, _, _, _, _, _, h => by cases h
  | k :: ks, S, u :: Sc, 0, n, o, nd, h1, h2, h3 => by
    cases h1
    cases h3
    unfold putBack
    rw [putBack_out ks _ _ _ (List.nodup_cons.mp nd).1, List.getElem?_set_self h2]
  | k :: ks, S, u :: Sc, j + 1, n, o, nd, h1, h2, h3 => by
    unfold putBack
    exact putBack_in ks _ _ j n o (List.nodup_cons.mp nd).2 h1 (by rw [List.length_set]; exact h2) h3
section
variable {K : PySem.W.Frag} {mg : Str → Option Value} {Z φ : List Addr} {S : Store} {H : Hp}
def phiOf (φ : List Addr) (ks : List Nat) : List Addr := ks.map fun k => φ.getD k 0
theorem subArgs_ok (R : Rel K mg Z φ S H) : ∀ (ds : List D) (vs : List V) (n : Nat) (ds' : List D) (ks : List Nat) (pre : List Addr), pre.length = n → subArgs S ds n = some (ds', ks) → DatL K mg φ (gnd Z φ S H) ds vs →
    DatL K mg (pre ++ phiOf φ ks) (gnd Z φ S H) ds' vs ∧ ∀ k ∈ ks, ∃ o, S[k]? = some o ∧ o.pure = true ∧ o.live = true
  | [], vs, n, ds', ks, pre, hp, e, h => by
    cases e
    unfold DatL at h
    subst h
    exact ⟨DatL.nil, fun k hk => by simp at hk⟩
  | d :: ds, vs, n, ds', ks, pre, hp, e, h => by
    obtain ⟨v, r, rfl, h1, h2⟩ := h.uncons
    have plain : ∀ d' : D, d'.pure = true → Dat K mg φ (gnd Z φ S H) d' v → (subArgs S ds n).map (fun q => (d' :: q.1, q.2)) = some (ds', ks) →
        DatL K mg (pre ++ phiOf φ ks) (gnd Z φ S H) ds' (v :: r) ∧ ∀ k ∈ ks, ∃ o, S[k]? = some o ∧ o.pure = true ∧ o.live = true := fun d' p hd q => by
      cases hq : subArgs S ds n with
      | none => rw [hq] at q; cases q
      | some t =>
        rw [hq] at q
        cases q
        obtain ⟨a, b⟩ := subArgs_ok R ds r n t.1 t.2 pre hp hq h2
        exact ⟨.cons (Dat.pure p hd) a, b⟩
    cases d with
    | oid k =>
      unfold subArgs at e
      unfold Dat at h1
      obtain ⟨a, rfl, ha⟩ := h1
      cases hS : S[k]? with
      | none => simp [hS] at e
      | some o =>
        have ok := R.ob k a o ha hS
        have live : o.live = true → (if o.pure then (subArgs S ds (n + 1)).map (fun q => (D.oid n :: q.1, k :: q.2)) else none) = some (ds', ks) →
            DatL K mg (pre ++ phiOf φ ks) (gnd Z φ S H) ds' (.ref a :: r) ∧ ∀ k ∈ ks, ∃ o, S[k]? = some o ∧ o.pure = true ∧ o.live = true := fun hl q => by
          by_cases hp' : o.pure = true
          · rw [if_pos hp'] at q
            cases hq : subArgs S ds (n + 1) with
            | none => rw [hq] at q; cases q
            | some t =>
              rw [hq] at q
              cases q
              obtain ⟨A, B⟩ := subArgs_ok R ds r (n + 1) t.1 t.2 (pre ++ [a]) (by simp [hp]) hq h2
              have ea : φ.getD k 0 = a := by rw [List.getD_eq_getElem?_getD, ha]; rfl
              have ep : pre ++ phiOf φ (k :: t.2) = (pre ++ [a]) ++ phiOf φ t.2 := by
                unfold phiOf
                rw [List.map_cons, ea, List.append_assoc]
                rfl
              rw [ep]
              refine ⟨.cons ?_ A, fun j hj => ?_⟩
              · unfold Dat
                refine ⟨a, rfl, ?_⟩
                rw [List.append_assoc, List.getElem?_append_right (by omega), hp, Nat.sub_self]
                rfl
              · rcases List.mem_cons.mp hj with z | z
                · rw [z]
                  exact ⟨o, hS, hp', hl⟩
                · exact B j z
          · rw [if_neg hp'] at q
            cases q
        rw [hS] at e
        cases o with
        | frz d' =>
          simp only at e
          by_cases p : d'.pure = true
          · rw [if_pos p] at e
            exact plain d' p ok e
          · rw [if_neg p] at e
            cases e
        | _ => exact live rfl e
    | _ =>
      unfold subArgs at e
      split at e
      · rename_i p
        exact plain _ p h1 e
      · cases e

theorem rel_get (R : Rel K mg Z φ S H) {k : Nat} {o : SO} (h : S[k]? = some o) : ∃ a, φ[k]? = some a ∧ φ.getD k 0 = a := by
  have hl := (List.getElem?_eq_some_iff.mp h).1
  refine ⟨φ[k]'(by rw [R.len]; exact hl), List.getElem?_eq_getElem _, ?_⟩
  rw [List.getD_eq_getElem?_getD, List.getElem?_eq_getElem (by rw [R.len]; exact hl)]
  rfl
/-- the hidden ones of a call -/
def hidOf (Z φ : List Addr) (S : Store) (ks : List Nat) : List Addr := Z ++ (liveA φ S).filter fun a => decide (a ∉ phiOf φ ks)
theorem phiOf_get {ks : List Nat} {j k : Nat} (h : ks[j]? = some k) : (phiOf φ ks)[j]? = some (φ.getD k 0) := by
  unfold phiOf
  rw [List.getElem?_map, h]
  rfl
theorem subOf_get {ks : List Nat} {j k : Nat} {o : SO} (h : ks[j]? = some k) (hS : S[k]? = some o) : (subOf S ks)[j]? = some o := by
  unfold subOf
  rw [List.getElem?_map, h, Option.map_some, List.getD_eq_getElem?_getD, hS]
  rfl
theorem sub_mem (R : Rel K mg Z φ S H) {ks : List Nat} (nd : ks.Nodup) (hk : ∀ k ∈ ks, ∃ o, S[k]? = some o ∧ o.pure = true ∧ o.live = true) (a : Addr) : a ∈ hidOf Z φ S ks ++ liveA (phiOf φ ks) (subOf S ks) ↔ a ∈ Z ++ liveA φ S := by
  have live_of : ∀ b, b ∈ phiOf φ ks → b ∈ liveA φ S ∧ b ∈ liveA (phiOf φ ks) (subOf S ks) := fun b hb => by
    obtain ⟨j, hj⟩ := List.getElem?_of_mem hb
    unfold phiOf at hj
    rw [List.getElem?_map] at hj
    cases hq : ks[j]? with
    | none => rw [hq] at hj; cases hj
    | some k =>
      rw [hq] at hj
      cases hj
      obtain ⟨o, h1, h2, h3⟩ := hk k (List.mem_of_getElem? hq)
      obtain ⟨a, q1, q2⟩ := rel_get R h1
      show φ.getD k 0 ∈ liveA φ S ∧ φ.getD k 0 ∈ liveA (phiOf φ ks) (subOf S ks)
      rw [q2]
      refine ⟨mem_liveA q1 h1 h3, ?_⟩
      have := phiOf_get (φ := φ) hq
      rw [q2] at this
      exact mem_liveA this (subOf_get hq h1) h3
  unfold hidOf
  constructor
  · intro h
    rcases List.mem_append.mp h with z | z
    · rcases List.mem_append.mp z with z | z
      · exact List.mem_append_left _ z
      · exact List.mem_append_right _ (List.mem_filter.mp z).1
    · exact List.mem_append_right _ (live_of a (liveA_sub z)).1
  · intro h
    rcases List.mem_append.mp h with z | z
    · exact List.mem_append_left _ (List.mem_append_left _ z)
    · by_cases q : a ∈ phiOf φ ks
      · exact List.mem_append_right _ (live_of a q).2
      · exact List.mem_append_left _ (List.mem_append_right _ (List.mem_filter.mpr ⟨z, decide_eq_true q⟩))
theorem without_congr {l l' : List Addr} (h : ∀ a, a ∈ l ↔ a ∈ l') : without l H = without l' H := by
  funext a
  unfold without
  by_cases q : a ∈ l
  · rw [if_pos q, if_pos ((h a).mp q)]
  · rw [if_neg q, if_neg fun z => q ((h a).mpr z)]
theorem nodup_map_of {α β : Type} {f : α → β} : ∀ {l : List α}, l.Nodup → (∀ x ∈ l, ∀ y ∈ l, f x = f y → x = y) → (l.map f).Nodup
  | [], _, _ => List.nodup_nil
  | a :: l, nd, h => by
    rw [List.nodup_cons] at nd
    rw [List.map_cons, List.nodup_cons]
    refine ⟨fun q => ?_, nodup_map_of nd.2 fun x hx y hy => h x (List.mem_cons_of_mem _ hx) y (List.mem_cons_of_mem _ hy)⟩
    obtain ⟨b, hb, e⟩ := List.mem_map.mp q
    have := h b (List.mem_cons_of_mem _ hb) a List.mem_cons_self e
    rw [this] at hb
    exact nd.1 hb
theorem sub_rel (R : Rel K mg Z φ S H) {ks : List Nat} (nd : ks.Nodup) (hk : ∀ k ∈ ks, ∃ o, S[k]? = some o ∧ o.pure = true ∧ o.live = true) :
    Rel K mg (hidOf Z φ S ks) (phiOf φ ks) (subOf S ks) H ∧ gnd (hidOf Z φ S ks) (phiOf φ ks) (subOf S ks) H = gnd Z φ S H := by
  have eg : gnd (hidOf Z φ S ks) (phiOf φ ks) (subOf S ks) H = gnd Z φ S H := without_congr (sub_mem R nd hk)
  have at_ : ∀ k ∈ ks, ∃ a, φ[k]? = some a ∧ φ.getD k 0 = a := fun k h => by
    obtain ⟨o, h1, _⟩ := hk k h
    exact rel_get R h1
  refine ⟨⟨by unfold phiOf subOf; rw [List.length_map, List.length_map], ?_, fun a ha => ?_, fun a ha => ?_, fun a ha => ?_, fun n a o h1 h2 => ?_⟩, eg⟩
  · unfold phiOf
    refine nodup_map_of nd fun x hx y hy e => ?_
    obtain ⟨a, q1, q2⟩ := at_ x hx
    obtain ⟨b, q3, q4⟩ := at_ y hy
    rw [q2, q4] at e
    rw [e] at q1
    exact nd_ix R.nd q1 q3
  · unfold hidOf
    intro q
    rcases List.mem_append.mp q with z | z
    · unfold phiOf at ha
      obtain ⟨k, h1, h2⟩ := List.mem_map.mp ha
      obtain ⟨b, q1, q2⟩ := at_ k h1
      rw [q2] at h2
      rw [h2] at q1
      exact R.zd a (List.mem_of_getElem? q1) z
    · exact (of_decide_eq_true (List.mem_filter.mp z).2) ha
  · unfold hidOf at ha
    rcases List.mem_append.mp ha with z | z
    · exact R.zh a z
    · exact R.ph a (liveA_sub (List.mem_filter.mp z).1)
  · unfold phiOf at ha
    obtain ⟨k, h1, h2⟩ := List.mem_map.mp ha
    obtain ⟨b, q1, q2⟩ := at_ k h1
    rw [q2] at h2
    rw [h2] at q1
    exact R.ph a (List.mem_of_getElem? q1)
  · rw [eg]
    unfold phiOf at h1
    unfold subOf at h2
    rw [List.getElem?_map] at h1 h2
    cases hq : ks[n]? with
    | none => rw [hq] at h1; cases h1
    | some k =>
      rw [hq] at h1 h2
      cases h1
      cases h2
      obtain ⟨u, e1, e2, e3⟩ := hk k (List.mem_of_getElem? hq)
      obtain ⟨b, q1, q2⟩ := rel_get R e1
      show SOk K mg (phiOf φ ks) (gnd Z φ S H) H (φ.getD k 0) (S.getD k (.frz .non))
      rw [q2, List.getD_eq_getElem?_getD, e1]
      exact (R.ob k b u q1 e1).pure e2
/-- behind the call -/
theorem sub_back (R : Rel K mg Z φ S H) {ks : List Nat} (nd : ks.Nodup) (hk : ∀ k ∈ ks, ∃ o, S[k]? = some o ∧ o.pure = true ∧ o.live = true) {φ' : List Addr} {Sc : Store} {H' : Hp}
    (R' : Rel K mg (hidOf Z φ S ks) φ' Sc H') (E : Evo (hidOf Z φ S ks) (phiOf φ ks) (subOf S ks) H φ' Sc H') (pu : (Sc.take ks.length).all SO.pure = true) (hl : ks.length ≤ Sc.length) :
    Rel K mg Z φ (putBack S ks Sc) H' ∧ Evo Z φ S H φ (putBack S ks Sc) H' ∧ Same (gnd (hidOf Z φ S ks) φ' Sc H') (gnd Z φ (putBack S ks Sc) H') := by
  obtain ⟨Rc, eg⟩ := sub_rel R nd hk
  have lenP : (phiOf φ ks).length = ks.length := by unfold phiOf; rw [List.length_map]
  have phi' : ∀ j k, ks[j]? = some k → φ'[j]? = some (φ.getD k 0) := fun j k h => pre_get E.pre (phiOf_get h)
  -- what lives in the caller's store behind the call
  have liveB : ∀ a, a ∈ liveA φ (putBack S ks Sc) → a ∈ hidOf Z φ S ks ++ liveA φ' Sc := fun a ha => by
    obtain ⟨n, o, h1, h2, h3⟩ := liveA_mem ha
    by_cases q : n ∈ ks
    · obtain ⟨j, hj⟩ := List.getElem?_of_mem q
      have hjl := (List.getElem?_eq_some_iff.mp hj).1
      have hSc : Sc[j]? = some Sc[j] := List.getElem?_eq_getElem (by omega)
      have hn : n < S.length := by
        have := (List.getElem?_eq_some_iff.mp h2).1
        rw [putBack_length] at this
        exact this
      rw [putBack_in ks S Sc j n _ nd hj hn hSc] at h2
      cases h2
      have := phi' j n hj
      rw [List.getD_eq_getElem?_getD, h1] at this
      exact List.mem_append_right _ (mem_liveA this hSc h3)
    · rw [putBack_out ks S Sc n q] at h2
      refine List.mem_append_left _ ?_
      unfold hidOf
      refine List.mem_append_right _ (List.mem_filter.mpr ⟨mem_liveA h1 h2 h3, decide_eq_true fun z => q ?_⟩)
      unfold phiOf at z
      obtain ⟨k, e1, e2⟩ := List.mem_map.mp z
      obtain ⟨u, e3, _⟩ := hk k e1
      obtain ⟨b, q1, q2⟩ := rel_get R e3
      rw [q2] at e2
      rw [e2] at q1
      have := nd_ix R.nd q1 h1
      rw [← this]
      exact e1
  have sub : Same (gnd (hidOf Z φ S ks) φ' Sc H') (gnd Z φ (putBack S ks Sc) H') := fun a o h => by
    obtain ⟨h1, h2⟩ := without_some.mp h
    refine without_some.mpr ⟨fun q => h1 ?_, h2⟩
    rcases List.mem_append.mp q with z | z
    · exact List.mem_append_left _ (List.mem_append_left _ z)
    · exact liveB a z
  have ext : Same (gnd Z φ S H) (gnd Z φ (putBack S ks Sc) H') := by
    rw [← eg]
    exact E.ext.trans sub
  have out : ∀ a o, H a = some o → a ∉ liveA φ S → H' a = some o := fun a o h n => E.out a o h fun q => n (by
    have := (sub_mem R nd hk a).mp (List.mem_append_right _ q)
    rcases List.mem_append.mp this with z | z
    · exact (Rc.zd a (liveA_sub q) (by unfold hidOf; exact List.mem_append_left _ z)).elim
    · exact z)
  have nn : ∀ a, H a ≠ none → H' a ≠ none := fun a h => by
    by_cases q : a ∈ liveA (phiOf φ ks) (subOf S ks)
    · have := liveA_sub q
      obtain ⟨t, ht⟩ := E.pre
      exact R'.ph a (by rw [← ht]; exact List.mem_append_left _ this)
    · obtain ⟨o, ho⟩ := Option.ne_none_iff_exists'.mp h
      rw [E.out a o ho q]
      exact fun z => nomatch z
  refine ⟨⟨by rw [putBack_length, R.len], R.nd, R.zd, fun a h => nn a (R.zh a h), fun a h => nn a (R.ph a h), fun n a o h1 h2 => ?_⟩,
    ⟨List.prefix_refl _, ext, out, fun a ha hn => ?_⟩, sub⟩
  · by_cases q : n ∈ ks
    · obtain ⟨j, hj⟩ := List.getElem?_of_mem q
      have hjl := (List.getElem?_eq_some_iff.mp hj).1
      have hSc : Sc[j]? = some Sc[j] := List.getElem?_eq_getElem (by omega)
      have hn : n < S.length := by
        have := (List.getElem?_eq_some_iff.mp h2).1
        rw [putBack_length] at this
        exact this
      rw [putBack_in ks S Sc j n _ nd hj hn hSc] at h2
      cases h2
      have hp := phi' j n hj
      rw [List.getD_eq_getElem?_getD, h1] at hp
      have pj : Sc[j].pure = true := List.all_eq_true.mp pu _ (by
        rw [List.mem_iff_getElem?]
        exact ⟨j, by rw [List.getElem?_take_of_lt hjl]; exact hSc⟩)
      exact ((R'.ob j a _ hp hSc).pure (φ' := φ) pj).mono (List.prefix_refl _) sub fun _ z => z
    · rw [putBack_out ks S Sc n q] at h2
      have ok := R.ob n a o h1 h2
      cases hlv : o.live with
      | false =>
        cases o with
        | frz d => exact Dat.mono (List.prefix_refl _) ext _ _ ok
        | _ => cases hlv
      | true =>
        refine ok.mono (List.prefix_refl _) ext fun ob hb => E.out a ob hb fun z => ?_
        have z' := liveA_sub z
        unfold phiOf at z'
        obtain ⟨k, e1, e2⟩ := List.mem_map.mp z'
        obtain ⟨u, e3, _⟩ := hk k e1
        obtain ⟨b, q1, q2⟩ := rel_get R e3
        rw [q2] at e2
        rw [e2] at q1
        have := nd_ix R.nd q1 h1
        rw [← this] at q
        exact q e1
  · rcases List.mem_append.mp (liveB a ha) with z | z
    · unfold hidOf at z
      rcases List.mem_append.mp z with z | z
      · exact absurd z (R.zd a (liveA_sub ha))
      · exact (List.mem_filter.mp z).1
    · have := E.lv a z hn
      have := (sub_mem R nd hk a).mp (List.mem_append_right _ this)
      rcases List.mem_append.mp this with z | z
      · exact absurd z (R.zd a (liveA_sub ha))
      · exact z
end

/-- how a call may be reckoned -/
def CallOk (K : PySem.W.Frag) (mg : Str → Option Value) (n : Nat) (sem cs : Sem') : Prop := ∀ Z φ S H ds vs (Q : VK) (E : XK), vs.length = n → Rel K mg Z φ S H → DatL K mg φ (gnd Z φ S H) ds vs → Want K mg (RDat K mg) Z φ S H (cs ds S) Q E → spD K mg n sem vs H Q E
theorem callOk_share {K : PySem.W.Frag} {mg : Str → Option Value} {n : Nat} {sem : Sem'} : CallOk K mg n sem sem := fun Z φ S H ds vs Q E hl R d w => ⟨hl, Z, φ, S, ds, R, d, w⟩
theorem callOk_sub {K : PySem.W.Frag} {mg : Str → Option Value} {n : Nat} {sem : Sem'} : CallOk K mg n sem (callSub sem) := fun Z φ S H ds vs Q E hl R d w => by
  unfold callSub at w
  cases hs : subArgs S ds 0 with
  | none => rw [hs] at w; exact w.elim
  | some t =>
    obtain ⟨ds', ks⟩ := t
    rw [hs] at w
    simp only at w
    by_cases nd : ks.Nodup
    · rw [if_pos nd] at w
      obtain ⟨d', hk⟩ := subArgs_ok R ds vs 0 ds' ks [] rfl hs d
      rw [List.nil_append] at d'
      obtain ⟨Rc, eg⟩ := sub_rel R nd hk
      refine ⟨hl, hidOf Z φ S ks, phiOf φ ks, subOf S ks, ds', Rc, by rw [eg]; exact d', ?_⟩
      cases hr : sem ds' (subOf S ks) with
      | ok r Sc =>
        rw [hr] at w
        simp only at w
        by_cases c : (r.pure && ((Sc.take ks.length).all SO.pure && decide (ks.length ≤ Sc.length))) = true
        · rw [if_pos c] at w
          simp only [Bool.and_eq_true, decide_eq_true_eq] at c
          intro v φ' H' R' E' dv
          obtain ⟨a, b, s⟩ := sub_back R nd hk R' E' c.2.1 c.2.2
          exact w v φ H' a b (Dat.mono (List.prefix_refl _) s _ _ (Dat.pure c.1 dv))
        · rw [if_neg c] at w
          exact w.elim
      | ex C fs Sc =>
        rw [hr] at w
        simp only at w
        by_cases c : (pureF fs && ((Sc.take ks.length).all SO.pure && decide (ks.length ≤ Sc.length))) = true
        · rw [if_pos c] at w
          simp only [Bool.and_eq_true, decide_eq_true_eq] at c
          intro A dx φ' H' m R' E' x
          obtain ⟨a, b, s⟩ := sub_back R nd hk R' E' c.2.1 c.2.2
          refine w A dx φ H' m a b ?_
          rcases x with x | ⟨x0, e, fvs, x1, x2, x3⟩
          · exact .inl x
          · exact .inr ⟨x0, e, fvs, x1, s _ _ x2, DatF.mono (List.prefix_refl _) s _ _ (DatF.pure c.1 x3)⟩
        · rw [if_neg c] at w
          exact w.elim
      | stuck =>
        rw [hr] at w
        exact w.elim
    · rw [if_neg nd] at w
      exact w.elim
end DL

/-! The data layer, part 7: bindings, calls of defs, methods, classes, attributes, raise, the law's end. -/
namespace DL
open PySem L2

/-! ### how arguments come to parameters -/
def src {α : Type} (a : Nat) (us ws ms : List α) : List α := match a with
  | 0 => us
  | 1 => ws
  | _ => ms
def pick {α : Type} (sel : List (Nat × Nat)) (us ws ms : List α) : List α := sel.filterMap fun s => (src s.1 us ws ms)[s.2]?
theorem pick_vals {vs zs ms : List V} {us ws mv : List Value} (h1 : Vals vs us) (h2 : Vals zs ws) (h3 : Vals ms mv) : ∀ {sel : List (Nat × Nat)}, Vals (pick sel vs zs ms) (pick sel us ws mv)
  | [] => .nil
  | (a, i) :: sel => by
    have r := pick_vals h1 h2 h3 (sel := sel)
    have q : Vals (src a vs zs ms) (src a us ws mv) := by
      unfold src
      split
      · exact h1
      · exact h2
      · exact h3
    unfold pick
    rw [List.filterMap_cons, List.filterMap_cons]
    cases hx : (src a vs zs ms)[i]? with
    | none =>
      rw [q.none_of hx]
      exact r
    | some v =>
      obtain ⟨u, e1, e2⟩ := q.get hx
      rw [e1]
      exact .cons e2 r
theorem pick_dat {K : PySem.W.Frag} {mg : Str → Option Value} {φ : List Addr} {G : Hp} {ds es ms : List D} {vs zs mv : List V} (h1 : DatL K mg φ G ds vs) (h2 : DatL K mg φ G es zs) (h3 : DatL K mg φ G ms mv) : ∀ {sel : List (Nat × Nat)}, DatL K mg φ G (pick sel ds es ms) (pick sel vs zs mv)
  | [] => DatL.nil
  | (a, i) :: sel => by
    have r := pick_dat h1 h2 h3 (sel := sel)
    have q : DatL K mg φ G (src a ds es ms) (src a vs zs mv) := by
      unfold src
      split
      · exact h1
      · exact h2
      · exact h3
    unfold pick
    rw [List.filterMap_cons, List.filterMap_cons]
    cases hx : (src a ds es ms)[i]? with
    | none =>
      have e : (src a vs zs mv)[i]? = none := by
        rw [List.getElem?_eq_none_iff] at hx ⊢
        rw [q.length]
        exact hx
      rw [e]
      exact r
    | some v =>
      obtain ⟨u, e1, e2⟩ := q.get hx
      rw [e1]
      exact .cons e2 r
structure KB (K : PySem.W.Frag) (fd : FuncData) (ps : List Str) (n : Nat) (ks : List Str) (gD : List D → List D → List D) : Prop where
  ex : ∃ (g : List Value → List Value → List Value) (gV : List V → List V → List V), KBn K fd ps n ks g gV ∧
    ∀ (K' : PySem.W.Frag), K' = K → ∀ (mg : Str → Option Value) (φ : List Addr) (G : Hp) (ds es : List D) (vs zs : List V), DatL K' mg φ G ds vs → DatL K' mg φ G es zs → DatL K' mg φ G (gD ds es) (gV vs zs)
section
variable {K : PySem.W.Frag} {x qual : Str} {params : Arguments} {body : List Stmt} {scope : Scope} {kws : List (Str × V)} {f : Addr} {fd : FuncData} {ps : List Str}
/-- no defaults are taken -/
theorem kb_all {dvs : List V} (F : FunD K x qual params body scope dvs kws f fd) (hd : dvs = []) (n : Nat) (ks : List Str) (sel : List (Nat × Nat))
    (h : ∀ (kV doc pm : Value) (an : Option Addr) (cdv ct : Value) (us ws : List Value), us.length = n → ws.length = ks.length → bindArgs (PySem.W.fnOf x qual params body scope .none kV doc pm an cdv ct) ⟨us, ks.zip ws⟩ = pure (ps.zip (pick sel us ws []))) :
    KB K fd ps n ks (fun ds es => pick sel ds es []) := by
  obtain ⟨oc, od, dV, kV, doc, pm, an, cdv, ct, osl, rfl, lk, hcd, hD, hK⟩ := F.ex
  rcases hD with ⟨_, rfl⟩ | ⟨e, _⟩
  · exact ⟨fun us ws => pick sel us ws [], fun vs zs => pick sel vs zs [], ⟨fun s us ws X l1 l2 => .of_eq (h kV doc pm an cdv ct us ws l1 l2), fun r1 r2 => pick_vals r1 r2 .nil⟩, fun K' _ mg φ G ds es vs zs h1 h2 => pick_dat h1 h2 DatL.nil⟩
  · exact absurd hd e
/-- some keyword-only defaults are taken: ms -/
theorem kb_dfl (F : FunD K x qual params body scope [] kws f fd) (n : Nat) (ks : List Str) (ms : List (Str × V)) (msD : List D) (sel : List (Nat × Nat)) (hk : kws ≠ []) (hms : ∀ q ∈ ms, q ∈ kws)
    (hD : ∀ (mg : Str → Option Value) (φ : List Addr) (G : Hp), DatL K mg φ G msD (ms.map (·.2)))
    (h : ∀ (D : Addr) (doc pm : Value) (an : Option Addr) (cdv ct : Value) (us mv ws : List Value), us.length = n → mv.length = ms.length → ws.length = ks.length →
      KwChain D ((ms.map (·.1)).zip mv) (bindArgs (PySem.W.fnOf x qual params body scope .none (.ref D) doc pm an cdv ct) ⟨us, ks.zip ws⟩) (ps.zip (pick sel us ws mv))) : KB K fd ps n ks (fun ds es => pick sel ds es msD) := by
  obtain ⟨mv, hb⟩ := F.kbinds0 n ks ms (fun us mv ws => pick sel us ws mv) hk hms (fun a b c => pick_vals a c b) h
  exact ⟨_, _, hb, fun K' eK mg φ G ds es vs zs h1 h2 => by subst eK; exact pick_dat h1 h2 (hD mg φ G)⟩
end

/-! ### calls -/
section
variable {X : Cx} {W : WX} {k k' n np : Nat} {f C : Addr} {fd : FuncData} {ps ks : List Str} {sp : Sp} {sem cs : Sem'} {x m : Str} {p pos apos : Pos} {e o : Expr} {es : List Expr} {kws : List Keyword} {fa fk : FA} {fo : FE} {gD : List D → List D → List D}
theorem run_fnG {pins : List (Addr × Obj)} {σ : L2.St} {H : Hp} {s : Shared} {Q : VK} {us ws : List Value} {bs : List Value} {vs : List V} (F : FnG X.prog X.w X.K X.mg X.base k f fd ps sp) (C : Cn X W k') (hk : k ≤ k') (I : L2.Inv X pins σ H s)
    (hb : BindsTo s fd ⟨us, ks.zip ws⟩ (ps.zip bs)) (r : Vals vs bs) (h : sp vs H Q (WE W σ)) : wpAny (model X.prog X.w) X.A (call (.ref f) us (ks.zip ws)) (EP X pins σ Q) X.xe s := by
  refine wpAny_call (codeAny_mono (F.run X.A X.stack s H _ bs vs Q (WE W σ) (C.room.mono hk) C.gd I.env0 hb r h) fun res s' hq => ?_)
  cases res with
  | error e => exact L2N.passAt C.tk σ pins H s e s' I hq
  | ok fl => cases fl with
    | ret u => exact I.after hq
    | _ => exact hq.elim
def fCall (cs : Sem') (gD : List D → List D → List D) (np nk n : Nat) (fa fk : FA) : FE := fun ρ S => (fa ρ S).bind fun ds S => (fk ρ S).bind fun es S => if ds.length = np ∧ es.length = nk ∧ (gD ds es).length = n then cs (gD ds es) S else .stuck
theorem dkw_nil : DKw X W [] (fun _ S => .ok [] S) := .mk pk_nil (fun Z φ S ρ σ H Q R sl w => w.now R DatL.nil)
theorem dkw_cons {nm : Option Str} {kpos : Pos} {fe : FE} {fr : FA} (ha : DE X W e fe) (hr : DKw X W kws fr) : DKw X W (⟨nm, e, kpos⟩ :: kws) (fCons fe fr) := by
  obtain ⟨t, p, q⟩ := ha.ex
  obtain ⟨u, p', q'⟩ := hr.ex
  refine .mk (pk_cons p p') (fun Z φ S ρ σ H Q R sl w => q Z φ S ρ σ H _ R sl (w.bind fun x S1 v φ1 H1 R1 E1 d w1 => ?_))
  exact q' Z φ1 S1 ρ σ H1 _ R1 (sl.evo E1) (w1.bind fun xs S2 vs φ2 H2 R2 E2 d2 w2 => w2.now R2 (.cons (Dat.evo E2 d) d2))
/-- arguments, then keywords, then what follows -/
theorem args_run {ta tk : TA} (qa : IsA X W ta fa) (qk : IsA X W tk fk) {cont : List D → List D → Store → Res D} {Z φ : List Addr} {S : Store} {ρ : EnvD} {σ : L2.St} {H : Hp} {Q : VK} {P : List V → List V → Hp → Prop}
    (R : Rel X.K X.mg Z φ S H) (sl : Slots X.K X.mg φ (gnd Z φ S H) ρ σ) (w : Want X.K X.mg (RDat X.K X.mg) Z φ S H ((fa ρ S).bind fun ds S => (fk ρ S).bind fun es S => cont ds es S) Q (WE W σ))
    (h : ∀ ds es S2 vs zs φ2 H2, Rel X.K X.mg Z φ2 S2 H2 → Evo Z φ S H φ2 S2 H2 → DatL X.K X.mg φ2 (gnd Z φ2 S2 H2) ds vs → DatL X.K X.mg φ2 (gnd Z φ2 S2 H2) es zs → Want X.K X.mg (RDat X.K X.mg) Z φ2 S2 H2 (cont ds es S2) Q (WE W σ) → P vs zs H2) :
    ta σ H fun vs H1 => tk σ H1 fun zs H2 => P vs zs H2 :=
  qa Z φ S ρ σ H _ R sl (w.bind fun ds S1 vs φ1 H1 R1 E1 d1 w1 => qk Z φ1 S1 ρ σ H1 _ R1 (sl.evo E1) (w1.bind fun es S2 zs φ2 H2 R2 E2 d2 w2 => h ds es S2 vs zs φ2 H2 R2 (E1.trans E2) (DatL.evo E2 d1) d2 w2))
theorem want_if {P : Prop} [Decidable P] {α β : Type} {Rr : List Addr → Hp → α → β → Prop} {Z φ : List Addr} {S : Store} {H : Hp} {r : Res α} {Q : β → Hp → Prop} {E : XK} (w : Want X.K X.mg Rr Z φ S H (if P then r else .stuck) Q E) : P ∧ Want X.K X.mg Rr Z φ S H r Q E := by
  by_cases h : P
  · rw [if_pos h] at w
    exact ⟨h, w⟩
  · rw [if_neg h] at w
    exact w.elim
/-- the callee's wish, from the caller's -/
theorem args_sp {gV : List V → List V → List V} (hcs : CallOk X.K X.mg n sem cs) (hN : ∀ (K' : PySem.W.Frag), K' = X.K → ∀ (mg : Str → Option Value) (φ : List Addr) (G : Hp) (ds es : List D) (vs zs : List V), DatL K' mg φ G ds vs → DatL K' mg φ G es zs → DatL K' mg φ G (gD ds es) (gV vs zs))
    {nk : Nat} {Z φ : List Addr} {S : Store} {H : Hp} {ds es : List D} {vs zs : List V} {Q : VK} {E : XK} (R : Rel X.K X.mg Z φ S H) (d1 : DatL X.K X.mg φ (gnd Z φ S H) ds vs) (d2 : DatL X.K X.mg φ (gnd Z φ S H) es zs)
    (w : Want X.K X.mg (RDat X.K X.mg) Z φ S H (if ds.length = np ∧ es.length = nk ∧ (gD ds es).length = n then cs (gD ds es) S else .stuck) Q E) : vs.length = np ∧ zs.length = nk ∧ spD X.K X.mg n sem (gV vs zs) H Q E := by
  obtain ⟨⟨l1, l2, l3⟩, w3⟩ := want_if w
  have d3 := hN _ rfl _ _ _ _ _ _ _ d1 d2
  exact ⟨by rw [d1.length, l1], by rw [d2.length, l2], hcs Z φ S H _ _ Q E (by rw [d3.length, l3]) R d3 w3⟩
theorem de_call (F : FnG X.prog X.w X.K X.mg X.base k f fd ps (spD X.K X.mg ps.length sem)) (hcs : CallOk X.K X.mg ps.length sem cs) (C : Cn X W k') (hg : Gl X x) (hm : X.mg x = some (.ref f)) (hk : PySem.W.keepIn X.K (.ref f) = true) (hb : KB X.K fd ps np ks gD)
    (ha : DA X W (e :: es) fa) (hkw : DKw X W kws fk) (hle : k ≤ k' := by decide) (hall : (backToKw pos (keywordEach kws X.env)).all (·.1.isSome) = true := by rfl) (hks : (backToKw pos (keywordEach kws X.env)).filterMap (·.1) = ks := by rfl)
    (hdb : (x == ("__debug__" : Str)) = false := by decide) (he : starEach (e :: es) X.env = (false, eval e X.env) :: starEach es X.env := by rfl)
    (hpl : ((backTo pos (starEach (e :: es) X.env)).any (·.1) || (backToKw pos (keywordEach kws X.env)).any (·.1.isNone)) = false := by rfl) :
    DE X W (.Call (.Name x p) (e :: es) kws pos) (fCall cs gD np ks.length ps.length fa fk) := by
  obtain ⟨ta, pa, qa⟩ := ha.ex
  obtain ⟨tk, pk, qk⟩ := hkw.ex
  obtain ⟨g, gV, hB, hN⟩ := hb.ex
  refine .mk (t := fun σ H Q => ta σ H fun vs H1 => tk σ H1 fun zs H2 => vs.length = np ∧ zs.length = ks.length ∧ spD X.K X.mg ps.length sem (gV vs zs) H2 Q (WE W σ)) ⟨fun pins s σ H Q I h => ?_⟩
    (fun Z φ S ρ σ H Q R sl w => args_run qa qk R sl w fun ds es' S2 vs zs φ2 H2 R2 E2 d1 d2 w2 => args_sp hcs hN R2 d1 d2 w2)
  refine wpAny_Call_Name_kw (ld_glob I hg hm ?_ hdb)
  refine PySem.W.callWith_KW (h₀ := X.base) I.ok.mod.kin hk hall (thn (pa.run pos pins s σ H _ I h) fun us s1 ⟨vs, H1, I1, r, q⟩ => ?_) hpl he
  refine thn (pk.run pos pins s1 σ H1 _ I1 q) fun ws s2 ⟨zs, H2, I2, rz, l1, l2, q2⟩ => ⟨I2.kIn, ?_⟩
  rw [hks]
  exact run_fnG F C hle I2 (hB.to s2 us ws I2.kIn (r.length.symm.trans l1) (rz.length.symm.trans l2)) (hB.rel r rz) q2
/-! instances -/
def asI (S : Store) : D → Option (Str × List (Str × D))
  | .ins C fs => some (C, fs)
  | .oid n => match S[n]? with
    | some (.ins C fs) => some (C, fs)
    | some (.frz (.ins C fs)) => some (C, fs)
    | _ => none
  | _ => none
theorem asI_ok {K : PySem.W.Frag} {mg : Str → Option Value} {Z φ : List Addr} {S : Store} {H : Hp} (R : Rel K mg Z φ S H) {d : D} {v : V} {c : Str} {fs : List (Str × D)} (h : Dat K mg φ (gnd Z φ S H) d v) (e : asI S d = some (c, fs)) :
    ∃ a A dx fvs, v = .ref a ∧ mg c = some (.ref A) ∧ H a = some (.ins A dx fvs) ∧ DatF K mg φ (gnd Z φ S H) fs fvs := by
  cases d with
  | ins C gs =>
    cases e
    unfold Dat at h
    obtain ⟨a, A, dx, fvs, rfl, h0, h1, h2⟩ := h
    exact ⟨a, A, dx, fvs, rfl, h0, gnd_sub _ _ h1, h2⟩
  | oid n =>
    unfold Dat at h
    obtain ⟨a, rfl, h1⟩ := h
    cases q : S[n]? with
    | none => simp [asI, q] at e
    | some o =>
      simp only [asI, q] at e
      have ok := R.ob n a o h1 q
      cases o with
      | ins C gs =>
        cases e
        obtain ⟨A, dx, fvs, q0, q1, q2⟩ := ok
        exact ⟨a, A, dx, fvs, rfl, q0, q1, q2⟩
      | frz d =>
        cases d with
        | ins C gs =>
          cases e
          have ok' : Dat K mg φ (gnd Z φ S H) (.ins _ _) (.ref a) := ok
          unfold Dat at ok'
          obtain ⟨b, A, dx, fvs, e1, q0, q1, q2⟩ := ok'
          cases e1
          exact ⟨a, A, dx, fvs, rfl, q0, gnd_sub _ _ q1, q2⟩
        | _ => cases e
      | _ => cases e
  | _ => cases e
theorem datF_lookup {K : PySem.W.Frag} {mg : Str → Option Value} {φ : List Addr} {G : Hp} {m : Str} : ∀ {fs : List (Str × D)} {fvs : List (Str × V)}, DatF K mg φ G fs fvs → (∀ d, fs.lookup m = some d → ∃ v, fvs.lookup m = some v ∧ Dat K mg φ G d v) ∧ (fs.lookup m = none → fvs.lookup m = none)
  | [], _, h => by
    unfold DatF at h
    subst h
    exact ⟨fun d q => (by cases q), fun _ => rfl⟩
  | (k, d) :: fs, _, h => by
    unfold DatF at h
    obtain ⟨v, r, rfl, h1, h2⟩ := h
    obtain ⟨a, b⟩ := datF_lookup (m := m) h2
    rw [List.lookup_cons, List.lookup_cons]
    cases (m == k) with
    | true => exact ⟨fun e q => by cases q; exact ⟨v, rfl, h1⟩, fun q => by cases q⟩
    | false => exact ⟨a, b⟩
/-- what the text has of a class -/
structure ClsI (X : Cx) (c : Str) (C : Addr) : Prop where
  mg : X.mg c = some (.ref C)
  cls : Cls X.K C
/-- o.m(e, .., k = v, ..) -/
def fMeth (cs : Sem') (gD : List D → List D → List D) (c m : Str) (np nk n : Nat) (fo : FE) (fa fk : FA) : FE := fun ρ S => (fo ρ S).bind fun o S => match asI S o with
  | some (c', fs) => if c' = c ∧ (fs.lookup m).isNone then (fa ρ S).bind fun ds S => (fk ρ S).bind fun es S => if (o :: ds).length = np ∧ es.length = nk ∧ (gD (o :: ds) es).length = n then cs (gD (o :: ds) es) S else .stuck else .stuck
  | none => .stuck
theorem meth_at {c : Str} {Z φ : List Addr} {S : Store} {H : Hp} {od : D} {ov : V} {α : Type} {r : Res α} {β : Type} {Rr : List Addr → Hp → α → β → Prop} {Q : β → Hp → Prop} {E : XK} (cl : ClsI X c C) (R : Rel X.K X.mg Z φ S H) (d : Dat X.K X.mg φ (gnd Z φ S H) od ov)
    (w : Want X.K X.mg Rr Z φ S H (match asI S od with | some (c', fs) => if c' = c ∧ (fs.lookup m).isNone then r else .stuck | none => .stuck) Q E) :
    ∃ a dx fvs, ov = .ref a ∧ H a = some (.ins C dx fvs) ∧ fvs.lookup m = none ∧ Want X.K X.mg Rr Z φ S H r Q E := by
  cases hi : asI S od with
  | none => rw [hi] at w; exact w.elim
  | some t =>
    obtain ⟨c', fs⟩ := t
    rw [hi] at w
    obtain ⟨⟨rfl, hl⟩, w1⟩ := want_if w
    obtain ⟨a, A, dx, fvs, rfl, q0, q1, q2⟩ := asI_ok R d hi
    rw [cl.mg] at q0
    cases q0
    exact ⟨a, dx, fvs, rfl, q1, (datF_lookup q2).2 (Option.isNone_iff_eq_none.mp hl), w1⟩
theorem de_meth {pl : Sem Bool} {c : Str} (ho : DE X W o fo) (cl : ClsI X c C) (hm : Meth X.K C m f) (F : FnG X.prog X.w X.K X.mg X.base k f fd ps (spD X.K X.mg ps.length sem)) (hcs : CallOk X.K X.mg ps.length sem cs) (Cc : Cn X W k') (hb : KB X.K fd ps np ks gD)
    (ha : DA X W (e :: es) fa) (hkw : DKw X W kws fk) (hle : k ≤ k' := by decide) (hall : (backToKw pos (keywordEach kws X.env)).all (·.1.isSome) = true := by rfl) (hks : (backToKw pos (keywordEach kws X.env)).filterMap (·.1) = ks := by rfl)
    (he : starEach (e :: es) X.env = (false, eval e X.env) :: starEach es X.env := by rfl) (hpl : ((backTo pos (starEach (e :: es) X.env)).any (·.1) || (backToKw pos (keywordEach kws X.env)).any (·.1.isNone)) = false := by rfl)
    (ht : eval (.Call (.Attribute o m apos) (e :: es) kws pos) X.env = (do
      let ov ← eval o X.env
      standAt apos.atName
      let (f, first) ← holding [ov] (getMethod ov m pl)
      callWith pos f first (backTo pos (starEach (e :: es) X.env)) (backToKw pos (keywordEach kws X.env))) := by rfl) :
    DE X W (.Call (.Attribute o m apos) (e :: es) kws pos) (fMeth cs gD c m np ks.length ps.length fo fa fk) := by
  obtain ⟨to, po, qo⟩ := ho.ex
  obtain ⟨ta, pa, qa⟩ := ha.ex
  obtain ⟨tk, pk, qk⟩ := hkw.ex
  obtain ⟨g, gV, hB, hN⟩ := hb.ex
  refine .mk (t := fun σ H Q => to σ H fun ov H0 => ∃ a dx fvs, ov = .ref a ∧ H0 a = some (.ins C dx fvs) ∧ fvs.lookup m = none ∧ ta σ H0 fun vs H1 => tk σ H1 fun zs H2 => (V.ref a :: vs).length = np ∧ zs.length = ks.length ∧ spD X.K X.mg ps.length sem (gV (.ref a :: vs) zs) H2 Q (WE W σ)) ⟨fun pins s σ H Q I h => ?_⟩
    (fun Z φ S ρ σ H Q R sl w => qo Z φ S ρ σ H _ R sl (w.bind fun od S1 ov φ1 H1 R1 E1 d w1 => ?_))
  · refine PySem.W.methodCall_KW (pl := pl) (thn (po.run pins s σ H _ I h) fun u s1 ⟨x, H1, I1, rx, a, dx, fvs, ex, ea, l, q⟩ => ?_) ht
    subst ex
    obtain rfl : u = Value.ref a := rx
    refine getmeth_ok I1 ea cl.cls hm l ?_
    refine PySem.W.callWith_KW (first := [.ref a]) (h₀ := X.base) I.ok.mod.kin hm.kp hall (thn (pa.run pos pins s1 σ H1 _ I1 q) fun us s2 ⟨vs, H2, I2, r, q2⟩ => ?_) hpl he
    refine thn (pk.run pos pins s2 σ H2 _ I2 q2) fun ws s3 ⟨zs, H3, I3, rz, l1, l2, q3⟩ => ⟨I3.kIn, ?_⟩
    have r1 : Vals (V.ref a :: vs) (Value.ref a :: us) := .cons rfl r
    rw [hks]
    exact run_fnG (us := .ref a :: us) F Cc hle I3 (hB.to s3 _ ws I3.kIn (r1.length.symm.trans l1) (rz.length.symm.trans l2)) (hB.rel r1 rz) q3
  · obtain ⟨a, dx, fvs, rfl, h1, h2, w2⟩ := meth_at cl R1 d w1
    refine ⟨a, dx, fvs, rfl, h1, h2, args_run qa qk R1 (sl.evo E1) w2 fun ds es' S2 vs zs φ2 H2 R2 E2 d1 d2 w3 => ?_⟩
    exact args_sp hcs hN R2 (.cons (Dat.evo E2 d) d1) d2 w3
theorem de_meth0 {pl : Sem Bool} {c : Str} (ho : DE X W o fo) (cl : ClsI X c C) (hm : Meth X.K C m f) (F : FnG X.prog X.w X.K X.mg X.base k f fd ps (spD X.K X.mg ps.length sem)) (hcs : CallOk X.K X.mg ps.length sem cs) (Cc : Cn X W k') (hb : KB X.K fd ps 1 ks gD)
    (hkw : DKw X W kws fk) (hle : k ≤ k' := by decide) (hall : (backToKw pos (keywordEach kws X.env)).all (·.1.isSome) = true := by rfl) (hks : (backToKw pos (keywordEach kws X.env)).filterMap (·.1) = ks := by rfl)
    (hpl : ((backTo pos (starEach [] X.env)).any (·.1) || (backToKw pos (keywordEach kws X.env)).any (·.1.isNone)) = false := by rfl)
    (ht : eval (.Call (.Attribute o m apos) [] kws pos) X.env = (do
      let ov ← eval o X.env
      standAt apos.atName
      let (f, first) ← holding [ov] (getMethod ov m pl)
      callWith pos f first (backTo pos (starEach [] X.env)) (backToKw pos (keywordEach kws X.env))) := by rfl) :
    DE X W (.Call (.Attribute o m apos) [] kws pos) (fMeth cs gD c m 1 ks.length ps.length fo (fun _ S => .ok [] S) fk) := by
  obtain ⟨to, po, qo⟩ := ho.ex
  obtain ⟨tk, pk, qk⟩ := hkw.ex
  obtain ⟨g, gV, hB, hN⟩ := hb.ex
  refine .mk (t := fun σ H Q => to σ H fun ov H0 => ∃ a dx fvs, ov = .ref a ∧ H0 a = some (.ins C dx fvs) ∧ fvs.lookup m = none ∧ tk σ H0 fun zs H2 => zs.length = ks.length ∧ spD X.K X.mg ps.length sem (gV [.ref a] zs) H2 Q (WE W σ)) ⟨fun pins s σ H Q I h => ?_⟩
    (fun Z φ S ρ σ H Q R sl w => qo Z φ S ρ σ H _ R sl (w.bind fun od S1 ov φ1 H1 R1 E1 d w1 => ?_))
  · refine PySem.W.methodCall_KW (pl := pl) (thn (po.run pins s σ H _ I h) fun u s1 ⟨x, H1, I1, rx, a, dx, fvs, ex, ea, l, q⟩ => ?_) ht
    subst ex
    obtain rfl : u = Value.ref a := rx
    refine getmeth_ok I1 ea cl.cls hm l ?_
    refine PySem.W.callWith_KW0 (first := [.ref a]) (h₀ := X.base) I.ok.mod.kin hm.kp hall ?_ hpl
    refine thn (pk.run pos pins s1 σ H1 _ I1 q) fun ws s3 ⟨zs, H3, I3, rz, l2, q3⟩ => ⟨I3.kIn, ?_⟩
    have r1 : Vals [V.ref a] [Value.ref a] := .cons rfl .nil
    rw [hks]
    exact run_fnG (us := [.ref a]) F Cc hle I3 (hB.to s3 _ ws I3.kIn rfl (rz.length.symm.trans l2)) (hB.rel r1 rz) q3
  · obtain ⟨a, dx, fvs, rfl, h1, h2, w2⟩ := meth_at cl R1 d w1
    refine ⟨a, dx, fvs, rfl, h1, h2, qk Z φ1 S1 ρ σ H1 _ R1 (sl.evo E1) (Want.bind (k := fun es S => if [od].length = 1 ∧ es.length = ks.length ∧ (gD [od] es).length = ps.length then cs (gD [od] es) S else .stuck) w2 fun es S2 zs φ2 H2 R2 E2 d2 w3 => ?_)⟩
    exact (args_sp hcs hN R2 (.cons (Dat.evo E2 d) DatL.nil) d2 w3).2
/-- o.f -/
def fFld (cs : List Str) (f : Str) (fo : FE) : FE := fun ρ S => (fo ρ S).bind fun o S => match asI S o with
  | some (c, fs) => if c ∈ cs then (match fs.lookup f with
    | some d => .ok d S
    | none => .stuck) else .stuck
  | none => .stuck
theorem de_fld {fn : Str} {cs : List Str} (ho : DE X W o fo) (hc : ∀ c ∈ cs, ∃ C, ClsI X c C ∧ NoAttr X.K C fn) (hb : attributeBase o fn X.env (eval o X.env) = eval o X.env := by rfl) : DE X W (.Attribute o fn pos) (fFld cs fn fo) := by
  obtain ⟨to, po, qo⟩ := ho.ex
  refine .mk (pe_fld po hb) (fun Z φ S ρ σ H Q R sl w => qo Z φ S ρ σ H _ R sl (w.bind fun od S1 ov φ1 H1 R1 E1 d w1 => ?_))
  cases hi : asI S1 od with
  | none => rw [hi] at w1; exact w1.elim
  | some t =>
    obtain ⟨c, fs⟩ := t
    rw [hi] at w1
    obtain ⟨hm, w2⟩ := want_if w1
    obtain ⟨a, A, dx, fvs, rfl, q0, q1, q2⟩ := asI_ok R1 d hi
    obtain ⟨C, cl, na⟩ := hc c hm
    rw [cl.mg] at q0
    cases q0
    cases hl : fs.lookup fn with
    | none => rw [hl] at w2; exact w2.elim
    | some e =>
      rw [hl] at w2
      obtain ⟨v, h1, h2⟩ := (datF_lookup q2).1 e hl
      exact ⟨a, A, dx, fvs, v, rfl, q1, cl.cls, na, h1, w2.now R1 h2⟩
/-- o.f = e -/
def putFD (f : Str) (d : D) : List (Str × D) → List (Str × D)
  | [] => [(f, d)]
  | (g, e) :: r => if g = f then (g, d) :: r else (g, e) :: putFD f d r
theorem datF_length {K : PySem.W.Frag} {mg : Str → Option Value} {φ : List Addr} {G : Hp} : ∀ {fs : List (Str × D)} {fvs : List (Str × V)}, DatF K mg φ G fs fvs → fvs.length = fs.length
  | [], _, h => by
    unfold DatF at h
    subst h
    rfl
  | (k, d) :: fs, _, h => by
    unfold DatF at h
    obtain ⟨v, r, rfl, _, h2⟩ := h
    rw [List.length_cons, List.length_cons, datF_length h2]
theorem datF_put {K : PySem.W.Frag} {mg : Str → Option Value} {φ : List Addr} {G : Hp} {f : Str} {d : D} {v : V} (hd : Dat K mg φ G d v) : ∀ {fs : List (Str × D)} {fvs : List (Str × V)}, DatF K mg φ G fs fvs → DatF K mg φ G (putFD f d fs) (putF f v fvs)
  | [], _, h => by
    unfold DatF at h
    subst h
    show DatF K mg φ G [(f, d)] [(f, v)]
    unfold DatF
    exact ⟨v, [], rfl, hd, by unfold DatF; rfl⟩
  | (g, e) :: fs, _, h => by
    unfold DatF at h
    obtain ⟨u, r, rfl, h1, h2⟩ := h
    have eq : putF f v ((g, u) :: r) = if g = f then (g, v) :: r else (g, u) :: putF f v r := by rw [putF]
    rw [eq]
    unfold putFD
    by_cases hg : g = f
    · rw [if_pos hg, if_pos hg]
      unfold DatF
      exact ⟨v, r, rfl, hd, h2⟩
    · rw [if_neg hg, if_neg hg]
      unfold DatF
      exact ⟨u, _, rfl, h1, datF_put hd h2⟩
def gFld (cs : List Str) (f : Str) (fo fe : FE) : FS := fun ρ S => (fe ρ S).into ρ fun d S => (fo ρ S).into ρ fun o S => match o with
  | .oid n => (match S[n]? with
    | some (.ins c fs) => if c ∈ cs ∧ fs.length < 1000 then .nx ρ (S.set n (.ins c (putFD f d fs))) else .stuck
    | _ => .stuck)
  | _ => .stuck
theorem wantS_if {P : Prop} [Decidable P] {Z φ : List Addr} {S : Store} {H : Hp} {r : Out} {Dd : Ends} (w : WantS X W Z φ S H (if P then r else .stuck) Dd) : P ∧ WantS X W Z φ S H r Dd := by
  by_cases h : P
  · rw [if_pos h] at w
    exact ⟨h, w⟩
  · rw [if_neg h] at w
    exact w.elim
theorem ds_fld {fn : Str} {cs : List Str} {value : Expr} {fe : FE} {pos' : Pos} (ho : DE X W o fo) (hv : DE X W value fe) (hc : ∀ c ∈ cs, ∃ C, ClsI X c C ∧ NoAttr X.K C fn) (hs : swapsWith value (some (.Attribute o fn pos')) pos.line X.env = pure false := by rfl) :
    DS X W (.Assign [.Attribute o fn pos'] value pos) (gFld cs fn fo fe) := by
  obtain ⟨to, po, qo⟩ := ho.ex
  obtain ⟨tv, pv, qv⟩ := hv.ex
  refine .mk (ps_fld po pv hs) fun Z φ S ρ σ H Dd R sl w => qv Z φ S ρ σ H _ R sl (w.into sl fun d S1 v φ1 H1 R1 E1 dd w1 => qo Z φ1 S1 ρ σ H1 _ R1 (sl.evo E1) (w1.into (sl.evo E1) fun od S2 ov φ2 H2 R2 E2 d2 w2 => ?_))
  cases od with
  | oid n =>
    simp only at w2
    unfold RDat Dat at d2
    obtain ⟨a, rfl, ha⟩ := d2
    cases hS : S2[n]? with
    | none => rw [hS] at w2; exact w2.elim
    | some so =>
      rw [hS] at w2
      cases so with
      | ins c fs =>
        obtain ⟨⟨hm, hlt⟩, w3⟩ := wantS_if w2
        obtain ⟨A, dx, fvs, q0, q1, q2⟩ := R2.ob n a _ ha hS
        obtain ⟨C, cl, na⟩ := hc c hm
        rw [cl.mg] at q0
        cases q0
        refine ⟨a, A, dx, fvs, rfl, q1, cl.cls, na, by rw [datF_length q2]; exact hlt, ?_⟩
        obtain ⟨R3, E3⟩ := R2.mutate (u := .ins c (putFD fn d fs)) (ho := .ins A dx (putF fn v fvs)) ha hS rfl rfl ⟨A, dx, _, cl.mg, upd_same, datF_put (Dat.evo E2 dd) q2⟩
        exact w3 σ φ2 _ R3 E3 (((sl.evo E1).evo E2).evo E3)
      | _ => exact w2.elim
  | _ => exact w2.elim
end
end DL

/-! The data layer, part 8: classes made, raise, what is frozen, dicts, lists. -/
namespace DL
open PySem L2

section
variable {X : Cx} {W : WX} {k k' n np : Nat} {f C : Addr} {fd : FuncData} {ps ks : List Str} {sp : Sp} {sem cs : Sem'} {x m : Str} {p pos apos : Pos} {e o : Expr} {es : List Expr} {kws : List Keyword} {fa fk : FA} {fo fe : FE} {gD : List D → List D → List D}
theorem guards_make {A : Around} (h : A.guards = some []) (C : Addr) (us : List Value) (kw : List (Str × Value)) : (A.under (.builtin "type.__call__" ⟨.ref C :: us, kw⟩)).guards = some [] := by
  have e : (Code.builtin "type.__call__" ⟨.ref C :: us, kw⟩).guards = [] := rfl
  show pushGuards (Code.builtin "type.__call__" ⟨.ref C :: us, kw⟩).guards A.guards = some []
  rw [e]
  exact h
theorem run_makeG {pins : List (Addr × Obj)} {σ : L2.St} {H : Hp} {s : Shared} {Q : VK} {us ws : List Value} {vs zs : List V} {g : List Value → List Value → List Value} {gV : List V → List V → List V} (M : Mk X.K C f) (F : FnG X.prog X.w X.K X.mg X.base k f fd ps sp) (Cc : Cn X W k') (hk : k + 1 ≤ k')
    (hb : KBn X.K fd ps (np + 1) ks g gV) (I : L2.Inv X pins σ H s) (r : Vals vs us) (rz : Vals zs ws) (l1 : vs.length = np) (l2 : zs.length = ks.length)
    (h : ∀ x dx, H x = none → H dx = none → dx ≠ x → sp (gV (.ref x :: vs) zs) (upd (upd H dx (.own x)) x (.ins C dx [])) (fun v H2 => v = .non ∧ Q (.ref x) H2) (WE W σ)) :
    wpAny (model X.prog X.w) X.A (call (.ref C) us (ks.zip ws)) (EP X pins σ Q) X.xe s := by
  have hq := h (s.heap.objs.size + 1) s.heap.objs.size (I.hok.fresh (Nat.le_succ _)) (I.hok.fresh (Nat.le_refl _)) (Nat.ne_of_lt (Nat.lt_succ_self _))
  have J := Inv.made (C := C) I
  have r1 : Vals (V.ref (s.heap.objs.size + 1) :: vs) (Value.ref (s.heap.objs.size + 1) :: us) := .cons rfl r
  have rr := hb.rel r1 rz
  have ln : (Value.ref (s.heap.objs.size + 1) :: us).length = np + 1 := by rw [List.length_cons, ← r.length, l1]
  refine wpAny_call (make_map (f := f) I.kIn M.makes M.init (beq_iff_eq.mp M.fn) (codeAny_mono
    (F.run _ X.stack _ _ _ _ _ _ (WE W σ) ((Cc.room.mono hk).make C us (ks.zip ws)) (guards_make Cc.gd C us (ks.zip ws)) (J.env0.make C us (ks.zip ws)) (hb.to _ _ ws J.kIn ln (rz.length.symm.trans l2)) rr hq) fun res s' hq' => ?_))
  cases res with
  | error e => exact L2N.passAt Cc.tk σ pins _ _ e s' J hq'
  | ok fl => cases fl with
    | ret u =>
      obtain ⟨v, H', I3, rv, ev, q3⟩ := J.after hq'
      subst ev
      exact ⟨rv, V.ref (s.heap.objs.size + 1), H', I3, rfl, q3⟩
    | _ => exact hq'.elim
/-- a new instance in the store -/
def makeO (sem : Sem') (gD : List D → List D → List D) (c : Str) (n : Nat) (ds es : List D) (S : Store) : Res D :=
  if (gD (.oid S.length :: ds) es).length = n then (sem (gD (.oid S.length :: ds) es) (S ++ [.ins c []])).bind fun d S' => if d.isNon then .ok (.oid S.length) S' else .stuck else .stuck
abbrev MakeT := List D → List D → Store → Res D
def MakeOk (X : Cx) (c : Str) (n : Nat) (sem : Sem') (gD : List D → List D → List D) (mk : MakeT) : Prop := ∀ (C : Addr) (gV : List V → List V → List V) Z φ S H ds es vs zs (Q : VK) (E : XK), X.mg c = some (.ref C) →
  (∀ (K' : PySem.W.Frag), K' = X.K → ∀ (mg : Str → Option Value) (φ : List Addr) (G : Hp) (ds es : List D) (vs zs : List V), DatL K' mg φ G ds vs → DatL K' mg φ G es zs → DatL K' mg φ G (gD ds es) (gV vs zs)) → Rel X.K X.mg Z φ S H →
  DatL X.K X.mg φ (gnd Z φ S H) ds vs → DatL X.K X.mg φ (gnd Z φ S H) es zs → Want X.K X.mg (RDat X.K X.mg) Z φ S H (mk ds es S) Q E →
  ∀ x dx, H x = none → H dx = none → dx ≠ x → spD X.K X.mg n sem (gV (.ref x :: vs) zs) (upd (upd H dx (.own x)) x (.ins C dx [])) (fun v H2 => v = .non ∧ Q (.ref x) H2) E
theorem made_same {H : Hp} {x dx C : Addr} (hx : H x = none) (hd : H dx = none) : Same H (upd (upd H dx (.own x)) x (.ins C dx [])) := fun a o h => by
  rw [upd_ne (ne_of_none h hx), upd_ne (ne_of_none h hd)]
  exact h
theorem makeO_ok {c : Str} : MakeOk X c n sem gD (makeO sem gD c n) := fun C gV Z φ S H ds es vs zs Q E hm hN R d1 d2 w x dx hx hd hne => by
  unfold makeO at w
  obtain ⟨hl, w1⟩ := want_if w
  have sm := made_same (C := C) hx hd
  have lv : liveA (φ ++ [x]) (S ++ [.ins c []]) = liveA φ S ++ [x] := by rw [liveA_snoc R.len]; rfl
  obtain ⟨R1, E1⟩ := R.newOid (so := .ins c []) sm hx (by rw [upd_same]; exact fun z => nomatch z) rfl ⟨C, dx, [], hm, upd_same, by unfold DatF; rfl⟩
  have dx1 : Dat X.K X.mg (φ ++ [x]) (gnd Z (φ ++ [x]) (S ++ [.ins c []]) (upd (upd H dx (.own x)) x (.ins C dx []))) (.oid S.length) (.ref x) := by
    unfold Dat
    exact ⟨x, rfl, by rw [List.getElem?_append_right (by rw [R.len]; exact Nat.le_refl _), ← R.len, Nat.sub_self]; rfl⟩
  have dd := hN X.K rfl X.mg _ _ _ _ _ _ (.cons dx1 (DatL.evo E1 d1)) (DatL.evo E1 d2)
  refine ⟨by rw [dd.length, hl], Z, φ ++ [x], S ++ [.ins c []], _, R1, dd, ?_⟩
  cases hr : sem (gD (.oid S.length :: ds) es) (S ++ [.ins c []]) with
  | ok d S' =>
    rw [hr] at w1
    simp only [Res.bind_ok] at w1
    obtain ⟨hn, w2⟩ := want_if w1
    intro v φ' H' R' E' dv
    have hv := isNon_V dv
    rw [hn] at hv
    refine ⟨of_decide_eq_true hv, w2 _ φ' H' R' (E1.trans E') (Dat.evo E' dx1)⟩
  | ex C' fs S' =>
    rw [hr] at w1
    exact fun A dx' φ' H' m R' E' z => w1 A dx' φ' H' m R' (E1.trans E') z
  | stuck =>
    rw [hr] at w1
    exact w1.elim
def fMake (mk : MakeT) (np nk : Nat) (fa fk : FA) : FE := fun ρ S => (fa ρ S).bind fun ds S => (fk ρ S).bind fun es S => if ds.length = np ∧ es.length = nk then mk ds es S else .stuck
/-! ### freezing -/
def fFrz (f : FE) : FE := fun ρ S => (f ρ S).bind fun d S => match d with
  | .oid n => (match S[n]? with
    | some (.lst ds) => .ok (.lst ds) (S.set n (.frz (.lst ds)))
    | some (.dic ks) => .ok (.dic ks) (S.set n (.frz (.dic ks)))
    | some (.ins c fs) => .ok (.ins c fs) (S.set n (.frz (.ins c fs)))
    | some (.frz d) => .ok d S
    | some (.tbl _ _) => .stuck
    | some (.dkt _) => .stuck
    | none => .stuck)
  | d => .ok d S
theorem de_frz (h : DE X W e fe) : DE X W e (fFrz fe) := by
  obtain ⟨t, p, q⟩ := h.ex
  refine .mk p (fun Z φ S ρ σ H Q R sl w => q Z φ S ρ σ H _ R sl (w.bind fun d S1 v φ1 H1 R1 E1 dd w1 => ?_))
  cases d with
  | oid n =>
    simp only at w1
    have dd0 := dd
    unfold RDat Dat at dd
    obtain ⟨a, rfl, ha⟩ := dd
    cases hS : S1[n]? with
    | none => rw [hS] at w1; exact w1.elim
    | some so =>
      rw [hS] at w1
      have ok := R1.ob n a so ha hS
      cases so with
      | lst ds =>
        obtain ⟨vs, h1, h2⟩ := ok
        have dn : Dat X.K X.mg φ1 (gnd Z φ1 (S1.set n (.frz (.lst ds))) H1) (.lst ds) (.ref a) := by
          unfold Dat
          exact ⟨a, vs, rfl, gnd_frz R1 ha h1, DatL.mono (List.prefix_refl _) evo_frz _ _ h2⟩
        obtain ⟨R2, E2⟩ := R1.freeze ha dn
        exact w1 _ φ1 H1 R2 E2 dn
      | dic ds =>
        obtain ⟨vs, h1, h2⟩ := ok
        have dn : Dat X.K X.mg φ1 (gnd Z φ1 (S1.set n (.frz (.dic ds))) H1) (.dic ds) (.ref a) := by
          unfold Dat
          exact ⟨a, vs, rfl, gnd_frz R1 ha h1, DatK.mono (List.prefix_refl _) evo_frz _ _ h2⟩
        obtain ⟨R2, E2⟩ := R1.freeze ha dn
        exact w1 _ φ1 H1 R2 E2 dn
      | ins c fs =>
        obtain ⟨A, dx, fvs, h0, h1, h2⟩ := ok
        have dn : Dat X.K X.mg φ1 (gnd Z φ1 (S1.set n (.frz (.ins c fs))) H1) (.ins c fs) (.ref a) := by
          unfold Dat
          exact ⟨a, A, dx, fvs, rfl, h0, gnd_frz R1 ha h1, DatF.mono (List.prefix_refl _) evo_frz _ _ h2⟩
        obtain ⟨R2, E2⟩ := R1.freeze ha dn
        exact w1 _ φ1 H1 R2 E2 dn
      | frz d => exact w1.now R1 ok
      | tbl _ _ => exact w1.elim
      | dkt _ => exact w1.elim
  | _ => exact w1.now R1 dd

/-! ### raise -/
/-- raise X('..'): an own class without an own __init__ -/
theorem ds_raise {bmB : List Value} {B newId initId : String} {msg : Str} {j : Nat} {p2 : Pos} (Cc : Cn X W k) (F : ExcBaseFacts B newId initId bmB) (q : PySem.W.excIn X.K C bmB newId = true) (gC : X.mg x = some (.ref C)) (kC : PySem.W.keepIn X.K (.ref C) = true) (r : Raises X (.ref C)) (hg : Gl X x)
    (hdb : (x == ("__debug__" : Str)) = false := by decide) : DS X W (.Raise (some (.Call (.Name x p) [.Constant (.str msg) j p2] [] apos)) none pos) (fun ρ S => .ex x [] ρ S) :=
  .mk (L2N.ps_raise Cc.calm Cc.tk (L2N.pmk_own F q gC kC r hg hdb)) fun Z φ S ρ σ H Dd R sl w => w C none σ φ H gC R Evo.refl sl (.inl ⟨rfl, rfl⟩)
end
end DL

/-! The data layer, part 9: operators on data, items, stores, built-ins. -/
namespace DL
open PySem L2

section
variable {X : Cx} {W : WX} {k : Nat} {a b c e : Expr} {es : List Expr} {fa fb fc fe : FE} {pos : Pos}
/-! tracked lists -/
def asLt (S : Store) : D → Option (List D)
  | .lst ds => some ds
  | .oid n => match S[n]? with
    | some (.lst ds) => some ds
    | some (.frz (.lst ds)) => some ds
    | _ => none
  | _ => none
theorem asLt_ok {K : PySem.W.Frag} {mg : Str → Option Value} {Z φ : List Addr} {S : Store} {H : Hp} (R : Rel K mg Z φ S H) {d : D} {v : V} {ds : List D} (h : Dat K mg φ (gnd Z φ S H) d v) (e : asLt S d = some ds) : ∃ a vs, v = .ref a ∧ H a = some (.lst vs) ∧ DatL K mg φ (gnd Z φ S H) ds vs := by
  cases d with
  | lst es =>
    cases e
    unfold Dat at h
    obtain ⟨a, vs, rfl, h1, h2⟩ := h
    exact ⟨a, vs, rfl, gnd_sub _ _ h1, h2⟩
  | oid n =>
    unfold Dat at h
    obtain ⟨a, rfl, h1⟩ := h
    cases q : S[n]? with
    | none => simp [asLt, q] at e
    | some o =>
      simp only [asLt, q] at e
      have ok := R.ob n a o h1 q
      cases o with
      | lst es =>
        cases e
        obtain ⟨vs, q1, q2⟩ := ok
        exact ⟨a, vs, rfl, q1, q2⟩
      | frz d =>
        cases d with
        | lst es =>
          cases e
          have ok' : Dat K mg φ (gnd Z φ S H) (.lst _) (.ref a) := ok
          unfold Dat at ok'
          obtain ⟨b, vs, e1, q1, q2⟩ := ok'
          cases e1
          exact ⟨a, vs, rfl, gnd_sub _ _ q1, q2⟩
        | _ => cases e
      | _ => cases e
  | _ => cases e
def D.tupOf : D → Option (List D)
  | .tup ds => some ds
  | _ => none
theorem tupOf_ok {K : PySem.W.Frag} {mg : Str → Option Value} {Z φ : List Addr} {S : Store} {H : Hp} {d : D} {v : V} {ds : List D} (h : Dat K mg φ (gnd Z φ S H) d v) (e : d.tupOf = some ds) : ∃ a vs, v = .ref a ∧ SqT K H a vs ∧ DatL K mg φ (gnd Z φ S H) ds vs := by
  cases d with
  | tup es =>
    cases e
    unfold Dat at h
    obtain ⟨a, vs, rfl, h1, h2⟩ := h
    exact ⟨a, vs, rfl, sqt_mono gnd_sub h1, h2⟩
  | _ => cases e

/-! ### + -/
def gAddI : G2 := gI (fun _ _ => true) fun i j => .int (i + j)
def gAddS : G2 := fun x y S => match x, y with
  | .str s, .str t => if short (s.length + t.length) then .ok (.str (s ++ t)) S else .stuck
  | _, _ => .stuck
def gAddT : G2 := fun x y S => match x, y with
  | .tup xs, .tup ys => if !xs.isEmpty && short (xs.length + ys.length) then .ok (.tup (xs ++ ys)) S else .stuck
  | _, _ => .stuck
def gAddL : G2 := fun x y S => match asLt S x, asLt S y with
  | some xs, some ys => if short (xs.length + ys.length) then .ok (.lst (xs ++ ys)) S else .stuck
  | _, _ => .stuck
def isI (x _ : D) (_ : Store) : Bool := match x with
  | .int _ => true
  | _ => false
def isS (x _ : D) (_ : Store) : Bool := match x with
  | .str _ => true
  | _ => false
def isT (x _ : D) (_ : Store) : Bool := match x with
  | .tup _ => true
  | _ => false
def gAdd : G2 := fun x y S => if isI x y S then gAddI x y S else if isS x y S then gAddS x y S else if isT x y S then gAddT x y S else gAddL x y S
theorem opd_addS : OpD X (fun x y H Q => ∃ i j, x = .str i ∧ y = .str j ∧ i.length + j.length ≤ sizeLine ∧ Q (.str (i ++ j)) H) gAddS := fun Z φ S H x y u v Q E R dx dy w => by
  unfold gAddS at w
  split at w
  · cases dStr dx
    cases dStr dy
    obtain ⟨h, w1⟩ := want_if w
    exact ⟨_, _, rfl, rfl, of_decide_eq_true h, w1.now R (dat_str _)⟩
  · exact w.elim
theorem opd_addT : OpD X (rCatT X.K) gAddT := fun Z φ S H x y u v Q E R dx dy w => by
  unfold gAddT at w
  split at w
  · rename_i xs ys
    obtain ⟨h, w1⟩ := want_if w
    simp only [Bool.and_eq_true, Bool.not_eq_true'] at h
    obtain ⟨p, vs, rfl, h1, h2⟩ := tupOf_ok dx rfl
    obtain ⟨q, us, rfl, h3, h4⟩ := tupOf_ok dy rfl
    refine ⟨p, q, vs, us, rfl, rfl, h1, h3, fun z => ?_, by rw [h2.length, h4.length]; exact of_decide_eq_true h.2, ?_⟩
    · rw [z] at h2
      have := h2.length
      cases xs with
      | nil => cases h.1
      | cons _ _ => cases this
    · by_cases hu : us = []
      · subst hu
        have hy : ys = [] := List.length_eq_zero_iff.mp (h4.length.symm)
        subst hy
        refine ⟨fun _ => ?_, fun z => absurd rfl z⟩
        rw [List.append_nil] at w1
        exact w1.now R dx
      · refine ⟨fun z => absurd z hu, fun _ t ht => ?_⟩
        obtain ⟨r, e, g⟩ := dat_newT R (h2.append h4) ht
        exact w1 _ _ _ r e g
  · exact w.elim
theorem opd_addL : OpD X rCat gAddL := fun Z φ S H x y u v Q E R dx dy w => by
  unfold gAddL at w
  split at w
  · rename_i xs ys e1 e2
    obtain ⟨h, w1⟩ := want_if w
    obtain ⟨p, vs, rfl, h1, h2⟩ := asLt_ok R dx e1
    obtain ⟨q, us, rfl, h3, h4⟩ := asLt_ok R dy e2
    refine ⟨p, q, vs, us, rfl, rfl, h1, h3, by rw [h2.length, h4.length]; exact of_decide_eq_true h, fun t ht => ?_⟩
    obtain ⟨r, e, g⟩ := dat_newL R (h2.append h4) ht
    exact w1 _ _ _ r e g
  · exact w.elim
theorem de_add (ha : DE X W a fa) (hb : DE X W b fb) : DE X W (.BinOp a .Add b pos) (fBin gAdd fa fb) :=
  de_bin (op_add.or (op_add_str.or (op_catT.or op_cat))) (OpD.or isI (opd_I0 fun _ _ _ _ => dat_int _) (OpD.or isS opd_addS (OpD.or isT opd_addT opd_addL))) ha hb

/-! ### == -/
mutual
def toPy : D → Option PyData
  | .non => some .none
  | .bl b => some (.bool b)
  | .int i => some (.int i)
  | .str x => some (.str x)
  | .tup ds => (toPyL ds).map .tuple
  | .lst ds => (toPyL ds).map .list
  | .scr ds => (toPyL ds).map .list
  | _ => none
def toPyL : List D → Option (List PyData)
  | [] => some []
  | d :: ds => (toPy d).bind fun p => (toPyL ds).map fun ps => p :: ps
end
mutual
theorem toPy_ok {K : PySem.W.Frag} {mg : Str → Option Value} {φ : List Addr} {G H : Hp} (e : Same G H) : ∀ (d : D) (v : V) (p : PyData), Dat K mg φ G d v → toPy d = some p → Dp K H v p
  | .non, v, p, h, q => by
    unfold toPy at q
    unfold Dat at h
    cases q
    subst h
    exact .non
  | .bl b, v, p, h, q => by
    unfold toPy at q
    unfold Dat at h
    cases q
    subst h
    exact .bl b
  | .int b, v, p, h, q => by
    unfold toPy at q
    unfold Dat at h
    cases q
    subst h
    exact .int b
  | .str b, v, p, h, q => by
    unfold toPy at q
    unfold Dat at h
    cases q
    subst h
    exact .str b
  | .ty n, v, p, h, q => by unfold toPy at q; cases q
  | .oid n, v, p, h, q => by unfold toPy at q; cases q
  | .dic n, v, p, h, q => by unfold toPy at q; cases q
  | .ins n m, v, p, h, q => by unfold toPy at q; cases q
  | .tup ds, v, p, h, q => by
    unfold toPy at q
    unfold Dat at h
    obtain ⟨a, vs, rfl, h1, h2⟩ := h
    cases r : toPyL ds with
    | none => rw [r] at q; cases q
    | some ps =>
      rw [r] at q
      cases q
      exact .tup (sqt_mono e h1) (toPyL_ok e ds vs ps h2 r)
  | .lst ds, v, p, h, q => by
    unfold toPy at q
    unfold Dat at h
    obtain ⟨a, vs, rfl, h1, h2⟩ := h
    cases r : toPyL ds with
    | none => rw [r] at q; cases q
    | some ps =>
      rw [r] at q
      cases q
      exact .lst (.of (e _ _ h1)) (toPyL_ok e ds vs ps h2 r)
  | .scr ds, v, p, h, q => by
    unfold toPy at q
    unfold Dat at h
    obtain ⟨a, vs, rfl, h1, h2⟩ := h
    cases r : toPyL ds with
    | none => rw [r] at q; cases q
    | some ps =>
      rw [r] at q
      cases q
      exact .lst (Same.seq e h1) (toPyL_ok e ds vs ps h2 r)
theorem toPyL_ok {K : PySem.W.Frag} {mg : Str → Option Value} {φ : List Addr} {G H : Hp} (e : Same G H) : ∀ (ds : List D) (vs : List V) (ps : List PyData), DatL K mg φ G ds vs → toPyL ds = some ps → DpAll K H vs ps
  | [], vs, ps, h, q => by
    unfold toPyL at q
    unfold DatL at h
    cases q
    subst h
    exact .nil
  | d :: ds, vs, ps, h, q => by
    unfold toPyL at q
    unfold DatL at h
    obtain ⟨v, r, rfl, h1, h2⟩ := h
    obtain ⟨p, q1, q2⟩ := Option.bind_eq_some_iff.mp q
    cases rr : toPyL ds with
    | none => rw [rr] at q2; cases q2
    | some ps' =>
      rw [rr] at q2
      cases q2
      exact .cons (toPy_ok e d v p h1 q1) (toPyL_ok e ds r ps' h2 rr)
end
/-- as data, a list of the store by its items -/
def pyOf (S : Store) (d : D) : Option PyData := match d with
  | .oid n => (match asL S (.oid n) with
    | some ds => (toPyL ds).map .list
    | none => match S[n]? with
      | some (.frz d) => toPy d
      | _ => none)
  | d => toPy d
theorem pyOf_ok {Z φ : List Addr} {S : Store} {H : Hp} (R : Rel X.K X.mg Z φ S H) {d : D} {v : V} {p : PyData} (h : Dat X.K X.mg φ (gnd Z φ S H) d v) (q : pyOf S d = some p) : Dp X.K H v p := by
  unfold pyOf at q
  split at q
  · rename_i n
    cases hl : asL S (.oid n) with
    | some ds =>
      rw [hl] at q
      obtain ⟨a, vs, rfl, h1, h2⟩ := asL_ok R h hl
      cases r : toPyL ds with
      | none => simp [r] at q
      | some ps =>
        simp only [r, Option.map_some, Option.some.injEq] at q
        subst q
        exact .lst h1 (toPyL_ok gnd_sub ds vs ps h2 r)
    | none =>
      rw [hl] at q
      simp only at q
      split at q
      · rename_i d hd
        unfold Dat at h
        obtain ⟨a, rfl, ha⟩ := h
        exact toPy_ok gnd_sub d _ p (R.ob n a _ ha hd) q
      · cases q
  · exact toPy_ok gnd_sub d v p h q
def scalD : D → D → Bool
  | .non, .non => true | .non, .int _ => true | .int _, .non => true | .non, .bl _ => true | .bl _, .non => true | .non, .str _ => true | .str _, .non => true
  | .int _, .int _ => true | .bl _, .bl _ => true | .str _, .str _ => true
  | .int _, .str _ => true | .str _, .int _ => true | .bl _, .str _ => true | .str _, .bl _ => true
  | _, _ => false
def eqS : D → D → Bool
  | .non, .non => true
  | .int i, .int j => decide (i = j)
  | .bl i, .bl j => decide (i = j)
  | .str i, .str j => decide (i = j)
  | _, _ => false
def gEqS (neg : Bool) : G2 := fun x y S => if scalD x y then .ok (.bl (if neg then !eqS x y else eqS x y)) S else .stuck
def gEqD (neg : Bool) : G2 := fun x y S => match pyOf S x, pyOf S y with
  | some p, some q => if SeqAt.shaped p && SeqAt.shaped q then .ok (.bl (if neg then !PyData.eqv p q else PyData.eqv p q)) S else .stuck
  | _, _ => .stuck
theorem eqS_ok {φ : List Addr} {G : Hp} {x y : D} {u v : V} (h : scalD x y = true) (dx : Dat X.K X.mg φ G x u) (dy : Dat X.K X.mg φ G y v) : scal u v = true ∧ decide (u = v) = eqS x y := by
  cases x <;> cases y <;> first
    | (cases h; done)
    | (unfold Dat at dx dy; subst dx; subst dy; refine ⟨rfl, ?_⟩; simp [eqS])
theorem opd_eqS : OpD X rEq (gEqS false) := fun Z φ S H x y u v Q E R dx dy w => by
  obtain ⟨h, w1⟩ := want_if w
  obtain ⟨a, b⟩ := eqS_ok h dx dy
  refine ⟨a, ?_⟩
  rw [b]
  exact w1.now R (dat_bl _)
theorem opd_neS : OpD X rNe (gEqS true) := fun Z φ S H x y u v Q E R dx dy w => by
  obtain ⟨h, w1⟩ := want_if w
  obtain ⟨a, b⟩ := eqS_ok h dx dy
  refine ⟨a, ?_⟩
  rw [b]
  exact w1.now R (dat_bl _)
theorem opd_eqD : OpD X (rEqD X.K) (gEqD false) := fun Z φ S H x y u v Q E R dx dy w => by
  unfold gEqD at w
  split at w
  · rename_i p q e1 e2
    obtain ⟨h, w1⟩ := want_if w
    rw [Bool.and_eq_true] at h
    exact ⟨p, q, pyOf_ok R dx e1, pyOf_ok R dy e2, h.1, h.2, w1.now R (dat_bl _)⟩
  · exact w.elim
theorem opd_neD : OpD X (rNeD X.K) (gEqD true) := fun Z φ S H x y u v Q E R dx dy w => by
  unfold gEqD at w
  split at w
  · rename_i p q e1 e2
    obtain ⟨h, w1⟩ := want_if w
    rw [Bool.and_eq_true] at h
    exact ⟨p, q, pyOf_ok R dx e1, pyOf_ok R dy e2, h.1, h.2, w1.now R (dat_bl _)⟩
  · exact w.elim
def pScal (x y : D) (_ : Store) : Bool := scalD x y
def gEq : G2 := fun x y S => if pScal x y S then gEqS false x y S else gEqD false x y S
def gNe : G2 := fun x y S => if pScal x y S then gEqS true x y S else gEqD true x y S
theorem Cn.u64 (C : Cn X W k) : X.A.units + 64 < cLine := C.room.units
theorem Cn.u1 (C : Cn X W k) : X.A.units + 1 < cLine := Nat.lt_of_le_of_lt (by omega) C.u64
theorem opr_eq (C : Cn X W k) : OpR X (compareOp .Eq) (fun x y H Q => rEq x y H Q ∨ rEqD X.K x y H Q) := op_eq.or (op_eqD C.u64)
theorem opr_ne (C : Cn X W k) : OpR X (compareOp .NotEq) (fun x y H Q => rNe x y H Q ∨ rNeD X.K x y H Q) := op_ne.or (op_neD C.u64)
theorem opd_eq : OpD X (fun x y H Q => rEq x y H Q ∨ rEqD X.K x y H Q) gEq := OpD.or pScal opd_eqS opd_eqD
theorem opd_ne : OpD X (fun x y H Q => rNe x y H Q ∨ rNeD X.K x y H Q) gNe := OpD.or pScal opd_neS opd_neD

/-! ### in -/
def D.flat : D → Bool
  | .non => true
  | .bl _ => true
  | .int _ => true
  | .str _ => true
  | _ => false
def eqF : D → D → Bool
  | .non, .non => true
  | .bl a, .bl b => a == b
  | .bl a, .int b => (if a then 1 else 0) == b
  | .int a, .bl b => a == (if b then 1 else 0)
  | .int a, .int b => a == b
  | .str a, .str b => a == b
  | _, _ => false
theorem flat_V {φ : List Addr} {G : Hp} {d : D} {v : V} (h : Dat X.K X.mg φ G d v) (f : d.flat = true) : flatV v = true := by
  cases d <;> first
    | (cases f; done)
    | (unfold Dat at h; subst h; rfl)
theorem eqF_V {φ : List Addr} {G : Hp} {x y : D} {u v : V} (dx : Dat X.K X.mg φ G x u) (dy : Dat X.K X.mg φ G y v) (fx : x.flat = true) (fy : y.flat = true) : eqV u v = eqF x y := by
  cases x <;> cases y <;> first
    | (cases fx; done)
    | (cases fy; done)
    | (unfold Dat at dx dy; subst dx; subst dy; rfl)
theorem all_flat {φ : List Addr} {G : Hp} : ∀ {ds : List D} {vs : List V}, DatL X.K X.mg φ G ds vs → ds.all D.flat = true → vs.all flatV = true
  | [], _, h, _ => by
    unfold DatL at h
    subst h
    rfl
  | d :: ds, _, h, f => by
    obtain ⟨v, r, rfl, h1, h2⟩ := h.uncons
    rw [List.all_cons, Bool.and_eq_true] at f ⊢
    exact ⟨flat_V h1 f.1, all_flat h2 f.2⟩
def inF (x : D) (ds : List D) : Bool := ds.any fun y => eqF y x
theorem inF_V {φ : List Addr} {G : Hp} {x : D} {u : V} (dx : Dat X.K X.mg φ G x u) (fx : x.flat = true) : ∀ {ds : List D} {vs : List V}, DatL X.K X.mg φ G ds vs → ds.all D.flat = true → inV u vs = inF x ds
  | [], _, h, _ => by
    unfold DatL at h
    subst h
    rfl
  | d :: ds, _, h, f => by
    obtain ⟨v, r, rfl, h1, h2⟩ := h.uncons
    rw [List.all_cons, Bool.and_eq_true] at f
    have q := inF_V dx fx h2 f.2
    unfold inV inF at q ⊢
    rw [List.any_cons, List.any_cons, q, eqF_V h1 dx f.1 fx]
def gInQ (neg : Bool) : G2 := fun x y S => match asQ S y with
  | some ds => if x.flat && ds.all D.flat then .ok (.bl (if neg then !inF x ds else inF x ds)) S else .stuck
  | none => .stuck
theorem opd_inQ {neg : Bool} : OpD X (rIn X.K neg) (gInQ neg) := fun Z φ S H x y u v Q E R dx dy w => by
  unfold gInQ at w
  split at w
  · rename_i ds e1
    obtain ⟨h, w1⟩ := want_if w
    rw [Bool.and_eq_true] at h
    obtain ⟨p, vs, rfl, h1, h2⟩ := asQ_ok R dy e1
    refine ⟨p, vs, rfl, h1, flat_V dx h.1, all_flat h2 h.2, ?_⟩
    rw [inF_V dx h.1 h2 h.2]
    exact w1.now R (dat_bl _)
  · exact w.elim
/-! dicts -/
def asD (S : Store) : D → Option (List (Key × D))
  | .dic ks => some ks
  | .oid n => match S[n]? with
    | some (.dic ks) => some ks
    | some (.frz (.dic ks)) => some ks
    | _ => none
  | _ => none
theorem asD_ok {K : PySem.W.Frag} {mg : Str → Option Value} {Z φ : List Addr} {S : Store} {H : Hp} (R : Rel K mg Z φ S H) {d : D} {v : V} {ks : List (Key × D)} (h : Dat K mg φ (gnd Z φ S H) d v) (e : asD S d = some ks) : ∃ a kvs, v = .ref a ∧ H a = some (.dK kvs) ∧ DatK K mg φ (gnd Z φ S H) ks kvs := by
  cases d with
  | dic es =>
    cases e
    unfold Dat at h
    obtain ⟨a, vs, rfl, h1, h2⟩ := h
    exact ⟨a, vs, rfl, gnd_sub _ _ h1, h2⟩
  | oid n =>
    unfold Dat at h
    obtain ⟨a, rfl, h1⟩ := h
    cases q : S[n]? with
    | none => simp [asD, q] at e
    | some o =>
      simp only [asD, q] at e
      have ok := R.ob n a o h1 q
      cases o with
      | dic es =>
        cases e
        obtain ⟨vs, q1, q2⟩ := ok
        exact ⟨a, vs, rfl, q1, q2⟩
      | frz d =>
        cases d with
        | dic es =>
          cases e
          have ok' : Dat K mg φ (gnd Z φ S H) (.dic _) (.ref a) := ok
          unfold Dat at ok'
          obtain ⟨b, vs, e1, q1, q2⟩ := ok'
          cases e1
          exact ⟨a, vs, rfl, gnd_sub _ _ q1, q2⟩
        | _ => cases e
      | _ => cases e
  | _ => cases e
def keyD : D → Option Key
  | .int i => some (.inl i)
  | .str x => some (.inr x)
  | _ => none
theorem keyD_ok {φ : List Addr} {G : Hp} {d : D} {v : V} {k : Key} (h : Dat X.K X.mg φ G d v) (e : keyD d = some k) : v = kV k := by
  cases d with
  | int i => cases e; exact dInt h
  | str i => cases e; exact dStr h
  | _ => cases e
theorem valD_ok {K : PySem.W.Frag} {mg : Str → Option Value} {φ : List Addr} {G : Hp} {k : Key} : ∀ {ks : List (Key × D)} {kvs : List (Key × V)}, DatK K mg φ G ks kvs → (∀ d, valD ks k = some d → ∃ v, valV kvs k = some v ∧ Dat K mg φ G d v) ∧ (valD ks k = none → valV kvs k = none)
  | [], _, h => by
    unfold DatK at h
    subst h
    exact ⟨fun d q => (by cases q), fun _ => rfl⟩
  | (j, d) :: ks, _, h => by
    unfold DatK at h
    obtain ⟨v, r, rfl, h1, h2⟩ := h
    obtain ⟨A, B⟩ := valD_ok (k := k) h2
    unfold valD valV at A B ⊢
    rw [List.find?_cons, List.find?_cons]
    by_cases hj : j = k
    · simp only [hj, decide_true]
      exact ⟨fun e q => (by cases q; exact ⟨v, rfl, h1⟩), fun q => (by cases q)⟩
    · simp only [hj, decide_false]
      exact ⟨A, B⟩
theorem valD_some {K : PySem.W.Frag} {mg : Str → Option Value} {φ : List Addr} {G : Hp} {k : Key} {ks : List (Key × D)} {kvs : List (Key × V)} (h : DatK K mg φ G ks kvs) : (valV kvs k).isSome = (valD ks k).isSome := by
  obtain ⟨A, B⟩ := valD_ok (k := k) h
  cases q : valD ks k with
  | none => rw [B q]; rfl
  | some d =>
    obtain ⟨v, e, _⟩ := A d q
    rw [e]
    rfl
def rInD : R2 := fun y x H Q => ∃ a o, x = .ref a ∧ DGet H a y o ∧ Q (.bl o.isSome) H
def rNotInD : R2 := fun y x H Q => ∃ a o, x = .ref a ∧ DGet H a y o ∧ Q (.bl (!o.isSome)) H
theorem opr_inD (C : Cn X W k) : OpR X (compareOp .In) rInD := fun pins s σ H x y v u Q I rx ry h => by
  obtain ⟨p, o, rfl, g, q⟩ := h
  cases (show u = Value.ref p from ry)
  exact d_in C.u1 I g rx fun s' I' => ⟨.bl o.isSome, H, I', rfl, q⟩
theorem opr_notInD (C : Cn X W k) : OpR X (compareOp .NotIn) rNotInD := fun pins s σ H x y v u Q I rx ry h => by
  obtain ⟨p, o, rfl, g, q⟩ := h
  cases (show u = Value.ref p from ry)
  exact d_notIn C.u1 I g rx fun s' I' => ⟨.bl (!o.isSome), H, I', rfl, q⟩
def gInD (neg : Bool) : G2 := fun x y S => match asD S y, keyD x with
  | some ks, some j => .ok (.bl (if neg then !(valD ks j).isSome else (valD ks j).isSome)) S
  | _, _ => .stuck
theorem opd_inD : OpD X rInD (gInD false) := fun Z φ S H x y u v Q E R dx dy w => by
  unfold gInD at w
  split at w
  · rename_i ks j e1 e2
    obtain ⟨p, kvs, rfl, h1, h2⟩ := asD_ok R dy e1
    refine ⟨p, valV kvs j, rfl, .inl ⟨kvs, j, .inl h1, keyD_ok dx e2, rfl⟩, ?_⟩
    rw [valD_some h2]
    exact w.now R (dat_bl _)
  · exact w.elim
theorem opd_notInD : OpD X rNotInD (gInD true) := fun Z φ S H x y u v Q E R dx dy w => by
  unfold gInD at w
  split at w
  · rename_i ks j e1 e2
    obtain ⟨p, kvs, rfl, h1, h2⟩ := asD_ok R dy e1
    refine ⟨p, valV kvs j, rfl, .inl ⟨kvs, j, .inl h1, keyD_ok dx e2, rfl⟩, ?_⟩
    rw [valD_some h2]
    exact w.now R (dat_bl _)
  · exact w.elim
def pDic (_ y : D) (S : Store) : Bool := (asD S y).isSome
def gIn : G2 := fun x y S => if pDic x y S then gInD false x y S else gInQ false x y S
def gNotIn : G2 := fun x y S => if pDic x y S then gInD true x y S else gInQ true x y S
theorem opr_in (C : Cn X W k) : OpR X (compareOp .In) (fun x y H Q => rInD x y H Q ∨ rIn X.K false x y H Q) := (opr_inD C).or op_in_seq
theorem opr_notIn (C : Cn X W k) : OpR X (compareOp .NotIn) (fun x y H Q => rNotInD x y H Q ∨ rIn X.K true x y H Q) := (opr_notInD C).or op_notIn_seq
theorem opd_in : OpD X (fun x y H Q => rInD x y H Q ∨ rIn X.K false x y H Q) gIn := OpD.or pDic opd_inD opd_inQ
theorem opd_notIn : OpD X (fun x y H Q => rNotInD x y H Q ∨ rIn X.K true x y H Q) gNotIn := OpD.or pDic opd_notInD opd_inQ

/-! ### items -/
def gIxQ : G2 := fun x y S => match asQ S x, y with
  | some ds, .int i => (match atI ds i with
    | some d => .ok d S
    | none => .stuck)
  | _, _ => .stuck
theorem atI_dat {φ : List Addr} {G : Hp} {ds : List D} {vs : List V} (h : DatL X.K X.mg φ G ds vs) {i : Int} {d : D} (e : atI ds i = some d) : ∃ v, atI vs i = some v ∧ Dat X.K X.mg φ G d v := by
  unfold atI at e ⊢
  rw [h.length]
  obtain ⟨j, h1, h2⟩ := Option.bind_eq_some_iff.mp e
  obtain ⟨v, h3, h4⟩ := h.get h2
  exact ⟨v, by rw [h1, Option.bind_some, h3], h4⟩
theorem opd_ixQ : OpD X (fun x y H Q => rIxL X.K x y H Q ∨ rIxT X.K x y H Q) gIxQ := fun Z φ S H x y u v Q E R dx dy w => by
  unfold gIxQ at w
  split at w
  · rename_i ds i e1
    cases dInt dy
    obtain ⟨p, vs, rfl, h1, h2⟩ := asQ_ok R dx e1
    cases q : atI ds i with
    | none => rw [q] at w; exact w.elim
    | some d =>
      rw [q] at w
      obtain ⟨z, h3, h4⟩ := atI_dat h2 q
      rcases h1 with h1 | h1
      · exact .inl ⟨p, vs, i, z, rfl, rfl, h1, h3, w.now R h4⟩
      · exact .inr ⟨p, vs, i, z, rfl, rfl, h1, h3, w.now R h4⟩
  · exact w.elim
def rIxD : R2 := fun x y H Q => ∃ a v, x = .ref a ∧ DGet H a y (some v) ∧ Q v H
theorem ix_dict (C : Cn X W k) : IxR X rIxD := fun value slice pins s σ H x y v u Q I rx ry h hs => by
  obtain ⟨p, z, rfl, g, q⟩ := h
  cases (show v = Value.ref p from rx)
  exact PyProof.Rows.tail_any (dict_typeIs I g) PySem.F.slot_dict_getitem.lookup (d_getItem C.u1 I g ry fun w' s3 I3 rw' => ⟨z, H, I3, rw', q⟩) hs
def gIxD : G2 := fun x y S => match asD S x, keyD y with
  | some ks, some j => (match valD ks j with
    | some d => .ok d S
    | none => .stuck)
  | _, _ => .stuck
theorem opd_ixD : OpD X rIxD gIxD := fun Z φ S H x y u v Q E R dx dy w => by
  unfold gIxD at w
  split at w
  · rename_i ks j e1 e2
    obtain ⟨p, kvs, rfl, h1, h2⟩ := asD_ok R dx e1
    cases q : valD ks j with
    | none => rw [q] at w; exact w.elim
    | some d =>
      rw [q] at w
      obtain ⟨z, h3, h4⟩ := (valD_ok h2).1 d q
      exact ⟨p, z, rfl, .inl ⟨kvs, j, .inl h1, keyD_ok dy e2, h3.symm⟩, w.now R h4⟩
  · exact w.elim
def gIxS : G2 := fun x y S => match x, y with
  | .str z, .int i => if short z.length then (match atI z.cps.toList i with
    | some c => .ok (.str ⟨#[c]⟩) S
    | none => .stuck) else .stuck
  | _, _ => .stuck
theorem opd_ixS : OpD X rIxS gIxS := fun Z φ S H x y u v Q E R dx dy w => by
  unfold gIxS at w
  split at w
  · rename_i z i
    cases dInt dy
    cases dStr dx
    obtain ⟨h, w1⟩ := want_if w
    cases q : atI z.cps.toList i with
    | none => rw [q] at w1; exact w1.elim
    | some c =>
      rw [q] at w1
      exact ⟨z, i, c, rfl, rfl, of_decide_eq_true h, q, w1.now R (dat_str _)⟩
  · exact w.elim
def pDic1 (x _ : D) (S : Store) : Bool := (asD S x).isSome
def gIx : G2 := fun x y S => if pDic1 x y S then gIxD x y S else if isS x y S then gIxS x y S else gIxQ x y S
theorem de_sub1 (C : Cn X W k) (ha : DE X W a fa) (hb : DE X W b fb) (hs : PlainIx b := by intro _ _; rfl) : DE X W (.Subscript a b pos) (fBin gIx fa fb) :=
  de_ix ((ix_dict C).or (ix_str.or (ix_list.or ix_tup))) (OpD.or pDic1 opd_ixD (OpD.or isS opd_ixS opd_ixQ)) ha hb hs
end
end DL

/-! The data layer, part 10: chains of comparisons, calls of built-in functions. -/
namespace DL
open PySem L2

section
variable {X : Cx} {W : WX} {k : Nat} {a b c e : Expr} {es : List Expr} {fa fb fc fe : FE} {pos p : Pos}
/-! ### chains -/
theorem chain_ok {ta tb tc : TE} {r r' : R2} {g g' : G2} (hg : OpD X r g) (hg' : OpD X r' g') (qa : IsE X W ta fa) (qb : IsE X W tb fb) (qc : IsE X W tc fc) : IsE X W (tChain r r' ta tb tc) (fChain g g' fa fb fc) := fun Z φ S ρ σ H Q R sl w =>
  qa Z φ S ρ σ H _ R sl (w.bind fun x S1 u φ1 H1 R1 E1 d1 w1 => qb Z φ1 S1 ρ σ H1 _ R1 (sl.evo E1) (w1.bind fun y S2 v φ2 H2 R2 E2 d2 w2 =>
    hg Z φ2 S2 H2 x y u v _ _ R2 (Dat.evo E2 d1) d2 (w2.bind fun z S3 t φ3 H3 R3 E3 d3 w3 => by
      cases z with
      | bl k =>
        unfold RDat Dat at d3
        refine ⟨k, d3, ?_⟩
        cases k with
        | true => exact iteT (qc Z φ3 S3 ρ σ H3 _ R3 (((sl.evo E1).evo E2).evo E3) (w3.bind fun s S4 q φ4 H4 R4 E4 d4 w4 => hg' Z φ4 S4 H4 y s v q _ _ R4 (Dat.evo E4 (Dat.evo E3 d2)) d4 w4))
        | false => exact iteF (w3.now R3 (dat_bl _))
      | _ => exact w3.elim)))
theorem de_chain {op op' : CmpOp} {r r' : R2} {g g' : G2} (ho : OpR X (compareOp op) r) (ho' : OpR X (compareOp op') r') (hg : OpD X r g) (hg' : OpD X r' g') (ha : DE X W a fa) (hb : DE X W b fb) (hc : DE X W c fc)
    (hm : lastMarks [op, op'] [b, c] = false := by with_unfolding_all rfl) : DE X W (.Compare a [op, op'] [b, c] pos) (fChain g g' fa fb fc) := by
  obtain ⟨ta, pa, qa⟩ := ha.ex
  obtain ⟨tb, pb, qb⟩ := hb.ex
  obtain ⟨tc, pc, qc⟩ := hc.ex
  exact .mk (pe_chain ho ho' pa pb pc hm) (chain_ok hg hg' qa qb qc)
theorem dt_chain {op op' : CmpOp} {r r' : R2} {g g' : G2} (ho : OpR X (compareOp op) r) (ho' : OpR X (compareOp op') r') (hg : OpD X r g) (hg' : OpD X r' g') (ha : DE X W a fa) (hb : DE X W b fb) (hc : DE X W c fc)
    (hm : lastMarks [op, op'] [b, c] = false := by with_unfolding_all rfl) : DT X W (.Compare a [op, op'] [b, c] pos) (toB (fChain g g' fa fb fc)) := by
  obtain ⟨ta, pa, qa⟩ := ha.ex
  obtain ⟨tb, pb, qb⟩ := hb.ex
  obtain ⟨tc, pc, qc⟩ := hc.ex
  exact .mk (pt_chain ho ho' pa pb pc hm) (toB_ok (chain_ok hg hg' qa qb qc))

/-! ### calls of what is built in -/
abbrev GC := List D → Store → Res D
def CallD (X : Cx) (r : List V → Hp → VK → Prop) (g : GC) : Prop := ∀ (Z φ : List Addr) (S : Store) (H : Hp) (ds : List D) (vs : List V) (Q : VK) (E : XK), Rel X.K X.mg Z φ S H → DatL X.K X.mg φ (gnd Z φ S H) ds vs → Want X.K X.mg (RDat X.K X.mg) Z φ S H (g ds S) Q E → r vs H Q
def fCB (g : GC) (fa : FA) : FE := fun ρ S => (fa ρ S).bind g
theorem isE_cb {r : List V → Hp → VK → Prop} {g : GC} {t : TA} {fa : FA} (hg : CallD X r g) (q : IsA X W t fa) : IsE X W (tCB r t) (fCB g fa) := fun Z φ S ρ σ H Q R sl w =>
  q Z φ S ρ σ H _ R sl (w.bind fun ds S1 vs φ1 H1 R1 E1 d w1 => hg Z φ1 S1 H1 ds vs Q _ R1 d w1)
theorem de_callB {x : Str} {id : String} {r : List V → Hp → VK → Prop} {g : GC} {fa : FA} (hc : CallR X (.builtin id) r) (hd : CallD X r g) (hg : Gl X x) (hm : X.mg x = none) (hv : bootBuiltins x = some (.builtin id)) (ha : DA X W (e :: es) fa) (hn : x ≠ "__name__" := by decide) (hdb : (x == ("__debug__" : Str)) = false := by decide)
    (he : starEach (e :: es) X.env = (false, eval e X.env) :: starEach es X.env := by rfl) (hpl : (backTo pos (starEach es X.env)).any (·.1) = false := by rfl) : DE X W (.Call (.Name x p) (e :: es) [] pos) (fCB g fa) := by
  obtain ⟨t, p, q⟩ := ha.ex
  exact .mk (pe_callB hc hg hm hv p hn hdb he hpl) (isE_cb hd q)
theorem de_callTy {x : Str} {id : String} {r : List V → Hp → VK → Prop} {g : GC} {fa : FA} (hc : CallR X (.type id) r) (hd : CallD X r g) (hg : Gl X x) (hm : X.mg x = none) (hv : bootBuiltins x = some (.type id)) (ha : DA X W (e :: es) fa) (hn : x ≠ "__name__" := by decide) (hdb : (x == ("__debug__" : Str)) = false := by decide)
    (he : starEach (e :: es) X.env = (false, eval e X.env) :: starEach es X.env := by rfl) (hpl : (backTo pos (starEach es X.env)).any (·.1) = false := by rfl) : DE X W (.Call (.Name x p) (e :: es) [] pos) (fCB g fa) := by
  obtain ⟨t, p, q⟩ := ha.ex
  exact .mk (pe_callTy hc hg hm hv p hn hdb he hpl) (isE_cb hd q)
theorem callR_or {f : Value} {r r' : List V → Hp → VK → Prop} (h : CallR X f r) (h' : CallR X f r') : CallR X f (fun xs H Q => r xs H Q ∨ r' xs H Q) := fun pins s σ H xs us Q I rx q => q.elim (h pins s σ H xs us Q I rx) (h' pins s σ H xs us Q I rx)
theorem callD_or {r r' : List V → Hp → VK → Prop} {g g' : GC} (t : List D → Store → Bool) (h : CallD X r g) (h' : CallD X r' g') : CallD X (fun xs H Q => r xs H Q ∨ r' xs H Q) (fun ds S => if t ds S then g ds S else g' ds S) := fun Z φ S H ds vs Q E R d w => by
  by_cases q : t ds S = true
  · exact .inl (h Z φ S H ds vs Q E R d (by simpa only [q, if_true] using w))
  · exact .inr (h' Z φ S H ds vs Q E R d (by simpa [q] using w))

/-! len -/
def gLenQ : GC := fun ds S => match ds with
  | [d] => match asQ S d with
    | some xs => .ok (.int (xs.length : Nat)) S
    | none => .stuck
  | _ => .stuck
def gLenS : GC := fun ds S => match ds with
  | [.str z] => if short z.length then .ok (.int (z.length : Nat)) S else .stuck
  | _ => .stuck
def gLenD : GC := fun ds S => match ds with
  | [d] => match asD S d with
    | some ks => .ok (.int (ks.length : Nat)) S
    | none => .stuck
  | _ => .stuck
theorem datK_length {K : PySem.W.Frag} {mg : Str → Option Value} {φ : List Addr} {G : Hp} : ∀ {ks : List (Key × D)} {kvs : List (Key × V)}, DatK K mg φ G ks kvs → kvs.length = ks.length
  | [], _, h => by
    unfold DatK at h
    subst h
    rfl
  | (k, d) :: ks, _, h => by
    unfold DatK at h
    obtain ⟨v, r, rfl, _, h2⟩ := h
    rw [List.length_cons, List.length_cons, datK_length h2]
theorem cd_lenQ : CallD X (fun xs H Q => ∃ p ys, xs = [.ref p] ∧ (SqL X.K H p ys ∨ SqT X.K H p ys) ∧ Q (.int ys.length) H) gLenQ := fun Z φ S H ds vs Q E R d w => by
  unfold gLenQ at w
  split at w
  · obtain ⟨v, rfl, h1⟩ := datL1 d
    split at w
    · rename_i xs e1
      obtain ⟨a, us, rfl, h2, h3⟩ := asQ_ok R h1 e1
      refine ⟨a, us, rfl, h2, ?_⟩
      rw [h3.length]
      exact w.now R (dat_int _)
    · exact w.elim
  · exact w.elim
theorem cd_lenS : CallD X (fun xs H Q => ∃ z, xs = [.str z] ∧ z.length ≤ sizeLine ∧ Q (.int z.length) H) gLenS := fun Z φ S H ds vs Q E R d w => by
  unfold gLenS at w
  split at w
  · obtain ⟨v, rfl, h1⟩ := datL1 d
    obtain ⟨h, w1⟩ := want_if w
    cases dStr h1
    exact ⟨_, rfl, of_decide_eq_true h, w1.now R (dat_int _)⟩
  · exact w.elim
theorem cd_lenD : CallD X (fun xs H Q => ∃ a kvs, xs = [V.ref a] ∧ H a = some (.dK kvs) ∧ Q (.int kvs.length) H) gLenD := fun Z φ S H ds vs Q E R d w => by
  unfold gLenD at w
  split at w
  · obtain ⟨v, rfl, h1⟩ := datL1 d
    split at w
    · rename_i xs e1
      obtain ⟨a, us, rfl, h2, h3⟩ := asD_ok R h1 e1
      refine ⟨a, us, rfl, h2, ?_⟩
      rw [datK_length h3]
      exact w.now R (dat_int _)
    · exact w.elim
  · exact w.elim
def isDic1 (ds : List D) (S : Store) : Bool := match ds with
  | [d] => (asD S d).isSome
  | _ => false
def isStr1 (ds : List D) (_ : Store) : Bool := match ds with
  | [.str _] => true
  | _ => false
def gLen : GC := fun ds S => if isDic1 ds S then gLenD ds S else if isStr1 ds S then gLenS ds S else gLenQ ds S
theorem de_len {fa : FA} (hg : Gl X "len") (hm : X.mg "len" = none) (ha : DA X W [e] fa) (he : starEach [e] X.env = (false, eval e X.env) :: starEach [] X.env := by rfl) (hpl : (backTo pos (starEach [] X.env)).any (·.1) = false := by rfl) :
    DE X W (.Call (.Name "len" p) [e] [] pos) (fCB gLen fa) :=
  de_callB (callR_or call_lenD (callR_or call_len_str call_len_seq)) (callD_or isDic1 cd_lenD (callD_or isStr1 cd_lenS cd_lenQ)) hg hm (by rfl) ha (by decide) (by decide) he hpl

/-! abs, max, min -/
def gAbs : GC := fun ds S => match ds with
  | [.int i] => .ok (.int (if i < 0 then -i else i)) S
  | _ => .stuck
theorem de_abs {fa : FA} (hg : Gl X "abs") (hm : X.mg "abs" = none) (ha : DA X W [e] fa) (he : starEach [e] X.env = (false, eval e X.env) :: starEach [] X.env := by rfl) (hpl : (backTo pos (starEach [] X.env)).any (·.1) = false := by rfl) :
    DE X W (.Call (.Name "abs" p) [e] [] pos) (fCB gAbs fa) :=
  de_callB call_abs (fun Z φ S H ds vs Q E R d w => by
    unfold gAbs at w
    split at w
    · obtain ⟨v, rfl, h1⟩ := datL1 d
      cases dInt h1
      exact ⟨_, rfl, w.now R (dat_int _)⟩
    · exact w.elim) hg hm (by rfl) ha (by decide) (by decide) he hpl
def intsOf : List D → Option (List Int)
  | [] => some []
  | .int i :: ds => (intsOf ds).map (i :: ·)
  | _ => none
theorem intsOf_ok {K : PySem.W.Frag} {mg : Str → Option Value} {φ : List Addr} {G : Hp} : ∀ {ds : List D} {vs : List V} {ns : List Int}, DatL K mg φ G ds vs → intsOf ds = some ns → vs = ns.map V.int
  | [], _, _, h, e => by
    cases e
    unfold DatL at h
    exact h
  | d :: ds, _, ns, h, e => by
    obtain ⟨v, r, rfl, h1, h2⟩ := h.uncons
    cases d with
    | int i =>
      unfold intsOf at e
      cases q : intsOf ds with
      | none => rw [q] at e; cases e
      | some ms =>
        rw [q] at e
        cases e
        unfold Dat at h1
        subst h1
        rw [intsOf_ok h2 q]
        rfl
    | _ => cases e
theorem dat_ints {K : PySem.W.Frag} {mg : Str → Option Value} {φ : List Addr} {G : Hp} : ∀ (ns : List Int), DatL K mg φ G (ns.map D.int) (ns.map V.int)
  | [] => DatL.nil
  | n :: ns => .cons (by unfold Dat; rfl) (dat_ints ns)
def seqInts (S : Store) (d : D) : Option (List Int) := (asL S d).bind intsOf
theorem seqInts_ok {Z φ : List Addr} {S : Store} {H : Hp} {d : D} {v : V} {ns : List Int} (R : Rel X.K X.mg Z φ S H) (h : Dat X.K X.mg φ (gnd Z φ S H) d v) (e : seqInts S d = some ns) : ∃ a, v = .ref a ∧ SqL X.K H a (ns.map V.int) := by
  obtain ⟨ds, e1, e2⟩ := Option.bind_eq_some_iff.mp e
  obtain ⟨a, us, rfl, h2, h3⟩ := asL_ok R h e1
  refine ⟨a, rfl, ?_⟩
  rw [← intsOf_ok h3 e2]
  exact h2
def maxI : Int → List Int → Int
  | m, [] => m
  | m, n :: ns => maxI (if n > m then n else m) ns
def minI : Int → List Int → Int
  | m, [] => m
  | m, n :: ns => minI (if n < m then n else m) ns
theorem minI_spec : ∀ (ns : List Int) (m : Int), minI m ns ∈ m :: ns ∧ ∀ y ∈ m :: ns, minI m ns ≤ y
  | [], m => ⟨by simp [minI], fun y h => by simp at h; simp [minI, h]⟩
  | n :: ns, m => by
    obtain ⟨a, b⟩ := minI_spec ns (if n < m then n else m)
    have e : minI m (n :: ns) = minI (if n < m then n else m) ns := rfl
    rw [e]
    refine ⟨?_, fun y hy => ?_⟩
    · rcases List.mem_cons.mp a with h | h
      · rw [h]
        split
        · simp
        · simp
      · exact List.mem_cons_of_mem _ (List.mem_cons_of_mem _ h)
    · have top := b _ List.mem_cons_self
      have u1 : (if n < m then n else m) ≤ m := by split <;> omega
      have u2 : (if n < m then n else m) ≤ n := by split <;> omega
      rcases List.mem_cons.mp hy with h | h
      · rw [h]
        exact Int.le_trans top u1
      · rcases List.mem_cons.mp h with h | h
        · rw [h]
          exact Int.le_trans top u2
        · exact b y (List.mem_cons_of_mem _ h)
def gMax2 : GC := fun ds S => match ds with
  | [.int i, .int j] => .ok (.int (if j > i then j else i)) S
  | _ => .stuck
def gMin2 : GC := fun ds S => match ds with
  | [.int i, .int j] => .ok (.int (if j < i then j else i)) S
  | _ => .stuck
def gMaxL : GC := fun ds S => match ds with
  | [d] => match seqInts S d with
    | some (n :: ns) => .ok (.int (maxI n ns)) S
    | _ => .stuck
  | _ => .stuck
def gMinL : GC := fun ds S => match ds with
  | [d] => match seqInts S d with
    | some (n :: ns) => .ok (.int (minI n ns)) S
    | _ => .stuck
  | _ => .stuck
def two (ds : List D) (_ : Store) : Bool := decide (ds.length = 2)
def gMax : GC := fun ds S => if two ds S then gMax2 ds S else gMaxL ds S
def gMin : GC := fun ds S => if two ds S then gMin2 ds S else gMinL ds S
theorem cd_min2 : CallD X (fun xs H Q => ∃ i j, xs = [.int i, .int j] ∧ Q (.int (if j < i then j else i)) H) gMin2 := fun Z φ S H ds vs Q E R d w => by
  unfold gMin2 at w
  split at w
  · obtain ⟨v, u, rfl, h1, h2⟩ := datL2 d
    cases dInt h1
    cases dInt h2
    exact ⟨_, _, rfl, w.now R (dat_int _)⟩
  · exact w.elim
theorem cd_minL : CallD X (rMin X.K) gMinL := fun Z φ S H ds vs Q E R d w => by
  unfold gMinL at w
  split at w
  · obtain ⟨v, rfl, h1⟩ := datL1 d
    split at w
    · rename_i n ns e1
      obtain ⟨a, rfl, h2⟩ := seqInts_ok R h1 e1
      refine ⟨a, n :: ns, rfl, h2, by simp, fun m hm hb => ?_⟩
      obtain ⟨q1, q2⟩ := minI_spec ns n
      rw [Int.le_antisymm (hb _ q1) (q2 m hm)]
      exact w.now R (dat_int _)
    · exact w.elim
  · exact w.elim
theorem de_min (C : Cn X W k) {fa : FA} (hg : Gl X "min") (hm : X.mg "min" = none) (ha : DA X W (e :: es) fa) (he : starEach (e :: es) X.env = (false, eval e X.env) :: starEach es X.env := by rfl) (hpl : (backTo pos (starEach es X.env)).any (·.1) = false := by rfl) :
    DE X W (.Call (.Name "min" p) (e :: es) [] pos) (fCB gMin fa) :=
  de_callB (callR_or (call_min2 C.calm) (cr_min C.calm)) (callD_or two cd_min2 cd_minL) hg hm (by rfl) ha (by decide) (by decide) he hpl
/-! sum, sorted -/
/-! all, any -/
def bsOf : List D → Option (List Bool)
  | [] => some []
  | .bl b :: ds => (bsOf ds).map (b :: ·)
  | _ => none
theorem bsOf_ok {K : PySem.W.Frag} {mg : Str → Option Value} {φ : List Addr} {G : Hp} : ∀ {ds : List D} {vs : List V} {ns : List Bool}, DatL K mg φ G ds vs → bsOf ds = some ns → vs = ns.map V.bl
  | [], _, _, h, e => by
    cases e
    unfold DatL at h
    exact h
  | d :: ds, _, ns, h, e => by
    obtain ⟨v, r, rfl, h1, h2⟩ := h.uncons
    cases d with
    | bl i =>
      unfold bsOf at e
      cases q : bsOf ds with
      | none => rw [q] at e; cases e
      | some ms =>
        rw [q] at e
        cases e
        unfold Dat at h1
        subst h1
        rw [bsOf_ok h2 q]
        rfl
    | _ => cases e
def gAllAny (all : Bool) : GC := fun ds S => match ds with
  | [d] => match (asL S d).bind bsOf with
    | some bs => .ok (.bl (if all then bs.all id else bs.any id)) S
    | none => .stuck
  | _ => .stuck
theorem de_all (C : Cn X W k) {fa : FA} (hg : Gl X "all") (hm : X.mg "all" = none) (ha : DA X W [e] fa) (he : starEach [e] X.env = (false, eval e X.env) :: starEach [] X.env := by rfl) (hpl : (backTo pos (starEach [] X.env)).any (·.1) = false := by rfl) :
    DE X W (.Call (.Name "all" p) [e] [] pos) (fCB (gAllAny true) fa) :=
  de_callB (cr_all C.calm) (fun Z φ S H ds vs Q E R d w => by
    unfold gAllAny at w
    split at w
    · obtain ⟨v, rfl, h1⟩ := datL1 d
      split at w
      · rename_i bs e1
        obtain ⟨xs, e1, e2⟩ := Option.bind_eq_some_iff.mp e1
        obtain ⟨a, us, rfl, h2, h3⟩ := asL_ok R h1 e1
        rw [bsOf_ok h3 e2] at h2
        exact ⟨a, bs, rfl, h2, w.now R (dat_bl _)⟩
      · exact w.elim
    · exact w.elim) hg hm (by rfl) ha (by decide) (by decide) he hpl
/-! list, tuple -/
def gToL : GC := fun ds S => match ds with
  | [d] => match asQ S d with
    | some xs => .ok (.lst xs) S
    | none => .stuck
  | _ => .stuck
def gToO : GC := fun ds S => match ds with
  | [d] => match asQ S d with
    | some xs => .ok (.oid S.length) (S ++ [.lst xs])
    | none => .stuck
  | _ => .stuck
def keyV : Key → D
  | .inl i => .int i
  | .inr x => .str x
def gKeysL : GC := fun ds S => match ds with
  | [d] => match asD S d with
    | some ks => .ok (.lst (ks.map fun q => keyV q.1)) S
    | none => .stuck
  | _ => .stuck
def gKeysO : GC := fun ds S => match ds with
  | [d] => match asD S d with
    | some ks => .ok (.oid S.length) (S ++ [.lst (ks.map fun q => keyV q.1)])
    | none => .stuck
  | _ => .stuck
theorem datK_keys {K : PySem.W.Frag} {mg : Str → Option Value} {φ φ' : List Addr} {G G' : Hp} : ∀ {ks : List (Key × D)} {kvs : List (Key × V)}, DatK K mg φ G ks kvs → DatL K mg φ' G' (ks.map fun q => keyV q.1) (kvs.map fun kv => kV kv.1)
  | [], _, h => by
    unfold DatK at h
    subst h
    exact DatL.nil
  | (k, d) :: ks, _, h => by
    unfold DatK at h
    obtain ⟨v, r, rfl, _, h2⟩ := h
    refine .cons ?_ (datK_keys h2)
    cases k <;> unfold keyV Dat <;> rfl
abbrev rListOf (K : PySem.W.Frag) : List V → Hp → VK → Prop := fun xs H Q => ∃ p ys, xs = [.ref p] ∧ (SqL K H p ys ∨ SqT K H p ys) ∧ ∀ l, H l = none → Q (.ref l) (upd H l (.lst ys))
theorem cd_toO : CallD X (rListOf X.K) gToO := fun Z φ S H ds vs Q E R d w => by
  unfold gToO at w
  split at w
  · obtain ⟨v, rfl, h1⟩ := datL1 d
    split at w
    · rename_i xs e1
      obtain ⟨a, us, rfl, h2, h3⟩ := asQ_ok R h1 e1
      refine ⟨a, us, rfl, h2, fun p hn => ?_⟩
      obtain ⟨r, e, g⟩ := dat_newO R h3 hn
      exact w _ _ _ r e g
    · exact w.elim
  · exact w.elim
theorem cd_keysO : CallD X rListD gKeysO := fun Z φ S H ds vs Q E R d w => by
  unfold gKeysO at w
  split at w
  · obtain ⟨v, rfl, h1⟩ := datL1 d
    split at w
    · rename_i xs e1
      obtain ⟨a, us, rfl, h2, h3⟩ := asD_ok R h1 e1
      refine ⟨a, us, rfl, h2, fun p hn => ?_⟩
      obtain ⟨r, e, g⟩ := dat_newO R (datK_keys h3) hn
      exact w _ _ _ r e g
    · exact w.elim
  · exact w.elim
def gList : GC := fun ds S => if isDic1 ds S then gKeysL ds S else gToL ds S
def gListO : GC := fun ds S => if isDic1 ds S then gKeysO ds S else gToO ds S
theorem de_listO (C : Cn X W k) {fa : FA} (hg : Gl X "list") (hm : X.mg "list" = none) (ha : DA X W [e] fa) (he : starEach [e] X.env = (false, eval e X.env) :: starEach [] X.env := by rfl) (hpl : (backTo pos (starEach [] X.env)).any (·.1) = false := by rfl) :
    DE X W (.Call (.Name "list" p) [e] [] pos) (fCB gListO fa) := de_callTy (callR_or (call_list_dK C.calm) call_list_of) (callD_or isDic1 cd_keysO cd_toO) hg hm (by rfl) ha (by decide) (by decide) he hpl
def gTuple : GC := fun ds S => match ds with
  | [.tup xs] => .ok (.tup xs) S
  | [d] => match asL S d with
    | some xs => .ok (.tup xs) S
    | none => .stuck
  | _ => .stuck
/-! repr -/
def rRepr (K : PySem.W.Frag) : List V → Hp → VK → Prop := fun xs H Q => ∃ x d, xs = [x] ∧ Dp K H x d ∧ d.showable = true ∧ d.hasDict = false ∧ d.depth ≤ 50 ∧ d.shown.length ≤ sizeLine ∧ Q (.str d.shown) H
theorem call_repr (C : Cn X W k) : CallR X (.builtin "repr") (rRepr X.K) := fun pins s σ H xs us Q I r h => by
  obtain ⟨x, d, rfl, hd, h1, h2, h3, h4, q⟩ := h
  obtain ⟨u, rfl, ru⟩ := vals1 r
  have fin : ∀ tk, EP X pins σ Q (.str d.shown s.toks) { s with toks := tk } := fun tk => ⟨.str d.shown, H, I.tok tk, ⟨_, rfl⟩, q⟩
  have big : ∀ a, u = .ref a → wpAny (model X.prog X.w) X.A (call (.builtin "repr") [u]) (EP X pins σ Q) X.xe s := fun a e => by
    obtain ⟨as, rd⟩ := Dp.reads I d x u hd ru
    subst e
    exact repr_of_reads' rd h1 (PyData.noDict_hsm h2) C.gd (by have := C.u64; omega) (fun _ _ z => z) (fun h' t tk hk => ⟨.str d.shown, H, I.kept (t' := tk) hk, ⟨_, rfl⟩, q⟩) h4
  cases hd with
  | non =>
    cases (show u = Value.none from ru)
    simp only [PyData.shown] at fin
    exact PySem.P.repr_of_none (fin _)
  | bl b =>
    cases (show u = Value.bool b from ru)
    simp only [PyData.shown] at fin
    exact PySem.P.repr_of_bool (fin _)
  | int i =>
    obtain ⟨t, rfl⟩ := (show ∃ t, u = Value.int i t from ru)
    simp only [PyData.shown] at fin
    simp only [PyData.showable, decide_eq_true_eq] at h1
    exact PySem.P.repr_of_int h1 (fin _)
  | str y =>
    obtain ⟨t, rfl⟩ := (show ∃ t, u = Value.str y t from ru)
    simp only [PyData.shown] at fin h4
    exact PySem.P.repr_of_str (fin _) h4
  | lst _ _ => exact big _ ru
  | tup _ _ => exact big _ ru
def gRepr : GC := fun ds S => match ds with
  | [d] => match pyOf S d with
    | some q => if q.showable = true ∧ q.hasDict = false ∧ q.depth ≤ 50 ∧ q.shown.length ≤ sizeLine then .ok (.str q.shown) S else .stuck
    | none => .stuck
  | _ => .stuck
theorem de_repr (C : Cn X W k) {fa : FA} (hg : Gl X "repr") (hm : X.mg "repr" = none) (ha : DA X W [e] fa) (he : starEach [e] X.env = (false, eval e X.env) :: starEach [] X.env := by rfl) (hpl : (backTo pos (starEach [] X.env)).any (·.1) = false := by rfl) :
    DE X W (.Call (.Name "repr" p) [e] [] pos) (fCB gRepr fa) :=
  de_callB (call_repr C) (fun Z φ S H ds vs Q E R d w => by
    unfold gRepr at w
    split at w
    · obtain ⟨v, rfl, h1⟩ := datL1 d
      split at w
      · rename_i q e1
        obtain ⟨⟨a1, a2, a3, a4⟩, w1⟩ := want_if w
        exact ⟨v, q, rfl, pyOf_ok R h1 e1, a1, a2, a3, a4, w1.now R (dat_str _)⟩
      · exact w.elim
    · exact w.elim) hg hm (by rfl) ha (by decide) (by decide) he hpl
end
end DL

/-! The data layer, part 11: set(xs) of a list of ints, sorted(set(xs)). -/
namespace PySem
open PySem.Spec PyProof.Rows L2
section
variable {P : Program} {w : World} {A : Around} {E : Value → Shared → Prop} {s : Shared}
end
end PySem
namespace DL
open PySem L2
section
variable {X : Cx} {W : WX} {k : Nat} {a b c e : Expr} {es : List Expr} {fa fb fc fe : FE} {pos p p2 q2 : Pos}
end
end DL

/-! The data layer, part 12: list(enumerate(xs)). -/
namespace PySem
open PySem.Spec PySem.Calls PyProof.Rows PySem.W L2
namespace F
end F
section
variable {prog : Program} {w : World} {A : Around} {E : Value → Shared → Prop} {s : Shared}
/-- the state of the enumerate object between two nexts -/
def EnAt (e it : Addr) (i : Nat) (h : Heap) : Prop := (∃ old, IsEnum h e it i old) ∨ ∃ old T f oT, IsEnumHeld h e it i old T f ∧ h.get? T = some oT ∧ T ≠ e ∧ T ≠ it
theorem EnAt.keep {e it : Addr} {i : Nat} {h h' : Heap} {S : Addr} (x : EnAt e it i h) (hS : e ≠ S) (hk : ∀ b o, b ≠ S → h.get? b = some o → h'.get? b = some o) (hl : ∀ o, h.get? S = some o → ∃ o', h'.get? S = some o') : EnAt e it i h' := by
  rcases x with ⟨old, q⟩ | ⟨old, T, f, oT, q, q2, q3, q4⟩
  · exact .inl ⟨old, hk _ _ hS q⟩
  · by_cases hT : T = S
    · subst hT
      obtain ⟨o', ho⟩ := hl _ q2
      exact .inr ⟨old, T, f, o', hk _ _ hS q, ho, q3, q4⟩
    · exact .inr ⟨old, T, f, oT, hk _ _ hS q, hk _ _ hT q2, q3, q4⟩
theorem EnAt.ty {e it : Addr} {i : Nat} (x : EnAt e it i s.heap) : s.TypeIs (.ref e) "enumerate" := by
  rcases x with ⟨old, q⟩ | ⟨old, T, f, oT, q, _⟩ <;> exact ⟨_, q, rfl⟩
theorem EnAt.lt {e it : Addr} {i : Nat} {h : Heap} (x : EnAt e it i h) : e < h.objs.size := by
  rcases x with ⟨old, q⟩ | ⟨old, T, f, oT, q, _⟩ <;> exact Heap.lt_size q
/-- the pairs laid so far -/
structure EnG (items : Array Value) (lo : Addr) (h : Heap) (as : List Addr) : Prop where
  above : ∀ a ∈ as, lo < a
  pair : ∀ (j : Nat) (a : Addr), as[j]? = some a → ∃ x tk, items[j]? = some x ∧ h.get? a = some { cls := .type "tuple", data := .seq #[.int (j : Nat) tk, x] }
end
end PySem

/-! The data layer, part 13: list(enumerate(xs)) on data; a, *b = xs. -/
namespace DL
open PySem L2
section
variable {P : Program} {w : World} {H H' : Hp} {h h' : Heap}
end
/-! the pairs of enumerate -/
section
variable {K : PySem.W.Frag} {mg : Str → Option Value} {Z φ : List Addr} {S : Store}
end
section
variable {X : Cx} {W : WX} {k : Nat} {a b c e : Expr} {es : List Expr} {fa fb fc fe : FE} {pos p p2 q2 : Pos}
def gLEnum : GC := fun ds S => match ds with
  | [d] => match asQ S d with
    | some xs => .ok (.lst (enumD 0 xs)) S
    | none => .stuck
  | _ => .stuck
end
end DL

/-! The data layer, part 14: a, *b = xs; isinstance; methods of what is built in; stores by a subscript. -/
namespace PySem
open PySem.Spec PySem.Calls PyProof.Rows PySem.W L2
section
variable {prog : Program} {w : World} {A : Around} {E : Value → Shared → Prop} {s : Shared}
end
end PySem
namespace DL
open PySem L2
section
variable {X : Cx} {W : WX} {k : Nat} {a b c e o : Expr} {es : List Expr} {fa fb fc fe fo : FE} {pos p p2 q2 apos cpos : Pos}
/-! ### a, *b = xs -/
def gStar (i j : Nat) (fe : FE) : FS := fun ρ S => (fe ρ S).into ρ fun d S => match asL S d with
  | some (x :: xs) => .nx ((ρ.set i (some x)).set j (some (.oid S.length))) (S ++ [.lst xs])
  | _ => .stuck
/-! ### isinstance -/
def tyS (S : Store) : D → Option String
  | .non => some "NoneType"
  | .bl _ => some "bool"
  | .int _ => some "int"
  | .str _ => some "str"
  | .tup _ => some "tuple"
  | .lst _ => some "list"
  | .scr _ => some "list"
  | .dic _ => some "dict"
  | .oid n => match S[n]? with
    | some (.lst _) => some "list"
    | some (.dic _) => some "dict"
    | some (.frz (.lst _)) => some "list"
    | some (.frz (.dic _)) => some "dict"
    | _ => none
  | _ => none
theorem tyx_L {K : PySem.W.Frag} {H : Hp} {a : Addr} {xs : List V} (h : SqL K H a xs) : TyX K H (.ref a) (.type "list") := by
  rcases h with (h | ⟨u, h⟩) | ⟨o, its, n, hk, hc, _⟩
  · exact .base (.lst h)
  · exact .base (.frz h)
  · exact .kList hk hc
theorem tyx_T {K : PySem.W.Frag} {H : Hp} {a : Addr} {xs : List V} (h : SqT K H a xs) : TyX K H (.ref a) (.type "tuple") := by
  rcases h with (h | ⟨u, h⟩) | ⟨o, its, n, hk, hc, _⟩
  · exact .base (.tup h)
  · exact .fTuple h
  · exact .kTuple hk hc
theorem tyS_ok {Z φ : List Addr} {S : Store} {H : Hp} (R : Rel X.K X.mg Z φ S H) {d : D} {v : V} {T : String} (h : Dat X.K X.mg φ (gnd Z φ S H) d v) (e : tyS S d = some T) : TyX X.K H v (.type T) := by
  cases d with
  | non => cases e; unfold Dat at h; subst h; exact .base .non
  | bl b => cases e; unfold Dat at h; subst h; exact .base (.bl b)
  | int b => cases e; unfold Dat at h; subst h; exact .base (.int b)
  | str b => cases e; unfold Dat at h; subst h; exact .base (.str b)
  | tup ds =>
    cases e
    unfold Dat at h
    obtain ⟨a, vs, rfl, h1, _⟩ := h
    exact tyx_T (sqt_mono gnd_sub h1)
  | lst ds =>
    cases e
    obtain ⟨a, vs, rfl, h1, _⟩ := asL_ok R h rfl
    exact tyx_L h1
  | scr ds =>
    cases e
    obtain ⟨a, vs, rfl, h1, _⟩ := asL_ok R h rfl
    exact tyx_L h1
  | dic ds =>
    cases e
    obtain ⟨a, vs, rfl, h1, _⟩ := asD_ok R h rfl
    exact .base (.dK h1)
  | oid n =>
    cases hS : S[n]? with
    | none => simp [tyS, hS] at e
    | some so =>
      have L : ∀ ds, asL S (.oid n) = some ds → TyX X.K H v (.type "list") := fun ds q => by
        obtain ⟨a, vs, rfl, h1, _⟩ := asL_ok R h q
        exact tyx_L h1
      have M : ∀ ds, asD S (.oid n) = some ds → TyX X.K H v (.type "dict") := fun ds q => by
        obtain ⟨a, vs, rfl, h1, _⟩ := asD_ok R h q
        exact .base (.dK h1)
      cases so with
      | lst ds =>
        simp only [tyS, hS, Option.some.injEq] at e
        subst e
        exact L ds (by simp [asL, hS])
      | dic ds =>
        simp only [tyS, hS, Option.some.injEq] at e
        subst e
        exact M ds (by simp [asD, hS])
      | frz d =>
        cases d with
        | lst ds =>
          simp only [tyS, hS, Option.some.injEq] at e
          subst e
          exact L ds (by simp [asL, hS])
        | dic ds =>
          simp only [tyS, hS, Option.some.injEq] at e
          subst e
          exact M ds (by simp [asD, hS])
        | _ => simp [tyS, hS] at e
      | ins _ _ => simp [tyS, hS] at e
      | tbl _ _ => simp [tyS, hS] at e
      | dkt _ => simp [tyS, hS] at e
  | _ => cases e
/-- one built-in class under another -/
def isiT : String → String → Option Bool
  | "NoneType", n => if n ∈ ["bool", "int", "str", "tuple", "list", "dict"] then some false else none
  | "bool", n => if n ∈ ["bool", "int"] then some true else if n ∈ ["str", "tuple", "list", "dict"] then some false else none
  | "int", n => if n = "int" then some true else if n ∈ ["bool", "str", "tuple", "list", "dict"] then some false else none
  | "str", n => if n = "str" then some true else if n ∈ ["bool", "int", "tuple", "list", "dict"] then some false else none
  | "tuple", n => if n = "tuple" then some true else if n ∈ ["bool", "int", "str", "list", "dict"] then some false else none
  | "list", n => if n = "list" then some true else if n ∈ ["bool", "int", "str", "tuple", "dict"] then some false else none
  | "dict", n => if n = "dict" then some true else if n ∈ ["bool", "int", "str", "tuple", "list"] then some false else none
  | _, _ => none
theorem isiT_ok {K : PySem.W.Frag} {T n : String} {b : Bool} (h : isiT T n = some b) : PySem.W.kitOne K (.type T) (.type n) = some b := by
  have all : ∀ T ∈ ["NoneType", "bool", "int", "str", "tuple", "list", "dict"], ∀ n ∈ ["bool", "int", "str", "tuple", "list", "dict"], isiT T n = kitB T n := by decide +kernel
  have hT : T ∈ ["NoneType", "bool", "int", "str", "tuple", "list", "dict"] := by
    unfold isiT at h
    split at h <;> first | (simp; done) | (cases h; done)
  have hn : n ∈ ["bool", "int", "str", "tuple", "list", "dict"] := by
    unfold isiT at h
    split at h
    · split at h
      · rename_i q; exact q
      · cases h
    · split at h
      · rename_i q; simp at q ⊢; rcases q with q | q <;> simp [q]
      · split at h
        · rename_i q; simp at q ⊢; rcases q with q | q | q | q <;> simp [q]
        · cases h
    all_goals first
      | (cases h; done)
      | (split at h
         · rename_i q; simp [q]
         · split at h
           · rename_i q; simp at q ⊢; rcases q with q | q | q | q | q <;> simp [q]
           · cases h)
  exact kit_ty (by rw [← all T hT n hn]; exact h)
def isiA (T : String) : List String → Option Bool
  | [] => some false
  | n :: ns => match isiT T n with
    | some true => some true
    | some false => isiA T ns
    | none => none
theorem isiA_ok {K : PySem.W.Frag} {T : String} : ∀ {ns : List String} {b : Bool}, isiA T ns = some b → PySem.W.kitAny K (.type T) (ns.map Value.type) = some b
  | [], _, h => by cases h; exact kitAny_nil
  | n :: ns, b, h => by
    unfold isiA at h
    split at h
    · rename_i q
      cases h
      exact kitAny_cons (isiT_ok q) (fun z => nomatch z) fun _ => rfl
    · rename_i q
      exact kitAny_cons (isiT_ok q) (fun _ => isiA_ok h) fun z => nomatch z
    · cases h
def rIsiQ (K : PySem.W.Frag) : List V → Hp → VK → Prop := fun xs H Q => ∃ (x : V) (tp : Addr) (cs : List V) (t : Value) (us : List Value) (b : Bool), xs = [x, .ref tp] ∧ SqT K H tp cs ∧ Paired ClsV cs us ∧ TyX K H x t ∧ PySem.W.kitAny K t us = some b ∧ Q (.bl b) H
theorem call_isiQ : CallR X (.builtin "isinstance") (rIsiQ X.K) := fun pins s σ H xs us Q I r h => by
  obtain ⟨x, tp, cs, t, ws, b, rfl, hT, kk, ty, ee, q⟩ := h
  obtain ⟨u1, u2, rfl, r1, r2⟩ := vals2 r
  cases (show u2 = Value.ref tp from r2)
  obtain ⟨P, Zk, pz, hx⟩ := kit_of I r1 ty
  obtain ⟨its, rv, ⟨ob, h1, h2, n, h3⟩, _⟩ := I.tuple hT
  have e3 := ClsV.all kk rv
  subst e3
  obtain ⟨oc, od, dt, sl⟩ := ob
  simp only at h2 h3
  subst h2 h3
  exact PySem.W.kia_tup Zk I.kIn pz h1 ee hx fun tk => ⟨.bl b, H, I.tok tk, rfl, q⟩
def tysOf : List D → Option (List String)
  | [] => some []
  | .ty n :: ds => (tysOf ds).map (n :: ·)
  | _ => none
theorem tysOf_ok {φ : List Addr} {G : Hp} : ∀ {ds : List D} {vs : List V} {ns : List String}, DatL X.K X.mg φ G ds vs → tysOf ds = some ns → Paired ClsV vs (ns.map Value.type)
  | [], _, _, h, e => by
    cases e
    unfold DatL at h
    subst h
    exact .nil
  | d :: ds, _, ns, h, e => by
    obtain ⟨v, r, rfl, h1, h2⟩ := h.uncons
    cases d with
    | ty i =>
      unfold tysOf at e
      cases q : tysOf ds with
      | none => rw [q] at e; cases e
      | some ms =>
        rw [q] at e
        cases e
        unfold Dat at h1
        subst h1
        exact .cons (.ty i) (tysOf_ok h2 q)
    | _ => cases e
def gIsi1 : GC := fun ds S => match ds with
  | [x, .ty n] => match (tyS S x).bind fun T => isiT T n with
    | some b => .ok (.bl b) S
    | none => .stuck
  | _ => .stuck
def gIsiN : GC := fun ds S => match ds with
  | [x, .tup cs] => match (tyS S x).bind fun T => (tysOf cs).bind fun ns => isiA T ns with
    | some b => .ok (.bl b) S
    | none => .stuck
  | _ => .stuck
def isTy2 (ds : List D) (_ : Store) : Bool := match ds with
  | [_, .ty _] => true
  | _ => false
def gIsi : GC := fun ds S => if isTy2 ds S then gIsi1 ds S else gIsiN ds S
theorem cd_isi1 : CallD X (rIsi X.K) gIsi1 := fun Z φ S H ds vs Q E R d w => by
  unfold gIsi1 at w
  split at w
  · obtain ⟨v, u, rfl, h1, h2⟩ := datL2 d
    split at w
    · rename_i b q
      obtain ⟨T, q1, q2⟩ := Option.bind_eq_some_iff.mp q
      unfold Dat at h2
      subst h2
      exact ⟨v, _, _, _, b, rfl, .ty _, tyS_ok R h1 q1, isiT_ok q2, w.now R (dat_bl _)⟩
    · exact w.elim
  · exact w.elim
theorem cd_isiN : CallD X (rIsiQ X.K) gIsiN := fun Z φ S H ds vs Q E R d w => by
  unfold gIsiN at w
  split at w
  · obtain ⟨v, u, rfl, h1, h2⟩ := datL2 d
    split at w
    · rename_i b q
      obtain ⟨T, q1, q2⟩ := Option.bind_eq_some_iff.mp q
      obtain ⟨ns, q3, q4⟩ := Option.bind_eq_some_iff.mp q2
      unfold Dat at h2
      obtain ⟨a, us, rfl, h3, h4⟩ := h2
      exact ⟨v, a, us, _, _, b, rfl, sqt_mono gnd_sub h3, tysOf_ok h4 q3, tyS_ok R h1 q1, isiA_ok q4, w.now R (dat_bl _)⟩
    · exact w.elim
  · exact w.elim
theorem de_isi {fa : FA} (hg : Gl X "isinstance") (hm : X.mg "isinstance" = none) (ha : DA X W [e, b] fa) (he : starEach [e, b] X.env = (false, eval e X.env) :: starEach [b] X.env := by rfl) (hpl : (backTo pos (starEach [b] X.env)).any (·.1) = false := by rfl) :
    DE X W (.Call (.Name "isinstance" p) [e, b] [] pos) (fCB gIsi fa) := de_callB (callR_or call_isi call_isiQ) (callD_or isTy2 cd_isi1 cd_isiN) hg hm (by rfl) ha (by decide) (by decide) he hpl

/-! ### methods of what is built in -/
abbrev GM := D → List D → Store → Res D
def MethD (X : Cx) (r : V → List V → Hp → VK → Prop) (g : GM) : Prop := ∀ (Z φ : List Addr) (S : Store) (H : Hp) (x : D) (u : V) (ds : List D) (vs : List V) (Q : VK) (E : XK), Rel X.K X.mg Z φ S H → Dat X.K X.mg φ (gnd Z φ S H) x u → DatL X.K X.mg φ (gnd Z φ S H) ds vs →
  Want X.K X.mg (RDat X.K X.mg) Z φ S H (g x ds S) Q E → r u vs H Q
def fBM (T : String) (g : GM) (fo : FE) (fa : FA) : FE := fun ρ S => (fo ρ S).bind fun x S => if tyS S x = some T ∧ T ≠ "tuple" then (fa ρ S).bind fun ds S => g x ds S else .stuck
theorem tyV_ok {Z φ : List Addr} {S : Store} {H : Hp} (R : Rel X.K X.mg Z φ S H) {d : D} {v : V} {T : String} (h : Dat X.K X.mg φ (gnd Z φ S H) d v) (e : tyS S d = some T) (ht : T = "list" ∨ T = "dict" ∨ T = "str") : tyV X.K T v H := by
  have L : ∀ ds, asL S d = some ds → tyV X.K "list" v H := fun ds q => by
    obtain ⟨a, vs, rfl, h1, _⟩ := asL_ok R h q
    exact .inl ⟨rfl, vs, h1⟩
  have M : ∀ ds, asD S d = some ds → tyV X.K "dict" v H := fun ds q => by
    obtain ⟨a, vs, rfl, h1, _⟩ := asD_ok R h q
    exact .inr (.inr (.inl ⟨rfl, .inl ⟨vs, h1⟩⟩))
  cases d with
  | str z => cases e; unfold Dat at h; subst h; rfl
  | lst ds => cases e; exact L ds rfl
  | scr ds => cases e; exact L ds rfl
  | dic ds => cases e; exact M ds rfl
  | oid n =>
    cases hS : S[n]? with
    | none => simp [tyS, hS] at e
    | some so =>
      cases so with
      | lst ds =>
        simp only [tyS, hS, Option.some.injEq] at e
        subst e
        exact L ds (by simp [asL, hS])
      | dic ds =>
        simp only [tyS, hS, Option.some.injEq] at e
        subst e
        exact M ds (by simp [asD, hS])
      | frz d =>
        cases d with
        | lst ds =>
          simp only [tyS, hS, Option.some.injEq] at e
          subst e
          exact L ds (by simp [asL, hS])
        | dic ds =>
          simp only [tyS, hS, Option.some.injEq] at e
          subst e
          exact M ds (by simp [asD, hS])
        | _ => simp [tyS, hS] at e
      | ins _ _ => simp [tyS, hS] at e
      | tbl _ _ => simp [tyS, hS] at e
      | dkt _ => simp [tyS, hS] at e
  | non => cases e; simp at ht
  | bl _ => cases e; simp at ht
  | int _ => cases e; simp at ht
  | tup _ => cases e; simp at ht
  | _ => cases e
theorem de_bm {T id : String} {name : Str} {r : V → List V → Hp → VK → Prop} {g : GM} {fa : FA} (pa : PlainAttrs T) (slot : Slot T name id) (hty : typeOf (.builtin id) = pure (.type "method_descriptor")) (hm : MtR X id r) (hd : MethD X r g) (hT : T = "list" ∨ T = "dict" ∨ T = "str") (ho : DE X W o fo) (ha : DA X W (e :: es) fa)
    (hbase : attributeBase o name X.env (eval o X.env) = eval o X.env := by rfl)
    (hfew : ((backTo cpos (starEach (e :: es) X.env)).all (fun x => !x.1) && (backToKw cpos (keywordEach [] X.env)).all (fun x => x.1.isSome) && decide ((e :: es).length + ([] : List Keyword).length + (if ([] : List Keyword).isEmpty then 0 else 1) < 30)) = true := by rfl)
    (hline : (apos.endLine == cpos.line) = true := by rfl) (hs : starEach (e :: es) X.env = (false, eval e X.env) :: starEach es X.env := by rfl) (hplain : (backTo cpos (starEach es X.env)).any (·.1) = false := by rfl) :
    DE X W (.Call (.Attribute o name apos) (e :: es) [] cpos) (fBM T g fo fa) := by
  obtain ⟨to, po, qo⟩ := ho.ex
  obtain ⟨ta, ppa, qa⟩ := ha.ex
  refine .mk (pe_bm pa slot hty hm po ppa hbase hfew hline hs hplain) fun Z φ S ρ σ H Q R sl w => qo Z φ S ρ σ H _ R sl (w.bind fun x S1 u φ1 H1 R1 E1 d w1 => ?_)
  obtain ⟨⟨h1, h2⟩, w2⟩ := want_if w1
  exact ⟨tyV_ok R1 d h1 hT, qa Z φ1 S1 ρ σ H1 _ R1 (sl.evo E1) (w2.bind fun ds S2 vs φ2 H2 R2 E2 d2 w3 => hd Z φ2 S2 H2 x u ds vs Q _ R2 (Dat.evo E2 d) d2 w3)⟩
/-- xs.append(x) -/
def gApp : GM := fun x ds S => match x, ds with
  | .oid n, [d] => (match S[n]? with
    | some (.lst xs) => if xs.length < sizeLine then .ok .non (S.set n (.lst (xs ++ [d]))) else .stuck
    | _ => .stuck)
  | _, _ => .stuck
/-- a list of the store is written -/
theorem want_lst {Z φ : List Addr} {S : Store} {H : Hp} {n : Nat} {u : V} {xs ys : List D} {d : D} {E : XK} {Q : VK} (R : Rel X.K X.mg Z φ S H) (dx : Dat X.K X.mg φ (gnd Z φ S H) (.oid n) u) (hS : S[n]? = some (.lst xs)) :
    ∃ l vs, u = .ref l ∧ H l = some (.lst vs) ∧ DatL X.K X.mg φ (gnd Z φ S H) xs vs ∧ ∀ ws x, DatL X.K X.mg φ (gnd Z φ S H) ys ws → Dat X.K X.mg φ (gnd Z φ S H) d x → Want X.K X.mg (RDat X.K X.mg) Z φ S H (.ok d (S.set n (.lst ys))) Q E → Q x (upd H l (.lst ws)) := by
  unfold Dat at dx
  obtain ⟨a, rfl, ha⟩ := dx
  obtain ⟨vs, h1, h2⟩ := R.ob n a _ ha hS
  refine ⟨a, vs, rfl, h1, h2, fun ws x hw hx w => ?_⟩
  obtain ⟨R3, E3⟩ := R.mutate (u := .lst ys) (ho := .lst ws) ha hS rfl rfl ⟨ws, upd_same, hw⟩
  exact w x φ _ R3 E3 (Dat.evo E3 hx)
theorem md_app : MethD X rAppend gApp := fun Z φ S H x u ds vs Q E R dx d w => by
  unfold gApp at w
  split at w
  · obtain ⟨v, rfl, h1⟩ := datL1 d
    split at w
    · rename_i xs hS
      obtain ⟨hl, w1⟩ := want_if w
      obtain ⟨l, us, rfl, h2, h3, fin⟩ := want_lst (Q := Q) (E := E) R dx hS
      exact ⟨l, us, v, rfl, rfl, h2, by rw [h3.length]; exact hl, fin _ _ (h3.append (.cons h1 DatL.nil)) dat_non w1⟩
    · exact w.elim
  · exact w.elim
theorem de_append {fa : FA} (ho : DE X W o fo) (ha : DA X W [e] fa) (hbase : attributeBase o "append" X.env (eval o X.env) = eval o X.env := by rfl)
    (hfew : ((backTo cpos (starEach [e] X.env)).all (fun x => !x.1) && (backToKw cpos (keywordEach [] X.env)).all (fun x => x.1.isSome) && decide ([e].length + ([] : List Keyword).length + (if ([] : List Keyword).isEmpty then 0 else 1) < 30)) = true := by rfl)
    (hline : (apos.endLine == cpos.line) = true := by rfl) (hs : starEach [e] X.env = (false, eval e X.env) :: starEach [] X.env := by rfl) (hplain : (backTo cpos (starEach [] X.env)).any (·.1) = false := by rfl) :
    DE X W (.Call (.Attribute o "append" apos) [e] [] cpos) (fBM "list" gApp fo fa) := de_bm PySem.F.plainAttrs_list PySem.F.slot_list_append PySem.F.type_list_append mt_append md_app (.inl rfl) ho ha hbase hfew hline hs hplain

/-! ### o[i] = e -/
def putKD (ks : List (Key × D)) (k : Key) (d : D) : List (Key × D) := if (ks.any fun q => decide (q.1 = k)) = true then ks.map (fun q => if q.1 = k then (q.1, d) else q) else ks ++ [(k, d)]
theorem datK_append {K : PySem.W.Frag} {mg : Str → Option Value} {φ : List Addr} {G : Hp} {k : Key} {d : D} {v : V} (hd : Dat K mg φ G d v) : ∀ {ks : List (Key × D)} {kvs : List (Key × V)}, DatK K mg φ G ks kvs → DatK K mg φ G (ks ++ [(k, d)]) (kvs ++ [(k, v)])
  | [], _, h => by
    unfold DatK at h
    subst h
    show DatK K mg φ G [(k, d)] [(k, v)]
    unfold DatK
    exact ⟨v, [], rfl, hd, by unfold DatK; rfl⟩
  | (j, e) :: ks, _, h => by
    unfold DatK at h
    obtain ⟨u, r, rfl, h1, h2⟩ := h
    show DatK K mg φ G ((j, e) :: (ks ++ [(k, d)])) ((j, u) :: (r ++ [(k, v)]))
    unfold DatK
    exact ⟨u, _, rfl, h1, datK_append hd h2⟩
theorem datK_put {K : PySem.W.Frag} {mg : Str → Option Value} {φ : List Addr} {G : Hp} {k : Key} {d : D} {v : V} (hd : Dat K mg φ G d v) {ks : List (Key × D)} {kvs : List (Key × V)} (h : DatK K mg φ G ks kvs) : DatK K mg φ G (putKD ks k d) (putK kvs k v) := by
  have any_eq : ∀ {ks : List (Key × D)} {kvs : List (Key × V)}, DatK K mg φ G ks kvs → (ks.any fun q => decide (q.1 = k)) = (kvs.any fun q => decide (q.1 = k)) := by
    intro ks
    induction ks with
    | nil =>
      intro kvs h
      unfold DatK at h
      subst h
      rfl
    | cons q ks ih =>
      intro kvs h
      obtain ⟨j, e⟩ := q
      unfold DatK at h
      obtain ⟨u, r, rfl, h1, h2⟩ := h
      rw [List.any_cons, List.any_cons, ih h2]
  have map_ok : ∀ {ks : List (Key × D)} {kvs : List (Key × V)}, DatK K mg φ G ks kvs → DatK K mg φ G (ks.map fun q => if q.1 = k then (q.1, d) else q) (kvs.map fun q => if q.1 = k then (q.1, v) else q) := by
    intro ks
    induction ks with
    | nil =>
      intro kvs h
      unfold DatK at h
      subst h
      unfold DatK
      rfl
    | cons q ks ih =>
      intro kvs h
      obtain ⟨j, e⟩ := q
      unfold DatK at h
      obtain ⟨u, r, rfl, h1, h2⟩ := h
      rw [List.map_cons, List.map_cons]
      by_cases hj : j = k
      · simp only [hj, if_true]
        unfold DatK
        exact ⟨v, _, rfl, hd, ih h2⟩
      · simp only [hj, if_false]
        unfold DatK
        exact ⟨u, _, rfl, h1, ih h2⟩
  unfold putKD putK
  rw [any_eq h]
  split
  · exact map_ok h
  · exact datK_append hd h
def rSetX (C : Prop) : TSet := fun o i v H Q => rSetL o i v H Q ∨ rSetD o i v H Q
theorem set_any (C : Cn X W k) : PSet X (rSetX True) := fun pins s σ H o i v ov iv u Q I ro ri rv h => h.elim (set_list pins s σ H o i v ov iv u Q I ro ri rv) (set_dict C.u1 pins s σ H o i v ov iv u Q I ro ri rv)
def storeAt (x y d : D) (S : Store) : Option Store := match x with
  | .oid n => match S[n]? with
    | some (.lst ds) => (match y with
      | .int i => (ixN ds.length i).map fun j => S.set n (.lst (ds.set j d))
      | _ => none)
    | some (.dic ks) => (match keyD y with
      | some q => if ks.length < sizeLine then some (S.set n (.dic (putKD ks q d))) else none
      | none => none)
    | _ => none
  | _ => none
theorem storeAt_ok {Z φ : List Addr} {S S' : Store} {H : Hp} {x y d : D} {o i v : V} {Q : Hp → Prop} (R : Rel X.K X.mg Z φ S H) (dx : Dat X.K X.mg φ (gnd Z φ S H) x o) (dy : Dat X.K X.mg φ (gnd Z φ S H) y i) (dd : Dat X.K X.mg φ (gnd Z φ S H) d v) (e : storeAt x y d S = some S')
    (hQ : ∀ H', Rel X.K X.mg Z φ S' H' → Evo Z φ S H φ S' H' → Q H') : rSetX True o i v H Q := by
  unfold storeAt at e
  split at e
  · rename_i n
    unfold Dat at dx
    obtain ⟨a, rfl, ha⟩ := dx
    split at e
    · rename_i ds hS
      split at e
      · rename_i j
        cases dInt dy
        obtain ⟨q, hq, e⟩ := Option.map_eq_some_iff.mp e
        subst e
        obtain ⟨vs, h1, h2⟩ := R.ob n a _ ha hS
        obtain ⟨R3, E3⟩ := R.mutate (u := .lst (ds.set q d)) (ho := .lst (vs.set q v)) ha hS rfl rfl ⟨_, upd_same, h2.set q dd⟩
        exact .inl ⟨a, vs, j, q, rfl, rfl, h1, by rw [h2.length]; exact hq, hQ _ R3 E3⟩
      · cases e
    · rename_i ks hS
      split at e
      · rename_i q hq
        split at e
        · rename_i hl
          cases e
          obtain ⟨kvs, h1, h2⟩ := R.ob n a _ ha hS
          obtain ⟨R3, E3⟩ := R.mutate (u := .dic (putKD ks q d)) (ho := .dK (putK kvs q v)) ha hS rfl rfl ⟨_, upd_same, datK_put dd h2⟩
          exact .inr ⟨a, _, rfl, .inl ⟨kvs, q, h1, keyD_ok dy hq, by rw [datK_length h2]; exact hl, rfl⟩, hQ _ R3 E3⟩
        · cases e
      · cases e
    · cases e
  · cases e
def gPut (fo fi fe : FE) : FS := fun ρ S => (fe ρ S).into ρ fun d S => (fo ρ S).into ρ fun x S => (fi ρ S).into ρ fun y S => match storeAt x y d S with
  | some S => .nx ρ S
  | none => .stuck
theorem ds_put (C : Cn X W k) {fi : FE} {i : Expr} {tpos : Pos} (ho : DE X W o fo) (hi : DE X W i fi) (he : DE X W e fe)
    (ha : ∀ v, assign (.Subscript o i tpos) X.env v = (do
      let ov ← holding [v] (eval o X.env)
      let iv ← holding [v, ov] (eval i X.env)
      standAt tpos
      holding [v, ov, iv] (setItem ov iv v)
      release [v, ov, iv] []) := by intro _; rfl) (hs : swapsWithSole [.Subscript o i tpos] e pos.line X.env = pure false := by rfl) (hw : swappedStores [.Subscript o i tpos] e X.env = pure none := by rfl)
    (h1 : (assignEach [.Subscript o i tpos] X.env).map (·.2) = [assign (.Subscript o i tpos) X.env] := by rfl) : DS X W (.Assign [.Subscript o i tpos] e pos) (gPut fo fi fe) := by
  obtain ⟨to, po, qo⟩ := ho.ex
  obtain ⟨ti, pi, qi⟩ := hi.ex
  obtain ⟨te, pe, qe⟩ := he.ex
  refine .mk (ps_asg pe (pg_sub po pi (set_any C) ha) hs hw h1) fun Z φ S ρ σ H Dd R sl w => qe Z φ S ρ σ H _ R sl (w.into sl fun d S1 v φ1 H1 R1 E1 dd w1 => ?_)
  refine qo Z φ1 S1 ρ σ H1 _ R1 (sl.evo E1) (w1.into (sl.evo E1) fun x S2 ov φ2 H2 R2 E2 dx w2 => ?_)
  refine qi Z φ2 S2 ρ σ H2 _ R2 ((sl.evo E1).evo E2) (w2.into ((sl.evo E1).evo E2) fun y S3 iv φ3 H3 R3 E3 dy w3 => ?_)
  cases hst : storeAt x y d S3 with
  | none => rw [hst] at w3; exact w3.elim
  | some S4 =>
    rw [hst] at w3
    exact storeAt_ok R3 (Dat.evo E3 dx) dy (Dat.evo E3 (Dat.evo E2 dd)) hst fun H4 R4 E4 => w3 σ φ3 H4 R4 E4 ((((sl.evo E1).evo E2).evo E3).evo E4)
/-- {} -/
def fDict0 : FE := fun _ S => .ok (.oid S.length) (S ++ [.dic []])
theorem de_dict0 : DE X W (.Dict [] [] pos) fDict0 := .mk pe_dnewK fun Z φ S ρ σ H Q R sl w => fun p hp => by
  obtain ⟨r, e⟩ := R.newOid (so := .dic []) (same_upd (o := .dK []) hp) hp (by rw [upd_same]; exact fun z => nomatch z) rfl ⟨[], upd_same, by unfold DatK; rfl⟩
  refine w _ _ _ r e ?_
  unfold RDat Dat
  exact ⟨p, rfl, by rw [List.getElem?_append_right (by rw [R.len]; exact Nat.le_refl _), ← R.len, Nat.sub_self]; rfl⟩
end
end DL

/-! The data layer, part 15: the law's end. -/
namespace DL
open PySem PySem.Spec PyProof.Rows L2

theorem dss_none {X : Cx} {W : WX} {sts : List Stmt} : DSs X W sts (fun _ _ => .stuck) := ⟨fun pins s σ H D I ⟨Z, φ, S, ρ, R, sl, w⟩ => w.elim⟩
section
variable {X : Cx} {W : WX} {k : Nat}
/-- a comprehension; the block's context is handed in -/
theorem de_lcB (C : Cn X W k) {fin : Fin'} (hf : FinOk fin) {elt tg iter : Expr} {ifs : List Expr} {scope : Scope} {own : List (Str × Nat)} {pos : Pos} {fi : FI} {is : List Nat} {m : FG} {ft : FT} {fe : FE} (hi : DI X W tg iter fi) (ok : BlkOk X.N X.env.scope scope own)
    (hg : ∀ (s : Shared) (H : Hp) (Ca : Addr) (cl : List (Str × Addr)) (fp : List Addr), Cn (X.blk s H scope (compEnvC scope cl Ca X.env) fp) W0 k → DG (X.blk s H scope (compEnvC scope cl Ca X.env) fp) tg is m)
    (ht : ∀ (s : Shared) (H : Hp) (Ca : Addr) (cl : List (Str × Addr)) (fp : List Addr), Cn (X.blk s H scope (compEnvC scope cl Ca X.env) fp) W0 k → DTs (X.blk s H scope (compEnvC scope cl Ca X.env) fp) W0 ifs ft)
    (he : ∀ (s : Shared) (H : Hp) (Ca : Addr) (cl : List (Str × Addr)) (fp : List Addr), Cn (X.blk s H scope (compEnvC scope cl Ca X.env) fp) W0 k → DE (X.blk s H scope (compEnvC scope cl Ca X.env) fp) W0 elt fe)
    (hio : ∀ i ∈ is, i ∈ own.map (·.2) := by decide) (hs : ∀ x, foldedSetIterable iter X.env x = pure x := by intro _; rfl) :
    DE X W (.ListComp elt [⟨tg, iter, ifs, 0⟩] scope pos) (fComp fi m ft fe (own.map (·.2)) fin) :=
  de_lc C hf hi ok (fun s H Ca cl fp => hg s H Ca cl fp C.blk) (fun s H Ca cl fp => ht s H Ca cl fp C.blk) (fun s H Ca cl fp => he s H Ca cl fp C.blk) hio hs
theorem ds_setLcB (C : Cn X W k) {fin : Fin'} (hf : FinOk fin) {i : Nat} {y : Str} {py spos : Pos} {elt tg iter : Expr} {ifs : List Expr} {scope : Scope} {own : List (Str × Nat)} {pos : Pos} {fi : FI} {is : List Nat} {m : FG} {ft : FT} {fe : FE} (hy : X.N[i]? = some y) (hyl : X.env.scope.names.lookup y = some .local)
    (hsw : swapsWith (.ListComp elt [⟨tg, iter, ifs, 0⟩] scope pos) (some (.Name y py)) spos.line X.env = pure true) (hi : DI X W tg iter fi) (ok : BlkOk X.N X.env.scope scope own)
    (hg : ∀ (s : Shared) (H : Hp) (Ca : Addr) (cl : List (Str × Addr)) (fp : List Addr), Cn (X.blk s H scope (compEnvC scope cl Ca X.env) fp) W0 k → DG (X.blk s H scope (compEnvC scope cl Ca X.env) fp) tg is m)
    (ht : ∀ (s : Shared) (H : Hp) (Ca : Addr) (cl : List (Str × Addr)) (fp : List Addr), Cn (X.blk s H scope (compEnvC scope cl Ca X.env) fp) W0 k → DTs (X.blk s H scope (compEnvC scope cl Ca X.env) fp) W0 ifs ft)
    (he : ∀ (s : Shared) (H : Hp) (Ca : Addr) (cl : List (Str × Addr)) (fp : List Addr), Cn (X.blk s H scope (compEnvC scope cl Ca X.env) fp) W0 k → DE (X.blk s H scope (compEnvC scope cl Ca X.env) fp) W0 elt fe)
    (hio : ∀ i ∈ is, i ∈ own.map (·.2) := by decide) (hs : ∀ x, foldedSetIterable iter X.env x = pure x := by intro _; rfl) :
    DS X W (.Assign [.Name y py] (.ListComp elt [⟨tg, iter, ifs, 0⟩] scope pos) spos) (gSet i (fComp fi m ft fe (own.map (·.2)) fin)) :=
  ds_setLc C hf hy hyl hsw hi ok (fun s H Ca cl fp => hg s H Ca cl fp C.blk) (fun s H Ca cl fp => ht s H Ca cl fp C.blk) (fun s H Ca cl fp => he s H Ca cl fp C.blk) hio hs
end
end DL

/-! The data layer, part 16: dict comprehensions, augmented assignment, list.index. -/
namespace DL
open PySem PySem.Spec PyProof.Rows L2
section
variable {X : Cx} {W : WX} {k : Nat}
end
end DL

/-! The data layer, part 17: list.index, name op= e. -/
namespace DL
open PySem PySem.Spec PyProof.Rows L2
section
variable {X : Cx} {W : WX} {k : Nat} {o e : Expr} {fo fe : FE} {pos apos cpos : Pos}
/-! ### name op= e -/
def IpD (X : Cx) (t : TIp) (g : G2) : Prop := ∀ (Z φ : List Addr) (S : Store) (H : Hp) (x y : D) (u v : V) (Q : VK) (E : XK), Rel X.K X.mg Z φ S H → Dat X.K X.mg φ (gnd Z φ S H) x u → Dat X.K X.mg φ (gnd Z φ S H) y v →
  Want X.K X.mg (RDat X.K X.mg) Z φ S H (g x y S) Q E → t u v H Q
def gIp (f : Int → Int → Int) : G2 := fun x y S => match x, y with
  | .int i, .int j => .ok (.int (f i j)) S
  | _, _ => .stuck
def gAug (i : Nat) (fe : FE) (g : G2) : FS := fun ρ S => match ρ[i]? with
  | some (some x) => (fe ρ S).into ρ fun y S => (g x y S).into ρ fun z S => .nx (ρ.set i (some z)) S
  | _ => .stuck
end
end DL

/-! The data layer, part 18: own classes as values, isinstance with them, == by an own __eq__, a head with more facts. -/
namespace DL
open PySem PySem.Spec PyProof.Rows L2
/-- what isinstance(x, C) asks of the text's own class C -/
structure IsiC (K : PySem.W.Frag) (C : Addr) : Prop where
  ha : PySem.W.findIn K (.ref C) "__class__" = some (some (.builtin "object.__class__"))
  hn : PySem.W.specialIn K (.builtin "object.__class__") "__get__" = some (some (.builtin "getset_descriptor.__get__"))
  htk : PySem.W.takesIn K (.builtin "object.__class__") = some true
  hm : PySem.W.mroIn K C (.type "object") = some true
section
variable {X : Cx} {W : WX} {k : Nat} {e b : Expr} {pos p : Pos}
/-- an own class as a value -/
theorem de_own {x : Str} {C : Addr} (hg : Gl X x) (hm : X.mg x = some (.ref C)) (hd : (x == ("__debug__" : Str)) = false := by decide) : DE X W (.Name x pos) (fC (.cls x)) :=
  de_c (pe_glob (v := .ref C) hg hm rfl hd) rfl fun _ _ => by unfold Dat; exact ⟨C, rfl, hm⟩
/-! ### == by an own __eq__ that answers True -/
end
/-! ### a head with more facts -/
end DL

/-! The data layer, part 19: freezing to the bottom. -/
namespace DL
open PySem PySem.Spec PyProof.Rows L2
section
variable {K : PySem.W.Frag} {mg : Str → Option Value} {Z φ : List Addr} {H : Hp}
end
section
variable {X : Cx} {W : WX} {k : Nat} {e : Expr} {fe : FE}
end
end DL

/-! The data layer, part 20: name = {k: v for ..}, the name a local that is not captured. -/
namespace DL
open PySem PySem.Spec PyProof.Rows L2
section
variable {X : Cx} {W : WX} {k : Nat}
end
end DL

/-! The data layer, part 21: a comprehension within a comprehension. -/
namespace DL
open PySem PySem.Spec PyProof.Rows L2
section
variable {X : Cx} {W : WX} {k : Nat}
end
end DL

/-! The data layer, part 22: list.pop, list(range(..)), zip, slices. -/
namespace DL
open PySem PySem.Spec PyProof.Rows L2
section
variable {X : Cx} {W : WX} {k : Nat} {o e : Expr} {fo fe : FE} {pos apos cpos p p2 : Pos}
/-! ### xs.pop(i), xs.pop() -/
def gPopAt : GM := fun x ds S => match x, ds with
  | .oid n, [.int i] => (match S[n]? with
    | some (.lst xs) => (match ixN xs.length i with
      | some j => (match xs[j]? with
        | some d => if -4611686018427387904 ≤ i ∧ i < 4611686018427387904 then .ok d (S.set n (.lst (xs.eraseIdx j))) else .stuck
        | none => .stuck)
      | none => .stuck)
    | _ => .stuck)
  | _, _ => .stuck
theorem DatL.eraseIdx {K : PySem.W.Frag} {mg : Str → Option Value} {φ : List Addr} {G : Hp} : ∀ {ds : List D} {vs : List V} (i : Nat), DatL K mg φ G ds vs → DatL K mg φ G (ds.eraseIdx i) (vs.eraseIdx i)
  | [], _, _, h => by
    unfold DatL at h
    subst h
    exact DatL.nil
  | d :: ds, _, 0, h => by
    obtain ⟨v, r, rfl, _, h2⟩ := h.uncons
    exact h2
  | d :: ds, _, i + 1, h => by
    obtain ⟨v, r, rfl, h1, h2⟩ := h.uncons
    exact .cons h1 (DatL.eraseIdx i h2)
theorem md_popAt : MethD X rPopAt gPopAt := fun Z φ S H x u ds vs Q E R dx d w => by
  unfold gPopAt at w
  split at w
  · obtain ⟨v, rfl, h1⟩ := datL1 d
    cases dInt h1
    split at w
    · rename_i xs hS
      split at w
      · rename_i j hj
        split at w
        · rename_i y hy
          obtain ⟨⟨b1, b2⟩, w1⟩ := want_if w
          unfold Dat at dx
          obtain ⟨a, rfl, ha⟩ := dx
          obtain ⟨us, h2, h3⟩ := R.ob _ a _ ha hS
          obtain ⟨z, hz, dz⟩ := h3.get hy
          refine ⟨a, us, _, j, z, rfl, rfl, h2, by omega, by omega, by rw [h3.length]; exact (L2.ixN_seq hj).1, hz, ?_⟩
          obtain ⟨R3, E3⟩ := R.mutate (u := .lst (xs.eraseIdx j)) (ho := .lst (us.eraseIdx j)) ha hS rfl rfl ⟨_, upd_same, DatL.eraseIdx j h3⟩
          exact w1 z φ _ R3 E3 (Dat.evo E3 dz)
        · exact w.elim
      · exact w.elim
    · exact w.elim
  · exact w.elim
theorem de_popAt {fa : FA} (ho : DE X W o fo) (ha : DA X W [e] fa) (hbase : attributeBase o "pop" X.env (eval o X.env) = eval o X.env := by rfl)
    (hfew : ((backTo cpos (starEach [e] X.env)).all (fun x => !x.1) && (backToKw cpos (keywordEach [] X.env)).all (fun x => x.1.isSome) && decide ([e].length + ([] : List Keyword).length + (if ([] : List Keyword).isEmpty then 0 else 1) < 30)) = true := by rfl)
    (hline : (apos.endLine == cpos.line) = true := by rfl) (hs : starEach [e] X.env = (false, eval e X.env) :: starEach [] X.env := by rfl) (hplain : (backTo cpos (starEach [] X.env)).any (·.1) = false := by rfl) :
    DE X W (.Call (.Attribute o "pop" apos) [e] [] cpos) (fBM "list" gPopAt fo fa) := de_bm PySem.F.plainAttrs_list PySem.F.slot_list_pop PySem.F.type_list_pop mt_popAt md_popAt (.inl rfl) ho ha hbase hfew hline hs hplain
/-! ### list(range(n)) -/
/-! ### zip -/
def zipD : List D → List D → List D := List.zipWith fun x y => .tup [x, y]
theorem gnd_some {Z φ : List Addr} {S : Store} {H : Hp} {a : Addr} {u : HO} (h : gnd Z φ S H a = some u) : H a = some u := (without_some.mp h).2
/-! ### slices -/
def cutD (xs : List D) (lo hi : Option Int) : List D := (xs.drop (HT.sIx xs.length 0 lo)).take (HT.sIx xs.length xs.length hi - HT.sIx xs.length 0 lo)
def gSl (x : D) (lo hi : Option Int) (S : Store) : Res D := match x with
  | .tup xs => if HT.sIx xs.length 0 lo = 0 ∧ HT.sIx xs.length xs.length hi = xs.length then .stuck else .ok (.tup (cutD xs lo hi)) S
  | d => match asL S d with
    | some xs => .ok (.lst (cutD xs lo hi)) S
    | none => .stuck
abbrev FO := EnvD → Store → Res (Option Int)
def fPartN : FO := fun _ S => .ok none S
def fPart (f : FE) : FO := fun ρ S => (f ρ S).bind fun d S => match d with
  | .int i => .ok (some i) S
  | _ => .stuck
def tDO (K : PySem.W.Frag) (mg : Str → Option Value) (W : WX) (f : FO) : TO := fun σ H Q => ∃ Z φ S ρ, Rel K mg Z φ S H ∧ Slots K mg φ (gnd Z φ S H) ρ σ ∧ Want K mg REq Z φ S H (f ρ S) Q (WE W σ)
def DO (X : Cx) (W : WX) (e : Option Expr) (f : FO) : Prop := PO X e (tDO X.K X.mg W f)
theorem do_none : DO X W none fPartN := ⟨fun pins s σ H Q I h => (po_none (X := X)).run pins s σ H Q I (by
  obtain ⟨Z, φ, S, ρ, R, sl, w⟩ := h
  exact w.now R rfl)⟩
theorem do_some (he : DE X W e fe) : DO X W (some e) (fPart fe) := by
  obtain ⟨t, pe, q⟩ := he.ex
  refine ⟨fun pins s σ H Q I h => (po_some pe).run pins s σ H Q I ?_⟩
  obtain ⟨Z, φ, S, ρ, R, sl, w⟩ := h
  refine q Z φ S ρ σ H _ R sl (w.bind fun d S1 v φ1 H1 R1 E1 dd w1 => ?_)
  cases d with
  | int i =>
    cases dInt dd
    exact ⟨i, rfl, w1.now R1 rfl⟩
  | _ => exact w1.elim
def fSl (fx : FE) (fl fh : FO) : FE := fun ρ S => (fx ρ S).bind fun x S => (fl ρ S).bind fun l S => (fh ρ S).bind fun h S => gSl x l h S
theorem cut_dat {φ : List Addr} {G : Hp} {xs : List D} {vs : List V} (h : DatL X.K X.mg φ G xs vs) (lo hi : Option Int) : DatL X.K X.mg φ G (cutD xs lo hi) (cutV vs lo hi) := by
  unfold cutD cutV
  rw [h.length]
  exact (h.drop _).take _
theorem de_slice {lo hi : Option Expr} {fl fh : FO} (hx : DE X W e fe) (hl : DO X W lo fl) (hh : DO X W hi fh) : DE X W (.Subscript e (.Slice lo hi none p2) pos) (fSl fe fl fh) := by
  obtain ⟨t, pe, q⟩ := hx.ex
  refine .mk (pe_slice (sl_tup.or sl_list) pe hl hh) fun Z φ S ρ σ H Q R sl w => q Z φ S ρ σ H _ R sl (w.bind fun x S1 v φ1 H1 R1 E1 d w1 => ?_)
  refine ⟨Z, φ1, S1, ρ, R1, sl.evo E1, w1.bind fun l S2 l' φ2 H2 R2 E2 el w2 => ?_⟩
  cases el
  refine ⟨Z, φ2, S2, ρ, R2, (sl.evo E1).evo E2, w2.bind fun h S3 h' φ3 H3 R3 E3 eh w3 => ?_⟩
  cases eh
  have d3 : Dat X.K X.mg φ3 (gnd Z φ3 S3 H3) x v := Dat.evo E3 (Dat.evo E2 d)
  unfold gSl at w3
  split at w3
  · rename_i xs
    by_cases hc : HT.sIx xs.length 0 l = 0 ∧ HT.sIx xs.length xs.length h = xs.length
    · rw [if_pos hc] at w3
      exact w3.elim
    · rw [if_neg hc] at w3
      unfold Dat at d3
      obtain ⟨a, vs, rfl, q1, q2⟩ := d3
      refine .inl ⟨a, vs, rfl, sqt_mono (fun b u hb => gnd_some hb) q1, by rw [q2.length]; exact hc, fun p hp => ?_⟩
      obtain ⟨r, e, g⟩ := dat_newT R3 (cut_dat q2 l h) hp
      exact w3 _ _ _ r e g
  · split at w3
    · rename_i xs hq
      obtain ⟨a, vs, rfl, q1, q2⟩ := asL_ok R3 d3 hq
      refine .inr ⟨a, vs, rfl, q1, fun p hp => ?_⟩
      obtain ⟨r, e, g⟩ := dat_newL R3 (cut_dat q2 l h) hp
      exact w3 _ _ _ r e g
    · exact w3.elim
end
end DL

/-! The data layer, part 23: dict.get. -/
namespace DL
open PySem PySem.Spec PyProof.Rows L2
section
variable {X : Cx} {W : WX} {k : Nat} {o e f : Expr} {fo fe ff : FE} {pos apos cpos p p2 : Pos}
def gGet (x y z : D) (S : Store) : Res D := match asD S x, keyD y with
  | some ks, some j => .ok ((valD ks j).getD z) S
  | _, _ => .stuck
def fGet1 (fo fe : FE) : FE := fun ρ S => (fo ρ S).bind fun x S => if (asD S x).isSome then (fe ρ S).bind fun y S => gGet x y .non S else .stuck
def fGet2 (fo fe ff : FE) : FE := fun ρ S => (fo ρ S).bind fun x S => if (asD S x).isSome then (fe ρ S).bind fun y S => (ff ρ S).bind fun z S => gGet x y z S else .stuck
theorem isD_of {Z φ : List Addr} {S : Store} {H : Hp} {x : D} {v : V} (R : Rel X.K X.mg Z φ S H) (dx : Dat X.K X.mg φ (gnd Z φ S H) x v) (h : (asD S x).isSome = true) : ∃ a, v = .ref a ∧ IsD H a := by
  obtain ⟨ks, e⟩ := Option.isSome_iff_exists.mp h
  obtain ⟨p, kvs, e3, h1, _⟩ := asD_ok R dx e
  exact ⟨p, e3, .inl ⟨kvs, .inl h1⟩⟩
end
end DL

/-! The data layer, part 24: a, b = e, f and a, b, c = e, f, g, all names locals that are not captured. -/
namespace DL
open PySem PySem.Spec PyProof.Rows L2
section
variable {X : Cx} {W : WX} {k : Nat} {a b c : Expr} {pos : Pos}
def gPar (i j : Nat) (fa : FA) : FS := fun ρ S => (fa ρ S).into ρ fun ds S => match ds with
  | [x, y] => .nx ((ρ.set i (some x)).set j (some y)) S
  | _ => .stuck
theorem ds_par (C : Cn X W k) {i j : Nat} {x y : Str} {fa : FA} {px py pt : Pos} {kt k2 pt2} (hi : X.N[i]? = some x) (hj : X.N[j]? = some y) (hij : i ≠ j)
    (hx : X.env.scope.names.lookup x = some .local) (hy : X.env.scope.names.lookup y = some .local) (ha : DA X W [a, b] fa)
    (hw : swappedStores [.Tuple [.Name x px, .Name y py] kt pt] (.Tuple [a, b] k2 pt2) X.env = pure (some [x, y]))
    (hs : swapsWithSole [.Tuple [.Name x px, .Name y py] kt pt] (.Tuple [a, b] k2 pt2) pos.line X.env = pure false := by rfl) :
    DS X W (.Assign [.Tuple [.Name x px, .Name y py] kt pt] (.Tuple [a, b] k2 pt2) pos) (gPar i j fa) := by
  obtain ⟨t, p, q⟩ := ha.ex
  refine .mk (ps_par C.calm C.nd hi hj hij hx hy p hw hs) fun Z φ S ρ σ H Dd R sl w => q Z φ S ρ σ H _ R sl (w.into sl fun ds S1 vs φ1 H1 R1 E1 d w1 => ?_)
  split at w1
  · obtain ⟨u, v, rfl, h1, h2⟩ := datL2 d
    exact ⟨u, v, rfl, w1 _ φ1 H1 R1 Evo.refl (((sl.evo E1).set h1).set h2)⟩
  · exact w1.elim
end
end DL

/-! The data layer, part 25: () + t. -/
namespace DL
open PySem PySem.Spec PyProof.Rows L2
theorem cat_tup0 {prog : Program} {w : World} {A : Around} {E : Value → Shared → Prop} {s : Shared} {t b : Addr} {ws : List Value} {Q : Value → Shared → Prop} (ht : IsTup s.heap t ([] : List Value).toArray) (hb : IsTup s.heap b ws.toArray)
    (h1 : Q (.ref b) s) : wpAny (model prog w) A (binaryOp .Add (.ref t) (.ref b)) Q E s := by
  obtain ⟨⟨cls, dd, data, sl⟩, ho, hc, n, hd⟩ := id ht
  obtain ⟨⟨cls2, dd2, data2, sl2⟩, ho2, hc2, n2, hd2⟩ := id hb
  simp only at hc hd hc2 hd2
  subst hc hd hc2 hd2
  exact concat_meets ⟨_, ho, rfl⟩ ⟨_, ho2, rfl⟩ noFill_tuple_add seq_tuple_add PySem.F.slot_tuple_add PySem.F.entry_tuple_add (PySem.F.args_tuple_add_2 _ _)
      (tuple_addW0 t b ([] : List Value).toArray ws.toArray n n2 dd dd2 sl sl2 (by simp)) ⟨ho, ho2, h1⟩
section
variable {X : Cx} {W : WX} {a b : Expr} {fa fb : FE} {pos : Pos}
def rCat0 (K : PySem.W.Frag) : R2 := fun x y H Q => ∃ a b ys, x = .ref a ∧ y = .ref b ∧ SqT K H a [] ∧ SqT K H b ys ∧ Q (.ref b) H
theorem op_cat0 : OpR X (binaryOp .Add) (rCat0 X.K) := by
  intro pins s σ H x y v u Q I rx ry h
  obtain ⟨a, b, ys, rfl, rfl, ha, hb, q⟩ := h
  cases rx
  cases ry
  obtain ⟨its, r1, p1, _⟩ := I.tuple ha
  obtain ⟨its2, r2, p2, _⟩ := I.tuple hb
  have e : its = [] := r1.nil_iff.mpr rfl
  subst e
  exact cat_tup0 p1 p2 ⟨.ref b, H, I, rfl, q⟩
def isE0 (x _ : D) (_ : Store) : Bool := match x with
  | .tup [] => true
  | _ => false
def gCat0 : G2 := fun x y S => match x, y with
  | .tup [], .tup ys => .ok (.tup ys) S
  | _, _ => .stuck
theorem opd_cat0 : OpD X (rCat0 X.K) gCat0 := fun Z φ S H x y u v Q E R dx dy w => by
  unfold gCat0 at w
  split at w
  · obtain ⟨p, vs, rfl, h1, h2⟩ := tupOf_ok dx rfl
    obtain ⟨q, us, rfl, h3, h4⟩ := tupOf_ok dy rfl
    have e : vs = [] := by
      unfold DatL at h2
      exact h2
    subst e
    exact ⟨p, q, us, rfl, rfl, sqt_mono (fun _ _ z => z) h1, h3, w.now R dy⟩
  · exact w.elim
def gAdd0 : G2 := fun x y S => if isE0 x y S then gCat0 x y S else gAdd x y S
theorem de_add0 (ha : DE X W a fa) (hb : DE X W b fb) : DE X W (.BinOp a .Add b pos) (fBin gAdd0 fa fb) :=
  de_bin (op_cat0.or (op_add.or (op_add_str.or (op_catT.or op_cat)))) (OpD.or isE0 opd_cat0 (OpD.or isI (opd_I0 fun _ _ _ _ => dat_int _) (OpD.or isS opd_addS (OpD.or isT opd_addT opd_addL)))) ha hb
end
end DL

/-! The data layer, part 26: len(x) by an own __len__. -/
namespace DL
open PySem PySem.Spec PyProof.Rows L2
section
variable {X : Cx} {W : WX} {k n : Nat} {e : Expr} {pos p : Pos} {C f : Addr} {fd : FuncData} {ps : List Str} {sem : Sem'}
end
end DL

/-! The data layer, part 27: list(zip(xs, ys)). -/
namespace PySem
open PySem.Spec PySem.Calls PyProof.Rows PySem.W L2
namespace F
end F
section
variable {prog : Program} {w : World} {A : Around} {E : Value → Shared → Prop} {s : Shared}
/-- an iterator that lays a new object at each turn -/
structure NewSrc (prog : Program) (w : World) (A : Around) (e : Addr) (wr fp : List Addr) (n : Nat) (PT : Nat → Obj → Prop) (St : Nat → Heap → Prop) : Prop where
  frame : ∀ i h h' S, St i h → S ∉ fp → (∀ b o, b ≠ S → h.get? b = some o → h'.get? b = some o) → (∀ o, h.get? S = some o → ∃ o', h'.get? S = some o') → St i h'
  item : ∀ i (s : Shared) (Q : Option Value → Shared → Prop) (E : Value → Shared → Prop), i < n → St i s.heap →
    (∀ h' tk o, PT i o → St (i + 1) h' → h'.get? s.heap.objs.size = some o → h'.objs.size = s.heap.objs.size + 1 → (∀ b o, b ∉ wr → s.heap.get? b = some o → h'.get? b = some o) → Q (some (.ref s.heap.objs.size)) { s with heap := h', toks := tk }) → wpAny (model prog w) A (pyNext (.ref e)) Q E s
  done : ∀ (s : Shared) (Q : Option Value → Shared → Prop) (E : Value → Shared → Prop), St n s.heap → (∀ h' tk, (∀ b o, b ∉ wr → s.heap.get? b = some o → h'.get? b = some o) → Q none { s with heap := h', toks := tk }) → wpAny (model prog w) A (pyNext (.ref e)) Q E s
  sub : ∀ b ∈ wr, b ∈ fp
/-- the objects laid so far -/
structure NwG (PT : Nat → Obj → Prop) (lo : Addr) (h : Heap) (as : List Addr) : Prop where
  asc : as.Pairwise (· < ·)
  above : ∀ a ∈ as, lo < a
  at_ : ∀ (j : Nat) (a : Addr), as[j]? = some a → ∃ o, PT j o ∧ h.get? a = some o
/-- a zip of two lists, at any turn -/
def ZpAt (z TI TO i1 i2 l1 l2 : Addr) (xs ys : Array Value) (i : Nat) (h : Heap) : Prop := IsPair h TI (.ref i1) (.ref i2) ∧ h.IsListIter i1 l1 i ∧ h.IsListIter i2 l2 i ∧ h.IsList l1 xs ∧ h.IsList l2 ys ∧
  ((IsZip h z TI TO .none ∧ ∃ a b, IsPair h TO a b) ∨ ∃ T f oT, IsZipHeld h z TI TO T f ∧ h.get? T = some oT ∧ T ≠ z ∧ T ≠ i1 ∧ T ≠ i2)
theorem ZpAt.type {z TI TO i1 i2 l1 l2 : Addr} {xs ys : Array Value} {i : Nat} (x : ZpAt z TI TO i1 i2 l1 l2 xs ys i s.heap) : s.TypeIs (.ref z) "zip" := by
  rcases x.2.2.2.2.2 with ⟨hz, _⟩ | ⟨T, f, oT, hz, _⟩ <;> exact ⟨_, hz, rfl⟩
end
end PySem

/-! The data layer, part 28: list(zip(xs, ys)) on data. -/
namespace DL
open PySem PySem.Spec PyProof.Rows L2
section
variable {K : PySem.W.Frag} {mg : Str → Option Value} {Z φ : List Addr} {S : Store}
end
section
variable {X : Cx} {W : WX} {k : Nat} {a b : Expr} {fa : FA} {pos p p2 q2 : Pos}
def gLZip : GC := fun ds S => match ds with
  | [.lst xs, .lst ys] => .ok (.lst (zipD xs ys)) S
  | _ => .stuck
@[simp] theorem e_gLZip (xs ys : List D) (S : Store) : gLZip [.lst xs, .lst ys] S = .ok (.lst (zipD xs ys)) S := rfl
end
end DL

/-! The data layer, part 29: the whole of a tuple as a slice; t[::-1]; int(truth). -/
namespace HT
open PySem PySem.Spec PyProof.Rows
section
variable {prog : Program} {w : World} {A : Around} {E : Value → Shared → Prop} {s : Shared}
end
end HT
namespace L2
open PySem PySem.Spec PyProof.Rows
section
variable {X : Cx}
end
end L2
namespace DL
open PySem PySem.Spec PyProof.Rows L2
section
variable {X : Cx} {W : WX} {k : Nat} {e : Expr} {fe : FE} {pos p p1 p2 p3 : Pos}
def gRevT (x : D) (S : Store) : Res D := match x with
  | .tup xs => .ok (.tup xs.reverse) S
  | _ => .stuck
/-- slices, the whole of a tuple too -/
def gSlW (x : D) (lo hi : Option Int) (S : Store) : Res D := match x with
  | .tup xs => if HT.sIx xs.length 0 lo = 0 ∧ HT.sIx xs.length xs.length hi = xs.length then .ok (.tup xs) S else .ok (.tup (cutD xs lo hi)) S
  | d => match asL S d with
    | some xs => .ok (.lst (cutD xs lo hi)) S
    | none => .stuck
def fSlW (fx : FE) (fl fh : FO) : FE := fun ρ S => (fx ρ S).bind fun x S => (fl ρ S).bind fun l S => (fh ρ S).bind fun h S => gSlW x l h S
/-- int(truth) -/
def gIntB : GC := fun ds S => match ds with
  | [.int i] => .ok (.int i) S
  | [.bl b] => .ok (.int (if b then 1 else 0)) S
  | _ => .stuck
theorem de_intB {fa : FA} (hg : Gl X "int") (hm : X.mg "int" = none) (ha : DA X W [e] fa) (he : starEach [e] X.env = (false, eval e X.env) :: starEach [] X.env := by rfl) (hpl : (backTo pos (starEach [] X.env)).any (·.1) = false := by rfl) :
    DE X W (.Call (.Name "int" p) [e] [] pos) (fCB gIntB fa) :=
  de_callTy call_int1 (fun Z φ S H ds vs Q E R d w => by
    unfold gIntB at w
    split at w
    · obtain ⟨v, rfl, h1⟩ := datL1 d
      cases dInt h1
      exact .inl ⟨_, rfl, w.now R (dat_int _)⟩
    · obtain ⟨v, rfl, h1⟩ := datL1 d
      unfold Dat at h1
      subst h1
      exact .inr ⟨_, rfl, w.now R (dat_int _)⟩
    · exact w.elim) hg hm (by rfl) ha (by decide) (by decide) he hpl
@[simp] theorem e_gRevT (xs : List D) (S : Store) : gRevT (.tup xs) S = .ok (.tup xs.reverse) S := rfl
@[simp] theorem e_fSlW (fx : FE) (fl fh : FO) (ρ : EnvD) (S : Store) : fSlW fx fl fh ρ S = (fx ρ S).bind fun x S => (fl ρ S).bind fun l S => (fh ρ S).bind fun h S => gSlW x l h S := rfl
@[simp] theorem e_gIntB_b (b : Bool) (S : Store) : gIntB [.bl b] S = .ok (.int (if b then 1 else 0)) S := rfl
end
end DL

/-! The data layer, part 30: x in l, deep. -/
namespace DL
open PySem PySem.Spec PyProof.Rows L2
section
variable {X : Cx} {W : WX} {k : Nat}
end
end DL

/-! The data layer, part 31: texts: split, join, startswith, int(text), str(number), f'..', text[lo:hi]. -/
namespace DL
open PySem PySem.Spec PyProof.Rows L2
section
variable {X : Cx} {W : WX} {k : Nat} {o e : Expr} {fo fe : FE} {pos apos cpos p p2 : Pos}
theorem dat_strs {φ : List Addr} {G : Hp} : ∀ ys : List Str, DatL X.K X.mg φ G (ys.map D.str) (ys.map V.str)
  | [] => DatL.nil
  | y :: ys => .cons (dat_str _) (dat_strs ys)
theorem want_ifc {P : Prop} {α β : Type} {Rr : List Addr → Hp → α → β → Prop} {Z φ : List Addr} {S : Store} {H : Hp} {r : Res α} {Q : β → Hp → Prop} {E : XK} (w : Want X.K X.mg Rr Z φ S H (@ite _ P (Classical.propDecidable _) r .stuck) Q E) : P ∧ Want X.K X.mg Rr Z φ S H r Q E := by
  by_cases h : P
  · rw [if_pos h] at w
    exact ⟨h, w⟩
  · rw [if_neg h] at w
    exact w.elim
def strsOf : List D → Option (List Str)
  | [] => some []
  | .str i :: ds => (strsOf ds).map (i :: ·)
  | _ => none
theorem strsOf_ok {φ : List Addr} {G : Hp} : ∀ {ds : List D} {vs : List V} {ns : List Str}, DatL X.K X.mg φ G ds vs → strsOf ds = some ns → vs = ns.map V.str
  | [], vs, ns, d, e => by
    unfold DatL at d
    subst d
    cases e
    rfl
  | x :: ds, vs, ns, d, e => by
    obtain ⟨v, r, rfl, h1, h2⟩ := d.uncons
    cases x with
    | str i =>
      simp only [strsOf] at e
      cases q : strsOf ds with
      | none => rw [q] at e; cases e
      | some ms =>
        rw [q] at e
        cases e
        cases dStr h1
        rw [strsOf_ok h2 q]
        rfl
    | _ => cases e
noncomputable def gJoin : GM := fun x ds S => match x, ds with
  | .str a, [d] => (match (asQ S d).bind strsOf with
    | some ys => @ite _ ((ys.map (·.length)).sum + ys.length * a.length ≤ 16777216) (Classical.propDecidable _) (.ok (.str (Txt.join a ys)) S) .stuck
    | none => .stuck)
  | _, _ => .stuck
theorem md_join : MethD X (fun x xs H Q => ∃ a p, ∃ ys : List Str, x = .str a ∧ xs = [.ref p] ∧ (SqL X.K H p (ys.map V.str) ∨ SqT X.K H p (ys.map V.str)) ∧ (ys.map (·.length)).sum + ys.length * a.length ≤ 16777216 ∧ Q (.str (Txt.join a ys)) H) gJoin := fun Z φ S H x u ds vs Q E R dx d w => by
  unfold gJoin at w
  split at w
  · rename_i a d0
    cases dStr dx
    obtain ⟨v, rfl, h1⟩ := datL1 d
    split at w
    · rename_i ys e
      obtain ⟨xs, e1, e2⟩ := Option.bind_eq_some_iff.mp e
      obtain ⟨l, zs, rfl, h2, h3⟩ := asQ_ok R h1 e1
      obtain ⟨h, w1⟩ := want_ifc w
      rw [strsOf_ok h3 e2] at h2
      exact ⟨a, l, ys, rfl, rfl, h2, h, w1.now R (dat_str _)⟩
    · exact w.elim
  · exact w.elim
end
end DL

/-! The data layer, part 32: texts, the derivations. -/
namespace DL
open PySem PySem.Spec PyProof.Rows L2
section
variable {X : Cx} {W : WX} {k : Nat} {o e : Expr} {fo fe : FE} {pos apos cpos p p2 : Pos} {fa : FA}
theorem de_join (ho : DE X W o fo) (ha : DA X W [e] fa) (hbase : attributeBase o "join" X.env (eval o X.env) = eval o X.env := by rfl)
    (hfew : ((backTo cpos (starEach [e] X.env)).all (fun x => !x.1) && (backToKw cpos (keywordEach [] X.env)).all (fun x => x.1.isSome) && decide ([e].length + ([] : List Keyword).length + (if ([] : List Keyword).isEmpty then 0 else 1) < 30)) = true := by rfl)
    (hline : (apos.endLine == cpos.line) = true := by rfl) (hs : starEach [e] X.env = (false, eval e X.env) :: starEach [] X.env := by rfl) (hplain : (backTo cpos (starEach [] X.env)).any (·.1) = false := by rfl) :
    DE X W (.Call (.Attribute o "join" apos) [e] [] cpos) (fBM "str" gJoin fo fa) := de_bm PySem.F.plainAttrs_str PySem.F.slot_str_join PySem.F.type_str_join mt_join md_join (.inr (.inr rfl)) ho ha hbase hfew hline hs hplain
/-- text[lo:hi] -/
noncomputable def gSlS (x : D) (lo hi : Option Int) (S : Store) : Res D := match x with
  | .str z => @ite _ (z.length ≤ sizeLine) (Classical.propDecidable _) (.ok (.str (cutS z lo hi)) S) .stuck
  | _ => .stuck
noncomputable def fSlS (fx : FE) (fl fh : FO) : FE := fun ρ S => (fx ρ S).bind fun x S => (fl ρ S).bind fun l S => (fh ρ S).bind fun h S => gSlS x l h S
theorem de_sliceS {lo hi : Option Expr} {fl fh : FO} (hx : DE X W e fe) (hl : DO X W lo fl) (hh : DO X W hi fh) : DE X W (.Subscript e (.Slice lo hi none p2) pos) (fSlS fe fl fh) := by
  obtain ⟨t, pe, q⟩ := hx.ex
  refine .mk (pe_slice sl_str pe hl hh) fun Z φ S ρ σ H Q R sl w => q Z φ S ρ σ H _ R sl (w.bind fun x S1 v φ1 H1 R1 E1 d w1 => ?_)
  refine ⟨Z, φ1, S1, ρ, R1, sl.evo E1, w1.bind fun l S2 l' φ2 H2 R2 E2 el w2 => ?_⟩
  cases el
  refine ⟨Z, φ2, S2, ρ, R2, (sl.evo E1).evo E2, w2.bind fun h S3 h' φ3 H3 R3 E3 eh w3 => ?_⟩
  cases eh
  have d3 : Dat X.K X.mg φ3 (gnd Z φ3 S3 H3) x v := Dat.evo E3 (Dat.evo E2 d)
  unfold gSlS at w3
  split at w3
  · rename_i z
    obtain ⟨hz, w4⟩ := want_ifc w3
    cases dStr d3
    exact ⟨z, rfl, hz, w4.now R3 (dat_str _)⟩
  · exact w3.elim
/-- sign in text -/
def gInC (neg : Bool) : G2 := fun x y S => match x, y with
  | .str a, .str z => (match a.cps.toList with
    | [c] => if a = ⟨#[c]⟩ then .ok (.bl (if neg then !decide (c ∈ z.cps.toList) else decide (c ∈ z.cps.toList))) S else .stuck
    | _ => .stuck)
  | _, _ => .stuck
theorem opd_inC : OpD X (fun x y H Q => ∃ (c : Nat) (z : Str), x = .str ⟨#[c]⟩ ∧ y = .str z ∧ Q (.bl (decide (c ∈ z.cps.toList))) H) (gInC false) := fun Z φ S H x y u v Q E R dx dy w => by
  unfold gInC at w
  split at w
  · split at w
    · rename_i c hc
      obtain ⟨h, w1⟩ := want_if w
      cases dStr dx
      cases dStr dy
      exact ⟨c, _, by rw [← h], rfl, w1.now R (dat_bl _)⟩
    · exact w.elim
  · exact w.elim
end
end DL

/-! The data layer, part 33: text * number. -/
namespace DL
open PySem PySem.Spec PyProof.Rows L2
section
variable {X : Cx} {W : WX} {a b : Expr} {fa fb : FE} {pos : Pos}
end
end DL

/-! The data layer, part 34: the signs of a text walked over; split as a list that changes. -/
namespace DL
open PySem PySem.Spec PyProof.Rows L2
section
variable {X : Cx} {W : WX} {k : Nat} {o e tg : Expr} {fo fe : FE} {pos apos cpos p p2 : Pos} {fa : FA}
def signs (z : Str) : List D := z.cps.toList.map fun c => .str ⟨#[c]⟩
def signC : D → Store → Res ItD := fun d S => match d with
  | .str z => .ok ⟨signs z, none⟩ S
  | _ => .stuck
def fSigns (fe : FE) : FI := fun ρ S => (fe ρ S).bind signC
theorem ri_signs {Z φ : List Addr} {S : Store} {H : Hp} {z : Str} : RI X.K X.mg Z φ S H ⟨signs z, none⟩ (Its z) :=
  fun i Z' φ' S' H' hZ R hp hs ok => by
    refine ⟨fun d hd => ?_, fun hl => ?_⟩
    · have hd' : (signs z)[i]? = some d := hd
      unfold signs at hd'
      rw [List.getElem?_map] at hd'
      cases hc : z.cps.toList[i]? with
      | none => rw [hc] at hd'; cases hd'
      | some c =>
        rw [hc] at hd'
        cases hd'
        have hc' : z.cps[i]? = some c := by simpa using hc
        have hi : i < z.cps.size := (Array.getElem?_eq_some_iff.mp hc').1
        refine ⟨hi, fun y' H'' yl => ?_⟩
        obtain ⟨rfl, c', e1, rfl⟩ := yl
        rw [hc'] at e1
        cases e1
        exact ⟨R, Evo.refl, dat_str _⟩
    · have hl' : (signs z).length ≤ i := hl
      unfold signs at hl'
      show z.cps.size ≤ i
      simpa using hl'
theorem di_signs (he : DE X W e fe) : DI X W tg e (fSigns fe) := by
  obtain ⟨t, pe, q⟩ := he.ex
  refine .mk (pi_str pe) fun Z φ S ρ σ H R R0 sl w => q Z φ S ρ σ H _ R0 sl (w.bind fun d S1 v φ1 H1 R1 E1 dd w1 => ?_)
  unfold signC at w1
  split at w1
  · cases dStr dd
    exact ⟨_, rfl, w1 _ _ _ R1 Evo.refl ri_signs⟩
  · exact w1.elim
end
end DL

/-! The data layer, part 35: exceptions caught and kept. -/
namespace DL
open PySem PySem.Spec PyProof.Rows L2

theorem excV_ok {P : Program} {w : World} {H : Hp} {hp : Heap} {a : Addr} {cls : Value} {dd : Option Addr} {ob : Obj} {fs : Array Value} (e : hp.get? a = some ob) (z : L2N.Zn cls dd ob) (d : ob.data = .fields fs) : ObjOk P w H hp a (ExcV cls dd a) :=
  ⟨⟨ob, fs, e, z, d⟩, ⟨ob, e⟩, fun _ _ ⟨o, v, q, r⟩ kp => ⟨o, v, kp o q, r⟩⟩
section
variable {X : Cx} {pins : List (Addr × Obj)} {σ : L2.St} {H : Hp} {s : Shared}
/-- an object that wasn't there at the entry is tracked from now on -/
theorem inv_track {a : Addr} {o : HO} (I : L2.Inv X pins σ H s) (n0 : X.s_0.heap.get? a = none) (na : H a = none) (nl : a ≠ X.env.locals) (nc : ∀ x c, X.env.cells.lookup x = some c → c ≠ a)
    (np : ∀ p ∈ X.pn ++ pins, p.1 ≠ a) (ok : ObjOk X.prog X.w (upd H a o) s.heap a o) : L2.Inv X pins σ (upd H a o) s := by
  have n00 : ∀ b ob, X.s_0.heap.get? b = some ob → b ≠ a := fun b ob e z => by
    rw [z, n0] at e
    cases e
  refine ⟨I.ok, I.os, I.bare, ⟨I.base.keep, I.base.slot, fun b ob e n hx => ?_, I.base.there, fun b xs e => ?_, fun b ob u e => ?_, fun b ps e => ?_⟩, I.loc, I.cell, ?_, fun x c e => ?_, fun p hp => ?_, fun b u e => ?_, I.len⟩
  · rw [upd_ne (n00 b ob e)]
    exact I.base.free b ob e n hx
  · have q := I.base.tups b xs e
    rw [upd_ne (ne_of_none q na)]
    exact q
  · have q := I.base.frzs b ob u e
    rw [upd_ne (ne_of_none q na)]
    exact q
  · obtain ⟨more, q⟩ := I.base.tbls b ps e
    exact ⟨more, by rw [upd_ne (ne_of_none q na)]; exact q⟩
  · rw [upd_ne (fun z => nl z.symm)]
    exact I.free
  · rw [upd_ne (nc x c e)]
    exact I.freeC x c e
  · obtain ⟨q1, q2, q3⟩ := I.pin p hp
    exact ⟨q1, by rw [upd_ne (np p hp)]; exact q2, q3⟩
  · by_cases hb : b = a
    · subst hb
      rw [upd_same] at e
      cases e
      exact ok
    · rw [upd_ne hb] at e
      exact (I.hok b u e).stay (fun c v _ q => q) (fun c q => by rw [upd_ne (ne_of_none q na)]; exact q) fun c xs q => by rw [upd_ne (ne_of_none q na)]; exact q
theorem inv_toSuite (I : L2.Inv X pins σ H s) (a : Addr) : L2.Inv (X.suite a (X.pn ++ pins)) [] σ H s :=
  ⟨I.ok.suite _ _, I.os, I.bare, I.base, I.loc, I.cell, I.free, I.freeC, fun p hp => I.pin p (List.append_nil (X.pn ++ pins) ▸ hp), I.hok, I.len⟩
theorem inv_ofSuite {a : Addr} {pn' : List (Addr × Obj)} (I : L2.Inv (X.suite a (X.pn ++ pins)) pn' σ H s) (ok : X.Ok) : L2.Inv X pins σ H s :=
  ⟨ok, I.os, I.bare, I.base, I.loc, I.cell, I.free, I.freeC, fun p hp => I.pin p (List.mem_append_left _ hp), I.hok, I.len⟩
end
/-! ### try with clauses, each perhaps with a name -/
structure Hd where
  c : Value
  nm : Option Nat
  ts : Addr → Value → Option Addr → TS
def endsAt (nm : Option Nat) (Dd : Ends) : Ends := match nm with
  | none => Dd
  | some i => { nx := fun σ' H' => Dd.nx (σ'.set i none) H', rt := Dd.rt, bk := fun σ' H' => Dd.bk (σ'.set i none) H', ct := fun σ' H' => Dd.ct (σ'.set i none) H' }
def slotAt (nm : Option Nat) (a : Addr) (σ : L2.St) : L2.St := match nm with
  | none => σ
  | some i => σ.set i (some (.ref a))
/-- what the clauses want of what the body raises -/
def wHds (K : PySem.W.Frag) (Wo : WX) (Dd : Ends) : List Hd → WX
  | [] => Wo
  | q :: r => fun cls d σ H => ∃ b, PySem.W.exmOne K cls q.c = some b ∧ (b = true → ∀ a, H a = none → q.ts a cls d (endsAt q.nm Dd) (slotAt q.nm a σ) (upd H a (ExcV cls d a))) ∧ (b = false → wHds K Wo Dd r cls d σ H)
inductive HdsT (X : Cx) : List ExceptHandler → List Hd → Prop
  | nil : HdsT X [] []
  | plain {x : Str} {c : Value} {ts : Addr → Value → Option Addr → TS} {b0 : Stmt} {bs : List Stmt} {np hp : Pos} {hds : List ExceptHandler} {l : List Hd} (hc : Names X x c)
      (hs : ∀ (a : Addr) (cls : Value) (d : Option Addr) (pn : List (Addr × Obj)), PSs (X.suite a pn) (b0 :: bs) (ts a cls d)) (r : HdsT X hds l) : HdsT X (.ExceptHandler (some (.Name x np)) none (b0 :: bs) hp :: hds) (⟨c, none, ts⟩ :: l)
  | named {x n : Str} {i : Nat} {c : Value} {ts : Addr → Value → Option Addr → TS} {b0 : Stmt} {bs : List Stmt} {np hp : Pos} {hds : List ExceptHandler} {l : List Hd} (hc : Names X x c) (hN : X.N.Nodup) (hi : X.N[i]? = some n) (hn : X.env.kindOf n = some .local)
      (hs : ∀ (a : Addr) (cls : Value) (d : Option Addr) (pn : List (Addr × Obj)), PSs (X.suite a pn) (b0 :: bs) (ts a cls d)) (r : HdsT X hds l) : HdsT X (.ExceptHandler (some (.Name x np)) (some n) (b0 :: bs) hp :: hds) (⟨c, some i, ts⟩ :: l)
section
variable {X : Cx} {body : List Stmt} {h0 : ExceptHandler} {hds : List ExceptHandler} {l : List Hd} {pos : Pos} {tb : WX → TS} {Wo : WX}
theorem ps_try_T (stk : X.stack = X.env :: X.outer) (frm : X.env.frame = some X.env.locals) (nex : X.ex = []) (tk : L2N.Takes X Wo)
    (hb : ∀ (Wn : WX) (pn : List (Addr × Obj)) (xe : Value → Shared → Prop), L2N.Takes (X.tr pn xe) Wn → PassesOwn (model X.prog X.w) X.A X.env xe → PSs (X.tr pn xe) body (tb Wn))
    (hh : HdsT X (h0 :: hds) l) : PS X (.Try body (h0 :: hds) [] [] pos) (fun Dd σ H => tb (wHds X.K Wo Dd l) Dd σ H) := by
  refine ⟨fun pins s σ H Dd I h => ?_⟩
  have ok := I.ok
  have frs0 : X.A.frames = some (X.env :: X.outer) := ok.frames.trans (congrArg some stk)
  refine wpAny_Try_except ?_
  refine wpAny_mono ((hb (wHds X.K Wo Dd l) (X.pn ++ pins) (fun err t1 => wpAny (model X.prog X.w) X.A (noteFrame err X.env) (fun _ t2 => wpAny (model X.prog X.w) X.A (setFlight err none) (fun _ t3 =>
    wpAny (model X.prog X.w) X.A (handleBy err X.env (h0 :: hds)) (SP X pins Dd) X.xe t3) X.xe t2) X.xe t1) (fun u s2 caught => ?_) PassesOwn.looking).run [] s σ H Dd (I.toTry _) h) (fun fl s1 hsp => ?_) (fun _ _ z => z)
  · obtain ⟨a, B, sI, pins1, σ1, H1, cls, d, rfl, J0, nb, up, sky, na, os, ag, want⟩ := caught
    have J : L2.Inv X pins σ1 H1 sI := J0.ofTry ok
    rw [show (X.tr (X.pn ++ pins) _).stack = X.env :: X.outer from stk] at sky
    show wpAny (model X.prog X.w) X.A (noteFrame (.ref a) X.env) _ _ _
    refine L2N.Sky.land L2N.Zn.steady frs0 frm sky fun hp3 fly3 up3 => ?_
    have J3 : L2.Inv X pins σ1 H1 { s2 with heap := hp3 } := J.landed nb fly3.1 (up.trans up3) os ag
    have unfr : ∀ {hp : Heap} {ob : Obj} {vs : Array Value}, hp.FunFrames B (X.env :: X.outer) → hp.get? a = some ob → ob.data = .fields vs → a ∉ frs (X.env :: X.outer) := fun {hp ob vs} ff e dd hm => by
      obtain ⟨_, ob', e1, hnf⟩ := ff.mem hm
      rw [e] at e1
      cases e1
      exact hnf _ dd
    obtain ⟨oe3, vs3, at3, z3, dt3⟩ := fly3.there
    have offStack := unfr fly3.2.2.1 at3 dt3
    have offLocals : a ≠ X.env.locals := fun z => offStack (List.mem_filterMap.mpr ⟨X.env, List.mem_cons_self, by rw [frm, z]⟩)
    have newI : sI.heap.get? a = none := by
      cases e : sI.heap.get? a with
      | none => rfl
      | some ob =>
        have q := nb a ob e (by rw [show (X.tr (X.pn ++ pins) _).stack = X.env :: X.outer from stk]; exact offStack)
        rw [fly3.2.1] at q
        cases q
    have new0 : X.s_0.heap.get? a = none := by
      cases e : X.s_0.heap.get? a with
      | none => rfl
      | some ob =>
        obtain ⟨ob', q⟩ := J.base.there a ob e (by rw [nex]; exact fun z => nomatch z)
        rw [newI] at q
        cases q
    have offPins : ∀ p ∈ X.pn ++ pins, p.1 ≠ a := fun p hp z => by
      have q := (J.pin p hp).1
      rw [z, newI] at q
      cases q
    have offCells : ∀ x c, X.env.cells.lookup x = some c → c ≠ a := fun x c e z => by
      obtain ⟨v, ob, q, _⟩ := J.cell x c e
      rw [z, newI] at q
      cases q
    -- the state of a suite
    have begun : ∀ {hp4 : Heap}, HandSPX.FlyingZ B (X.env :: X.outer) a (L2N.Zn cls d) hp4 → sI.heap.UpToSlots hp4 → L2.Inv X pins σ1 (upd H1 a (ExcV cls d a)) { s2 with heap := hp4 } := fun {hp4} fly4 up4 => by
      have J4 : L2.Inv X pins σ1 H1 { s2 with heap := hp4 } := J.landed nb fly4.1 up4 os ag
      obtain ⟨oe4, vs4, at4, z4, dt4⟩ := fly4.there
      exact inv_track J4 new0 na offLocals offCells offPins (excV_ok at4 z4 dt4)
    -- the class that a clause names
    have named : ∀ {x : Str} {c : Value} {np : Pos} {Q E : Value → Shared → Prop}, Names X x c → Q c { s2 with heap := hp3 } → wpAny (model X.prog X.w) (X.A.mark (some (.ref a))) (eval (.Name x np) X.env) Q E { s2 with heap := hp3 } := fun {x c np Q E} hc q => by
      obtain ⟨hg, hdbg, hm | ⟨hm, hv, hnn⟩⟩ := hc
      · exact ld_glob (X := X.suite a (X.pn ++ pins)) (inv_toSuite J3 a) hg hm q hdbg
      · exact ld_blt (X := X.suite a (X.pn ++ pins)) (inv_toSuite J3 a) hg hm hv q hnn hdbg
    have TY : PySem.W.Looks (model X.prog X.w) hp3 (typeOf (.ref a)) cls := fun A' Q E t kp q => wpAny_typeOf_ref (kp _ _ at3) (by rw [z3.1]; exact q)
    have go : ∀ {hs' : List ExceptHandler} {l' : List Hd}, HdsT X hs' l' → wHds X.K Wo Dd l' cls d σ1 H1 →
        wpAny (model X.prog X.w) X.A (handleBy (.ref a) X.env hs') (SP X pins Dd) X.xe { s2 with heap := hp3 } := by
      intro hs' l' ht
      induction ht with
      | nil =>
        intro want
        refine wpAny_handleBy_nil ?_
        obtain ⟨_, _, _, ob, vs, T, oT, ts', q1, _, q2, q3, _⟩ := id fly3
        unfold PySem.passOn
        refine wpAny_bind (wpAny_field q1 q2 q3 ?_)
        rw [if_neg (show ¬ ((Value.ref T == Value.none) = true) from by simp)]
        have thrown : wpAny (model X.prog X.w) X.A (setFlight (.ref a) X.env.frame) (fun _ t => wpAny (model X.prog X.w) X.A (throw (.ref a) : Sem Flow) (SP X pins Dd) X.xe t) X.xe { s2 with heap := hp3 } := by
          rw [frm]
          refine HandSPX.setFlight_upZ fly3 fun hp4 held up4 => wpAny_throw (tk _ _ ?_)
          exact ⟨a, B, sI, pins, σ1, H1, cls, d, rfl, J, nb, (up.trans up3).trans up4, .inr (.inr (by rw [stk]; exact held)), na, os, ag, want⟩
        first
          | exact wpAny_bind thrown
          | exact wpAny_bind (wpAny_pure (wpAny_bind thrown))
      | @plain x c ts b0 bs np hpos hs2 l2 hc hsu _ ih =>
        rintro ⟨b, hb1, yes, no⟩
        refine wpAny_handleBy_cons (codeAny_handlers_test (named hc ((PySem.W.exm_one (M := model X.prog X.w) J3.kIn TY hb1).here ?_))) (by intro q; cases q)
        cases b with
        | false =>
          show wpAny _ X.A (handleBy (.ref a) X.env hs2) _ _ _
          exact ih (no rfl)
        | true =>
          refine codeAny_handlers_suite (HandSPX.lands_againZ fly3 fun hp4 fly4 up4 => ?_)
          refine wpAny_mono ((hsu a cls d (X.pn ++ pins)).run [] _ _ _ _ (inv_toSuite (begun fly4 ((up.trans up3).trans up4)) a) (yes rfl a na)) (fun fl s6 hsp => ?_) (fun _ _ z => False.elim z)
          cases fl with
          | next =>
            obtain ⟨σ6, H6, S6, q6⟩ := hsp
            exact ⟨_, _, inv_ofSuite S6 ok, q6⟩
          | brk =>
            obtain ⟨σ6, H6, S6, q6⟩ := hsp
            exact ⟨_, _, inv_ofSuite S6 ok, q6⟩
          | cont =>
            obtain ⟨σ6, H6, S6, q6⟩ := hsp
            exact ⟨_, _, inv_ofSuite S6 ok, q6⟩
          | ret u =>
            obtain ⟨v6, σ6, H6, S6, r6, q6⟩ := hsp
            exact ⟨_, _, _, inv_ofSuite S6 ok, r6, q6⟩
      | @named x n i c ts b0 bs np hpos hs2 l2 hc hN hi hln hsu _ ih =>
        rintro ⟨b, hb1, yes, no⟩
        refine wpAny_handleBy_cons (codeAny_handlers_test (named hc ((PySem.W.exm_one (M := model X.prog X.w) J3.kIn TY hb1).here ?_))) (by intro q; cases q)
        cases b with
        | false =>
          show wpAny _ X.A (handleBy (.ref a) X.env hs2) _ _ _
          exact ih (no rfl)
        | true =>
          refine codeAny_handlers_suite_as (HandSPX.lands_againZ fly3 fun hp4 fly4 up4 => ?_)
          refine store_ok (X := X.suite a (X.pn ++ pins)) (v := .ref a) (inv_toSuite (begun fly4 ((up.trans up3).trans up4)) a) hN hi (show Loc X.env.scope n from .inl hln) rfl (fun s5 S5 => ?_) (.inr hln)
          refine wpAny_mono ((hsu a cls d (X.pn ++ pins)).run [] s5 _ _ _ S5 (yes rfl a na)) (fun fl s6 hsp => ?_) (fun _ _ z => False.elim z)
          have behind : ∀ {σ6 : L2.St} {H6 : Hp} {Q : Shared → Prop}, L2.Inv (X.suite a (X.pn ++ pins)) [] σ6 H6 s6 → (∀ s7, L2.Inv X pins (σ6.set i none) H6 s7 → Q s7) →
              wpAny (model X.prog X.w) X.A (do bindName X.env n .none; unbindBehindTheSuite X.env n hpos) (fun _ s7 => Q s7) X.xe s6 := fun {σ6 H6 Q} S6 hq => gone_ok (inv_ofSuite S6 ok) hN hi hln hq
          cases fl with
          | next =>
            obtain ⟨σ6, H6, S6, q6⟩ := hsp
            exact behind S6 fun s7 J7 => ⟨_, _, J7, q6⟩
          | brk =>
            obtain ⟨σ6, H6, S6, q6⟩ := hsp
            exact behind S6 fun s7 J7 => ⟨_, _, J7, q6⟩
          | cont =>
            obtain ⟨σ6, H6, S6, q6⟩ := hsp
            exact behind S6 fun s7 J7 => ⟨_, _, J7, q6⟩
          | ret u =>
            obtain ⟨v6, σ6, H6, S6, r6, q6⟩ := hsp
            exact behind S6 fun s7 J7 => ⟨_, _, _, J7, r6, q6⟩
    exact go hh want
  · cases fl with
    | next =>
      obtain ⟨σ2, H2, J2, q⟩ := hsp
      exact wpAny_execs_nil ⟨σ2, H2, J2.ofTry ok, q⟩
    | brk =>
      obtain ⟨σ2, H2, J2, q⟩ := hsp
      exact ⟨σ2, H2, J2.ofTry ok, q⟩
    | cont =>
      obtain ⟨σ2, H2, J2, q⟩ := hsp
      exact ⟨σ2, H2, J2.ofTry ok, q⟩
    | ret u =>
      obtain ⟨v, σ2, H2, J2, r, q⟩ := hsp
      exact ⟨v, σ2, H2, J2.ofTry ok, r, q⟩
end
end DL

/-! The data layer, part 36: try, isinstance of exceptions, raise. -/
namespace DL
open PySem PySem.Spec PyProof.Rows L2

/-! ### mirrors -/
structure HM where
  c : List (Str × Bool)
  nm : Option Nat
  g : FS
def Out.undo (i : Nat) : Out → Out
  | .nx ρ S => .nx (ρ.set i none) S
  | .bk ρ S => .bk (ρ.set i none) S
  | .ct ρ S => .ct (ρ.set i none) S
  | .ex _ _ _ _ => .stuck
  | o => o
def Out.calm : Out → Out
  | .ex _ _ _ _ => .stuck
  | o => o
def hdM : List HM → Str → List (Str × D) → EnvD → Store → Out
  | [], C, fs, ρ, S => .ex C fs ρ S
  | q :: r, C, fs, ρ, S => match q.c.lookup C with
    | some true => (match q.nm with
      | none => (q.g ρ S).calm
      | some i => (q.g (ρ.set i (some (.exc C fs))) S).undo i)
    | some false => hdM r C fs ρ S
    | none => .stuck
def gTry (gb : FS) (hs : List HM) : FS := fun ρ S => match gb ρ S with
  | .ex C fs ρ' S' => hdM hs C fs ρ' S'
  | o => o
section
variable {X : Cx} {W : WX} {k : Nat} {pos : Pos}
theorem slots_unset {K : PySem.W.Frag} {mg : Str → Option Value} {φ : List Addr} {G : Hp} {ρ : EnvD} {σ : L2.St} (i : Nat) (h : Slots K mg φ G ρ σ) : Slots K mg φ G (ρ.set i none) (σ.set i none) := by
  refine ⟨by rw [List.length_set, List.length_set]; exact h.1, fun j d e => ?_⟩
  by_cases hj : j = i
  · subst hj
    by_cases hl : j < ρ.length
    · rw [List.getElem?_set_self hl] at e
      cases e
    · rw [List.getElem?_eq_none (by rw [List.length_set]; omega)] at e
      cases e
  · rw [List.getElem?_set_ne (fun z => hj z.symm)] at e ⊢
    exact h.2 j d e
/-- clauses and their mirrors -/
inductive HdsD (X : Cx) : List ExceptHandler → List HM → List Hd → Prop
  | nil : HdsD X [] [] []
  | plain {x : Str} {c : Value} {t : List (Str × Bool)} {g : FS} {b0 : Stmt} {bs : List Stmt} {np hp : Pos} {hds : List ExceptHandler} {ms : List HM} {l : List Hd} (hc : Names X x c) (ht : ∀ C b A, t.lookup C = some b → X.mg C = some (.ref A) → PySem.W.exmOne X.K (.ref A) c = some b)
      (hs : ∀ (a : Addr) (pn : List (Addr × Obj)), DSs (X.suite a pn) W0 (b0 :: bs) g) (r : HdsD X hds ms l) : HdsD X (.ExceptHandler (some (.Name x np)) none (b0 :: bs) hp :: hds) (⟨t, none, g⟩ :: ms) (⟨c, none, fun _ _ _ => tDS X W0 g⟩ :: l)
  | named {x n : Str} {i : Nat} {c : Value} {t : List (Str × Bool)} {g : FS} {b0 : Stmt} {bs : List Stmt} {np hp : Pos} {hds : List ExceptHandler} {ms : List HM} {l : List Hd} (hc : Names X x c) (hN : X.N.Nodup) (hi : X.N[i]? = some n) (hn : X.env.kindOf n = some .local)
      (ht : ∀ C b A, t.lookup C = some b → X.mg C = some (.ref A) → PySem.W.exmOne X.K (.ref A) c = some b)
      (hs : ∀ (a : Addr) (pn : List (Addr × Obj)), DSs (X.suite a pn) W0 (b0 :: bs) g) (r : HdsD X hds ms l) : HdsD X (.ExceptHandler (some (.Name x np)) (some n) (b0 :: bs) hp :: hds) (⟨t, some i, g⟩ :: ms) (⟨c, some i, fun _ _ _ => tDS X W0 g⟩ :: l)
theorem HdsD.toT : ∀ {hds : List ExceptHandler} {ms : List HM} {l : List Hd}, HdsD X hds ms l → HdsT X hds l
  | _, _, _, .nil => .nil
  | _, _, _, .plain hc _ hs r => .plain hc (fun a _ _ pn => hs a pn) r.toT
  | _, _, _, .named hc hN hi hn _ hs r => .named hc hN hi hn (fun a _ _ pn => hs a pn) r.toT
theorem HdsD.want {Dd : Ends} {Z φ : List Addr} {S : Store} {H : Hp} {ρ : EnvD} {σ : L2.St} {C : Str} {fs : List (Str × D)} {A : Addr} {dx : Option Addr} (hA : X.mg C = some (.ref A)) (R : Rel X.K X.mg Z φ S H) (sl : Slots X.K X.mg φ (gnd Z φ S H) ρ σ) (xd : ExD X.K X.mg φ (gnd Z φ S H) fs dx) :
    ∀ {hds : List ExceptHandler} {ms : List HM} {l : List Hd}, HdsD X hds ms l → WantS X W Z φ S H (hdM ms C fs ρ S) Dd → wHds X.K W Dd l (.ref A) dx σ H
  | _, _, _, .nil, w => w A dx σ φ H hA R Evo.refl sl xd
  | _, _, _, .plain (c := c) (t := t) (g := g) hc ht hs r, w => by
    unfold hdM at w
    cases e : t.lookup C with
    | none => simp only [e] at w; exact w.elim
    | some b =>
      simp only [e] at w
      refine ⟨b, ht C b A e hA, fun hb a na => ?_, fun hb => ?_⟩
      · subst hb
        obtain ⟨R1, E1, _⟩ := R.fresh (o := ExcV (.ref A) dx a) na
        refine ⟨Z, φ, S, ρ, R1, sl.evo E1, ?_⟩
        have w1 : WantS X W Z φ S (upd H a (ExcV (.ref A) dx a)) (g ρ S).calm Dd := WantS.go E1 w
        revert w1
        cases g ρ S <;> intro w1
        · exact w1
        · exact w1
        · exact w1
        · exact w1
        · exact w1.elim
        · exact w1
      · subst hb
        exact r.want hA R sl xd w
  | _, _, _, .named (c := c) (t := t) (g := g) (i := i) hc hN hi hn ht hs r, w => by
    unfold hdM at w
    cases e : t.lookup C with
    | none => simp only [e] at w; exact w.elim
    | some b =>
      simp only [e] at w
      refine ⟨b, ht C b A e hA, fun hb a na => ?_, fun hb => ?_⟩
      · subst hb
        obtain ⟨R1, E1, at1⟩ := R.fresh (o := ExcV (.ref A) dx a) na
        have da : Dat X.K X.mg φ (gnd Z φ S (upd H a (ExcV (.ref A) dx a))) (.exc C fs) (.ref a) := by
          unfold Dat
          refine ⟨a, A, dx, rfl, hA, at1, xd.imp id fun ⟨z, b, fvs, q0, q1, q2⟩ => ⟨z, b, fvs, q0, E1.ext _ _ q1, DatF.mono (List.prefix_refl _) E1.ext _ _ q2⟩⟩
        refine ⟨Z, φ, S, ρ.set i (some (.exc C fs)), R1, (sl.evo E1).set da, ?_⟩
        have w1 : WantS X W Z φ S (upd H a (ExcV (.ref A) dx a)) ((g (ρ.set i (some (.exc C fs))) S).undo i) Dd := WantS.go E1 w
        revert w1
        cases g (ρ.set i (some (.exc C fs))) S <;> intro w1
        · exact fun σ' φ' H' r1 e1 d => w1 (σ'.set i none) φ' H' r1 e1 (slots_unset i d)
        · exact w1
        · exact fun σ' φ' H' r1 e1 d => w1 (σ'.set i none) φ' H' r1 e1 (slots_unset i d)
        · exact fun σ' φ' H' r1 e1 d => w1 (σ'.set i none) φ' H' r1 e1 (slots_unset i d)
        · exact w1.elim
        · exact w1
      · subst hb
        exact r.want hA R sl xd w
/-- name = value, within a suite -/
theorem ds_setS {e : Expr} {fe : FE} (nd : X.N.Nodup) {i : Nat} {x : Str} {pos' : Pos} (hi : X.N[i]? = some x) (hx : Loc X.env.scope x) (he : DE X W e fe) (hs : swapsWith e (some (.Name x pos')) pos.line X.env = pure false := by rfl)
    (hf : X.fn x = true ∨ X.env.scope.names.lookup x = some .local := by first | exact .inl rfl | exact .inr rfl | assumption) : DS X W (.Assign [.Name x pos'] e pos) (gSet i fe) :=
  ds_setP (fun t p => ps_set nd hi hx p hs hf) he
end

/-! ### isinstance of an exception -/
section
variable {X : Cx} {W : WX} {k : Nat} {e b : Expr} {pos p : Pos}
/-- the second one: an own class, or a built-in one -/
def isArg : D → D → Bool
  | .cls c, .cls c' => decide (c = c')
  | .ty n, .ty m => decide (n = m)
  | _, _ => false
end
end DL

/-! The data layer, part 37: a lambda without parameters handed to a def that calls it once. -/
namespace DL
open PySem PySem.Spec PyProof.Rows L2

/-! ### the lambda is made -/
theorem upd_comm {H : Hp} {a b : Addr} {o u : HO} (h : a ≠ b) : upd (upd H a o) b u = upd (upd H b u) a o := by
  funext c
  unfold upd
  by_cases h1 : c = b
  · rw [if_pos h1, if_pos h1, if_neg (fun z => h (z.symm.trans h1))]
  · rw [if_neg h1, if_neg h1]
section
variable {X : Cx} {W : WX} {pins : List (Addr × Obj)} {σ : L2.St} {H : Hp} {s : Shared} {Z φ : List Addr} {S : Store}
theorem set_self {α : Type} : ∀ {l : List α} {i : Nat} {a : α}, l[i]? = some a → l.set i a = l
  | [], _, _, h => by cases h
  | b :: l, 0, a, h => by cases h; rfl
  | b :: l, i + 1, a, h => by rw [List.set_cons_succ, set_self (l := l) h]
/-- one more row of a table, with the code object that it tells of -/
theorem rel_row (R : Rel X.K X.mg Z φ S H) {p : He.Defn} {q : Str} {j : Nat} {a c : Addr} {ps more : Array Value} (hS : S[j]? = some (.tbl p q)) (hφ : φ[j]? = some a) (hP : H a = some (.tbl ps)) (hc : H c = none) (hT : TriplesOk (ps ++ more).toList)
    (hm : ∀ (pos : Pos) (cv : Value), codeAmong pos (ps ++ more).toList = some cv → codeAmong pos ps.toList = some cv ∨ cv = .ref c) :
    Rel X.K X.mg Z φ S (upd (upd H a (.tbl (ps ++ more))) c (LamX.CodeO c q)) ∧ Evo Z φ S H φ S (upd (upd H a (.tbl (ps ++ more))) c (LamX.CodeO c q)) ∧ gnd Z φ S (upd (upd H a (.tbl (ps ++ more))) c (LamX.CodeO c q)) c = some (LamX.CodeO c q) := by
  obtain ⟨R1, E1, at1⟩ := R.fresh (o := LamX.CodeO c q) hc
  have ne : a ≠ c := ne_of_none hP hc
  obtain ⟨ea, ps', e1, e2, e3⟩ := R.ob j a _ hφ hS
  rw [hP] at e1
  cases e1
  have ok : SOk X.K X.mg φ (gnd Z φ S (upd H c (LamX.CodeO c q))) (upd (upd H c (LamX.CodeO c q)) a (.tbl (ps ++ more))) a (.tbl p q) := by
    refine ⟨ea, _, upd_same, hT, fun pos cv hcv => ?_⟩
    rcases hm pos cv hcv with z | z
    · obtain ⟨c0, q1, q2⟩ := e3 pos cv z
      exact ⟨c0, q1, E1.ext _ _ q2⟩
    · exact ⟨c, z, at1⟩
  obtain ⟨R2, E2⟩ := R1.mutate (u := .tbl p q) (ho := .tbl (ps ++ more)) hφ hS rfl rfl ok
  have eg := gnd_mut (Z := Z) (H := upd H c (LamX.CodeO c q)) (ho := .tbl (ps ++ more)) hφ hS (u := .tbl p q) rfl rfl
  rw [set_self hS, ← upd_comm ne] at R2 E2 eg
  exact ⟨R2, E1.trans E2, by rw [eg]; exact at1⟩
theorem lam_makeD {p : He.Defn} {j : Nat} {params : Arguments} {body : Expr} {scope : Scope} {pos : Pos} {E Q : Value → Shared → Prop} (I : L2.Inv X pins σ H s) (R : Rel X.K X.mg Z φ S H) (hS : S[j]? = some (.tbl p (X.env.qual ++ "<lambda>")))
    (hcode : X.env.code = .ref (He.cT X.K p).1) (TB : LamX.TabB X.base X.mg (He.cT X.K p).1 (He.cT X.K p).2) (hdef : defaultsOf params X.env = ([], [])) (hfree : ∀ y ∈ scope.names, y.2 = .free → ∃ c, X.env.cells.lookup y.1 = some c)
    (h : ∀ (f c : Addr) (pm ctv : Value) (H1 : Hp) (s1 : Shared), L2.Inv X pins σ H1 s1 → Rel X.K X.mg Z φ S H1 → Evo Z φ S H φ S H1 →
      s1.heap.get? f = some (PySem.W.kla_obj "<lambda>" (X.env.qual ++ "<lambda>") params body scope (cloFrom X.env.cells scope.names []) pm c ctv) → H1 f = none → f ∉ frs X.stack → gnd Z φ S H1 c = some (LamX.CodeO c (X.env.qual ++ "<lambda>")) → Q (.ref f) s1) :
    wpAny (model X.prog X.w) X.A (eval (.Lambda params body scope pos) X.env) Q E s := by
  obtain ⟨a, hφ, _⟩ := rel_get R hS
  obtain ⟨ea, ps, hP, ht, codes⟩ := R.ob j a _ hφ hS
  subst ea
  refine PySem.W.kla_eval hdef ?_
  have atP : s.heap.get? (He.cT X.K p).2 = some { cls := .none, data := .fields ps } := I.hok _ _ hP
  have away : ∀ f, s.heap.objs.size ≤ f → f ∉ frs X.stack := fun f hf z => by
    rcases List.mem_cons.mp (I.stkSub _ z) with e | e
    · have q := I.lt
      rw [← e] at q
      exact absurd (Nat.lt_of_lt_of_le q hf) (Nat.lt_irrefl _)
    · exact I.nofs hf e
  cases hc : codeAmong pos ps.toList with
  | some cv =>
    obtain ⟨c, e, hco⟩ := codes pos cv hc
    subst e
    refine PySem.W.kla_makeFunctionHit (ps := ps) (P := (He.cT X.K p).2) (c := (He.cT X.K p).1) (mg := X.mg) (closure_ok hfree) I.ok.glob (I.mod.glob.keeps I.bk) hcode (TB.code.keeps I.bk) atP ht hc (TB.bm.keeps I.bk) fun ctv hp tk grows old => ?_
    have I1 := I.kept (t' := tk) (h' := hp.push (PySem.W.kla_obj "<lambda>" (X.env.qual ++ "<lambda>") params body scope (cloFrom X.env.cells scope.names []) ((X.mg "__name__").getD .none) c ctv)) fun b o e => Heap.get?_push_of_some _ (grows b o e)
    exact h hp.objs.size c ((X.mg "__name__").getD .none) ctv H _ I1 R Evo.refl (Heap.get?_push_size _ rfl) (I.hok.fresh old) (away _ old) hco
  | none =>
    refine PySem.W.kla_makeFunction (ps := ps) (P := (He.cT X.K p).2) (c := (He.cT X.K p).1) (mg := X.mg) (closure_ok hfree) I.ok.glob (I.mod.glob.keeps I.bk) hcode (TB.code.keeps I.bk) atP ht hc TB.gP (TB.bm.keeps I.bk) fun c ctv hp tk grows fresh below record table => ?_
    obtain ⟨c2, oc, vs, t, e2, hoc, hd, hv⟩ := record
    cases e2
    have old : s.heap.objs.size ≤ hp.objs.size := Nat.le_trans fresh (Nat.le_of_lt below)
    have nc : H c = none := I.hok.fresh fresh
    have I1 := LamX.inv_table (t' := tk) (more := #[rawInt pos.line, rawInt pos.col, .ref c]) (h' := hp.push (PySem.W.kla_obj "<lambda>" (X.env.qual ++ "<lambda>") params body scope (cloFrom X.env.cells scope.names []) ((X.mg "__name__").getD .none) c ctv)) I hP
      (fun b o hb e => Heap.get?_push_of_some _ (grows b o hb e)) (Heap.get?_push_of_some _ table) fresh ⟨oc, vs, t, Heap.get?_push_of_some _ hoc, hd, hv⟩
    have el : (ps ++ #[rawInt pos.line, rawInt pos.col, .ref c]).toList = ps.toList ++ [rawInt pos.line, rawInt pos.col, .ref c] := by simp
    obtain ⟨R1, E1, at1⟩ := rel_row (more := #[rawInt pos.line, rawInt pos.col, .ref c]) R hS hφ hP nc (by rw [el]; exact PySem.TriplesOk_snoc _ _ _ _ ht) fun pos' cv hcv => LamX.among_app _ ht (by rw [← el]; exact hcv)
    refine h hp.objs.size c ((X.mg "__name__").getD .none) ctv _ _ I1 R1 E1 (Heap.get?_push_size _ rfl) ?_ (away _ old) at1
    have n1 : hp.objs.size ≠ c := Nat.ne_of_gt below
    have n2 : hp.objs.size ≠ (He.cT X.K p).2 := Nat.ne_of_gt (Nat.lt_of_lt_of_le (Heap.lt_size atP) old)
    rw [upd_ne n1, upd_ne n2]
    exact I.hok.fresh old
end

/-! ### the context of a lambda's body; exceptions in the air have no context -/
theorem inv_xe {X : Cx} {pins : List (Addr × Obj)} {σ : L2.St} {H : Hp} {s : Shared} {xe : Value → Shared → Prop} (J : L2.Inv X pins σ H s) : L2.Inv { X with xe := xe } pins σ H s :=
  ⟨⟨J.ok.mod, J.ok.kind, J.ok.glob, J.ok.blt, J.ok.above, J.ok.inj, J.ok.has, J.ok.cab, J.ok.hd, J.ok.frames, J.ok.stk, J.ok.exf, J.ok.bs, J.ok.bsz, J.ok.noex, J.ok.exfs, J.ok.funs, J.ok.frf⟩, J.os, J.bare, J.base, J.loc, J.cell, J.free, J.freeC, J.pin, J.hok, J.len⟩
def lamCxN (X : Cx) (A : Around) (outer : List Env) (s : Shared) (H : Hp) (E : XK) (scope : Scope) (f c' : Addr) : Cx :=
  { LamX.lamCx X A outer s H E scope f c' with xe := fun e s' => wpAny (model X.prog X.w) (A.deeper (LamX.lamEnv X scope s.heap.objs.size f c')) (leaving (LamX.lamEnv X scope s.heap.objs.size f c') e) (fun _ s'' => L2N.CX X.prog X.w outer H s E e s'') (fun e' s'' => L2N.CX X.prog X.w outer H s E e' s'') s' }

/-! ### the lambda is called -/
section
variable {X : Cx} {pins : List (Addr × Obj)} {σ : L2.St} {H : Hp} {s : Shared}
/-- x(), in the def that was handed the lambda; what is raised is wished for at that def's slots -/
theorem pe_actD {CXg : CXT} {Eg : XK} {Ng : List Str} {qg : Str} {sg : Scope} {g f c : Addr} {cdg pm ctv : Value} {params : Arguments} {body : Expr} {scope : Scope} {k i : Nat} {a : Str} {pn : List (Addr × Obj)} {xe : Value → Shared → Prop} {Wt : WX} {tb : XK → TE} {p1 p2 : Pos}
    (I : L2.Inv X pins σ H s) (L : LamX.LamS X.env.scope scope) (hf : s.heap.get? f = some (PySem.W.kla_obj "<lambda>" (X.env.qual ++ "<lambda>") params body scope (cloFrom X.env.cells scope.names []) pm c ctv)) (hfn : H f = none) (hfr : f ∉ frs X.stack)
    (hbind : bindArgs (PySem.W.kla_fn "<lambda>" (X.env.qual ++ "<lambda>") params body scope (cloFrom X.env.cells scope.names []) pm (.ref c) ctv) ⟨[], []⟩ = pure [])
    (tk : L2N.Takes ((cxOf CXg X.prog X.w X.K X.mg X.base Ng qg sg g cdg X.A X.stack s H Eg).tr pn xe) Wt) (hr : Room (k + 1) (X.A.deeper (envOfC qg sg s.heap.objs.size g cdg)))
    (hbody : ∀ (A : Around) (outer : List Env) (t : Shared) (Ht : Hp) (E : XK), Room k (A.deeper (LamX.lamEnv X scope t.heap.objs.size f c)) → A.guards = X.A.guards → PE (lamCxN X A outer t Ht E scope f c) body (tb E))
    (hN : Ng[i]? = some a) (hv : Vis sg a) (hd : (a == ("__debug__" : Str)) = false := by decide) (hcd : (a == ("__classdict__" : Str)) = false := by decide) :
    PE ((cxOf CXg X.prog X.w X.K X.mg X.base Ng qg sg g cdg X.A X.stack s H Eg).tr pn xe) (.Call (.Name a p1) [] [] p2)
      (fun σ1 H1 Q => σ1[i]? = some (some (.ref f)) ∧ H1 c = some (LamX.CodeO c (X.env.qual ++ "<lambda>")) ∧ tb (fun cls d H2 => Wt cls d σ1 H2) σ H1 Q) := by
  refine ⟨fun pins1 t1 σ1 H1 Q I1 ⟨slot, code, rd⟩ => ?_⟩
  refine wpAny_Call_Name_kw (thn ((pe_var (pos := p1) (i := i) hN hv hd hcd).run pins1 t1 σ1 H1 (fun v H2 => v = .ref f ∧ H2 = H1) I1 ⟨.ref f, slot, rfl, rfl⟩) fun u t2 ⟨v, H2, I2, rel, same⟩ => ?_)
  obtain ⟨e1, e2⟩ := same
  subst e1
  rw [e2] at I2
  obtain rfl : u = Value.ref f := rel
  have thunk : t2.heap.get? f = some (PySem.W.kla_obj "<lambda>" (X.env.qual ++ "<lambda>") params body scope (cloFrom X.env.cells scope.names []) pm c ctv) := I2.base.keep f _ hf hfn hfr (fun z => nomatch (show f ∈ ([] : List Addr) from z))
  refine PySem.W.callWith_F0 ⟨_, _, _, _, thunk⟩ ?_
  have kept : Un (frs X.stack) [] H H1 s.heap t2.heap := I2.base
  obtain ⟨⟨oc, vs, t, q1, q2, q3⟩, _, _⟩ := I2.hok c _ code
  have room := hr
  refine wpAny_call (codeAny_mono (R := CR (L2N.CX X.prog X.w) (envOfC qg sg s.heap.objs.size g cdg :: X.stack) X.prog X.w H1 t2 Q (fun cls d H2 => Wt cls d σ1 H2)) ?_ fun res t3 hq => ?_)
  · refine PySem.W.kla_callFunE room.depth thunk rfl L.co L.gen rfl ⟨c, oc, vs, t, rfl, q1, q2, q3⟩ ?_
    rw [show bindArgs (PySem.W.kla_fn "<lambda>" (X.env.qual ++ "<lambda>") params body scope (cloFrom X.env.cells scope.names []) pm (.ref c) ctv) ⟨([] : List Value) ++ [], []⟩ = pure [] from hbind]
    refine wpAny_pure (wpAny_newFunctionEnv (fun y hy => (L.own y hy).2) (fun y hy => absurd hy (by simp)) (fun hp names sub => ⟨I2.nolimit.fresh _ sub, ?_⟩) L.kind)
    show codeAny _ _ (.expr body (LamX.lamEnv X scope t2.heap.objs.size f c)) _ _
    have grows : ∀ b o, t2.heap.get? b = some o → hp.get? b = some o := fun b o e => sub.extBut b o (Nat.ne_of_lt (Heap.lt_size e)) (Heap.get?_push_of_some _ e)
    have J := inv_xe (xe := fun e s' => wpAny (model X.prog X.w) ((X.A.deeper (envOfC qg sg s.heap.objs.size g cdg)).deeper (LamX.lamEnv X scope t2.heap.objs.size f c)) (leaving (LamX.lamEnv X scope t2.heap.objs.size f c) e) (fun _ s'' => L2N.CX X.prog X.w (envOfC qg sg s.heap.objs.size g cdg :: X.stack) H1 t2 (fun cls d H2 => Wt cls d σ1 H2) e s'') (fun e' s'' => L2N.CX X.prog X.w (envOfC qg sg s.heap.objs.size g cdg :: X.stack) H1 t2 (fun cls d H2 => Wt cls d σ1 H2) e' s'') s') <| LamX.lam_start2 (A := X.A.deeper (envOfC qg sg s.heap.objs.size g cdg)) (outer := envOfC qg sg s.heap.objs.size g cdg :: X.stack) (E := fun cls d H2 => Wt cls d σ1 H2) (f := f) (c' := c) (tk := t2.toks + ([] : List (Str × Value)).length) I L I2.env0 room.hd kept names grows
    refine PySem.W.kla_codeExpr (wpAny_mono ((hbody _ _ t2 H1 _ (room.deeper _) rfl).run [] _ _ H1 Q J rd) (fun v t3 hq => ?_) fun _ _ z => z)
    obtain ⟨w', H3, J3, rv, q⟩ := hq
    exact ⟨w', H3, J3.os, J3.bare, J3.base, J3.hok, rv, q⟩
  · cases res with
    | error e => exact tk e t3 (L2N.XE.of_call I2 (fun _ _ _ z => z) hq)
    | ok fl =>
      cases fl with
      | ret u => exact I2.after hq
      | next => exact hq.elim
      | brk => exact hq.elim
      | cont => exact hq.elim
end

/-! ### the def that calls it -/
/-- the def's statements, th what the lambda answers -/
def TsD (Y : Cx) (W : WX) (f c : Addr) (q : Str) (tl : XK → Hp → VK → Prop) (sts : List Stmt) (m : (Store → Res D) → FS) : Prop :=
  ∃ t : TS, PSs Y sts t ∧ ∀ (th : Store → Res D) (Z φ : List Addr) (S : Store) (ρ : EnvD) (σ : L2.St) (H : Hp) (Dd : Ends), Rel Y.K Y.mg Z φ S H → Slots Y.K Y.mg φ (gnd Z φ S H) ρ σ → σ[0]? = some (some (.ref f)) → H c = some (LamX.CodeO c q) →
    (∀ (Q : VK) (E : XK), Want Y.K Y.mg (RDat Y.K Y.mg) Z φ S H (th S) Q E → tl E H Q) → WantS Y W Z φ S H (m th ρ S) Dd → t Dd σ H
/-- the lambda's call in the def -/
def Act (Y : Cx) (f c : Addr) (q : Str) (tl : XK → Hp → VK → Prop) (a : Str) : Prop := ∀ (Wt : WX) (pn : List (Addr × Obj)) (xe : Value → Shared → Prop) (p1 p2 : Pos), L2N.Takes (Y.tr pn xe) Wt →
  PE (Y.tr pn xe) (.Call (.Name a p1) [] [] p2) (fun σ1 H1 Q => σ1[0]? = some (some (.ref f)) ∧ H1 c = some (LamX.CodeO c q) ∧ tl (fun cls d H2 => Wt cls d σ1 H2) H1 Q)
section
variable {Y : Cx} {W : WX} {k : Nat} {f c : Addr} {q : Str} {tl : XK → Hp → VK → Prop} {a : Str} {sts : List Stmt} {m : (Store → Res D) → FS} {pos : Pos}
/-- name = constant -/
theorem ts_const (C : Cn Y W k) {i : Nat} {x : Str} {e : Expr} {v : V} {d : D} {pos' : Pos} (hi0 : (i == 0) = false) (hi : Y.N[i]? = some x) (hx : Loc Y.env.scope x) (he : PE Y e (L2.tC v)) (hd : ∀ φ G, Dat Y.K Y.mg φ G d v) (r : TsD Y W f c q tl sts m)
    (hs : swapsWith e (some (.Name x pos')) pos.line Y.env = pure false := by rfl) (hf : Y.fn x = true ∨ Y.env.scope.names.lookup x = some .local := by first | exact .inl rfl | exact .inr rfl | assumption) :
    TsD Y W f c q tl (.Assign [.Name x pos'] e pos :: sts) (fun th => gSeq (gSet i (fC d)) (m th)) := by
  obtain ⟨t, pt, qt⟩ := r
  refine ⟨_, pss_cons (ps_set C.nd hi hx he hs hf) pt, fun th Z φ S ρ σ H Dd R sl h0 hc hth w => ?_⟩
  refine qt th Z φ S (ρ.set i (some d)) (σ.set i (some v)) H Dd R (sl.set (hd _ _)) ?_ hc hth w
  rw [List.getElem?_set_ne (fun z => by rw [z] at hi0; cases hi0)]
  exact h0
/-- the try; what follows it -/
theorem ts_try (C : Cn Y W k) (stk : Y.stack = Y.env :: Y.outer) (frm : Y.env.frame = some Y.env.locals) (nex : Y.ex = []) {body : List Stmt} {h0 : ExceptHandler} {hds : List ExceptHandler} {gb : (Store → Res D) → FS} {ms : List HM} {l : List Hd} {g : FS} {tb : WX → TS}
    (hb : ∀ (Wn : WX) (pn : List (Addr × Obj)) (xe : Value → Shared → Prop), L2N.Takes (Y.tr pn xe) Wn → PSs (Y.tr pn xe) body (tb Wn))
    (hi : ∀ (Wn : WX) (th : Store → Res D) (Z φ : List Addr) (S : Store) (ρ : EnvD) (σ : L2.St) (H : Hp) (Dd : Ends), Rel Y.K Y.mg Z φ S H → Slots Y.K Y.mg φ (gnd Z φ S H) ρ σ → σ[0]? = some (some (.ref f)) → H c = some (LamX.CodeO c q) →
      (∀ (Q : VK) (E : XK), Want Y.K Y.mg (RDat Y.K Y.mg) Z φ S H (th S) Q E → tl E H Q) → WantS Y Wn Z φ S H (gb th ρ S) Dd → tb Wn Dd σ H)
    (hh : HdsD Y (h0 :: hds) ms l) (r : DSs Y W sts g) : TsD Y W f c q tl (.Try body (h0 :: hds) [] [] pos :: sts) (fun th => gSeq (gTry (gb th) ms) g) := by
  refine ⟨_, pss_cons (ps_try_T stk frm nex C.tk (fun Wn pn xe tk _ => hb Wn pn xe tk) hh.toT) r, fun th Z φ S ρ σ H Dd R sl hs hc hth w => ?_⟩
  have w0 : WantS Y W Z φ S H (gTry (gb th) ms ρ S) { Dd with nx := tDS Y W g Dd } := by
    have w1 : WantS Y W Z φ S H ((gTry (gb th) ms ρ S).seq g) Dd := w
    cases e : gTry (gb th) ms ρ S with
    | nx ρ1 S1 =>
      rw [e] at w1
      exact fun σ1 φ1 H1 R1 E1 sl1 => ⟨Z, φ1, S1, ρ1, R1, sl1, WantS.go E1 w1⟩
    | rt d S1 => rw [e] at w1; exact w1
    | bk ρ1 S1 => rw [e] at w1; exact w1
    | ct ρ1 S1 => rw [e] at w1; exact w1
    | ex C fs ρ1 S1 => rw [e] at w1; exact w1
    | stuck => rw [e] at w1; exact w1
  refine hi _ th Z φ S ρ σ H _ R sl hs hc hth ?_
  unfold gTry at w0
  cases e : gb th ρ S with
  | ex C fs ρ1 S1 =>
    rw [e] at w0
    exact fun A dx σ1 φ1 H1 m R1 E1 sl1 xd => hh.want m R1 sl1 xd (WantS.go E1 w0)
  | nx ρ1 S1 => rw [e] at w0; exact w0
  | rt d S1 => rw [e] at w0; exact w0
  | bk ρ1 S1 => rw [e] at w0; exact w0
  | ct ρ1 S1 => rw [e] at w0; exact w0
  | stuck => rw [e] at w0; exact w0
/-- name = a() -/
def gActSet (i : Nat) (th : Store → Res D) : FS := fun ρ S => (th S).into ρ fun d S => .nx (ρ.set i (some d)) S
theorem ts_trySet (act : Act Y f c q tl a) (C : Cn Y W k) (stk : Y.stack = Y.env :: Y.outer) (frm : Y.env.frame = some Y.env.locals) (nex : Y.ex = []) {i : Nat} {x : Str} {p1 p2 pa pb : Pos} {h0 : ExceptHandler} {hds : List ExceptHandler} {ms : List HM} {l : List Hd} {g : FS}
    (hi : Y.N[i]? = some x) (hx : Loc Y.env.scope x) (hh : HdsD Y (h0 :: hds) ms l) (r : DSs Y W sts g) (hs : swapsWith (.Call (.Name a p1) [] [] p2) (some (.Name x pa)) pb.line Y.env = pure false := by rfl)
    (hf : Y.fn x = true ∨ Y.env.scope.names.lookup x = some .local := by first | exact .inl rfl | exact .inr rfl | assumption) :
    TsD Y W f c q tl (.Try [.Assign [.Name x pa] (.Call (.Name a p1) [] [] p2) pb] (h0 :: hds) [] [] pos :: sts) (fun th => gSeq (gTry (gActSet i th) ms) g) :=
  ts_try C stk frm nex (fun Wn pn xe tk => pss_one (ps_set (X := Y.tr pn xe) C.nd hi hx (act Wn pn xe p1 p2 tk) hs hf))
    (fun Wn th Z φ S ρ σ H Dd R sl h0 hc hth w => ⟨h0, hc, hth _ _ (WantS.into (W := Wn) sl w fun d S1 v φ1 H1 R1 E1 dd w1 => w1 _ φ1 H1 R1 Evo.refl ((sl.evo E1).set dd))⟩) hh r
end

/-! ### its promise -/
structure FnT (P : Program) (w : World) (K : PySem.W.Frag) (mg : Str → Option Value) (base : Heap) (k : Nat) (x : Str) (sg : Scope) (g : Addr) (fd : FuncData) (a : Str) (Ng : List Str) (m : (Store → Res D) → FS) : Prop where
  slot : Ng[0]? = some a
  vis : Vis sg a
  run : ∀ (A : Around) (outer : List Env) (s : Shared) (H : Hp) (f c : Addr) (q : Str) (tl : XK → Hp → VK → Prop) (Q : VK) (E : XK) (th : Store → Res D) (Z φ : List Addr) (S : Store), Room (k + 1) A → A.guards = some [] → Env0 P w K mg base A outer s H →
    (∀ cdv : Value, Room k (A.deeper (envOfC x sg s.heap.objs.size g cdv)) → Act (cxOf (L2N.CX P w) P w K mg base Ng x sg g cdv A outer s H E) f c q tl a) → H c = some (LamX.CodeO c q) → Rel K mg Z φ S H →
    (∀ (Q : VK) (E : XK), Want K mg (RDat K mg) Z φ S H (th S) Q E → tl E H Q) → Want K mg (RDat K mg) Z φ S H (m th (List.replicate Ng.length none) S).res Q E →
    codeAny (model P w) A (.call (.ref g) ⟨[.ref f], []⟩) (CR (L2N.CX P w) outer P w H s Q E) s
theorem slots_none {K : PySem.W.Frag} {mg : Str → Option Value} {φ : List Addr} {G : Hp} {σ : L2.St} : Slots K mg φ G (List.replicate σ.length none) σ :=
  ⟨List.length_replicate, fun i d e => by
    have h := (List.getElem?_eq_some_iff.mp e)
    obtain ⟨h1, h2⟩ := h
    rw [List.getElem_replicate] at h2
    cases h2⟩
theorem fnT {P : Program} {w : World} {K : PySem.W.Frag} {mg : Str → Option Value} {base : Heap} {x : Str} {params : Arguments} {body : List Stmt} {scope : Scope} {kws : List (Str × V)} {g : Addr} {fd : FuncData} {Ng : List Str} {a : Str} {k : Nat} {m : (Store → Res D) → FS}
    (F : FunD K x x params body scope [] kws g fd) (Sc : FnScope Ng [a] scope) (hslot : Ng[0]? = some a) (hvis : Vis scope a) (hbd : ∀ (s : Shared) (u : Value), BindsTo s fd ⟨[u], []⟩ [(a, u)])
    (hb : ∀ (cdv : Value) (A : Around) (outer : List Env) (s : Shared) (H : Hp) (E : XK) (f c : Addr) (q : Str) (tl : XK → Hp → VK → Prop), Cn (cxOf (L2N.CX P w) P w K mg base Ng x scope g cdv A outer s H E) (fun c d _ H' => E c d H') k →
      Act (cxOf (L2N.CX P w) P w K mg base Ng x scope g cdv A outer s H E) f c q tl a → TsD (cxOf (L2N.CX P w) P w K mg base Ng x scope g cdv A outer s H E) (fun c d _ H' => E c d H') f c q tl body m) : FnT P w K mg base k x scope g fd a Ng m := by
  obtain ⟨oc, od, dV, kV, doc, pm, an, cdv, ct, osl, rfl, lk, hcd, _, _⟩ := F.ex
  refine ⟨hslot, hvis, fun A outer s H f c q tl Q E th Z φ S hr hgd e0 act hc R hth want => ?_⟩
  refine LamX.run_ofS (N := Ng) (ps := [a]) (us := [.ref f]) (vs := [.ref f]) lk hcd Sc hr e0 (hbd s (.ref f)) (.cons rfl .nil) rfl fun hr' => ?_
  obtain ⟨t, pt, qt⟩ := hb cdv A outer s H E f c q tl ⟨hr', hgd, rfl, Sc.nd, passes_of rfl, L2N.takes_of rfl rfl rfl rfl⟩ (act cdv hr')
  refine ⟨t, pt, ?_⟩
  have len : (L2.start Ng [V.ref f]).length = Ng.length := by
    unfold L2.start
    have h1 : 0 < Ng.length := (List.getElem?_eq_some_iff.mp hslot).1
    simp [List.length_append, List.length_replicate]
    omega
  have sl : Slots K mg φ (gnd Z φ S H) (List.replicate Ng.length none) (L2.start Ng [V.ref f]) := by
    rw [← len]
    exact slots_none
  refine qt th Z φ S (List.replicate Ng.length none) (L2.start Ng [.ref f]) H _ R sl (by unfold L2.start; rfl) hc hth ?_
  cases e : m th (List.replicate Ng.length none) S with
  | nx ρ S1 =>
    rw [e] at want
    exact fun σ φ1 H1 R1 E1 _ => want .non φ1 H1 R1 E1 (by unfold RDat Dat; rfl)
  | rt d S1 =>
    rw [e] at want
    exact want
  | ex C fs ρ S1 =>
    rw [e] at want
    exact fun A1 dx σ φ1 H1 m1 R1 E1 _ xd => want A1 dx φ1 H1 m1 R1 E1 xd
  | bk ρ S1 => rw [e] at want; exact want.elim
  | ct ρ S1 => rw [e] at want; exact want.elim
  | stuck => rw [e] at want; exact want.elim
/-- fnG, the def's own code object told -/
theorem fnGx {P : Program} {w : World} {K : PySem.W.Frag} {mg : Str → Option Value} {base : Heap} {x qual : Str} {params : Arguments} {body : List Stmt} {scope : Scope} {dvs : List V} {kws : List (Str × V)} {f : Addr} {fd : FuncData} {N ps : List Str} {k : Nat} {g : FS}
    (F : FunD K x qual params body scope dvs kws f fd) (S : FnScope N ps scope)
    (hb : ∀ (cdv : Value) (A : Around) (outer : List Env) (s : Shared) (H : Hp) (E : XK), (∃ oc od dV kV doc pm an ct osl, K.lookup f = some ⟨oc, od, .func (PySem.W.fnOf x qual params body scope dV kV doc pm an cdv ct), osl⟩ ∧ PySem.W.codeIn K cdv qual = true) → Cn (cxOf (L2N.CX P w) P w K mg base N qual scope f cdv A outer s H E) (fun c d _ H' => E c d H') k →
      DSs (cxOf (L2N.CX P w) P w K mg base N qual scope f cdv A outer s H E) (fun c d _ H' => E c d H') body g) : FnG P w K mg base (k + 1) f fd ps (spD K mg ps.length (semOf N.length g)) := by
  obtain ⟨oc, od, dV, kV, doc, pm, an, cdv, ct, osl, rfl, lk, hcd, _, _⟩ := F.ex
  refine ⟨fun vs H Q E h => h.1, fun A outer s H args us vs Q E hr hgd e0 hbd r hsp => ?_⟩
  have hl : us.length = ps.length := r.length.symm.trans hsp.1
  have keep : ∀ b o, base.get? b = some o → s.heap.get? b = some o := fun b o e => (e0.bs b o e).1
  have inK : K.In s.heap := e0.mod.kin.keeps keep
  have par : ∀ y ∈ ps.zip us, scope.names.lookup y.1 = some .local ∨
      (scope.names.lookup y.1 = some .cell ∧ ((cellsFrom (s.heap.objs.size + 1) scope.names []).lookup y.1).isSome = true) := by
    rintro ⟨n, v⟩ hy
    exact (S.par n (List.of_mem_zip hy).1).imp id fun q => ⟨q, PySem.W.cellsFrom_some _ _ _ (.inl q)⟩
  refine codeAny_call_function hr.depth (inK _ _ lk) rfl S.co S.gen rfl
    (PySem.W.codeRec_of inK hcd) (hbd _ _ _ _ ?_)
  refine wpAny_newFunctionEnv_cells S.kind par fun env he s1 entered => ?_
  subst he
  refine ⟨(e0.mod.nolimit.keeps keep).keeps entered.toInCall.keep, codeAny_func ?_⟩
  -- the body's own context
  have body' := hb cdv A outer s H E ⟨oc, od, dV, kV, doc, pm, an, ct, osl, lk, hcd⟩ ⟨hr.deeper _, hgd, rfl, S.nd, passes_of rfl, L2N.takes_of rfl rfl rfl rfl⟩
  obtain ⟨hlen, Z, φ, S0, ds, R, dl, w0⟩ := hsp
  have I0 := inv_start (CX := L2N.CX P w) (mg := mg) (base := base) (cd := cdv) (qual := qual) (f := f) (E := E) S hr.hd e0 hlen r entered
  have q0 : tDS (cxOf (L2N.CX P w) P w K mg base N qual scope f cdv A outer s H E) (fun c d _ H' => E c d H') g { nx := fun _ H' => Q .non H', rt := Q } (L2.start N vs) H := by
    refine ⟨Z, φ, S0, startD N.length ds, R, slots_start dl, ?_⟩
    unfold semOf at w0
    cases hg : g (startD N.length ds) S0 with
    | nx ρ S1 =>
      rw [hg] at w0
      exact fun σ φ1 H1 R1 E1 _ => w0 .non φ1 H1 R1 E1 (by unfold RDat Dat; rfl)
    | rt d S1 =>
      rw [hg] at w0
      exact w0
    | ex C fs ρ S1 =>
      rw [hg] at w0
      exact fun A1 dx σ φ1 H1 m R1 E1 _ x => w0 A1 dx φ1 H1 m R1 E1 x
    | _ =>
      rw [hg] at w0
      exact w0.elim
  refine wpAny_mono (PSs.run body' [] s1 (L2.start N vs) H _ I0 q0) (fun fl s' hs => ?_) fun _ _ z => z
  have fin : ∀ {σ' : L2.St} {H' : Hp} {v : V} {u : Value}, Inv (cxOf (L2N.CX P w) P w K mg base N qual scope f cdv A outer s H E) [] σ' H' s' → RelV v u →
      Q v H' → CE outer P w H s Q u s' := fun J rv q => ⟨_, _, J.os, J.bare, J.base, J.hok, rv, q⟩
  cases fl with
  | ret u =>
    obtain ⟨v, σ', H', J, rv, q⟩ := hs
    exact fin J rv q
  | next =>
    obtain ⟨σ', H', J, q⟩ := hs
    exact fin (v := .non) J rfl q
  | brk => exact hs.choose_spec.choose_spec.2.elim
  | cont => exact hs.choose_spec.choose_spec.2.elim
/-- a def whose body makes lambdas: its code object is known -/
theorem fnGc {P : Program} {w : World} {K : PySem.W.Frag} {mg : Str → Option Value} {base : Heap} {x qual : Str} {params : Arguments} {body : List Stmt} {scope : Scope} {dvs : List V} {kws : List (Str × V)} {at_ : He.Defn} {fd : FuncData} {N ps : List Str} {k : Nat} {g : FS}
    (F : FunD K x qual params body scope dvs kws (He.fAd K at_) fd) (Sc : FnScope N ps scope)
    (hb : ∀ (cdv : Value) (A : Around) (outer : List Env) (s : Shared) (H : Hp) (E : XK), cdv = .ref (He.cT K at_).1 → Cn (cxOf (L2N.CX P w) P w K mg base N qual scope (He.fAd K at_) cdv A outer s H E) (fun c d _ H' => E c d H') k →
      DSs (cxOf (L2N.CX P w) P w K mg base N qual scope (He.fAd K at_) cdv A outer s H E) (fun c d _ H' => E c d H') body g) : FnG P w K mg base (k + 1) (He.fAd K at_) fd ps (spD K mg ps.length (semOf N.length g)) := by
  refine fnGx F Sc fun cdv A outer s H E hl C => hb cdv A outer s H E ?_ C
  obtain ⟨oc, od, dV, kV, doc, pm, an, ct, osl, lk, hcd⟩ := hl
  obtain ⟨c0, ec⟩ := He.codeIn_ref hcd
  rw [ec]
  exact congrArg Value.ref (He.codeOf_eq lk ec).symm

/-! ### the caller -/
def isTab (p : He.Defn) (q : Str) : SO → Bool
  | .tbl p' q' => decide (p' = p) && decide (q' = q)
  | _ => false
theorem tab_at {p : He.Defn} {q : Str} : ∀ {S : Store}, S.any (isTab p q) = true → ∃ j : Nat, S[j]? = some (SO.tbl p q)
  | [], h => by cases h
  | o :: S, h => by
    rw [List.any_cons, Bool.or_eq_true] at h
    rcases h with h | h
    · cases o with
      | tbl p' q' =>
        unfold isTab at h
        rw [Bool.and_eq_true, decide_eq_true_eq, decide_eq_true_eq] at h
        exact ⟨0, by rw [h.1, h.2]; rfl⟩
      | _ => cases h
    · obtain ⟨j, e⟩ := tab_at h
      exact ⟨j + 1, e⟩
/-- x(lambda: body) -/
def fTold (p : He.Defn) (q : Str) (n : Nat) (m : (Store → Res D) → FS) (fb : FE) : FE := fun ρ S => if S.any (isTab p q) = true then (m (fun S => fb ρ S) (List.replicate n none) S).res else .stuck
section
variable {X : Cx} {W : WX} {k k' : Nat}
theorem de_told {x a : Str} {g : Addr} {fd : FuncData} {sg : Scope} {Ng : List Str} {m : (Store → Res D) → FS} {at_ : He.Defn} {q : Str} {params : Arguments} {body : Expr} {scope : Scope} {fb : FE} {p lpos pos : Pos} (F : FnT X.prog X.w X.K X.mg X.base k x sg g fd a Ng m) (C : Cn X W k') (hg : Gl X x) (hm : X.mg x = some (.ref g))
    (hkp : PySem.W.keepIn X.K (.ref g) = true) (hq : X.env.qual ++ "<lambda>" = q) (hcode : X.env.code = .ref (He.cT X.K at_).1) (TB : LamX.TabB X.base X.mg (He.cT X.K at_).1 (He.cT X.K at_).2) (L : LamX.LamS X.env.scope scope) (hdef : defaultsOf params X.env = ([], []))
    (hbind : ∀ (q : Str) (cl : List (Str × Addr)) (pm cv ctv : Value), bindArgs (PySem.W.kla_fn "<lambda>" q params body scope cl pm cv ctv) ⟨[], []⟩ = pure []) {j : Nat} (hj : k = j + 1) (hle : k + 1 ≤ k')
    (hbody : ∀ (A : Around) (outer : List Env) (t : Shared) (H : Hp) (E : XK) (f c : Addr), Cn (lamCxN X A outer t H E scope f c) (fun c d _ H' => E c d H') j → DE (lamCxN X A outer t H E scope f c) (fun c d _ H' => E c d H') body fb)
    (hdb : (x == ("__debug__" : Str)) = false := by decide) (hd : (a == ("__debug__" : Str)) = false := by decide) (hcd : (a == ("__classdict__" : Str)) = false := by decide) :
    DE X W (.Call (.Name x p) [.Lambda params body scope lpos] [] pos) (fTold at_ q Ng.length m fb) := by
  refine ⟨fun pins s σ H Q I ⟨Z, φ, S, ρ, R, sl, w⟩ => ?_⟩
  unfold fTold at w
  obtain ⟨ht, w1⟩ := want_if w
  obtain ⟨j', hS⟩ := tab_at ht
  subst hq
  refine wpAny_Call_Name_kw (ld_glob I hg hm ?_ hdb)
  refine PySem.W.callWith_K (h₀ := X.base) I.ok.mod.kin hkp ?_ (by rfl) (by rfl)
  show wpAny _ _ (spliced ((false, eval (.Lambda params body scope lpos) X.env) :: backTo pos (starEach [] X.env))) _ _ s
  refine Calls.spliced_cons (lam_makeD I R hS hcode TB hdef (L.has I.ok) fun f c pm ctv H1 s1 I1 R1 E1 hf hfn hfr hc => ?_)
  refine Calls.spliced_nil ⟨I1.kIn, ?_⟩
  have sl1 := sl.evo E1
  have room : Room (k + 1) X.A := C.room.mono hle
  refine wpAny_call (codeAny_mono (F.run X.A X.stack s1 H1 f c _ (fun E H' Q' => tD X.K X.mg (fun cls d _ H2 => E cls d H2) fb σ H' Q') Q (WE W σ) (fun S => fb ρ S) Z φ S room C.gd I1.env0 (fun cdv hr Wt pn xe p1 p2 tk => ?_) (gnd_sub _ _ hc) R1
    (fun Q' E' w' => ⟨Z, φ, S, ρ, R1, sl1, w'⟩) (w1.go E1)) fun res s2 hq2 => ?_)
  · subst hj
    exact pe_actD (tb := fun E => tD X.K X.mg (fun cls d _ H2 => E cls d H2) fb) (Ng := Ng) (sg := sg) (i := 0) (k := j) I1 L hf hfn hfr (hbind _ _ _ _ _) tk hr (fun A outer t Ht E hr2 hgd => hbody A outer t Ht E f c ⟨hr2, hgd.trans C.gd, rfl, C.nd, passes_of rfl, L2N.takes_of rfl rfl rfl rfl⟩) F.slot F.vis hd hcd
  · cases res with
    | error e => exact L2N.passAt C.tk σ pins H1 s1 e s2 I1 hq2
    | ok fl =>
      cases fl with
      | ret u => exact I1.after hq2
      | next => exact hq2.elim
      | brk => exact hq2.elim
      | cont => exact hq2.elim
end
end DL

/-! The data layer, part 38: the law's end where defs make lambdas. -/
namespace DL
open PySem PySem.Spec PyProof.Rows L2

def tabS (tq : List (He.Defn × Str)) : Store := tq.map fun p => .tbl p.1 p.2
theorem tabA_mem {K : PySem.W.Frag} {tq : List (He.Defn × Str)} {b : Addr} (h : b ∈ tabA K tq) : ∃ p ∈ tq, (He.cT K p.1).2 = b := List.mem_map.mp h
theorem rel_tabs {K : PySem.W.Frag} {mg : Str → Option Value} {H : Hp} {tq : List (He.Defn × Str)} (nd : (tabA K tq).Nodup) (hH : ∀ b ∈ tabA K tq, H b = some (.tbl #[])) : Rel K mg [] (tabA K tq) (tabS tq) H := by
  refine ⟨by simp [tabA, tabS], nd, (fun _ _ z => (nomatch z)), (fun _ z => (nomatch z)), fun b hb => ?_, fun n b o h1 h2 => ?_⟩
  · rw [hH b hb]
    exact fun z => nomatch z
  · have hb := List.mem_of_getElem? h1
    unfold tabA at h1
    unfold tabS at h2
    rw [List.getElem?_map] at h1 h2
    cases e : tq[n]? with
    | none => rw [e] at h1; cases h1
    | some p =>
      rw [e] at h1 h2
      cases h1
      cases h2
      exact ⟨rfl, #[], hH _ hb, trivial, fun pos cv z => by simp [codeAmong] at z⟩
theorem live_tabs {K : PySem.W.Frag} : ∀ tq : List (He.Defn × Str), liveA (tabA K tq) (tabS tq) = tabA K tq
  | [] => rfl
  | p :: r => by
    show liveA ((He.cT K p.1).2 :: tabA K r) (.tbl p.1 p.2 :: tabS r) = _
    unfold liveA
    rw [if_pos (show (SO.tbl p.1 p.2).live = true from rfl), live_tabs r]
    rfl
/-- the law's call, from its mirror; tq: the defs that make lambdas, and what these are called -/
theorem law_runsT {P : Program} {w : World} {K : PySem.W.Frag} {mg mb : Str → Option Value} {k : Nat} {fa a : Addr} {fd : FuncData} {x : Str} {sem : Sem'} {s1 : Shared} {vs : List Value} {ns : List Int} {tq : List (He.Defn × Str)}
    (kin : K.In s1.heap) (hns : s1.heap.Ns mainGlobals mg) (hb : s1.heap.Ns builtinsNs mb) (hbb : ∀ x : Str, x ≠ "__name__" → mb x = bootBuiltins x) (hlim : s1.heap.NoLimit) (gens : s1.gens = #[])
    (tabs : ∀ p ∈ tq, s1.heap.get? (He.cT K p.1).2 = some { cls := .none, data := .fields #[] }) (out : ∀ p ∈ tq, K.lookup (He.cT K p.1).2 = none) (heads : ∀ p ∈ tq, PySem.W.CodeHd s1.heap (He.cT K p.1).1 (He.cT K p.1).2) (nd : (tabA K tq).Nodup)
    (hbm : ∃ (bm : Addr) (ob : Obj), mg "__builtins__" = some (.ref bm) ∧ bm ≠ builtinsNs ∧ s1.heap.get? bm = some ob ∧ ob.cls = .type "module" ∧ ob.dict = some builtinsNs ∧ ob.data = .plain)
    (ha : s1.heap.get? a = some { cls := .type "list", data := .seq vs.toArray }) (hi : IntsAre vs ns) (hl : ns.length ≤ sizeLine) (room : Room k callerA)
    (F : ∀ base : Heap, K.In base → base.Ns mainGlobals mg → (∀ p ∈ tq, LamX.TabB base mg (He.cT K p.1).1 (He.cT K p.1).2) → FnG P w K mg base k fa fd [x] (spD K mg 1 sem)) (hbind : ∀ (s : Shared) (u : Value), BindsTo s fd ⟨[u], []⟩ [(x, u)])
    (good : ∃ S, sem [.scr (ns.map D.int)] (tabS tq) = .ok (.bl true) S) :
    codeAny (model P w) callerA (.call (.ref fa) ⟨[.ref a], []⟩) (fun r s' => r = .ok (.ret (.bool true)) ∧ OldK s1.heap s'.heap ∧ s'.os = s1.os ∧ AllBare s'.gens) s1 := by
  have rv := vals_ints hi
  have empty : ∀ b ∈ tabA K tq, s1.heap.get? b = some { cls := .none, data := .fields #[] } := fun b hb => by
    obtain ⟨p, hp, e⟩ := tabA_mem hb
    rw [← e]
    exact tabs p hp
  have notTab : a ∉ tabA K tq := fun z => by
    have q := empty a z
    rw [ha] at q
    exact nomatch (show Data.seq vs.toArray _ = Data.fields #[] from congrArg Obj.data (Option.some.inj q))
  have inTab : ∀ p ∈ tq, (He.cT K p.1).2 ∈ tabA K tq := fun p hp => List.mem_map.mpr ⟨p, hp, rfl⟩
  have spq : ∀ H : Hp, (∀ b ∈ tabA K tq, H b = some (.tbl #[])) → SqL K H a (ns.map V.int) → spD K mg 1 sem [.ref a] H (fun v _ => v = .bl true) fun _ _ _ => False := fun H hT hq => by
    refine ⟨rfl, [], tabA K tq, tabS tq, [.scr (ns.map D.int)], rel_tabs nd hT, .cons ?_ DatL.nil, ?_⟩
    · unfold Dat
      refine ⟨a, _, rfl, ?_, dat_ints ns⟩
      have keep : ∀ o, H a = some o → gnd [] (tabA K tq) (tabS tq) H a = some o := fun o e => without_some.mpr ⟨by rw [live_tabs, List.nil_append]; exact notTab, e⟩
      exact hq.imp (fun r => r.imp (keep _) fun ⟨ob, q⟩ => ⟨ob, keep _ q⟩) id
    · obtain ⟨S, e⟩ := good
      rw [e]
      intro v φ' H' _ _ d
      unfold RDat Dat at d
      exact d
  -- what may be tracked: the script, the tables
  have main : ∀ H : Hp, (∀ b ∈ tabA K tq, H b = some (.tbl #[])) → (∀ b, H b = none ∨ b ∈ tabA K tq ∨ ∃ ob xs, H b = some (.frz ob (.lst xs))) → SqL K H a (ns.map V.int) → HOk P w H s1.heap → (∀ b, H b ≠ none → b = a ∨ b ∈ tabA K tq) → (H a ≠ none → K.lookup a = none) →
      codeAny (model P w) callerA (.call (.ref fa) ⟨[.ref a], []⟩) (fun r s' => r = .ok (.ret (.bool true)) ∧ OldK s1.heap s'.heap ∧ s'.os = s1.os ∧ AllBare s'.gens) s1 := by
    intro H hT only hq hok alone free
    have plain : ∀ {b : Addr} {o : Obj}, s1.heap.get? b = some o → (∀ l n, o.data ≠ .seq l n) → o.data ≠ .fields #[] → H b = none := fun {b o} e n1 n2 => by
      cases q : H b with
      | none => rfl
      | some u =>
        rcases alone b (by rw [q]; exact fun z => nomatch z) with z | z
        · subst z
          rw [ha] at e
          cases e
          exact absurd rfl (n1 _ _)
        · rw [empty b z] at e
          cases e
          exact absurd rfl n2
    have dic : ∀ {b : Addr} {o : Obj} {es : Array DictEntry} {ep : Nat}, s1.heap.get? b = some o → o.data = .dict es ep → H b = none := fun {b o es ep} e d =>
      plain e (fun l n z => nomatch d.symm.trans z) fun z => nomatch d.symm.trans z
    have ns2 : ∀ {b : Addr} {m : Str → Option Value}, s1.heap.Ns b m → (hidT s1.heap H).Ns b m := fun {b m} ⟨o, es, ep, e, d, r⟩ => ⟨o, es, ep, hidT_get e (dic e d), d, r⟩
    have kin2 : K.In (hidT s1.heap H) := fun b o e => hidT_get (kin b o e) (by
      cases q : H b with
      | none => rfl
      | some u =>
        rcases alone b (by rw [q]; exact fun z => nomatch z) with z | z
        · subst z
          rw [free (by rw [q]; exact fun z => nomatch z)] at e
          cases e
        · obtain ⟨p, hp, ep⟩ := tabA_mem z
          rw [← ep, out p hp] at e
          cases e)
    obtain ⟨mc, c1, c2⟩ := hlim
    have TB : ∀ p ∈ tq, LamX.TabB (hidT s1.heap H) mg (He.cT K p.1).1 (He.cT K p.1).2 := fun p hp => by
      refine ⟨?_, ?_, fun z => ?_⟩
      · obtain ⟨o, us, v1, v2, v3, v4, v5, v6, v7, q0, q9, q1, q2, q3⟩ := heads p hp
        refine ⟨o, us, v1, v2, v3, v4, v5, v6, v7, hidT_get q0 (plain q0 (fun l n z => nomatch q1.symm.trans z) fun z => ?_), q9, q1, q2, q3⟩
        have z2 : us = #[] := Data.fields.inj (q1.symm.trans z)
        rw [z2] at q2
        cases q2
      · obtain ⟨bm, ob, b1, b2, b3, b4, b5, b6⟩ := hbm
        refine ⟨bm, ob, b1, b2, fun z => ?_, fun z => ?_, hidT_get b3 (plain b3 (fun l n z => nomatch b6.symm.trans z) fun z => nomatch b6.symm.trans z), b4, b5, b6⟩
        · obtain ⟨o, es, ep, e, d, _⟩ := hns
          rw [z, e] at b3
          cases b3
          exact nomatch d.symm.trans b6
        · rw [z, tabs p hp] at b3
          cases b3
          exact nomatch b6
      · obtain ⟨o, es, ep, e, d, _⟩ := hns
        rw [z, tabs p hp] at e
        cases e
        exact nomatch d
    have env0 : Env0 P w K mg (hidT s1.heap H) callerA [] s1 H := ⟨rfl, ⟨kin2, ns2 hns, ⟨mb, ns2 hb, hbb⟩, ⟨mc, ns2 c1, c2⟩⟩, fun b o e => of_hidT e, Nat.le_of_eq (hidT_size _ _), trivial, fun b z => absurd (show b ∈ ([] : List Addr) from z) (by simp), hok, .of_eq gens⟩
    refine codeAny_mono ((F _ kin2 (ns2 hns) TB).run callerA [] s1 H ⟨[.ref a], []⟩ [.ref a] [.ref a] _ _ room rfl env0 (hbind s1 (.ref a)) (.cons rfl .nil) (spq H hT hq)) fun r s' h => ?_
    match r, h with
    | .error e, ⟨_, _, _, _, _, _, _, _, _, _, _, _, z⟩ => exact z.elim
    | .ok (.ret u), ⟨v, H', os, bare, un, hok', rr, q⟩ =>
      cases (show v = .bl true from q)
      obtain rfl : u = Value.bool true := rr
      have stays : ∀ b o, b ∉ tabA K tq → s1.heap.get? b = some o → s'.heap.get? b = some o := fun b o nb e => by
        rcases only b with z | z | ⟨ob, xs, z⟩
        · exact un.keep b o e z (fun y => absurd (show b ∈ ([] : List Addr) from y) (by simp)) (by simp)
        · exact absurd z nb
        · obtain ⟨e1, _⟩ := hok b _ z
          obtain ⟨e2, _⟩ := hok' b _ (un.frzs b ob _ z)
          rw [e] at e1
          cases e1
          exact e2
      have longer : ∀ b ∈ tabA K tq, ∃ rows : Array Value, s'.heap.get? b = some { cls := .none, data := .fields rows } := fun b hb => by
        obtain ⟨rows, z⟩ := un.tbls b #[] (hT b hb)
        exact ⟨_, hok' b _ z⟩
      refine ⟨rfl, ⟨fun b o e => ?_, fun b o e => ?_⟩, os, bare⟩
      · by_cases q : b ∈ tabA K tq
        · obtain ⟨p, hp, ep⟩ := tabA_mem q
          obtain ⟨rows, hm⟩ := longer b q
          subst ep
          rw [tabs p hp] at e
          cases e
          exact .inr (.inl ⟨((heads p hp).tab (tabs p hp)).isCodeTable, rfl, #[], rows, rfl, by rw [Array.empty_append]; exact hm⟩)
        · exact .inl (stays b o q e)
      · by_cases q : b ∈ tabA K tq
        · exact ⟨_, (longer b q).choose_spec⟩
        · exact ⟨o, stays b o q e⟩
  cases kl : K.lookup a with
  | some o =>
    have e := kin a o kl
    rw [ha] at e
    cases e
    have at_ : ∀ b, b ∈ tabA K tq → (fun b => if b ∈ tabA K tq then some (HO.tbl #[]) else none : Hp) b = some (.tbl #[]) := fun b hb => if_pos hb
    have no_ : ∀ b, b ∉ tabA K tq → (fun b => if b ∈ tabA K tq then some (HO.tbl #[]) else none : Hp) b = none := fun b hb => if_neg hb
    refine main (fun b => if b ∈ tabA K tq then some (.tbl #[]) else none) at_ (fun b => ?_) (.inr ⟨_, vs.toArray, _, kl, rfl, rfl, rfl, by rw [List.size_toArray, hi.length]; exact hl, by simpa using rv⟩) (fun b u z => ?_) (fun b z => ?_) fun z => absurd (no_ a notTab) z
    · by_cases q : b ∈ tabA K tq
      · exact .inr (.inl q)
      · exact .inl (no_ b q)
    · by_cases q : b ∈ tabA K tq
      · cases (at_ b q).symm.trans z
        exact empty b q
      · cases (no_ b q).symm.trans z
    · by_cases q : b ∈ tabA K tq
      · exact .inr q
      · exact absurd (no_ b q) z
  | none =>
    have at_a : (fun b => if b = a then some (HO.frz { cls := .type "list", data := .seq vs.toArray } (.lst (ns.map V.int))) else if b ∈ tabA K tq then some (.tbl #[]) else none : Hp) a = some (HO.frz { cls := .type "list", data := .seq vs.toArray } (.lst (ns.map V.int))) := if_pos rfl
    have at_ : ∀ b, b ∈ tabA K tq → (fun b => if b = a then some (HO.frz { cls := .type "list", data := .seq vs.toArray } (.lst (ns.map V.int))) else if b ∈ tabA K tq then some (.tbl #[]) else none : Hp) b = some (.tbl #[]) := fun b hb => (if_neg (show ¬ b = a from fun z => notTab (by rw [← z]; exact hb))).trans (if_pos hb)
    have no_ : ∀ b, b ≠ a → b ∉ tabA K tq → (fun b => if b = a then some (HO.frz { cls := .type "list", data := .seq vs.toArray } (.lst (ns.map V.int))) else if b ∈ tabA K tq then some (.tbl #[]) else none : Hp) b = none := fun b hb hb2 => (if_neg hb).trans (if_neg hb2)
    refine main (fun b => if b = a then some (.frz { cls := .type "list", data := .seq vs.toArray } (.lst (ns.map V.int))) else if b ∈ tabA K tq then some (.tbl #[]) else none) at_ (fun b => ?_) (.inl (.inr ⟨_, at_a⟩)) (fun b u z => ?_) (fun b z => ?_) fun _ => kl
    · by_cases q : b = a
      · exact .inr (.inr ⟨_, _, if_pos q⟩)
      · by_cases q2 : b ∈ tabA K tq
        · exact .inr (.inl q2)
        · exact .inl (no_ b q q2)
    · by_cases q : b = a
      · subst q
        cases at_a.symm.trans z
        exact ⟨ha, by rw [List.length_map]; exact hl, vs, _, rv, ha⟩
      · by_cases q2 : b ∈ tabA K tq
        · cases (at_ b q2).symm.trans z
          exact empty b q2
        · cases (no_ b q q2).symm.trans z
    · by_cases q : b = a
      · exact .inl q
      · by_cases q2 : b ∈ tabA K tq
        · exact .inr q2
        · exact absurd (no_ b q q2) z
/-- a law over a head by facts -/
theorem walk_ofGT {l : PySem.W.OpenLaw} {n k : Nat} {q : Program} {loose : List Str} {XP : (Str → Option Value) → Heap → Prop} {YP : World → Heap → Prop} {d : DefRec} {x : Str} {sem : Sem'} {tq : List (He.Defn × Str)}
    (hn : l.most = some n) (hn2 : n ≤ sizeLine) (hdf : d.params.defaults = []) (room : Room k callerA) (good : ∀ ns : List Int, ns.length ≤ n → ∃ S, sem [.scr (ns.map D.int)] (tabS tq) = .ok (.bl true) S)
    (F : ∀ (w : World) (mg : Str → Option Value) (fa : Addr) (h : Heap), YP w h → h.Ns mainGlobals mg → mg d.name = some (.ref fa) →
      ∃ (K : PySem.W.Frag) (fd : FuncData), K.In h ∧ (∀ p ∈ tq, h.get? (He.cT K p.1).2 = some { cls := .none, data := .fields #[] }) ∧ (∀ p ∈ tq, K.lookup (He.cT K p.1).2 = none) ∧ (∀ p ∈ tq, PySem.W.codeHdIn K (He.cT K p.1).1 (He.cT K p.1).2 = true) ∧ (tabA K tq).Nodup ∧
        (∀ (s : Shared) (u : Value), BindsTo s fd ⟨[u], []⟩ [(x, u)]) ∧
        ∀ base : Heap, K.In base → base.Ns mainGlobals mg → (∀ p ∈ tq, LamX.TabB base mg (He.cT K p.1).1 (He.cT K p.1).2) → FnG l.prog w K mg base k fa fd [x] (spD K mg 1 sem)) :
    PySem.W.WalkO q loose XP YP l.row.toRowW d [] (fun f vs => PySem.call f vs) := by
  refine Att.attach_call hn hdf fun w s0 s1 mg mb fa o pm cd doc a vs ns G Y ho hd hcd hmg hob hints hlen gens => ?_
  obtain ⟨K, fd, kin, t1, t2, t3, t4, hb, hF⟩ := F w mg fa _ Y G.T.g hmg
  exact law_runsT kin G.T.g G.T.b G.T.builtins G.T.nolimit gens t1 t2 (fun p hp => PySem.W.codeHd_of_K kin (t3 p hp)) t4 G.T.bmain hob hints (Nat.le_trans hlen hn2) room hF hb (good ns hlen)

/-! ### the head -/
/-! ### facts of exception classes -/
/-- an own class over ValueError without an own __init__: what raise asks -/
structure RaiC (K : PySem.W.Frag) (C : Addr) : Prop where
  ex : PySem.W.excIn K C bmV "ValueError.__new__" = true
  kp : PySem.W.keepIn K (.ref C) = true
  sb : PySem.W.subIn K (.ref C) (.type "BaseException") = some true
  ty : PySem.W.typeIn K (.ref C) = some (.type "type")
theorem raiB_ok {K : PySem.W.Frag} {c : Str} (h : raiB K c = true) : RaiC K (He.ga K c) := by
  obtain ⟨h1, h⟩ := He.ba h
  obtain ⟨h2, h⟩ := He.ba h
  obtain ⟨h3, h4⟩ := He.ba h
  exact ⟨h1, h2, of_decide_eq_true h3, eq_of_beq h4⟩
theorem ds_raiseC {X : Cx} {W : WX} {k : Nat} {x : Str} {C : Addr} {msg : Str} {j : Nat} {p p2 apos pos : Pos} (Cc : Cn X W k) (q : RaiC X.K C) (gC : X.mg x = some (.ref C)) (hg : Gl X x) (hdb : (x == ("__debug__" : Str)) = false := by decide) :
    DS X W (.Raise (some (.Call (.Name x p) [.Constant (.str msg) j p2] [] apos)) none pos) (fun ρ S => .ex x [] ρ S) :=
  ds_raise Cc PySem.F.excBase_ValueError q.ex gC q.kp (raises_own q.sb q.ty) hg hdb
theorem iseB_ok {K : PySem.W.Frag} {c : Str} (h : iseB K c = true) : ExcC K (He.ga K c) := by
  obtain ⟨h1, h⟩ := He.ba h
  obtain ⟨h2, h⟩ := He.ba h
  obtain ⟨h3, h⟩ := He.ba h
  obtain ⟨h4, h⟩ := He.ba h
  obtain ⟨h5, h⟩ := He.ba h
  obtain ⟨h6, h⟩ := He.ba h
  obtain ⟨h7, h8⟩ := He.ba h
  exact ⟨He.eqO_ok h1, He.eqO_ok h2, of_decide_eq_true h3, h4, He.eqO_ok h5, He.eqO_ok h6, of_decide_eq_true h7, of_decide_eq_true h8⟩
theorem lookup_mem' {α : Type} {x : Str} {b : α} : ∀ {t : List (Str × α)}, t.lookup x = some b → (x, b) ∈ t
  | [], h => by cases h
  | (y, c) :: r, h => by
    rw [List.lookup_cons] at h
    cases e : x == y with
    | true =>
      rw [e] at h
      cases h
      rw [eq_of_beq e]
      exact List.mem_cons_self
    | false =>
      rw [e] at h
      exact List.mem_cons_of_mem _ (lookup_mem' h)
theorem exmT_ok {K : PySem.W.Frag} {mg : Str → Option Value} {c : Value} {t : List (Str × Bool)} (h : exmT K c t = true) (hg : ∀ q ∈ t, mg q.1 = some (.ref (He.ga K q.1))) : ∀ C b A, t.lookup C = some b → mg C = some (.ref A) → PySem.W.exmOne K (.ref A) c = some b := fun C b A e hA => by
  have m := lookup_mem' e
  have q := hg _ m
  rw [hA] at q
  cases q
  exact of_decide_eq_true (List.all_eq_true.mp h _ m)
theorem kitT_ok {K : PySem.W.Frag} {mg : Str → Option Value} {c : Value} {t : List (Str × Bool)} (h : kitT K c t = true) (hg : ∀ q ∈ t, mg q.1 = some (.ref (He.ga K q.1))) (hc : ∀ q ∈ t, ExcC K (He.ga K q.1)) : ∀ C b A, t.lookup C = some b → mg C = some (.ref A) → ExcC K A ∧ PySem.W.kitOne K (.ref A) c = some b := fun C b A e hA => by
  have m := lookup_mem' e
  have q := hg _ m
  rw [hA] at q
  cases q
  exact ⟨hc _ m, of_decide_eq_true (List.all_eq_true.mp h _ m)⟩
section
variable {X : Cx} {W : WX} {k : Nat} {e b : Expr} {pos p : Pos} {fa : FA}
end
end DL

/-! The data layer, part 39: // with a great divisor. -/
namespace DL
open PySem L2
noncomputable def cDivW (_ j : Int) : Bool := @decide (0 < j ∧ j < 10000000000000000000000000000000000000000) (Classical.propDecidable _)
noncomputable def gDivW : G2 := gI cDivW fun i j => .int (i / j)
section
variable {X : Cx} {W : WX} {a b : Expr} {fa fb : FE} {pos : Pos}
/-- an empty dict that changes no more -/
def fDictE : FE := fun _ S => .ok (.dic []) S
theorem de_dictE : DE X W (.Dict [] [] pos) fDictE := .mk pe_dnewK fun Z φ S ρ σ H Q R sl w => fun p hp => by
  obtain ⟨r, e, at_⟩ := R.fresh (o := .dK []) hp
  refine w _ _ _ r e ?_
  unfold RDat Dat
  exact ⟨p, [], rfl, at_, by unfold DatK; rfl⟩
end
end DL

/-! The data layer, part 40: for k in f(..), where f gives a new dict. -/
namespace DL
open PySem PySem.Spec PyProof.Rows L2
section
variable {X : Cx} {W : WX} {k k' np : Nat} {f : Addr} {fd : FuncData} {ps ks : List Str} {sem : Sem'} {x : Str} {p pos : Pos} {e : Expr} {es : List Expr} {kws : List Keyword} {fa fk : FA} {gD : List D → List D → List D} {tg : Expr}
end
end DL

/-! The data layer, part 41: dict displays with entries, as objects. -/
namespace DL
open PySem PySem.Spec PyProof.Rows L2
abbrev FP := EnvD → Store → Res (List (D × D))
abbrev RPr (K : PySem.W.Frag) (mg : Str → Option Value) : List Addr → Hp → List (D × D) → List (V × V) → Prop := fun φ G ds vs => DatL K mg φ G (ds.map (·.1)) (vs.map (·.1)) ∧ DatL K mg φ G (ds.map (·.2)) (vs.map (·.2))
def DPs (X : Cx) (W : WX) (pos : Pos) (keys : List (Option Expr)) (values : List Expr) (fp : FP) : Prop := ∃ trs, PPs X pos keys values trs ∧ keys.all (·.isSome) = true ∧ keys.length = values.length ∧
  ∀ Z φ S ρ σ H (Q : List (V × V) → Hp → Prop), Rel X.K X.mg Z φ S H → Slots X.K X.mg φ (gnd Z φ S H) ρ σ → Want X.K X.mg (RPr X.K X.mg) Z φ S H (fp ρ S) Q (WE W σ) → tPairs trs σ H Q
def fPs0 : FP := fun _ S => .ok [] S
def fPs (fk fv : FE) (fr : FP) : FP := fun ρ S => (fk ρ S).bind fun x S => (fv ρ S).bind fun y S => (fr ρ S).bind fun ps S => .ok ((x, y) :: ps) S
section
variable {X : Cx} {W : WX} {pos : Pos}
theorem dps_nil : DPs X W pos [] [] fPs0 := ⟨[], pps_nil, rfl, rfl, fun Z φ S ρ σ H Q R sl w => w.now R ⟨DatL.nil, DatL.nil⟩⟩
theorem dps_cons {k v : Expr} {ks : List (Option Expr)} {vs : List Expr} {fk fv : FE} {fr : FP} (hk : DE X W k fk) (hv : DE X W v fv) (hr : DPs X W pos ks vs fr) : DPs X W pos (some k :: ks) (v :: vs) (fPs fk fv fr) := by
  obtain ⟨tk, pk, qk⟩ := hk.ex
  obtain ⟨tv, pv, qv⟩ := hv.ex
  obtain ⟨trs, pr, ha, hl, qr⟩ := hr
  refine ⟨_, pps_cons pk pv pr, by simp [ha], by simp [hl], fun Z φ S ρ σ H Q R sl w => qk Z φ S ρ σ H _ R sl (w.bind fun x S1 u φ1 H1 R1 E1 dx w1 => ?_)⟩
  refine qv Z φ1 S1 ρ σ H1 _ R1 (sl.evo E1) (w1.bind fun y S2 u2 φ2 H2 R2 E2 dy w2 => ?_)
  refine qr Z φ2 S2 ρ σ H2 _ R2 ((sl.evo E1).evo E2) (w2.bind fun ps S3 us φ3 H3 R3 E3 dp w3 => ?_)
  exact w3.now R3 ⟨.cons (Dat.evo E3 (Dat.evo E2 dx)) dp.1, .cons (Dat.evo E3 dy) dp.2⟩
def keysK : List (D × D) → Option (List (Key × D))
  | [] => some []
  | (x, y) :: r => match keyD x, keysK r with
    | some k, some ks => some ((k, y) :: ks)
    | _, _ => none
def mergeD (ks more : List (Key × D)) : List (Key × D) := more.foldl (fun acc kv => putKD acc kv.1 kv.2) ks
theorem datK_merge {K : PySem.W.Frag} {mg : Str → Option Value} {φ : List Addr} {G : Hp} : ∀ {more : List (Key × D)} {mvs : List (Key × V)} {ks : List (Key × D)} {kvs : List (Key × V)}, DatK K mg φ G more mvs → DatK K mg φ G ks kvs → DatK K mg φ G (mergeD ks more) (mergeK kvs mvs)
  | [], _, ks, kvs, h, h0 => by
    unfold DatK at h
    subst h
    exact h0
  | (k, d) :: r, mvs, ks, kvs, h, h0 => by
    unfold DatK at h
    obtain ⟨v, ms, rfl, hd, hr⟩ := h
    have := datK_merge hr (datK_put (k := k) hd h0)
    exact this
theorem keysK_ok {φ : List Addr} {G : Hp} : ∀ {ps : List (D × D)} {us : List (V × V)} {kds : List (Key × D)}, RPr X.K X.mg φ G ps us → keysK ps = some kds → ∃ kvs : List (Key × V), us = kvs.map (fun kv => (kV kv.1, kv.2)) ∧ DatK X.K X.mg φ G kds kvs ∧ kvs.length = kds.length
  | [], us, kds, h, e => by
    cases e
    obtain ⟨h1, _⟩ := h
    have := DatL.length h1
    cases us with
    | nil => exact ⟨[], rfl, by unfold DatK; rfl, rfl⟩
    | cons _ _ => simp at this
  | (x, y) :: r, us, kds, h, e => by
    obtain ⟨h1, h2⟩ := h
    cases us with
    | nil => have := DatL.length h1; simp at this
    | cons u us =>
      obtain ⟨u1, u2⟩ := u
      unfold keysK at e
      split at e
      · rename_i k ks hk hks
        cases e
        simp only [List.map_cons] at h1 h2
        unfold DatL at h1 h2
        obtain ⟨_, _, e1, d1, r1⟩ := h1
        obtain ⟨_, _, e2, d2, r2⟩ := h2
        cases e1
        cases e2
        obtain ⟨kvs, rfl, dk, hl⟩ := keysK_ok ⟨r1, r2⟩ hks
        refine ⟨(k, u2) :: kvs, by rw [List.map_cons, keyD_ok d1 hk], ?_, by simp [hl]⟩
        unfold DatK
        exact ⟨_, _, rfl, d2, dk⟩
      · cases e
def dispAt (n : Nat) (ps : List (D × D)) (S : Store) : Res D := match keysK ps, S[n]? with
  | some kds, some (.dic []) => if kds.length ≤ 15 then .ok (.oid n) (S.set n (.dic (mergeD [] kds))) else .stuck
  | _, _ => .stuck
/-- {k: v, ..}, an object -/
def fDisp (fp : FP) : FE := fun ρ S => (fp ρ (S ++ [.dic []])).bind fun ps S' => dispAt S.length ps S'
theorem de_disp {keys : List (Option Expr)} {values : List Expr} {fp : FP} (h : DPs X W pos keys values fp) (h0 : keys ≠ [] := by intro h; cases h) (h15 : keys.length ≤ 15 := by decide) : DE X W (.Dict keys values pos) (fDisp fp) := by
  obtain ⟨trs, p, ha, hl, q⟩ := h
  refine .mk (pe_disp p ha hl h0 h15) fun Z φ S ρ σ H Q R sl w => fun a hp => ?_
  obtain ⟨R0, E0⟩ := R.newOid (so := .dic []) (same_upd (o := .dK []) hp) hp (by rw [upd_same]; exact fun z => nomatch z) rfl ⟨[], upd_same, by unfold DatK; rfl⟩
  refine q Z _ _ ρ σ _ _ R0 (sl.evo E0) ((w.go E0).bind fun ps S2 us φ2 H2 R2 E2 dp w2 => ?_)
  have h1 : (φ ++ [a])[S.length]? = some a := by rw [List.getElem?_append_right (by rw [R.len]; exact Nat.le_refl _), ← R.len, Nat.sub_self]; rfl
  have hφ : φ2[S.length]? = some a := by
    obtain ⟨t, rfl⟩ := E2.pre
    rw [List.getElem?_append_left (List.getElem?_eq_some_iff.mp h1).1]
    exact h1
  unfold dispAt at w2
  split at w2
  · rename_i kds hk hS
    by_cases hc : kds.length ≤ 15
    · rw [if_pos hc] at w2
      obtain ⟨kvs, rfl, dk, hlen⟩ := keysK_ok dp hk
      obtain ⟨k0, h3, h4⟩ := R2.ob S.length a _ hφ hS
      unfold DatK at h4
      subst h4
      refine ⟨h3, kvs, rfl, by rw [hlen]; exact hc, ?_⟩
      obtain ⟨R3, E3⟩ := R2.mutate (u := .dic (mergeD [] kds)) (ho := .dK (mergeK [] kvs)) hφ hS rfl rfl ⟨_, upd_same, datK_merge dk (by unfold DatK; rfl)⟩
      refine w2 _ _ _ R3 E3 ?_
      unfold RDat Dat
      exact ⟨a, rfl, hφ⟩
    · rw [if_neg hc] at w2
      exact w2.elim
  · exact w2.elim
end
end DL

/-! The data layer, part 42: the least of a list of pairs of numbers. -/
namespace PySem.W
open PySem PySem.SeqAt PyProof.Rows
section
variable {prog : Program} {w : World} {A : Around} {E : Value → Shared → Prop} {s : Shared}
end
end PySem.W
namespace DL
open PySem PySem.Spec PySem.W PySem.SeqAt PyProof.Rows L2
section
variable {X : Cx} {W : WX} {k : Nat} {pos : Pos}
end
end DL

/-! The data layer, part 43: d.get(None, x); dict(a list of pairs). -/
namespace DL
open PySem PySem.Spec PyProof.Rows L2
section
variable {X : Cx} {W : WX} {k : Nat} {o e f : Expr} {fo fe ff : FE} {p pos apos cpos : Pos} {td ty tx : TE}
/-! ### dict(pairs) -/
end
end DL

/-! The data layer, part 44: list * number, d[k] //= n, C.m(self, ..), constants that are tuples of texts. -/
namespace DL
open PySem PySem.Spec PyProof.Rows L2
/-! ### list * number -/
section
variable {X : Cx} {W : WX} {a b : Expr} {fa fb : FE} {pos : Pos}
theorem DatL.rep {K : PySem.W.Frag} {mg : Str → Option Value} {φ : List Addr} {G : Hp} {ds : List D} {vs : List V} (h : DatL K mg φ G ds vs) : ∀ n : Nat, DatL K mg φ G (List.replicate n ds).flatten (List.replicate n vs).flatten
  | 0 => DatL.nil
  | n + 1 => by
    rw [List.replicate_succ, List.replicate_succ, List.flatten_cons, List.flatten_cons]
    exact h.append (DatL.rep h n)
def repD (xs : List D) (k : Int) : List D := (List.replicate k.toNat xs).flatten
end
/-! ### d[k] op= n -/
section
variable {X : Cx} {W : WX} {k : Nat} {o i e : Expr} {fo fi fe : FE} {pos tpos : Pos}
end
end DL

/-! The data layer, part 45: C.m(self, ..), constants that are tuples of texts. -/
namespace DL
open PySem PySem.Spec PyProof.Rows L2
/-! ### a def of a class, called by the class's name -/
structure CCl (K : PySem.W.Frag) (C : Addr) (m : Str) (f : Addr) : Prop where
  rd : ClX.CRead K C (.type "type")
  cv : ClX.CVal K C (.type "type") m (.ref f) (.ref f)
  kp : PySem.W.keepIn K (.ref f) = true
section
variable {X : Cx} {W : WX} {k k' np : Nat} {f C : Addr} {fd : FuncData} {ps ks : List Str} {sem cs : Sem'} {x m : Str} {p pos apos : Pos} {e : Expr} {es : List Expr} {kws : List Keyword} {fa fk : FA} {gD : List D → List D → List D}
end
/-! ### a module's tuple of texts -/
theorem strsB_ok : ∀ {us : List Value} {zs : List Str}, strsB us zs = true → Vals (zs.map V.str) us
  | [], [], _ => .nil
  | .str y t :: r, z :: s, h => by
    obtain ⟨h1, h2⟩ := He.ba (show (decide (y = z) && strsB r s) = true from h)
    have e : y = z := of_decide_eq_true h1
    subst e
    exact .cons ⟨t, rfl⟩ (strsB_ok h2)
def TupC (K : PySem.W.Frag) (a : Addr) (zs : List Str) : Prop := ∀ G : Hp, SqT K G a (zs.map V.str)
section
variable {X : Cx} {W : WX} {pos : Pos}
theorem datL_strs {K : PySem.W.Frag} {mg : Str → Option Value} {φ : List Addr} {G : Hp} : ∀ zs : List Str, DatL K mg φ G (zs.map D.str) (zs.map V.str)
  | [] => DatL.nil
  | z :: zs => .cons (by unfold Dat; rfl) (datL_strs zs)
end
end DL

/-! The data layer, part 46: list.count. -/
namespace DL
open PySem PySem.Spec PyProof.Rows L2
section
variable {X : Cx} {W : WX} {k : Nat} {o e : Expr} {fo fe : FE} {pos apos cpos : Pos}
end
end DL

/-! The data layer, part 47: len({x for x in xs}) of a list of ints. -/
namespace DL
open PySem PySem.Spec PyProof.Rows L2
section
variable {prog : Program} {w : World} {A : Around} {E : Value → Shared → Prop} {env : Env} {s : Shared}
end
end DL

/-! The data layer, part 48: len({x for x in xs}), as a mirror. -/
namespace DL
open PySem PySem.Spec PyProof.Rows L2
section
variable {X : Cx} {W : WX} {k : Nat} {iter : Expr} {ta : TE} {fi : FE} {y : Str} {p pa pe cpos pos : Pos} {scope : Scope}
end
end DL

/-! The data layer, part 49: a head's facts with the statics in sight. -/
namespace DL
open PySem PySem.Spec PyProof.Rows L2
end DL

/-! The data layer, part 50: list.extend with a list. -/
namespace DL
open PySem PySem.Spec PyProof.Rows L2
section
variable {X : Cx} {W : WX} {k : Nat} {o e : Expr} {fo fe : FE} {pos apos cpos : Pos}
end
end DL

/-! The data layer, part 51: != by an own __eq__. -/
namespace DL
open PySem PySem.Spec PyProof.Rows L2
/-- what != asks of a class that has no __ne__ of its own -/
structure NeC (K : PySem.W.Frag) (C : Addr) : Prop where
  hn : PySem.W.findIn K (.ref C) "__ne__" = some (some (.builtin "object.__ne__"))
  hm : PySem.W.mroIn K C (.type "object") = some true
section
variable {prog : Program} {w : World} {A : Around} {E : Value → Shared → Prop} {s : Shared} {K : PySem.W.Frag} {x y C L f : Addr} {h₀ : Heap} {m : Str → Option Value} {ox oy : Obj} {od od' : Option Obj}
end
section
variable {X : Cx} {W : WX} {k : Nat}
end
end DL

/-! The data layer, part 52: what the module's names reach, told by a number's bits (no list is searched). -/
namespace DL
open PySem PySem.Spec PyProof.Rows L2
end DL

/-! The data layer, part 53: a, b = a list or a tuple. -/
namespace DL
open PySem L2
def mSeqT (n : Nat) (ms : List D → EnvD → Store → Option EnvD) : FG := fun d ρ S => match asQ S d with
  | some ds => if ds.length = n then ms ds ρ S else none
  | none => none
@[simp] theorem e_mSeqT (n : Nat) (ms : List D → EnvD → Store → Option EnvD) (ds : List D) (d : D) (ρ : EnvD) (S : Store) (h : asQ S d = some ds) : mSeqT n ms d ρ S = if ds.length = n then ms ds ρ S else none := by
  unfold mSeqT
  rw [h]
end DL

/-! The data layer, part 54: zip of two tuples, and of a list that may change with a list. -/
namespace DL
open PySem L2
def zipA : List D → Store → Res ItD := fun ds S => match ds with
  | [.lst xs, .lst ys] => .ok ⟨zipD xs ys, none⟩ S
  | [.tup xs, .tup ys] => .ok ⟨zipD xs ys, none⟩ S
  | [.oid n, .lst ys] => (match asL S (.oid n) with
    | some xs => .ok ⟨zipD xs ys, some (.oid n, xs)⟩ S
    | none => .stuck)
  | _ => .stuck
def fZipA (fa : FA) : FI := fun ρ S => (fa ρ S).bind zipA
section
variable {X : Cx} {W : WX} {k : Nat} {pos p : Pos}
@[simp] theorem e_fZipA (fa : FA) (ρ : EnvD) (S : Store) : fZipA fa ρ S = (fa ρ S).bind zipA := rfl
end
end DL

/-! The data layer, part 55: x is True, x is not True; sorted of a tuple of numbers. -/
namespace DL
open PySem PySem.Spec PyProof.Rows L2
/-! ### is a truth -/
section
variable {X : Cx}
def isBl : D → Bool → Bool
  | .bl c, b => c == b
  | _, _ => false
def gIsBl : G2 := fun x y S => match y with
  | .bl b => .ok (.bl (isBl x b)) S
  | _ => .stuck
def gNotBl : G2 := fun x y S => match y with
  | .bl b => .ok (.bl (!isBl x b)) S
  | _ => .stuck
@[simp] theorem e_gIsBl (b c : Bool) (S : Store) : gIsBl (.bl c) (.bl b) S = .ok (.bl (c == b)) S := rfl
@[simp] theorem e_gNotBl (b c : Bool) (S : Store) : gNotBl (.bl c) (.bl b) S = .ok (.bl (!(c == b))) S := rfl
/-! ### sorted of a tuple -/
end
end DL
namespace SrtO
open PySem PyProof.Rows Srt
section
variable {prog : Program} {w : World} {A : Around} {E : Value → Shared → Prop} {s : Shared}
end
end SrtO
namespace DL
open PySem PySem.Spec PyProof.Rows L2
section
variable {X : Cx} {W : WX} {k : Nat} {e : Expr} {pos p : Pos}
end
end DL

/-! The data layer, part 56: xs[::-1] of a list. -/
namespace DL
open PySem PySem.Spec PyProof.Rows L2
section
variable {X : Cx} {W : WX} {k : Nat} {e : Expr} {fe : FE} {pos p p1 p2 p3 : Pos}
def gRevL (x : D) (S : Store) : Res D := match asL S x with
  | some xs => .ok (.lst xs.reverse) S
  | none => .stuck
@[simp] theorem e_gRevL (xs : List D) (S : Store) : gRevL (.lst xs) S = .ok (.lst xs.reverse) S := rfl
end
end DL

/-! The data layer, part 57: tuple * number, nought and one too. -/
namespace L2
open PySem PySem.Spec PyProof.Rows
theorem tuple_mul1 (l : Addr) (items : Array Value) (n : Nat) (dd : Option Addr) (sl : Array (Option Value)) (u : Tok) :
    Meets (Builtin.«tuple.__mul__» ⟨[.ref l, .int 1 u], []⟩) (fun _ R s => s.heap.get? l = some { cls := .type "tuple", dict := dd, data := .seq items n, slots := sl } ∧
      R (.ok (.ret (Value.ref l))) s) :=
  .of_wp fun prog w A R s h => by
    obtain ⟨hp, g, d, tk, os⟩ := s
    obtain ⟨hl, h⟩ := h
    have f1 := AutoSeq1.idx_int
    have c0 : (decide ((1 : Int) < -(2 ^ 63)) || decide ((1 : Int) ≥ 2 ^ 63)) = false := by decide
    have c1 : (items.isEmpty || (1 : Int) == 1) = true := by simp
    wp_walk using wpAny_loadPart' hl
    repeat (first
      | (refine wpAny_ite_false (decide_eq_false (by rw [c0]; exact Bool.false_ne_true)) ?_; wp_walk using wpAny_loadPart' hl)
      | (refine wpAny_ite_true (decide_eq_true c1) ?_; wp_walk using wpAny_loadPart' hl))
    exact ⟨_, rfl, h⟩
theorem tuple_mul0 (l : Addr) (items : Array Value) (n : Nat) (dd : Option Addr) (sl : Array (Option Value)) (u : Tok) (hi : items.isEmpty = false) :
    Meets (Builtin.«tuple.__mul__» ⟨[.ref l, .int 0 u], []⟩) (fun _ R s => s.heap.get? l = some { cls := .type "tuple", dict := dd, data := .seq items n, slots := sl } ∧
      R (.ok (.ret (Value.ref s.heap.objs.size))) { s with heap := s.heap.push { cls := Value.type "tuple", data := Data.seq #[] }, toks := s.toks }) :=
  .of_wp fun prog w A R s h => by
    obtain ⟨hp, g, d, tk, os⟩ := s
    obtain ⟨hl, h⟩ := h
    have f1 := AutoSeq1.idx_int
    have c0 : (decide ((0 : Int) < -(2 ^ 63)) || decide ((0 : Int) ≥ 2 ^ 63)) = false := by decide
    have c1 : (items.isEmpty || (0 : Int) == 1) = false := by rw [hi]; rfl
    have c2 : (decide ((0 : Int) ≤ 0) || items.isEmpty) = true := by rw [hi]; rfl
    wp_walk using wpAny_loadPart' hl
    repeat (first
      | (refine wpAny_ite_false (decide_eq_false (by rw [c0]; exact Bool.false_ne_true)) ?_; wp_walk using wpAny_loadPart' hl)
      | (refine wpAny_ite_false (decide_eq_false (by rw [c1]; exact Bool.false_ne_true)) ?_; wp_walk using wpAny_loadPart' hl)
      | (refine wpAny_ite_true (decide_eq_true c2) ?_; wp_walk using wpAny_loadPart' hl))
    exact ⟨_, rfl, h⟩
def rRepT1 (K : PySem.W.Frag) : R2 := fun x y H Q => ∃ l xs, x = .ref l ∧ y = .int 1 ∧ SqT K H l xs ∧ Q (.ref l) H
def rRepT0 (K : PySem.W.Frag) : R2 := fun x y H Q => ∃ l xs, x = .ref l ∧ y = .int 0 ∧ SqT K H l xs ∧ xs ≠ [] ∧ ∀ p, H p = none → Q (.ref p) (upd H p (.tup []))
def rRepTA (K : PySem.W.Frag) : R2 := fun x y H Q => rRepT K x y H Q ∨ rRepT1 K x y H Q ∨ rRepT0 K x y H Q
section
variable {X : Cx}
theorem op_repT1 : OpR X (binaryOp .Mult) (rRepT1 X.K) := by
  intro pins s σ H x y v u Q I rx ry h
  obtain ⟨l, xs, rfl, rfl, hT, q⟩ := h
  cases rx
  obtain ⟨t, rfl⟩ := ry
  obtain ⟨its, r, ⟨⟨cls, dd, data, sl⟩, ho, hc, n, hd⟩, hs⟩ := I.tuple hT
  simp only at hc hd
  subst hc hd
  refine wpAny_binaryOp_repeat_ref (T := "tuple") (U := "int") (by decide) ⟨_, ho, rfl⟩ (fun s' => typeIs_int s' 1 t) noFill_tuple_mul F.fills_int_mul F.slot_int_rmul repeat_tuple F.slot_int_index.lookup
    (call_meets F.slot_int_rmul (typeIs_int s 1 t) F.entry_int_rmul (F.args_int_rmul_2 _ _) (int_rmul_tuple 1 t l its.toArray n dd sl)
      ⟨ho, rfl, ⟨_, ho, rfl⟩, call_meets F.slot_tuple_mul ⟨_, ho, rfl⟩ F.entry_tuple_mul (F.args_tuple_mul_2 _ _) (tuple_mul1 l its.toArray n dd sl t) ⟨ho, ?_⟩⟩)
  exact ⟨.ref l, H, I, rfl, q⟩
theorem op_repT0 : OpR X (binaryOp .Mult) (rRepT0 X.K) := by
  intro pins s σ H x y v u Q I rx ry h
  obtain ⟨l, xs, rfl, rfl, hT, hne, q⟩ := h
  cases rx
  obtain ⟨t, rfl⟩ := ry
  obtain ⟨its, r, ⟨⟨cls, dd, data, sl⟩, ho, hc, n, hd⟩, hs⟩ := I.tuple hT
  simp only at hc hd
  subst hc hd
  have hle : its.length = xs.length := r.length.symm
  have hi : its.toArray.isEmpty = false := by
    cases its with
    | nil => exact absurd (List.eq_nil_of_length_eq_zero hle.symm) hne
    | cons a b => rfl
  refine wpAny_binaryOp_repeat_ref (T := "tuple") (U := "int") (by decide) ⟨_, ho, rfl⟩ (fun s' => typeIs_int s' 0 t) noFill_tuple_mul F.fills_int_mul F.slot_int_rmul repeat_tuple F.slot_int_index.lookup
    (call_meets F.slot_int_rmul (typeIs_int s 0 t) F.entry_int_rmul (F.args_int_rmul_2 _ _) (int_rmul_tuple 0 t l its.toArray n dd sl)
      ⟨ho, rfl, ⟨_, ho, rfl⟩, call_meets F.slot_tuple_mul ⟨_, ho, rfl⟩ F.entry_tuple_mul (F.args_tuple_mul_2 _ _) (tuple_mul0 l its.toArray n dd sl t hi) ⟨ho, ?_⟩⟩)
  refine ⟨.ref s.heap.objs.size, _, I.laid (t' := s.toks) (o := .tup []) (fun b ob q => Heap.get?_push_of_some _ q) (Nat.le_refl _) ?_, rfl, q _ (I.hok.fresh (Nat.le_refl _))⟩
  exact ⟨Nat.zero_le _, [], .nil, IsTup.new _ _⟩
theorem op_repTA : OpR X (binaryOp .Mult) (rRepTA X.K) := by
  intro pins s σ H x y v u Q I rx ry h
  rcases h with h | h | h
  · exact op_repT pins s σ H x y v u Q I rx ry h
  · exact op_repT1 pins s σ H x y v u Q I rx ry h
  · exact op_repT0 pins s σ H x y v u Q I rx ry h
end
end L2
namespace DL
open PySem PySem.Spec PyProof.Rows L2
section
variable {X : Cx} {W : WX} {a b : Expr} {fa fb : FE} {pos : Pos}
def gRepT : G2 := fun x y S => match x, y with
  | .tup (d :: xs), .int k => if 0 ≤ k ∧ k ≤ 1000 ∧ xs.length ≤ 900 then .ok (.tup (repD (d :: xs) k)) S else .stuck
  | _, _ => .stuck
theorem opd_repT : OpD X (rRepTA X.K) gRepT := fun Z φ S H x y u v Q E R dx dy w => by
  unfold gRepT at w
  split at w
  · rename_i d xs k
    obtain ⟨⟨h1, h2, h3⟩, w1⟩ := want_if w
    cases dInt dy
    have dx' := dx
    unfold Dat at dx
    obtain ⟨p, vs, rfl, q1, q2⟩ := dx
    have q1' : SqT X.K H p vs := sqt_mono (fun b u hb => gnd_some hb) q1
    have vl := q2.length
    have ne : vs ≠ [] := fun e => by rw [e] at vl; simp at vl
    by_cases k0 : k = 0
    · subst k0
      refine .inr (.inr ⟨p, vs, rfl, rfl, q1', ne, fun t ht => ?_⟩)
      obtain ⟨r, e, g⟩ := dat_newT R (DatL.nil (φ := φ)) ht
      exact w1 _ _ _ r e g
    · by_cases k1 : k = 1
      · subst k1
        have e : repD (d :: xs) 1 = d :: xs := by simp [repD]
        rw [e] at w1
        exact .inr (.inl ⟨p, vs, rfl, rfl, q1', w1.now R dx'⟩)
      · refine .inl ⟨p, k, vs, rfl, rfl, q1', ne, by omega, by omega, by rw [vl] <;> simp <;> omega, fun t ht => ?_⟩
        obtain ⟨r, e, g⟩ := dat_newT R (q2.rep k.toNat) ht
        exact w1 _ _ _ r e g
  · exact w.elim
theorem de_repT (ha : DE X W a fa) (hb : DE X W b fb) : DE X W (.BinOp a .Mult b pos) (fBin gRepT fa fb) := de_bin op_repTA opd_repT ha hb
end
end DL

/-! The data layer, part 58: isinstance(x, P) of an instance of a class under P. -/
namespace DL
open PySem PySem.Spec PyProof.Rows L2
structure IsuC (K : PySem.W.Frag) (C P : Addr) : Prop where
  isi : IsiC K C
  one : PySem.W.kitOne K (.ref C) (.ref P) = some true
section
variable {X : Cx} {W : WX} {k : Nat} {e b : Expr} {pos p : Pos}
end
end DL

/-! The data layer, part 59: tables of the top (dicts with text keys that stand in the written part): in, not in, t[k]. -/
namespace DL
open PySem PySem.Spec PyProof.Rows L2
def dVal (K : PySem.W.Frag) : D → V
  | .str x => .str x
  | .int i => .int i
  | .bl b => .bl b
  | .cls c => .ref (He.ga K c)
  | _ => .non
/-- what stands at a: a table -/
structure TabC (K : PySem.W.Frag) (mg : Str → Option Value) (w : World) (a : Addr) (tab : List (Str × D)) : Prop where
  kd : ∃ es n, KDict K w a es n
  at_ : ∀ z d, tab.lookup z = some d → ∃ u, PySem.W.nsIn K a z = some (some u) ∧ RelV (dVal K d) u ∧ ∀ (φ : List Addr) (G : Hp), Dat K mg φ G d (dVal K d)
  out : ∀ z, tab.lookup z = none → PySem.W.nsIn K a z = some none
section
variable {X : Cx} {W : WX} {a b : Expr} {fa fb : FE} {pos : Pos}
theorem TabC.ns {K : PySem.W.Frag} {mg : Str → Option Value} {w : World} {A : Addr} {tab : List (Str × D)} (T : TabC K mg w A tab) (z : Str) : ∃ r, PySem.W.nsIn K A z = some r ∧ r.isSome = (tab.lookup z).isSome := by
  cases h : tab.lookup z with
  | none => exact ⟨none, T.out z h, rfl⟩
  | some d =>
    obtain ⟨u, e, _⟩ := T.at_ z d h
    exact ⟨some u, e, rfl⟩
end
end DL

/-! The data layer, part 60: a head's hook with tables of the top. -/
namespace DL
open PySem PySem.Spec PyProof.Rows L2
end DL

/-! The data layer, part 61: o.f, o.g = a, b. -/
namespace L2
open PySem PySem.Spec PyProof.Rows
section
variable {X : Cx}
def gAtt (K : PySem.W.Frag) (to : TE) (f : Str) : TG := fun v σ H Q => to σ H fun o H1 => ∃ a C dx fs, o = .ref a ∧ H1 a = some (.ins C dx fs) ∧ Cls K C ∧ NoAttr K C f ∧ fs.length < 1000 ∧ Q σ (upd H1 a (.ins C dx (putF f v fs)))
theorem pg_att {o : Expr} {f : Str} {pos : Pos} {to : TE} (ho : PE X o to) : PG X (.Attribute o f pos) (gAtt X.K to f) := by
  refine ⟨fun pins s σ H v u Q I r h => ?_⟩
  rw [assign_Attribute]
  refine wpAny_bind (wpAny_holding (thn (ho.run pins s σ H _ I h) fun ov s1 ⟨x, H1, I1, r1, a, C, dx, fs, ex, ea, c, n, l, q⟩ => ?_))
  subst ex
  obtain rfl : ov = Value.ref a := r1
  refine wpAny_bind (wpAny_standAt (wpAny_bind (wpAny_holding (setattr_ok I1 ea c n l r fun s3 I3 => ?_))))
  exact wpAny_release ⟨σ, _, I3, q⟩
end
end L2
namespace DL
open PySem PySem.Spec PyProof.Rows L2
def stFld (cs : List Str) (f : Str) (o d : D) (S : Store) : Option Store := match o with
  | .oid n => (match S[n]? with
    | some (.ins c fs) => if c ∈ cs ∧ fs.length < 1000 then some (S.set n (.ins c (putFD f d fs))) else none
    | _ => none)
  | _ => none
section
variable {X : Cx} {W : WX} {pos : Pos}
theorem stFld_ok {Z φ : List Addr} {S S' : Store} {H : Hp} {cs : List Str} {fn : Str} {o d : D} {ov v : V} {Q : Hp → Prop} (hc : ∀ c ∈ cs, ∃ C, ClsI X c C ∧ NoAttr X.K C fn) (R : Rel X.K X.mg Z φ S H) (d2 : Dat X.K X.mg φ (gnd Z φ S H) o ov) (dd : Dat X.K X.mg φ (gnd Z φ S H) d v) (e : stFld cs fn o d S = some S')
    (hQ : ∀ H', Rel X.K X.mg Z φ S' H' → Evo Z φ S H φ S' H' → Q H') : ∃ a C dx fs, ov = .ref a ∧ H a = some (.ins C dx fs) ∧ Cls X.K C ∧ NoAttr X.K C fn ∧ fs.length < 1000 ∧ Q (upd H a (.ins C dx (putF fn v fs))) := by
  unfold stFld at e
  split at e
  · rename_i n
    unfold Dat at d2
    obtain ⟨a, rfl, ha⟩ := d2
    split at e
    · rename_i c fs hS
      split at e
      · rename_i hm
        cases e
        obtain ⟨hm, hlt⟩ := hm
        obtain ⟨A, dx, fvs, q0, q1, q2⟩ := R.ob n a _ ha hS
        obtain ⟨C, cl, na⟩ := hc c hm
        rw [cl.mg] at q0
        cases q0
        refine ⟨a, A, dx, fvs, rfl, q1, cl.cls, na, by rw [datF_length q2]; exact hlt, ?_⟩
        obtain ⟨R3, E3⟩ := R.mutate (u := .ins c (putFD fn d fs)) (ho := .ins A dx (putF fn v fvs)) ha hS rfl rfl ⟨A, dx, _, cl.mg, upd_same, datF_put dd q2⟩
        exact hQ _ R3 E3
      · cases e
    · cases e
  · cases e
end
end DL

/-! The data layer, part 62: xs[::2], xs[1::2] of a list. -/
namespace L2
open PySem PySem.Spec PyProof.Rows
section
variable {X : Cx}
end
end L2
namespace DL
open PySem PySem.Spec PyProof.Rows L2
section
variable {X : Cx} {W : WX} {e : Expr} {fe : FE} {pos p1 p3 : Pos}
end
end DL

/-! The data layer, part 63: zip of a list and a text. -/
namespace L2
open PySem PySem.Spec PyProof.Rows
section
variable {prog : Program} {w : World} {A : Around}
end
end L2
namespace DL
open PySem PySem.Spec PyProof.Rows L2
def signsD (x : Str) : List D := x.cps.toList.map fun c => D.str ⟨#[c]⟩
def zipS : List D → Store → Res ItD := fun ds S => match ds with
  | [d, .str x] => (match asL S d with
    | some xs => .ok ⟨zipD xs (signsD x), some (d, xs)⟩ S
    | none => .stuck)
  | _ => .stuck
def fZipS (fa : FA) : FI := fun ρ S => (fa ρ S).bind zipS
section
variable {X : Cx} {W : WX} {k : Nat} {pos p : Pos}
@[simp] theorem e_fZipS (fa : FA) (ρ : EnvD) (S : Store) : fZipS fa ρ S = (fa ρ S).bind zipS := rfl
end
end DL

/-! The data layer, part 64: t.get(k) of tables of the top; a call of a name that holds one of several defs; xs[i] op= e; o.f op= e. -/
namespace DL
open PySem PySem.Spec PyProof.Rows L2
section
variable {X : Cx} {W : WX} {k k' : Nat} {o e f : Expr} {fo fe ff : FE} {apos cpos pos : Pos}
/-! ### a name that holds one of several defs -/
inductive DspT (X : Cx) (sel : List (Nat × Nat)) (np k' : Nat) : List (Str × Sem') → Prop
  | nil : DspT X sel np k' []
  | cons {c : Str} {sem : Sem'} {l : List (Str × Sem')} {k : Nat} {f : Addr} {fd : FuncData} {ps : List Str} (F : FnG X.prog X.w X.K X.mg X.base k f fd ps (spD X.K X.mg ps.length sem)) (hm : X.mg c = some (.ref f)) (hk : PySem.W.keepIn X.K (.ref f) = true)
      (hb : KB X.K fd ps np [] (fun ds es => pick sel ds es [])) (r : DspT X sel np k' l) (hle : k ≤ k' := by decide) (hl : ps.length = np := by rfl) : DspT X sel np k' ((c, sem) :: l)
theorem DspT.get {sel : List (Nat × Nat)} {np : Nat} {l : List (Str × Sem')} {c : Str} {sem : Sem'} {f : Addr} (h : DspT X sel np k' l) (e : l.lookup c = some sem) (hm : X.mg c = some (.ref f)) :
    ∃ (k : Nat) (fd : FuncData) (ps : List Str), FnG X.prog X.w X.K X.mg X.base k f fd ps (spD X.K X.mg ps.length sem) ∧ k ≤ k' ∧ PySem.W.keepIn X.K (.ref f) = true ∧ ps.length = np ∧ KB X.K fd ps np [] (fun ds es => pick sel ds es []) := by
  induction h with
  | nil => cases e
  | @cons c' sem' l k f' fd ps F hm' hk hb r hle hl ih =>
    rw [List.lookup_cons] at e
    by_cases q : (c == c') = true
    · rw [q] at e
      cases e
      obtain rfl : c = c' := beq_iff_eq.mp q
      rw [hm] at hm'
      cases hm'
      exact ⟨k, fd, ps, F, hle, hk, hl, hb⟩
    · have q : (c == c') = false := by simpa using q
      rw [q] at e
      exact ih e
/-! ### xs[i] op= e, o.f op= e -/
def rGetL (K : PySem.W.Frag) : V → V → Hp → VK → Prop := fun x y H Q => ∃ p xs i v, x = .ref p ∧ y = .int i ∧ 0 ≤ i ∧ SqL K H p xs ∧ atI xs i = some v ∧ Q v H
theorem get_list : PGet X (rGetL X.K) := by
  intro pins s σ H x y v u Q I rx ry h
  obtain ⟨p, xs, i, z, rfl, rfl, h0, hq, he, q⟩ := h
  cases rx
  obtain ⟨t, rfl⟩ := ry
  obtain ⟨its, r, pl, hz⟩ := I.list hq
  obtain ⟨j, h1, h2, h3, h4, h5⟩ := atI_get he
  obtain ⟨w, ew, rw'⟩ := r.get h2
  have hl := r.length
  have hn := line63
  have hj : i.toNat = j := by
    rw [seqIndex_of h0 h5] at h1
    exact Option.some.inj h1
  exact wpAny_getItem_list pl.isList h0 (by omega) (by rw [hj]; simpa using ew) ⟨z, H, I, rw', q⟩
def gAtL (x y : D) (S : Store) : Res D := match asL S x, y with
  | some ds, .int i => if 0 ≤ i then (match atI ds i with
    | some d => .ok d S
    | none => .stuck) else .stuck
  | _, _ => .stuck
def gAugL (g : G2) (fo fi fe : FE) : FS := fun ρ S => (fo ρ S).into ρ fun x S => (fi ρ S).into ρ fun y S => (gAtL x y S).into ρ fun d S => (fe ρ S).into ρ fun c S => (g d c S).into ρ fun z S => match storeAt x y z S with
  | some S => .nx ρ S
  | none => .stuck
theorem ds_augL (C : Cn X W k) {i : Expr} {fi : FE} {op : Operator} {t : TIp} {g : G2} {tpos : Pos} (hop : PIp X op t) (hg : IpD X t g) (ho : DE X W o fo) (hi : DE X W i fi) (he : DE X W e fe)
    (ha : ∀ ov iv new, augStore i ov iv new = (do holding [new, ov, iv] (setItem ov iv new); release [new, ov, iv] []; pure .next) := by intros; rfl) :
    DS X W (.AugAssign (.Subscript o i tpos) op e pos) (gAugL g fo fi fe) := by
  obtain ⟨to, po, qo⟩ := ho.ex
  obtain ⟨ti, pi, qi⟩ := hi.ex
  obtain ⟨te, pe, qe⟩ := he.ex
  refine .mk (ps_augS po pi get_list pe hop (set_any C) ha) fun Z φ S ρ σ H Dd R sl w => qo Z φ S ρ σ H _ R sl (w.into sl fun x S1 ov φ1 H1 R1 E1 dx w1 => ?_)
  refine qi Z φ1 S1 ρ σ H1 _ R1 (sl.evo E1) (w1.into (sl.evo E1) fun y S2 iv φ2 H2 R2 E2 dy w2 => ?_)
  unfold gAtL at w2
  split at w2
  · rename_i ds j e1
    split at w2
    · rename_i h0
      cases q : atI ds j with
      | none => rw [q] at w2; exact w2.elim
      | some d =>
        rw [q] at w2
        cases dInt dy
        obtain ⟨p, vs, rfl, h1, h2⟩ := asL_ok R2 (Dat.evo E2 dx) e1
        obtain ⟨z, h3, h4⟩ := atI_dat h2 q
        refine ⟨p, vs, j, z, rfl, rfl, h0, h1, h3, ?_⟩
        have sl2 := (sl.evo E1).evo E2
        refine qe Z φ2 S2 ρ σ H2 _ R2 sl2 ((show WantS _ _ _ _ _ _ _ _ from w2).into sl2 fun c S3 cv φ3 H3 R3 E3 dc w3 => ?_)
        refine hg Z φ3 S3 H3 d c z cv _ _ R3 (Dat.evo E3 h4) dc (w3.into (sl2.evo E3) fun u S4 uv φ4 H4 R4 E4 du w4 => ?_)
        cases hst : storeAt x (.int j) u S4 with
        | none => rw [hst] at w4; exact w4.elim
        | some S5 =>
          rw [hst] at w4
          exact storeAt_ok R4 (Dat.evo E4 (Dat.evo E3 (Dat.evo E2 dx))) (dat_int j) du hst fun H5 R5 E5 => w4 σ φ4 H5 R5 E5 (((sl2.evo E3).evo E4).evo E5)
    · exact w2.elim
  · exact w2.elim
end
end DL

/-! The data layer, part 65: a, *b = t, of a tuple. -/
namespace PySem
open PySem.Spec PySem.Calls PyProof.Rows PySem.W L2
section
variable {prog : Program} {w : World} {A : Around} {E : Value → Shared → Prop} {s : Shared}
end
end PySem
namespace DL
open PySem L2
section
variable {X : Cx} {W : WX} {k : Nat} {e : Expr} {fe : FE} {pos : Pos}
end
end DL

/-! The data layer, part 66: a head's hook with tables of the top, where defs make lambdas. -/
namespace DL
open PySem PySem.Spec PyProof.Rows L2
end DL

/-! The data layer, part 67: {None: .., "x": ..}.get(e, f): a display of constants asked at once. -/
namespace DL
open PySem PySem.Spec PyProof.Rows L2
def lfV : Leaf → V
  | .none => .non
  | .num i => .int i
  | .text x => .str x
def mergeL (kvs more : List (Leaf × V)) : List (Leaf × V) := more.foldl (fun acc kv => putK acc kv.1 kv.2) kvs
theorem KV.mergeL : ∀ {more : List (Leaf × V)} {rs : List (Leaf × Value)} {kvs : List (Leaf × V)} {vs : List (Leaf × Value)}, KV more rs → KV kvs vs → KV (DL.mergeL kvs more) (merged vs rs) := by
  intro more rs kvs vs r
  unfold KV at r
  induction r generalizing kvs vs with
  | nil => intro q; exact q
  | @cons p q ps qs h t ih =>
    intro r0
    have e : KV (putK kvs p.1 p.2) (stored vs q.1 q.2) := by
      have := r0.put p.1 h.2
      rw [← h.1]; exact this
    exact ih e
section
variable {X : Cx} {W : WX} {pos apos cpos : Pos} {keys : List (Option Expr)} {values : List Expr} {kvs : List (Leaf × V)} {e f : Expr} {fe ff : FE} {k : Nat}
/-! ### constants -/
def cnV : D → Option V
  | .int i => some (.int i)
  | .str x => some (.str x)
  | _ => none
def lookL (tab : List (Leaf × D)) (j : Leaf) : Option D := (tab.find? fun q => decide (q.1 = j)).map (·.2)
/-- the values of a table of constants -/
inductive CnT : List (Leaf × D) → List (Leaf × V) → Prop
  | nil : CnT [] []
  | cons {j : Leaf} {d : D} {v : V} {r : List (Leaf × D)} {s : List (Leaf × V)} (h : cnV d = some v) (t : CnT r s) : CnT ((j, d) :: r) ((j, v) :: s)
theorem CnT.look {tab : List (Leaf × D)} {l : List (Leaf × V)} (h : CnT tab l) (j : Leaf) : (lookL tab j = none ∧ valV l j = none) ∨ ∃ d v, lookL tab j = some d ∧ valV l j = some v ∧ cnV d = some v := by
  induction h with
  | nil => exact .inl ⟨rfl, rfl⟩
  | @cons i d v r s h t ih =>
    by_cases e : i = j
    · exact .inr ⟨d, v, by simp [lookL, List.find?_cons, e], by simp [valV, List.find?_cons, e], h⟩
    · rcases ih with ⟨a, b⟩ | ⟨d', v', a, b, c⟩
      · exact .inl ⟨by simpa [lookL, List.find?_cons, e] using a, by simpa [valV, List.find?_cons, e] using b⟩
      · exact .inr ⟨d', v', by simpa [lookL, List.find?_cons, e] using a, by simpa [valV, List.find?_cons, e] using b, c⟩
/-- the display's text: keys and values as the table has them -/
structure CDs (X : Cx) (pos : Pos) (keys : List (Option Expr)) (values : List Expr) (tab : List (Leaf × D)) : Prop where
  ex : ∃ kvs : List (Leaf × V), CnT tab kvs ∧ PPs X pos keys values (kvs.map fun kv => (tC (lfV kv.1), tC kv.2))
end
end DL

/-! The data layer, part 68: d["x"] += n. -/
namespace DL
open PySem PySem.Spec PyProof.Rows L2
end DL

/-! The data layer, part 69: within an except suite: iterators' ends, all(..). -/
namespace DL
open PySem PySem.Spec PyProof.Rows L2
/-! ### an iterator's end while an exception is handled -/
section
variable {prog : Program} {w : World} {A : Around} {E : Value → Shared → Prop} {s : Shared}
end
/-! ### where an exception is handled -/
/-- the handled exception's object p stands in every state, out of the reach of what is tracked -/
structure HotK (X : Cx) (p : Addr × Obj) : Prop where
  hot : L2H.Hot1 X.A p
  pin : ∀ {pins : List (Addr × Obj)} {σ : L2.St} {H : Hp} {s : Shared}, L2.Inv X pins σ H s → L2H.PinOk X.stack H s p
section
variable {X : Cx} {p : Addr × Obj} {pins : List (Addr × Obj)} {σ : L2.St} {H : Hp} {s : Shared}
theorem HotK.at (h : HotK X p) (J : L2.Inv X pins σ H s) : HotX.HotAt X.A p.1 s.heap := by
  obtain ⟨a, vs, b, c⟩ := h.hot
  exact ⟨a, p.2, vs, (h.pin J).get, b, c⟩
theorem HotK.of_pin (h : L2H.Hot1 X.A p) (hp : p ∈ X.pn) : HotK X p := ⟨h, fun J => by
  obtain ⟨a, b, c, d, e⟩ := J.pin p (List.mem_append_left _ hp)
  exact ⟨a, b, fun z => (List.mem_cons.mp (J.stkSub p.1 z)).elim c d, e⟩⟩
theorem HotK.blk (h : HotK X p) (J : L2.Inv X pins σ H s) {scope : Scope} {ce : Env} {fp : List Addr} (hf : p.1 ∉ fp) : HotK (X.blk s H scope ce fp) p := by
  have P := h.pin J
  refine ⟨h.hot, fun {pins' σ' H' s'} K => ⟨?_, ?_, P.nofs, P.nocell⟩⟩
  · exact K.base.keep p.1 p.2 P.get P.free P.nofs hf
  · exact K.base.free p.1 p.2 P.get P.free hf
end
end DL

/-! The data layer, part 70: loops and list comprehensions within an except suite. -/
namespace DL
open PySem PySem.Spec PyProof.Rows L2
/-- an iterator's turns while an exception is handled -/
structure TurnQ (P : Program) (w : World) (K : PySem.W.Frag) (tg : Expr) (J : It) (fp : List Addr) (it : Addr) (tn : Nat → Heap → Prop) : Prop where
  obj : ∀ i h, tn i h → ∀ b ∈ fp, ∃ o, h.get? b = some o ∧ ∀ v, o.data ≠ .cell v
  keep : ∀ i h h', tn i h → (∀ b ∈ fp, ∀ o, h.get? b = some o → h'.get? b = some o) → tn i h'
  item : ∀ (X : Cx), X.prog = P → X.w = w → X.K = K → ∀ (i : Nat) (pins : List (Addr × Obj)) (s : Shared) (σ : L2.St) (H : Hp) (E : Value → Shared → Prop), L2.Inv X pins σ H s → (∀ b ∈ fp, FpOk X pins H b) → tn i s.heap → J.go i H →
    wpAny (model P w) X.A (pyNext (.ref it)) (fun r t => ∃ u, r = some u ∧
      wpAny (model P w) X.A (letOwnedTupleGo tg (.ref it) u) (fun _ t' => ∃ x H', L2.Inv X pins σ H' t' ∧ RelV x u ∧ J.yld i H x H' ∧ tn (i + 1) t'.heap ∧ ∀ b ∈ fp, H' b = none) E t) E s
  done : ∀ (X : Cx), X.prog = P → X.w = w → X.K = K → ∀ (x1 : Addr), x1 ∉ fp → ∀ (i : Nat) (pins : List (Addr × Obj)) (s : Shared) (σ : L2.St) (H : Hp) (E : Value → Shared → Prop), HotX.HotAt X.A x1 s.heap → L2.Inv X pins σ H s → (∀ b ∈ fp, FpOk X pins H b) → tn i s.heap → J.stop i H →
    wpAny (model P w) X.A (pyNext (.ref it)) (fun r t => r = none ∧ L2.Inv X pins σ H t) E s
  self : ∀ (A : Around) (i : Nat) (s : Shared) (Q : Value → Shared → Prop) (E : Value → Shared → Prop), tn i s.heap → Q (.ref it) s → wpAny (model P w) A (pyIter (.ref it)) Q E s
section
variable {P : Program} {w : World} {K : PySem.W.Frag} {tg : Expr}
end
/-- an iterator has come, apart from p -/
def PIEQ (X : Cx) (pins : List (Addr × Obj)) (σ : L2.St) (tg : Expr) (p : Addr × Obj) (R : It → Hp → Prop) (itv : Value) (t : Shared) : Prop :=
  ∃ (it : Addr) (fp : List Addr) (tn : Nat → Heap → Prop) (J : It) (H' : Hp), itv = .ref it ∧ L2.Inv X pins σ H' t ∧ TurnQ X.prog X.w X.K tg J fp it tn ∧ tn 0 t.heap ∧ (∀ b ∈ fp, FpOk X pins H' b) ∧ p.1 ∉ fp ∧ R J H'
structure PIQ (X : Cx) (p : Addr × Obj) (tg iter : Expr) (wi : TI) : Prop where
  run : ∀ (pins : List (Addr × Obj)) (s : Shared) (σ : L2.St) (H : Hp) (R : It → Hp → Prop), L2.Inv X pins σ H s → wi σ H R →
    wpAny (model X.prog X.w) X.A (eval iter X.env) (fun v t => wpAny (model X.prog X.w) X.A (pyIter v) (PIEQ X pins σ tg p R) X.xe t) X.xe s
section
variable {X : Cx} {p : Addr × Obj} {tg : Expr}
theorem PIQ.weak {iter : Expr} {t t' : TI} (h : PIQ X p tg iter t) (i : ∀ σ H R, t' σ H R → t σ H R) : PIQ X p tg iter t' := ⟨fun pins s σ H R I q => h.run pins s σ H R I (i _ _ _ q)⟩
theorem PIQ.or {iter : Expr} {t t' : TI} (h : PIQ X p tg iter t) (h' : PIQ X p tg iter t') : PIQ X p tg iter (fun σ H R => t σ H R ∨ t' σ H R) := ⟨fun pins s σ H R I q => q.elim (h.run pins s σ H R I) (h'.run pins s σ H R I)⟩
end
end DL

/-! The data layer, part 71: within an except suite: the rules that ask what is under way around the code; calls; try with such suites. -/
namespace DL
open PySem PySem.Spec PyProof.Rows L2
/-- what is known of a context in which an exception is handled -/
structure CnQ (X : Cx) (W : WX) (k : Nat) : Prop where
  room : L2H.RoomH k X.A
  gd : X.A.guards = some []
  hot : ∃ p, HotK X p
  nd : X.N.Nodup
  po : PassesOwn (model X.prog X.w) X.A X.env X.xe
  tk : L2N.Takes X W
/-- a def's promise where an exception is handled -/
structure FnGQ (P : Program) (w : World) (K : PySem.W.Frag) (mg : Str → Option Value) (base : Heap) (k : Nat) (f : Addr) (fd : FuncData) (ps : List Str) (sp : Sp) : Prop where
  len : ∀ vs H Q E, sp vs H Q E → vs.length = ps.length
  run : ∀ (A : Around) (outer : List Env) (s : Shared) (H : Hp) (args : Args) (us : List Value) (vs : List V) (Q : VK) (E : XK) (p : Addr × Obj), L2H.RoomH k A → A.guards = some [] → L2H.Hot1 A p → L2H.PinOk outer H s p → Env0 P w K mg base A outer s H →
    BindsTo s fd args (ps.zip us) → Vals vs us → sp vs H Q E → codeAny (model P w) A (.call (.ref f) args) (CR (L2N.CX P w) outer P w H s Q E) s
section
variable {X : Cx} {W : WX} {k k' n np : Nat} {f C : Addr} {fd : FuncData} {ps ks : List Str} {sp : Sp} {sem cs : Sem'} {x m : Str} {p pos apos : Pos} {e o : Expr} {es : List Expr} {kws : List Keyword} {fa fk : FA} {fo fe : FE} {g : FS} {gD : List D → List D → List D}
/-! ### what is walked -/
end
end DL

/-! The data layer, part 72: within an except suite: loops; try whose suites hold calls. -/
namespace DL
open PySem PySem.Spec PyProof.Rows L2
section
variable {X : Cx} {W : WX} {k : Nat} {g : FS} {pos : Pos}
end
/-! ### clauses without names, whose suites know the handled exception -/
structure HdQ where
  c : Value
  ts : TS
def wHdsQ (K : PySem.W.Frag) (Wo : WX) (Dd : Ends) : List HdQ → WX
  | [] => Wo
  | q :: r => fun cls d σ H => ∃ b, PySem.W.exmOne K cls q.c = some b ∧ (b = true → q.ts Dd σ H) ∧ (b = false → wHdsQ K Wo Dd r cls d σ H)
inductive HdsQ (X : Cx) : List ExceptHandler → List HdQ → Prop
  | nil : HdsQ X [] []
  | plain {x : Str} {c : Value} {ts : TS} {b0 : Stmt} {bs : List Stmt} {np hp : Pos} {hds : List ExceptHandler} {l : List HdQ} (hc : Names X x c)
      (hs : ∀ (a : Addr) (ob : Obj) (pn : List (Addr × Obj)), L2H.Hot1 (X.suite a ((a, ob) :: pn)).A (a, ob) → PSs (X.suite a ((a, ob) :: pn)) (b0 :: bs) ts) (r : HdsQ X hds l) : HdsQ X (.ExceptHandler (some (.Name x np)) none (b0 :: bs) hp :: hds) (⟨c, ts⟩ :: l)
section
variable {X : Cx} {body : List Stmt} {h0 : ExceptHandler} {hds : List ExceptHandler} {l : List HdQ} {pos : Pos} {tb : WX → TS} {Wo : WX}
end
section
variable {X : Cx} {W : WX} {k : Nat} {pos : Pos}
/-- such clauses and their mirrors -/
inductive HdsDQ (X : Cx) (k : Nat) : List ExceptHandler → List HM → List HdQ → Prop
  | nil : HdsDQ X k [] [] []
  | plain {x : Str} {c : Value} {t : List (Str × Bool)} {g : FS} {b0 : Stmt} {bs : List Stmt} {np hp : Pos} {hds : List ExceptHandler} {ms : List HM} {l : List HdQ} (hc : Names X x c) (ht : ∀ C b A, t.lookup C = some b → X.mg C = some (.ref A) → PySem.W.exmOne X.K (.ref A) c = some b)
      (hs : ∀ (a : Addr) (pn : List (Addr × Obj)), CnQ (X.suite a pn) W0 k → DSs (X.suite a pn) W0 (b0 :: bs) g) (r : HdsDQ X k hds ms l) : HdsDQ X k (.ExceptHandler (some (.Name x np)) none (b0 :: bs) hp :: hds) (⟨t, none, g⟩ :: ms) (⟨c, tDS X W0 g⟩ :: l)
theorem Cn.hot (C : Cn X W k) {a : Addr} {ob : Obj} {pn : List (Addr × Obj)} (h : L2H.Hot1 (X.suite a ((a, ob) :: pn)).A (a, ob)) : CnQ (X.suite a ((a, ob) :: pn)) W0 k :=
  ⟨⟨C.room.dp, C.room.un⟩, C.gd, ⟨_, HotK.of_pin h List.mem_cons_self⟩, C.nd, PassesOwn.never, takes0N⟩
theorem HdsDQ.toT (C : Cn X W k) : ∀ {hds : List ExceptHandler} {ms : List HM} {l : List HdQ}, HdsDQ X k hds ms l → HdsQ X hds l
  | _, _, _, .nil => .nil
  | _, _, _, .plain hc _ hs r => .plain hc (fun a ob pn h => hs a ((a, ob) :: pn) (C.hot h)) (r.toT C)
theorem HdsDQ.want {Dd : Ends} {Z φ : List Addr} {S : Store} {H : Hp} {ρ : EnvD} {σ : L2.St} {Cl : Str} {fs : List (Str × D)} {A : Addr} {dx : Option Addr} (hA : X.mg Cl = some (.ref A)) (R : Rel X.K X.mg Z φ S H) (sl : Slots X.K X.mg φ (gnd Z φ S H) ρ σ) (xd : ExD X.K X.mg φ (gnd Z φ S H) fs dx) :
    ∀ {hds : List ExceptHandler} {ms : List HM} {l : List HdQ}, HdsDQ X k hds ms l → WantS X W Z φ S H (hdM ms Cl fs ρ S) Dd → wHdsQ X.K W Dd l (.ref A) dx σ H
  | _, _, _, .nil, w => w A dx σ φ H hA R Evo.refl sl xd
  | _, _, _, .plain (c := c) (t := t) (g := g) hc ht hs r, w => by
    unfold hdM at w
    cases e : t.lookup Cl with
    | none => simp only [e] at w; exact w.elim
    | some b =>
      simp only [e] at w
      refine ⟨b, ht Cl b A e hA, fun hb => ?_, fun hb => ?_⟩
      · subst hb
        refine ⟨Z, φ, S, ρ, R, sl, ?_⟩
        have w1 : WantS X W Z φ S H (g ρ S).calm Dd := w
        revert w1
        cases g ρ S <;> intro w1
        · exact w1
        · exact w1
        · exact w1
        · exact w1
        · exact w1.elim
        · exact w1
      · subst hb
        exact r.want hA R sl xd w
end
end DL

/-! The data layer, part 73: a sum of lists that is changed later. -/
namespace DL
open PySem PySem.Spec PyProof.Rows L2
section
variable {X : Cx} {W : WX} {a b : Expr} {fa fb : FE} {pos : Pos}
end
end DL

/-! The data layer, part 74: list.clear. -/
namespace DL
open PySem PySem.Spec PyProof.Rows L2
section
variable {X : Cx} {W : WX} {o : Expr} {fo : FE} {pos apos cpos : Pos}
end
end DL

/-! The data layer, part 75: a loop over the zip of two lists that are objects. -/
namespace DL
open PySem PySem.Spec PyProof.Rows L2
section
variable {X : Cx} {W : WX} {k : Nat} {g : FS} {pos p : Pos}
end
end DL

/-! The data layer, part 76: dicts whose keys are tuples of whole numbers and truths. -/
namespace DL
open PySem PySem.Spec PyProof.Rows L2
section
variable {X : Cx} {W : WX} {k0 : Nat} {pins : List (Addr × Obj)} {σ : L2.St} {H : Hp} {s : Shared}
/-! ### the layer -/
variable {φ : List Addr} {G : Hp} {Z : List Addr} {S : Store}
end
end DL

/-! The data layer, part 77: list(range(a, b)). -/
namespace DL
open PySem PySem.Spec PyProof.Rows L2
section
variable {X : Cx} {W : WX} {k : Nat} {a b : Expr} {fa fb : FE} {p p2 pos cpos : Pos}
end
end DL

/-! The data layer, part 78: own exceptions whose own __init__ keeps its arguments; e.f of a caught one. -/
namespace DL
open PySem PySem.Spec PyProof.Rows L2
/-! ### the class -/
theorem oexB_ok {K : PySem.W.Frag} {C : Addr} (h : oexB K C = true) : OexC K C := by
  obtain ⟨q, h⟩ := He.ba h
  obtain ⟨h1, h⟩ := He.ba h
  obtain ⟨h2, h⟩ := He.ba h
  obtain ⟨h3, h4⟩ := He.ba h
  refine ⟨?_, He.eqO_ok h1, of_decide_eq_true h2, eq_of_beq h3, h4⟩
  split at q
  · rename_i dd cd sl ho
    split at q
    · rename_i C' bm k0 k1 k2 k3 n k5 hm hs
      simp only [Bool.and_eq_true, beq_iff_eq, Bool.not_eq_true'] at q
      obtain ⟨⟨⟨⟨rfl, rfl⟩, hdel⟩, hdict⟩, ht⟩ := q
      obtain ⟨nm, bs, mro, ns, qn, hd, sn, sub, ab, col, del⟩ := cd
      dsimp only at hm hdel hdict
      subst hm hdel hdict
      have hsl : sl = #[k0, k1, k2, k3, some (.builtin "ValueError.__new__"), k5] := by
        obtain ⟨l⟩ := sl
        simp only at hs
        rw [hs]
      subst hsl
      exact ⟨nm, qn, ns, bs, bm, sn, sub, ab, col, dd, k0, k1, k2, k3, k5, ho, ht⟩
    · cases q
  · cases q
/-- C keeps its arguments as fs; B, over it, has no __init__ of its own -/
structure XiC (K : PySem.W.Frag) (C B fI : Addr) (fs : List Str) : Prop where
  oc : OexC K C
  rd : ClX.CRead K B (.type "type")
  iv : PySem.W.findCls K (.ref B) (.type "type") "__init__" = some (.val (.builtin "ValueError.__init__"))
  no : ∀ f ∈ fs, PySem.W.findIn K (.ref C) f = some none
  ini : PySem.W.findIn K (.ref C) "__init__" = some (some (.ref fI))
  tI : PySem.W.typeIn K (.ref fI) = some (.type "function")
  xf : XfC K C
theorem xiB_ok {K : PySem.W.Frag} {c b : Str} {fs : List Str} (h : xiB K c b fs = true) : XiC K (He.ga K c) (He.ga K b) (He.fAd K (c, some "__init__")) fs := by
  obtain ⟨h1, h⟩ := He.ba h
  obtain ⟨h2, h⟩ := He.ba h
  obtain ⟨h3, h⟩ := He.ba h
  obtain ⟨h4, h⟩ := He.ba h
  obtain ⟨h5, h⟩ := He.ba h
  obtain ⟨h6, h⟩ := He.ba h
  obtain ⟨h7, h8⟩ := He.ba h
  refine ⟨oexB_ok h1, ⟨h2, He.eqO_ok h3⟩, ?_, fun f hf => He.eqO_ok (List.all_eq_true.mp h5 f hf), He.eqO_ok h6, eq_of_beq h7, xfB_ok h8⟩
  split at h4
  · rename_i n e
    rw [e, eq_of_beq h4]
  · cases h4
/-! ### its __init__ -/
section
variable {X : Cx} {e : Expr} {es : List Expr} {ta : TA} {x : Str} {B : Addr} {p p1 p2 pos : Pos}
theorem pe_veinitC {pl : Sem Bool} (hg : Gl X x) (hm : X.mg x = some (.ref B)) (rd : ClX.CRead X.K B (.type "type")) (iv : PySem.W.findCls X.K (.ref B) (.type "type") "__init__" = some (.val (.builtin "ValueError.__init__"))) (ha : PA X (e :: es) ta)
    (hdb : (x == ("__debug__" : Str)) = false := by decide)
    (hc : eval (.Call (.Attribute (.Name x p1) "__init__" p2) (e :: es) [] pos) X.env = (do
      let ov ← eval (.Name x p1) X.env
      standAt p2.atName
      let (f, first) ← holding [ov] (getMethod ov "__init__" pl)
      callWith pos f first (backTo pos (starEach (e :: es) X.env)) (backToKw pos (keywordEach [] X.env))) := by rfl)
    (he : starEach (e :: es) X.env = (false, eval e X.env) :: starEach es X.env := by rfl) (hpl : (backTo pos (starEach es X.env)).any (·.1) = false := by rfl) :
    PE X (.Call (.Attribute (.Name x p1) "__init__" p2) (e :: es) [] pos) (tVeI X.K ta) := by
  refine ⟨fun pins s σ H Q I h => ?_⟩
  refine PySem.W.methodCall_KW (pl := pl) (ld_glob I hg hm ?_ hdb) hc
  refine PySem.W.method_cls I.kIn rd.ga (PySem.W.cls_value I.kIn rd.rd iv rfl ?_)
  show wpAny _ _ (callWith pos (Value.builtin "ValueError.__init__") [] (backTo pos (starEach (e :: es) X.env)) []) _ _ _
  refine PyProof.Rows.callWith_method1 (thn (ha.run pos pins _ σ H _ (I.tok _) h) fun us s1 ⟨vs, H1, I1, r1, a, C, ws, ev, hl, T, ea, q⟩ => ?_) he hpl
  subst ev
  cases r1 with
  | @cons _ u0 _ ur ra rw' =>
    obtain rfl : u0 = Value.ref a := ra
    have hlen : ur.length ≤ sizeLine := by
      rw [← Paired.length rw', sizeLine_eq]
      omega
    exact oinit_ok T I1 ea hlen fun s' J => ⟨.non, H1, J, rfl, q⟩
end
def tFlds (K : PySem.W.Frag) : List Str → Nat → TS
  | [], _ => tNext
  | f :: fs, i => tSeq (tOst K f (tVar 0) (tVar i)) (tFlds K fs (i + 1))
def tInit (K : PySem.W.Frag) (m : Str) (fs : List Str) : TS := tSeq (tDrop (tVeI K (tCons (tVar 0) (tCons (tC (.str m)) tNil)))) (tFlds K fs 1)
theorem flds_run {K : PySem.W.Frag} {a C dx : Addr} (T : OexC K C) (nd : dx ≠ a) {D : Ends} {σ : L2.St} (h0 : σ[0]? = some (some (.ref a))) : ∀ (fs : List Str) (ys : List V) (i : Nat) (fs0 : List (Str × V)) (H : Hp), ys.length = fs.length → (∀ f ∈ fs, PySem.W.findIn K (.ref C) f = some none) → (∀ (j : Nat) (y : V), ys[j]? = some y → σ[i + j]? = some (some y)) →
    H a = some (exo a C (some dx)) → H dx = some (exd dx fs0) → fs0.length + fs.length ≤ 900 → (∀ H', H' a = some (exo a C (some dx)) → H' dx = some (exd dx ((fs.zip ys).reverse ++ fs0)) → (∀ b, b ≠ dx → H' b = H b) → D.nx σ H') → tFlds K fs i D σ H
  | [], ys, i, fs0, H, l, _, _, ha, hd, _, q => by
    have : ys = [] := List.length_eq_zero_iff.mp l
    subst this
    exact q H ha hd fun _ _ => rfl
  | f :: fs, [], i, fs0, H, l, _, _, _, _, _, _ => by simp at l
  | f :: fs, y :: ys, i, fs0, H, l, no, hv, ha, hd, hl, q => by
    refine ⟨y, hv 0 y rfl, .ref a, h0, a, C, rfl, T, no f List.mem_cons_self, .inr ⟨dx, fs0, ha, hd, by simp at hl; omega, ?_⟩⟩
    refine flds_run T nd h0 fs ys (i + 1) ((f, y) :: fs0) _ (by simpa using l) (fun g hg => no g (List.mem_cons_of_mem _ hg)) (fun j z hz => by rw [show i + 1 + j = i + (j + 1) by omega]; exact hv (j + 1) z (by simpa using hz)) ?_ upd_same (by simp at hl ⊢; omega) fun H' q1 q2 q3 => q H' q1 ?_ fun b hb => ?_
    · rw [upd_ne (Ne.symm nd)]; exact ha
    · rw [q2]; simp
    · rw [q3 b hb, upd_ne hb]
/-- what such an __init__ keeps -/
def spX (K : PySem.W.Frag) (fs : List Str) : Sp := fun vs H Q _ => ∃ (a C : Addr) (ys : List V), vs = .ref a :: ys ∧ ys.length = fs.length ∧ OexC K C ∧ (∀ f ∈ fs, PySem.W.findIn K (.ref C) f = some none) ∧ H a = some (exo a C none) ∧
  ∀ dx H', H dx = none → dx ≠ a → H' a = some (exo a C (some dx)) → H' dx = some (exd dx (fs.zip ys).reverse) → (∀ b, b ≠ dx → b ≠ a → H' b = H b) → Q .non H'
theorem init_run {K : PySem.W.Frag} {m f : Str} {fs : List Str} (hf : fs.length ≤ 800) {N : List Str} {vs : List V} {H : Hp} {Q : VK} {E : XK} (hN : vs.length ≤ N.length) (h : spX K (f :: fs) vs H Q E) : tInit K m (f :: fs) { nx := fun _ H' => Q .non H', rt := Q } (L2.start N vs) H := by
  obtain ⟨a, C, ys, rfl, l, T, no, ha, q⟩ := h
  have at_ : ∀ (j : Nat) (y : V), (V.ref a :: ys)[j]? = some y → (L2.start N (V.ref a :: ys))[j]? = some (some y) := fun j y hy => by
    have hj := (List.getElem?_eq_some_iff.mp hy).1
    unfold L2.start
    rw [List.getElem?_append_left (by simpa using hj), List.getElem?_map, hy]
    rfl
  have h0 := at_ 0 (.ref a) rfl
  cases ys with
  | nil => simp at l
  | cons y ys =>
    refine ⟨.ref a, h0, a, C, [.str m], rfl, by simp, T, ha, ?_⟩
    refine ⟨y, at_ 1 y rfl, .ref a, h0, a, C, rfl, T, no f List.mem_cons_self, .inl ⟨ha, fun dx hdx hne => ?_⟩⟩
    refine flds_run T hne h0 fs ys (1 + 1) [(f, y)] _ (by simpa using l) (fun g hg => no g (List.mem_cons_of_mem _ hg)) (fun j z hz => by rw [show 1 + 1 + j = j + 2 by omega]; exact at_ (j + 2) z (by simpa using hz)) upd_same (by rw [upd_ne hne, upd_same]) (by simp; omega) fun H' q1 q2 q3 => q dx H' hdx hne q1 (by rw [q2]; simp) fun b hb hba => ?_
    rw [q3 b hb, upd_ne hba, upd_ne hb]
/-- THE RULE: such an __init__ -/
theorem fnX {P : Program} {w : World} {K : PySem.W.Frag} {mg : Str → Option Value} {base : Heap} {x qual : Str} {params : Arguments} {body : List Stmt} {scope : Scope} {dvs : List V} {kws : List (Str × V)} {f : Addr} {fd : FuncData} {N ps : List Str} {k : Nat} {m g : Str} {fs : List Str}
    (F : FunD K x qual params body scope dvs kws f fd) (S : FnScope N ps scope) (hps : ps.length = (g :: fs).length + 1) (hNl : ps.length ≤ N.length) (hf : fs.length ≤ 800)
    (hb : ∀ (cdv : Value) (A : Around) (outer : List Env) (s : Shared) (H : Hp) (E : XK), Cn (cxOf (L2N.CX P w) P w K mg base N qual scope f cdv A outer s H E) (fun c d _ H' => E c d H') k →
      PSs (cxOf (L2N.CX P w) P w K mg base N qual scope f cdv A outer s H E) body (tInit K m (g :: fs))) : FnG P w K mg base (k + 1) f fd ps (spX K (g :: fs)) := by
  obtain ⟨oc, od, dV, kV, doc, pm, an, cdv, ct, osl, rfl, lk, hcd, _, _⟩ := F.ex
  have len : ∀ vs H Q E, spX K (g :: fs) vs H Q E → vs.length = ps.length := fun vs H Q E ⟨a, C, ys, e, l, _⟩ => by rw [e, hps, ← l]; rfl
  refine ⟨len, fun A outer s H args us vs Q E hr hgd e0 hbd r hsp => ?_⟩
  have hlen := len _ _ _ _ hsp
  have hl : us.length = ps.length := r.length.symm.trans hlen
  have keep : ∀ b o, base.get? b = some o → s.heap.get? b = some o := fun b o e => (e0.bs b o e).1
  have inK : K.In s.heap := e0.mod.kin.keeps keep
  have par : ∀ y ∈ ps.zip us, scope.names.lookup y.1 = some .local ∨
      (scope.names.lookup y.1 = some .cell ∧ ((cellsFrom (s.heap.objs.size + 1) scope.names []).lookup y.1).isSome = true) := by
    rintro ⟨n, v⟩ hy
    exact (S.par n (List.of_mem_zip hy).1).imp id fun q => ⟨q, PySem.W.cellsFrom_some _ _ _ (.inl q)⟩
  refine codeAny_call_function hr.depth (inK _ _ lk) rfl S.co S.gen rfl
    (PySem.W.codeRec_of inK hcd) (hbd _ _ _ _ ?_)
  refine wpAny_newFunctionEnv_cells S.kind par fun env he s1 entered => ?_
  subst he
  refine ⟨(e0.mod.nolimit.keeps keep).keeps entered.toInCall.keep, codeAny_func ?_⟩
  have body' := hb cdv A outer s H E ⟨hr.deeper _, hgd, rfl, S.nd, passes_of rfl, L2N.takes_of rfl rfl rfl rfl⟩
  have I0 := inv_start (CX := L2N.CX P w) (mg := mg) (base := base) (cd := cdv) (qual := qual) (f := f) (E := E) S hr.hd e0 hlen r entered
  have q0 := init_run (m := m) hf (N := N) (by omega) hsp
  refine wpAny_mono (PSs.run body' [] s1 (L2.start N vs) H _ I0 q0) (fun fl s' hs => ?_) fun _ _ z => z
  have fin : ∀ {σ' : L2.St} {H' : Hp} {v : V} {u : Value}, Inv (cxOf (L2N.CX P w) P w K mg base N qual scope f cdv A outer s H E) [] σ' H' s' → RelV v u →
      Q v H' → CE outer P w H s Q u s' := fun J rv q => ⟨_, _, J.os, J.bare, J.base, J.hok, rv, q⟩
  cases fl with
  | ret u =>
    obtain ⟨v, σ', H', J, rv, q⟩ := hs
    exact fin J rv q
  | next =>
    obtain ⟨σ', H', J, q⟩ := hs
    exact fin (v := .non) J rfl q
  | brk => exact hs.choose_spec.choose_spec.2.elim
  | cont => exact hs.choose_spec.choose_spec.2.elim
/-! ### raise C(e, ..) -/
theorem bindX {K : PySem.W.Frag} {x qual : Str} {params : Arguments} {body : List Stmt} {scope : Scope} {dvs : List V} {kws : List (Str × V)} {f : Addr} {fd : FuncData} {ps : List Str} (F : FunD K x qual params body scope dvs kws f fd) (hd : dvs = [])
    (h : ∀ (kV doc pm : Value) (an : Option Addr) (cdv ct : Value) (us : List Value), us.length = ps.length → bindArgs (PySem.W.fnOf x qual params body scope .none kV doc pm an cdv ct) ⟨us, []⟩ = pure (ps.zip us)) (s : Shared) (us : List Value) (X : K.In s.heap) (l : us.length = ps.length) : BindsTo s fd ⟨us, []⟩ (ps.zip us) := by
  obtain ⟨oc, od, dV, kV, doc, pm, an, cdv, ct, osl, rfl, lk, hcd, hD, hK⟩ := F.ex
  rcases hD with ⟨_, rfl⟩ | ⟨e, _⟩
  · exact .of_eq (h kV doc pm an cdv ct us l)
  · exact absurd hd e
def gRaiX (x : Str) (fs : List Str) (fa : FA) : FS := fun ρ S => (fa ρ S).into ρ fun ds S => if ds.length = fs.length then .ex x (fs.zip ds).reverse ρ S else .stuck
section
variable {X : Cx} {W : WX} {k k' : Nat} {C B fI : Addr} {fs ps : List Str} {fd : FuncData} {x : Str} {e : Expr} {es : List Expr} {fa : FA} {p pos pos' : Pos}
theorem pmk_X {ta : TA} (T : XiC X.K C B fI fs) (F1 : FnG X.prog X.w X.K X.mg X.base k fI fd ps (spX X.K fs)) (hps : ps.length = fs.length + 1) (hbd : ∀ (s : Shared) (us : List Value), X.K.In s.heap → us.length = ps.length → BindsTo s fd ⟨us, []⟩ (ps.zip us)) (Cc : Cn X W k') (hk : k + 1 ≤ k') (hg : Gl X x) (hm : X.mg x = some (.ref C)) (ha : PA X (e :: es) ta)
    (hdb : (x == ("__debug__" : Str)) = false := by decide) (he : starEach (e :: es) X.env = (false, eval e X.env) :: starEach es X.env := by rfl) (hpl : (backTo pos (starEach es X.env)).any (·.1) = false := by rfl) :
    L2N.PMk X (.Call (.Name x p) (e :: es) [] pos) (fun σ H Q => ta σ H fun vs H1 => vs.length = fs.length ∧ vs.length ≤ 1000 ∧ ∀ d, H1 d = none → Q (.ref C) (some d) (upd H1 d (.xd (fs.zip vs).reverse))) := by
  intro pins s σ H Q I h
  obtain ⟨nm, q, N, bs, bm, sn, sub, ab, col, dd, k0, k1, k2, k3, k5, hC, hbm⟩ := T.oc.cls
  refine wpAny_Call_Name_kw (ld_glob I hg hm ?_ hdb)
  refine PySem.W.callWith_K (h₀ := X.base) I.ok.mod.kin T.oc.kC (thn (ha.run pos pins s σ H _ I h) fun us s1 ⟨vs, H1, I1, r1, hz, hz2, q1⟩ => ⟨I1.kIn, ?_⟩) he hpl
  show wpAny _ _ (call (.ref C) us) _ _ _
  obtain ⟨hp, g, dr, tk, os⟩ := s1
  have hsz : hp.objs.size ≤ hp.objs.size + 1 := Nat.le_succ _
  have hn : H1 (hp.objs.size + 1) = none := I1.hok.fresh hsz
  have kk : ∀ b o, hp.get? b = some o → ((hp.push (PySem.W.kdv_tup us)).push (PySem.HandSPX.excO C hp.objs.size)).get? b = some o := fun b o e => Heap.get?_push_of_some _ (Heap.get?_push_of_some _ e)
  have hget : ((hp.push (PySem.W.kdv_tup us)).push (PySem.HandSPX.excO C hp.objs.size)).get? (hp.objs.size + 1) = some (PySem.HandSPX.excO C hp.objs.size) := by heap_get
  have I2 : Inv X pins σ (upd H1 (hp.objs.size + 1) (exo (hp.objs.size + 1) C none)) ⟨(hp.push (PySem.W.kdv_tup us)).push (PySem.HandSPX.excO C hp.objs.size), g, dr, tk, os⟩ :=
    I1.laid (t' := tk) (a := hp.objs.size + 1) (o := exo (hp.objs.size + 1) C none) (h' := (hp.push (PySem.W.kdv_tup us)).push (PySem.HandSPX.excO C hp.objs.size)) kk hsz (exo_ok hget)
  have r2 : Vals (V.ref (hp.objs.size + 1) :: vs) (Value.ref (hp.objs.size + 1) :: us) := .cons rfl r1
  have hl : (Value.ref (hp.objs.size + 1) :: us).length = ps.length := by rw [hps, ← hz, ← r2.length]; rfl
  have hus : us.length ≤ sizeLine := by
    rw [← Paired.length r1, sizeLine_eq]
    omega
  have sp : spX X.K fs (V.ref (hp.objs.size + 1) :: vs) (upd H1 (hp.objs.size + 1) (exo (hp.objs.size + 1) C none)) (fun v H2 => v = .non ∧ ∃ (d : Addr), H2 (hp.objs.size + 1) = some (exo (hp.objs.size + 1) C (some d)) ∧ H2 d = some (exd d (fs.zip vs).reverse) ∧ H1 d = none ∧ d ≠ hp.objs.size + 1 ∧ (∀ b, b ≠ d → b ≠ hp.objs.size + 1 → H2 b = H1 b)) (fun _ _ _ => False) :=
    ⟨hp.objs.size + 1, C, vs, rfl, hz, T.oc, T.no, upd_same, fun dx H' n ne e1 e2 e3 => ⟨rfl, dx, e1, e2, by rw [upd_ne ne] at n; exact n, ne, fun b hb hba => by rw [e3 b hb hba, upd_ne hba]⟩⟩
  refine wpAny_call (PySem.HandSPX.call_own PySem.F.excBase_ValueError (fun Y => PySem.HandSPX.refsVE_contains Y bm hbm) (I1.kIn _ _ hC) (PySem.W.looks_findIn I1.kIn T.ini) (fun self => PySem.W.bind_fn I1.kIn self T.tI) hus
    (codeAny_mono (F1.run _ X.stack _ _ ⟨Value.ref (hp.objs.size + 1) :: us, []⟩ (Value.ref (hp.objs.size + 1) :: us) _ _ (fun _ _ _ => False) ((Cc.room.mono hk).make C us []) (guards_make Cc.gd C us []) (I2.env0.make C us []) (hbd _ _ I2.kIn hl) r2 sp) fun r s' hq' => ?_))
  cases r with
  | error er =>
    obtain ⟨_, _, _, _, _, _, _, _, _, _, _, _, hE⟩ := hq'
    exact hE.elim
  | ok fl =>
    cases fl with
    | ret u =>
      obtain ⟨v, H2, os2, bare2, un2, hok2, rv, ev, d, ea, ed, hd1, nd, oth⟩ := hq'
      subst ev
      obtain ⟨h2, g2, d2, t2, os'⟩ := s'
      obtain ⟨t0, G, J, kG, ge, hoe, na⟩ := mk_end0 (d2 := d2) (t2 := t2) I1 hsz kk un2 hok2 os2 bare2 ea ed hd1
      have e2 : upd (del H2 (hp.objs.size + 1)) d (.xd (fs.zip vs).reverse) = upd H1 d (.xd (fs.zip vs).reverse) := funext fun b => by
        by_cases hb : b = d
        · subst hb; rw [upd_same, upd_same]
        · rw [upd_ne hb, upd_ne hb]
          by_cases hba : b = hp.objs.size + 1
          · subst hba; rw [del_same, hn]
          · rw [del_ne hba, oth b hb hba]
      rw [e2] at J na
      exact ⟨rv, hp.objs.size + 1, _, _, ⟨G, g2, d2, t2, os'⟩, _, .ref C, some d, rfl, J, kG, ge, hoe, ⟨rfl, rfl, fun vs hv => by cases hv; rfl⟩, rfl, rfl, na, rfl, bare2, raises_own T.oc.exC T.oc.tyC, q1 d hd1⟩
    | next => exact False.elim hq'
    | brk => exact False.elim hq'
    | cont => exact False.elim hq'
theorem datF_zip {K : PySem.W.Frag} {mg : Str → Option Value} {φ : List Addr} {G : Hp} : ∀ {fs : List Str} {ds : List D} {vs : List V} {gs : List (Str × D)} {us : List (Str × V)}, DatL K mg φ G ds vs → DatF K mg φ G gs us → DatF K mg φ G ((fs.zip ds).reverse ++ gs) ((fs.zip vs).reverse ++ us)
  | [], ds, vs, gs, us, _, h => by simpa using h
  | f :: fs, ds, vs, gs, us, d, h => by
    cases ds with
    | nil =>
      unfold DatL at d
      subst d
      simpa using h
    | cons x ds =>
      obtain ⟨v, r, rfl, h1, h2⟩ := d.uncons
      have := datF_zip (fs := fs) h2 (gs := (f, x) :: gs) (us := (f, v) :: us) (by unfold DatF; exact ⟨v, us, rfl, h1, h⟩)
      simpa using this
theorem ds_raiseX (T : XiC X.K C B fI fs) (F1 : FnG X.prog X.w X.K X.mg X.base k fI fd ps (spX X.K fs)) (hps : ps.length = fs.length + 1) (hbd : ∀ (s : Shared) (us : List Value), X.K.In s.heap → us.length = ps.length → BindsTo s fd ⟨us, []⟩ (ps.zip us)) (Cc : Cn X W k') (hg : Gl X x) (hm : X.mg x = some (.ref C)) (ha : DA X W (e :: es) fa) (hfs : fs ≠ []) (hk : k + 1 ≤ k' := by decide)
    (hl : fs.length ≤ 800 := by decide) (hdb : (x == ("__debug__" : Str)) = false := by decide) (he : starEach (e :: es) X.env = (false, eval e X.env) :: starEach es X.env := by rfl) (hpl : (backTo pos (starEach es X.env)).any (·.1) = false := by rfl) :
    DS X W (.Raise (some (.Call (.Name x p) (e :: es) [] pos)) none pos') (gRaiX x fs fa) := by
  obtain ⟨t, pa, q⟩ := ha.ex
  refine .mk (L2N.ps_raise Cc.calm Cc.tk (pmk_X T F1 hps hbd Cc hk hg hm pa hdb he hpl)) fun Z φ S ρ σ H Dd R sl w => q Z φ S ρ σ H _ R sl (w.into sl fun ds S1 vs φ1 H1 R1 E1 d w1 => ?_)
  by_cases l : ds.length = fs.length
  · rw [if_pos l] at w1
    have lv : vs.length = fs.length := d.length.trans l
    refine ⟨lv, by omega, fun a ha => ?_⟩
    obtain ⟨R2, E2, g2⟩ := R1.fresh (o := HO.xd (fs.zip vs).reverse) ha
    have dz := datF_zip (fs := fs) (d.mono E2.pre E2.ext) (gs := []) (us := []) (by unfold DatF; rfl)
    rw [List.append_nil, List.append_nil] at dz
    refine w1 C (some a) σ φ1 _ hm R2 E2 ((sl.evo E1).evo E2) (.inr ⟨fun z => ?_, a, _, rfl, g2, dz⟩)
    have := congrArg List.length z
    simp [l] at this
    exact hfs this
  · rw [if_neg l] at w1
    exact w1.elim
end
/-! ### e.f of a caught one -/
def asX : D → Option (Str × List (Str × D))
  | .exc C fs => some (C, fs)
  | _ => none
def fFldX (cs : List Str) (f : Str) (fo : FE) : FE := fun ρ S => (fo ρ S).bind fun o S => match asX o with
  | some (c, fs) => if c ∈ cs then (match fs.lookup f with
    | some d => .ok d S
    | none => .stuck) else .stuck
  | none => .stuck
section
variable {X : Cx} {W : WX} {o : Expr} {fo : FE} {f : Str} {pos : Pos} {cs : List Str}
theorem pe_fldX {to : TE} (ho : PE X o to) (hb : attributeBase o f X.env (eval o X.env) = eval o X.env := by rfl) :
    PE X (.Attribute o f pos) (fun σ H Q => to σ H fun x H1 => ∃ (a A dd : Addr) (fs : List (Str × V)) (v : V), x = .ref a ∧ XfC X.K A ∧ PySem.W.findIn X.K (.ref A) f = some none ∧ H1 a = some (ExcV (.ref A) (some dd) a) ∧ H1 dd = some (.xd fs) ∧ fs.lookup f = some v ∧ Q v H1) := by
  refine ⟨fun pins s σ H Q I h => ?_⟩
  refine attr_of hb (thn (ho.run pins s σ H _ I h) fun u s1 hh => ?_)
  obtain ⟨x, H1, I1, rx, a, A, dd, fs, v, ex, T, hno, ea, ed, l, q⟩ := hh
  subst ex
  obtain rfl : u = Value.ref a := rx
  obtain ⟨oe, vs, ho, hz, hd⟩ : ∃ (ob : Obj) (fs : Array Value), s1.heap.get? a = some ob ∧ L2N.Zn (.ref A) (some dd) ob ∧ ob.data = .fields fs := by
    have y : ObjOk X.prog X.w H1 s1.heap a (ExcV (.ref A) (some dd) a) := I1.hok a _ ea
    exact y.1
  have hx : ObjOk X.prog X.w H1 s1.heap dd (.xd fs) := I1.hok dd _ ed
  obtain ⟨mA, hns, hr⟩ := hx
  obtain ⟨od, hod, hl⟩ := lookIn_ns hns
  obtain ⟨u, hu, ru⟩ := RelO.some_of (v := v) (o := mA f) (by rw [← l]; exact hr f)
  have J : PySem.W.InstAt s1.heap a oe A (some od) := ⟨ho, hz.1, by unfold PySem.W.notCls; rw [hd] <;> rfl, by rw [hz.2.1]; exact hod⟩
  exact HandSPX.exc_get I1.kIn J T.ga T.gg T.exC (PySem.W.findObj_own T.hdC hno rfl (by rw [hl, hu])) (handed_of ru) ⟨v, H1, I1.tok _, ru, q⟩
theorem de_fldX (ho : DE X W o fo) (hcs : ∀ c ∈ cs, ∃ A, X.mg c = some (.ref A) ∧ XfC X.K A ∧ PySem.W.findIn X.K (.ref A) f = some none) (hb : attributeBase o f X.env (eval o X.env) = eval o X.env := by rfl) : DE X W (.Attribute o f pos) (fFldX cs f fo) := by
  obtain ⟨t, p, q⟩ := ho.ex
  refine .mk (pe_fldX p hb) fun Z φ S ρ σ H Q R sl w => q Z φ S ρ σ H _ R sl (w.bind fun x S1 v φ1 H1 R1 E1 d w1 => ?_)
  cases x with
  | exc C fs =>
    simp only [asX] at w1
    by_cases hc : C ∈ cs
    · rw [if_pos hc] at w1
      obtain ⟨A, hA, T, no⟩ := hcs C hc
      unfold Dat at d
      obtain ⟨a, A', dx, rfl, hA', ea, hf⟩ := d
      rw [hA] at hA'
      injection hA' with hA'
      injection hA' with hA'
      subst hA'
      cases e : fs.lookup f with
      | none => rw [e] at w1; exact w1.elim
      | some y =>
        rw [e] at w1
        rcases hf with ⟨rfl, _⟩ | ⟨_, b, fvs, rfl, eb, df⟩
        · simp at e
        · obtain ⟨v, e2, dv⟩ := (datF_lookup (m := f) df).1 y e
          exact ⟨a, A, b, fvs, v, rfl, T, no, gnd_some ea, gnd_some eb, e2, w1.now R1 dv⟩
    · rw [if_neg hc] at w1
      exact w1.elim
  | _ => exact w1.elim
end
end DL

/-! The data layer, part 79: deep `not in`. -/
namespace DL
open PySem PySem.Spec PyProof.Rows L2
section
variable {X : Cx}
end
end DL

/-! The data layer, part 80: dict.update with a dict. -/
namespace DL
open PySem PySem.Spec PyProof.Rows L2
section
variable {X : Cx} {W : WX} {o e : Expr} {fo : FE} {pos apos cpos : Pos}
end
end DL

/-! The data layer, part 81: isinstance of own exceptions that have fields. -/
namespace DL
open PySem PySem.Spec PyProof.Rows L2
def rIsF (K : PySem.W.Frag) : List V → Hp → VK → Prop := fun xs H Q => ∃ (a A : Addr) (dx : Option Addr) (c : V) (cv : Value) (b : Bool), xs = [.ref a, c] ∧ H a = some (ExcV (.ref A) dx a) ∧ (dx = none ∨ ∃ d fvs, dx = some d ∧ H d = some (.xd fvs)) ∧ (∀ u, RelV c u → u = cv) ∧ ExcC K A ∧ PySem.W.kitOne K (.ref A) cv = some b ∧ Q (.bl b) H
theorem call_isF {X : Cx} : CallR X (.builtin "isinstance") (rIsF X.K) := by
  intro pins s σ H xs us Q I rel h
  obtain ⟨a, A, dx, c, cv, b, rfl, ha, hdx, hcv, EC, e, q⟩ := h
  cases rel with
  | cons r1 rest =>
    cases rest with
    | cons r2 rest =>
      cases rest
      cases r1
      cases hcv _ r2
      obtain ⟨⟨ob, vs, q1, q2, q3⟩, _, _⟩ := I.hok a _ ha
      have hcl : (PySem.W.clsIn X.K A).isSome = true := by
        obtain ⟨cd, hc, _⟩ := PySem.W.any_some EC.hd
        rw [hc]
        rfl
      have J : ∃ od, PySem.W.InstAt s.heap a ob A od := by
        rcases hdx with rfl | ⟨d, fvs, rfl, hd⟩
        · refine ⟨none, ?_⟩
          obtain ⟨oc, od, oda, osl⟩ := ob
          obtain ⟨z1, z2, _⟩ := q2
          dsimp only at z1 z2 q3
          subst z1 z2 q3
          exact ⟨q1, rfl, rfl, trivial⟩
        · obtain ⟨mA, ⟨od, es, ep, e2, _⟩, _⟩ := I.hok d _ hd
          refine ⟨some od, ?_⟩
          obtain ⟨oc, od', oda, osl⟩ := ob
          obtain ⟨z1, z2, _⟩ := q2
          dsimp only at z1 z2 q3
          subst z1 z2 q3
          exact ⟨q1, rfl, rfl, e2⟩
      obtain ⟨od, J⟩ := J
      exact PySem.W.kia_one (PySem.W.kitx_exc hcl EC.hg EC.hk EC.hs EC.ha EC.hn EC.ht EC.hm) I.kIn J e (fun z => nomatch z) fun tk => ⟨.bl b, H, I.kept (t' := tk) fun _ _ z => z, rfl, q⟩
section
variable {X : Cx} {W : WX} {k : Nat} {e b : Expr} {pos p : Pos}
def gIsF (t : List (Str × Bool)) (c : D) : GC := fun ds S => match ds with
  | [.exc C _, c'] => if isArg c c' then (match t.lookup C with
    | some b => .ok (.bl b) S
    | none => .stuck) else .stuck
  | _ => .stuck
theorem cd_isF {t : List (Str × Bool)} {c : D} {cv : Value} (hc : (∃ x A, c = .cls x ∧ X.mg x = some (.ref A) ∧ cv = .ref A) ∨ ∃ n, c = .ty n ∧ cv = .type n) (ht : ∀ C b A, t.lookup C = some b → X.mg C = some (.ref A) → ExcC X.K A ∧ PySem.W.kitOne X.K (.ref A) cv = some b) :
    CallD X (rIsF X.K) (gIsF t c) := fun Z φ S H ds vs Q E R d w => by
  unfold gIsF at w
  split at w
  · rename_i C fs c'
    obtain ⟨v, u, rfl, h1, h2⟩ := datL2 d
    obtain ⟨hi, w1⟩ := want_if w
    cases e : t.lookup C with
    | none => simp only [e] at w1; exact w1.elim
    | some b =>
      simp only [e] at w1
      unfold Dat at h1
      obtain ⟨a, A, dx, rfl, hA, ha, hx⟩ := h1
      obtain ⟨h3, h4⟩ := ht C b A e hA
      have ex : dx = none ∨ ∃ d fvs, dx = some d ∧ H d = some (.xd fvs) := hx.elim (fun z => .inl z.2) fun z => by
        obtain ⟨_, d, fvs, z1, z2, _⟩ := z
        exact .inr ⟨d, fvs, z1, gnd_sub _ _ z2⟩
      refine ⟨a, A, dx, u, cv, b, rfl, gnd_sub _ _ ha, ex, fun w' hw' => ?_, h3, h4, w1.now R (dat_bl _)⟩
      rcases hc with ⟨x, A', rfl, hm, rfl⟩ | ⟨n, rfl, rfl⟩
      · cases c' <;> simp only [isArg, Bool.false_eq_true, decide_eq_true_eq] at hi
        subst hi
        unfold Dat at h2
        obtain ⟨A2, rfl, q⟩ := h2
        rw [hm] at q
        cases q
        exact hw'
      · cases c' <;> simp only [isArg, Bool.false_eq_true, decide_eq_true_eq] at hi
        subst hi
        unfold Dat at h2
        subst h2
        exact hw'
  · exact w.elim
/-- isinstance(e, C) -/
theorem de_isF {c : Str} {A : Addr} {t : List (Str × Bool)} {fa : FA} (hg : Gl X "isinstance") (hm : X.mg "isinstance" = none) (hA : X.mg c = some (.ref A)) (ht : ∀ C b A', t.lookup C = some b → X.mg C = some (.ref A') → ExcC X.K A' ∧ PySem.W.kitOne X.K (.ref A') (.ref A) = some b) (ha : DA X W [e, b] fa)
    (he : starEach [e, b] X.env = (false, eval e X.env) :: starEach [b] X.env := by rfl) (hpl : (backTo pos (starEach [b] X.env)).any (·.1) = false := by rfl) : DE X W (.Call (.Name "isinstance" p) [e, b] [] pos) (fCB (gIsF t (.cls c)) fa) :=
  de_callB call_isF (cd_isF (.inl ⟨c, A, rfl, hA, rfl⟩) ht) hg hm (by rfl) ha (by decide) (by decide) he hpl
end
end DL

/-! The data layer, part 82: a head's run told in two parts (half of the defs' facts each): less memory a theorem. -/
namespace DL
open PySem PySem.Spec PyProof.Rows L2
end DL

/-! The data layer, part 83: list.insert. -/
namespace DL
open PySem PySem.Spec PyProof.Rows L2
section
variable {X : Cx} {W : WX} {o e : Expr} {es : List Expr} {fo : FE} {fa : FA} {pos apos cpos : Pos}
end
end DL

/-! The data layer, part 84: an instance made by keywords alone. -/
namespace DL
open PySem PySem.Spec PyProof.Rows L2
section
variable {X : Cx} {W : WX} {k k' : Nat} {ks ps : List Str} {kws : List Keyword} {fk : FA} {gD : List D → List D → List D} {sem : Sem'} {fd : FuncData} {f C : Addr} {pos p : Pos}
theorem de_make0 {c : Str} {mk : MakeT} (M : Mk X.K C f) (F : FnG X.prog X.w X.K X.mg X.base k f fd ps (spD X.K X.mg ps.length sem)) (hmk : MakeOk X c ps.length sem gD mk) (Cc : Cn X W k') (hg : Gl X c) (hm : X.mg c = some (.ref C)) (hb : KB X.K fd ps (0 + 1) ks gD)
    (hkw : DKw X W kws fk) (hle : k + 1 ≤ k' := by decide) (hall : (backToKw pos (keywordEach kws X.env)).all (·.1.isSome) = true := by rfl) (hks : (backToKw pos (keywordEach kws X.env)).filterMap (·.1) = ks := by rfl)
    (hdb : (c == ("__debug__" : Str)) = false := by decide)
    (hpl : ((backTo pos (starEach [] X.env)).any (·.1) || (backToKw pos (keywordEach kws X.env)).any (·.1.isNone)) = false := by rfl) :
    DE X W (.Call (.Name c p) [] kws pos) (fMake mk 0 ks.length (fun _ S => .ok [] S) fk) := by
  obtain ⟨tk, pk, qk⟩ := hkw.ex
  obtain ⟨g, gV, hB, hN⟩ := hb.ex
  refine .mk (t := fun σ H Q => tk σ H fun zs H2 => zs.length = ks.length ∧ ∀ x dx, H2 x = none → H2 dx = none → dx ≠ x → spD X.K X.mg ps.length sem (gV (.ref x :: []) zs) (upd (upd H2 dx (.own x)) x (.ins C dx [])) (fun v H2 => v = .non ∧ Q (.ref x) H2) (WE W σ)) ⟨fun pins s σ H Q I h => ?_⟩
    (fun Z φ S ρ σ H Q R sl w => ?_)
  · refine wpAny_Call_Name_kw (ld_glob I hg hm ?_ hdb)
    refine PySem.W.callWith_KW0 (first := []) (h₀ := X.base) I.ok.mod.kin M.kp hall ?_ hpl
    refine thn (pk.run pos pins s σ H _ I h) fun ws s2 ⟨zs, H2, I2, rz, l2, q2⟩ => ⟨I2.kIn, ?_⟩
    rw [hks]
    exact run_makeG (vs := []) M F Cc hle hB I2 .nil rz rfl l2 q2
  · have w : Want X.K X.mg (RDat X.K X.mg) Z φ S H ((fk ρ S).bind fun es S => if ([] : List D).length = 0 ∧ es.length = ks.length then mk [] es S else .stuck) Q (WE W σ) := w
    refine qk Z φ S ρ σ H _ R sl (w.bind fun es S2 zs φ2 H2 R2 E2 d2 w2 => ?_)
    obtain ⟨⟨l1, l2⟩, w3⟩ := want_if w2
    exact ⟨by rw [d2.length, l2], fun x dx hx hd hne => hmk C gV Z φ2 S2 H2 [] es [] zs Q _ hm hN R2 DatL.nil d2 w3 x dx hx hd hne⟩
end
end DL

/-! The data layer, part 85: dict(d), sorted(d) of texts, d.pop(k). -/
namespace DL
open PySem PySem.Spec PyProof.Rows L2
section
variable {X : Cx} {W : WX} {k : Nat} {e o : Expr} {fo fe : FE} {p pos apos cpos : Pos}
/-! ### dict(d) -/
def rDictC : List V → Hp → VK → Prop := fun xs H Q => ∃ (a : Addr) (kvs : List (Key × V)), xs = [.ref a] ∧ Rd H a (.dK kvs) ∧ ∀ p, H p = none → Q (.ref p) (upd H p (.dK kvs))
theorem call_dictC : CallR X (.type "dict") rDictC := by
  intro pins s σ H xs us Q I r q
  obtain ⟨a, kvs, ex, hd, q⟩ := q
  subst ex
  obtain ⟨u, eu, rx⟩ := vals1 r
  subst eu
  obtain rfl : u = Value.ref a := rx
  exact d_copyOf I hd fun p s' hp I' => ⟨.ref p, _, I', rfl, q p hp⟩
def gDictC : GC := fun ds S => match ds with
  | [d] => match asD S d with
    | some ks => .ok (.oid S.length) (S ++ [.dic ks])
    | none => .stuck
  | _ => .stuck
theorem dat_newD {K : PySem.W.Frag} {mg : Str → Option Value} {Z φ : List Addr} {S : Store} {H : Hp} (R : Rel K mg Z φ S H) {ks : List (Key × D)} {kvs : List (Key × V)} (h : DatK K mg φ (gnd Z φ S H) ks kvs) {p : Addr} (hp : H p = none) :
    Rel K mg Z (φ ++ [p]) (S ++ [.dic ks]) (upd H p (.dK kvs)) ∧ Evo Z φ S H (φ ++ [p]) (S ++ [.dic ks]) (upd H p (.dK kvs)) ∧ Dat K mg (φ ++ [p]) (gnd Z (φ ++ [p]) (S ++ [.dic ks]) (upd H p (.dK kvs))) (.oid S.length) (.ref p) := by
  have lv : liveA (φ ++ [p]) (S ++ [.dic ks]) = liveA φ S ++ [p] := by rw [liveA_snoc R.len]; rfl
  have ext : Same (gnd Z φ S H) (gnd Z (φ ++ [p]) (S ++ [.dic ks]) (upd H p (.dK kvs))) := fun a o h => by
    obtain ⟨h1, h2⟩ := without_some.mp h
    refine without_some.mpr ⟨fun q => h1 ?_, same_upd hp a o h2⟩
    rw [lv] at q
    rcases List.mem_append.mp q with z | z
    · exact List.mem_append_left _ z
    · rcases List.mem_append.mp z with z | z
      · exact List.mem_append_right _ z
      · rw [List.mem_singleton.mp z, hp] at h2
        cases h2
  obtain ⟨r, e⟩ := R.newOid (so := .dic ks) (same_upd (o := .dK kvs) hp) hp (by rw [upd_same]; exact fun z => nomatch z) rfl ⟨kvs, upd_same, DatK.mono ⟨[p], rfl⟩ ext _ _ h⟩
  refine ⟨r, e, ?_⟩
  unfold Dat
  exact ⟨p, rfl, by rw [List.getElem?_append_right (by rw [R.len]; exact Nat.le_refl _), ← R.len, Nat.sub_self]; rfl⟩
theorem cd_dictC : CallD X rDictC gDictC := fun Z φ S H ds vs Q E R d w => by
  unfold gDictC at w
  split at w
  · obtain ⟨v, rfl, h1⟩ := datL1 d
    split at w
    · rename_i ks e1
      obtain ⟨a, kvs, rfl, h2, h3⟩ := asD_ok R h1 e1
      refine ⟨a, kvs, rfl, .inl h2, fun p hp => ?_⟩
      obtain ⟨r, e, g⟩ := dat_newD R h3 hp
      exact w _ _ _ r e g
    · exact w.elim
  · exact w.elim
theorem de_dictC {fa : FA} (hg : Gl X "dict") (hm : X.mg "dict" = none) (ha : DA X W [e] fa) (he : starEach [e] X.env = (false, eval e X.env) :: starEach [] X.env := by rfl) (hpl : (backTo pos (starEach [] X.env)).any (·.1) = false := by rfl) :
    DE X W (.Call (.Name "dict" p) [e] [] pos) (fCB gDictC fa) :=
  de_callTy call_dictC cd_dictC hg hm (by rfl) ha (by decide) (by decide) he hpl
/-! ### sorted(d), d's keys texts -/
def leS (a b : Str) : Bool := !decide (b.cps.toList < a.cps.toList)
def srtS (xs : List Str) : List Str := xs.mergeSort leS
theorem leS_trans (a b c : Str) (h1 : leS a b = true) (h2 : leS b c = true) : leS a c = true := by
  simp only [leS, Bool.not_eq_true', decide_eq_false_iff_not, List.not_lt] at *
  exact List.le_trans h1 h2
theorem leS_total (a b : Str) : (leS a b || leS b a) = true := by
  simp only [leS, Bool.or_eq_true, Bool.not_eq_true', decide_eq_false_iff_not, List.not_lt]
  exact List.le_total _ _
theorem leS_anti {a b : Str} (h1 : leS a b = true) (h2 : leS b a = true) : a = b := by
  simp only [leS, Bool.not_eq_true', decide_eq_false_iff_not, List.not_lt] at *
  have e := List.le_antisymm h1 h2
  cases a; cases b
  simp only at e
  congr
  exact Array.toList_inj.mp e
theorem rising_pw : ∀ (p : Str) (l : List Str), risingS p l = true → (p :: l).Pairwise fun a b => leS a b = true
  | p, [], _ => by simp
  | p, x :: r, h => by
    unfold risingS at h
    obtain ⟨h1, h2⟩ := Bool.and_eq_true_iff.mp h
    have ih := rising_pw x r h2
    have px : leS p x = true := by
      unfold leS
      rw [← ltCps_eq]
      exact h1
    refine List.pairwise_cons.mpr ⟨fun y hy => ?_, ih⟩
    rcases List.mem_cons.mp hy with rfl | hy
    · exact px
    · exact leS_trans _ _ _ px ((List.pairwise_cons.mp ih).1 y hy)
theorem sortedS_pw {l : List Str} (h : sortedS l = true) : l.Pairwise fun a b => leS a b = true := by
  cases l with
  | nil => exact .nil
  | cons x r => exact rising_pw x r h
theorem eq_srtS {xs ys : List Str} (hp : ys.Perm xs) (h : sortedS ys = true) : ys = srtS xs :=
  List.Perm.eq_of_pairwise (fun a b _ _ h1 h2 => leS_anti h1 h2) (sortedS_pw h) (List.pairwise_mergeSort leS_trans leS_total xs) (hp.trans (List.mergeSort_perm xs leS).symm)
def keyS : Key → Option Str
  | .inr x => some x
  | .inl _ => none
def keysS : List (Key × D) → Option (List Str)
  | [] => some []
  | q :: r => (keyS q.1).bind fun x => (keysS r).map (x :: ·)
theorem keysS_ok : ∀ {ks : List (Key × D)} {xs : List Str}, keysS ks = some xs → ks.map (·.1) = xs.map Sum.inr
  | [], xs, h => by cases h; rfl
  | q :: r, xs, h => by
    obtain ⟨x, h1, h2⟩ := Option.bind_eq_some_iff.mp h
    obtain ⟨ys, h3, rfl⟩ := Option.map_eq_some_iff.mp h2
    have e : q.1 = .inr x := by
      unfold keyS at h1
      split at h1
      · rename_i z e
        cases h1
        exact e
      · cases h1
    rw [List.map_cons, List.map_cons, e, keysS_ok h3]
def gSortD : GC := fun ds S => match ds with
  | [d] => match (asD S d).bind keysS with
    | some xs => if xs.length < 64 then .ok (.lst ((srtS xs).map D.str)) S else .stuck
    | none => .stuck
  | _ => .stuck
theorem datK_fst {K : PySem.W.Frag} {mg : Str → Option Value} {φ : List Addr} {G : Hp} : ∀ {ks : List (Key × D)} {kvs : List (Key × V)}, DatK K mg φ G ks kvs → kvs.map (·.1) = ks.map (·.1)
  | [], _, h => by
    unfold DatK at h
    subst h
    rfl
  | (k, d) :: ks, _, h => by
    unfold DatK at h
    obtain ⟨v, r, rfl, _, h2⟩ := h
    rw [List.map_cons, List.map_cons, datK_fst h2]
theorem cd_sortD : CallD X (fun xs H Q => ∃ (a : Addr) (kvs : List (Key × V)) (ks : List Str), xs = [.ref a] ∧ Rd H a (.dK kvs) ∧ kvs.map (·.1) = ks.map Sum.inr ∧ ks.length < 64 ∧
    ∀ ys p, ys.Perm ks → sortedS ys = true → H p = none → Q (.ref p) (upd H p (.lst (ys.map V.str)))) gSortD := fun Z φ S H ds vs Q E R d w => by
  unfold gSortD at w
  split at w
  · obtain ⟨v, rfl, h1⟩ := datL1 d
    split at w
    · rename_i xs e1
      obtain ⟨ks, e2, e3⟩ := Option.bind_eq_some_iff.mp e1
      obtain ⟨a, kvs, rfl, h2, h3⟩ := asD_ok R h1 e2
      obtain ⟨hl, w1⟩ := want_if w
      refine ⟨a, kvs, xs, rfl, .inl h2, (datK_fst h3).trans (keysS_ok e3), hl, fun ys p hp hs hn => ?_⟩
      rw [eq_srtS hp hs]
      obtain ⟨r, e, g⟩ := dat_newL R (dat_strs (srtS xs)) hn
      exact w1 _ _ _ r e g
    · exact w.elim
  · exact w.elim
theorem de_sortD (C : Cn X W k) {fa : FA} (hg : Gl X "sorted") (hm : X.mg "sorted" = none) (ha : DA X W [e] fa) (he : starEach [e] X.env = (false, eval e X.env) :: starEach [] X.env := by rfl) (hpl : (backTo pos (starEach [] X.env)).any (·.1) = false := by rfl) :
    DE X W (.Call (.Name "sorted" p) [e] [] pos) (fCB gSortD fa) := de_callB (call_sortedD C.calm) cd_sortD hg hm (by rfl) ha (by decide) (by decide) he hpl
/-! ### d.pop(k) -/
def valD0 (ks : List (Key × D)) (k : Key) : Option D := (ks.find? fun q => decide (q.1 = k)).map (·.2)
def dropD (ks : List (Key × D)) (k : Key) : List (Key × D) := ks.filter fun q => decide (q.1 ≠ k)
theorem datK_drop {K : PySem.W.Frag} {mg : Str → Option Value} {φ : List Addr} {G : Hp} (k : Key) : ∀ {ks : List (Key × D)} {kvs : List (Key × V)}, DatK K mg φ G ks kvs → DatK K mg φ G (dropD ks k) (dropK kvs k)
  | [], _, h => by
    unfold DatK at h
    subst h
    unfold dropD dropK DatK
    rfl
  | (j, d) :: ks, _, h => by
    unfold DatK at h
    obtain ⟨v, r, rfl, h1, h2⟩ := h
    have ih := datK_drop k h2
    unfold dropD dropK at ih ⊢
    by_cases e : j = k
    · simp only [List.filter_cons, e, ne_eq, not_true_eq_false, decide_false, Bool.false_eq_true, if_false]
      exact ih
    · simp only [List.filter_cons, e, ne_eq, not_false_eq_true, decide_true, if_true]
      unfold DatK
      exact ⟨v, _, rfl, h1, ih⟩
theorem datK_val0 {K : PySem.W.Frag} {mg : Str → Option Value} {φ : List Addr} {G : Hp} (k : Key) : ∀ {ks : List (Key × D)} {kvs : List (Key × V)} {d : D}, DatK K mg φ G ks kvs → valD0 ks k = some d → ∃ v, valV kvs k = some v ∧ Dat K mg φ G d v
  | [], _, d, h, e => by cases e
  | (j, d0) :: ks, _, d, h, e => by
    unfold DatK at h
    obtain ⟨v, r, rfl, h1, h2⟩ := h
    by_cases q : j = k
    · have e' : d0 = d := by simpa [valD0, List.find?_cons, q] using e
      subst e'
      exact ⟨v, by simp [valV, List.find?_cons, q], h1⟩
    · have e' : valD0 ks k = some d := by simpa [valD0, List.find?_cons, q] using e
      obtain ⟨u, h3, h4⟩ := datK_val0 k h2 e'
      exact ⟨u, by rw [valV_neg q]; exact h3, h4⟩
def gPopK (x y : D) (S : Store) : Res D := match x with
  | .oid n => (match S[n]?, keyD y with
    | some (.dic ks), some j => (match valD0 ks j with
      | some d => .ok d (S.set n (.dic (dropD ks j)))
      | none => .stuck)
    | _, _ => .stuck)
  | _ => .stuck
def fPopK (fo fe : FE) : FE := fun ρ S => (fo ρ S).bind fun x S => if (asD S x).isSome then (fe ρ S).bind fun y S => gPopK x y S else .stuck
theorem de_popK (ho : DE X W o fo) (he : DE X W e fe) (m : M1 X o "pop" apos e cpos) : DE X W (.Call (.Attribute o "pop" apos) [e] [] cpos) (fPopK fo fe) := by
  obtain ⟨to, po, qo⟩ := ho.ex
  obtain ⟨te, pe, qe⟩ := he.ex
  refine .mk (pe_dpop1 po pe m) fun Z φ S ρ σ H Q R sl w => qo Z φ S ρ σ H _ R sl (w.bind fun x S1 v φ1 H1 R1 E1 dx w1 => ?_)
  obtain ⟨hs, w2⟩ := want_if w1
  obtain ⟨a, e1, e2⟩ := isD_of R1 dx hs
  refine ⟨a, e1, e2, qe Z φ1 S1 ρ σ H1 _ R1 (sl.evo E1) (w2.bind fun y S2 u φ2 H2 R2 E2 dy w3 => ?_)⟩
  have dx2 := Dat.evo E2 dx
  unfold gPopK at w3
  cases x with
  | oid n =>
    simp only at w3
    unfold Dat at dx2
    obtain ⟨a2, e3, ha⟩ := dx2
    rw [e1] at e3
    cases e3
    cases hS : S2[n]? with
    | none => rw [hS] at w3; exact w3.elim
    | some so =>
      cases so with
      | dic ks =>
        cases hk : keyD y with
        | none => simp only [hS, hk] at w3; exact w3.elim
        | some j =>
          simp only [hS, hk] at w3
          cases hv : valD0 ks j with
          | none => simp only [hv] at w3; exact w3.elim
          | some d =>
            simp only [hv] at w3
            obtain ⟨kvs, q1, q2⟩ := R2.ob n a _ ha hS
            obtain ⟨v2, v3, v4⟩ := datK_val0 j q2 hv
            obtain ⟨R3, E3⟩ := R2.mutate (u := .dic (dropD ks j)) (ho := .dK (dropK kvs j)) ha hS rfl rfl ⟨_, upd_same, datK_drop j q2⟩
            exact ⟨kvs, j, v2, q1, keyD_ok dy hk, v3, w3 _ φ2 _ R3 E3 (Dat.evo E3 v4)⟩
      | _ => simp only [hS] at w3; exact w3.elim
  | _ => exact w3.elim
end
end DL

/-! The data layer, part 86: o.f = p.g = e; o.f, p.g, q.h = a, b, c. -/
namespace DL
open PySem PySem.Spec PyProof.Rows L2
section
variable {X : Cx} {W : WX} {pos : Pos}
/-- o.f = p.g = value -/
def gFldC (cs : List Str) (f g : Str) (fo fp fe : FE) : FS := fun ρ S => (fe ρ S).into ρ fun d S => (fo ρ S).into ρ fun o1 S => match stFld cs f o1 d S with
    | some S => (fp ρ S).into ρ fun o2 S => (match stFld cs g o2 d S with
      | some S => .nx ρ S
      | none => .stuck)
    | none => .stuck
theorem ds_fldC {o p : Expr} {f g : Str} {cs : List Str} {value : Expr} {fo fp fe : FE} {p1 p2 : Pos} (ho : DE X W o fo) (hp : DE X W p fp) (hv : DE X W value fe)
    (hc : ∀ c ∈ cs, ∃ C, ClsI X c C ∧ NoAttr X.K C f) (hc2 : ∀ c ∈ cs, ∃ C, ClsI X c C ∧ NoAttr X.K C g)
    (ha : (assignEach [.Attribute o f p1, .Attribute p g p2] X.env).map (·.2) = [assign (.Attribute o f p1) X.env, assign (.Attribute p g p2) X.env] := by rfl) (hw : swappedStores [.Attribute o f p1, .Attribute p g p2] value X.env = pure none := by rfl) :
    DS X W (.Assign [.Attribute o f p1, .Attribute p g p2] value pos) (gFldC cs f g fo fp fe) := by
  obtain ⟨to, po, qo⟩ := ho.ex
  obtain ⟨tp, pp, qp⟩ := hp.ex
  obtain ⟨tv, pv, qv⟩ := hv.ex
  refine .mk (ps_asg2 pv (pg_att po) (pg_att pp) ha hw) fun Z φ S ρ σ H Dd R sl w => qv Z φ S ρ σ H _ R sl (w.into sl fun d S1 v φ1 H1 R1 E1 dd w1 => ?_)
  refine qo Z φ1 S1 ρ σ H1 _ R1 (sl.evo E1) (w1.into (sl.evo E1) fun o1 S2 ov φ2 H2 R2 E2 d2' w2 => ?_)
  cases q1 : stFld cs f o1 d S2 with
  | none => rw [q1] at w2; exact w2.elim
  | some S3 =>
    rw [q1] at w2
    simp only at w2
    refine stFld_ok (Q := fun H3 => gAtt X.K tp g v σ H3 Dd.nx) hc R2 d2' (Dat.evo E2 dd) q1 fun H3 R3 E3 => ?_
    refine qp Z φ2 S3 ρ σ H3 _ R3 (((sl.evo E1).evo E2).evo E3) ((w2.go E3).into (((sl.evo E1).evo E2).evo E3) fun o2 S4 ov2 φ3 H4 R4 E4 d3' w3 => ?_)
    cases q2 : stFld cs g o2 d S4 with
    | none => rw [q2] at w3; exact w3.elim
    | some S5 =>
      rw [q2] at w3
      simp only at w3
      exact stFld_ok (Q := fun H5 => Dd.nx σ H5) hc2 R4 d3' (Dat.evo E4 (Dat.evo E3 (Dat.evo E2 dd))) q2 fun H5 R5 E5 => w3 σ φ3 H5 R5 E5 (((((sl.evo E1).evo E2).evo E3).evo E4).evo E5)
end
end DL

/-! The data layer, part 87: {k: v for k, v in d.items() if k != x}. -/
namespace L2
open PySem PySem.Spec PyProof.Rows
section
variable {X : Cx}
/-- a dict, locked behind its evaluation -/
def tLk (X : Cx) (td : TE) : TE := fun σ H Q => td σ H fun x H1 => ∃ d kvs, x = .ref d ∧ H1 d = some (.dK kvs) ∧ ((kvs.map (·.1)).Nodup → kvs.length ≤ sizeLine → ∀ o, (∀ o' u', X.H_0 d ≠ some (.frz o' u')) → Q x (upd H1 d (.frz o (.dK kvs))))
theorem pe_lockV {e : Expr} {td : TE} (he : PE X e td) : PE X e (tLk X td) := by
  refine ⟨fun pins s σ H Q I h => thn (he.run pins s σ H _ I h) fun v s1 ⟨x, H1, I1, rx, d, kvs, ex, hd, q⟩ => ?_⟩
  obtain ⟨o, I2⟩ := I1.lock hd trivial
  obtain ⟨z, _, vs, rel, dd⟩ := dk_rd I1.hok (.inl hd)
  obtain ⟨_, _, _, _, _, _, _, _, hn⟩ := id dd
  exact ⟨x, _, I2, rx, q (by rw [rel.keys]; exact hn) z o (I1.nofrz hd trivial)⟩
/-- .. and let go at the end -/
def tUnl (X : Cx) (t : TE) : TE := fun σ H Q => t σ H fun v H' => ∃ d o u, H' d = some (.frz o u) ∧ (∀ o' u', X.H_0 d ≠ some (.frz o' u')) ∧ Q v (upd H' d u)
theorem pe_unlV {c : Expr} {t : TE} (hc : PE X c t) : PE X c (tUnl X t) :=
  ⟨fun pins s σ H Q I h => thn (hc.run pins s σ H _ I h) fun v s1 ⟨x, H1, I1, r, d, o, u, e, hn, q⟩ => ⟨x, _, I1.unlock e hn, r, q⟩⟩
theorem wipe_set {σ : St} {i : Nat} {x : Option V} : ∀ {vs : List Nat}, i ∈ vs → wipe (σ.set i x) vs = wipe σ vs
  | [], h => by cases h
  | v :: vs, h => by
    unfold wipe
    by_cases hv : i ∈ vs
    · rw [wipe_set hv]
    · have e : i = v := (List.mem_cons.mp h).resolve_right hv
      subst e
      have gen : ∀ vs : List Nat, i ∉ vs → wipe (σ.set i x) vs = (wipe σ vs).set i x := by
        intro vs
        induction vs with
        | nil => intro _; rfl
        | cons u us ih =>
          intro h
          unfold wipe
          rw [ih fun z => h (List.mem_cons_of_mem _ z), List.set_comm _ _ (fun z => h (by rw [z]; exact List.mem_cons_self))]
      rw [gen vs hv, List.set_set]
theorem wipe_wipe (σ : St) : ∀ vs : List Nat, wipe (wipe σ vs) vs = wipe σ vs := fun vs => by
  apply List.ext_getElem?
  intro i
  by_cases h : i ∈ vs
  · have key : ∀ τ : St, ∀ us : List Nat, i ∈ us → τ.length = σ.length → (wipe τ us)[i]? = if i < σ.length then some none else none := by
      intro τ us
      induction us with
      | nil => intro h; cases h
      | cons u us ih =>
        intro h hl
        unfold wipe
        by_cases hu : u = i
        · subst hu
          rw [List.getElem?_set]
          simp only [wipe_length, hl, if_true]
        · rw [List.getElem?_set_ne hu]
          exact ih ((List.mem_cons.mp h).resolve_left fun z => hu z.symm) hl
    rw [key _ vs h (wipe_length σ vs), key σ vs h rfl]
  · rw [wipe_out h]
end
end L2
namespace DL
open PySem PySem.Spec PyProof.Rows L2
theorem dropK_take {kvs : List (Key × V)} {i : Nat} {q : Key × V} (nm : Key) (h : kvs[i]? = some q) (nd : (kvs.map (·.1)).Nodup) :
    dropK (kvs.take (i + 1)) nm = if q.1 = nm then dropK (kvs.take i) nm else putK (dropK (kvs.take i) nm) q.1 q.2 := by
  have hlt := (List.getElem?_eq_some_iff.mp h).1
  have hq := (List.getElem?_eq_some_iff.mp h).2
  have e : kvs.take (i + 1) = kvs.take i ++ [q] := by rw [List.take_succ, h]; rfl
  rw [e]
  unfold dropK
  rw [List.filter_append]
  by_cases he : q.1 = nm
  · rw [if_pos he]
    simp [he]
  · rw [if_neg he]
    have no : (List.filter (fun kv => decide (kv.1 ≠ nm)) (kvs.take i)).any (fun kv => decide (kv.1 = q.1)) = false := by
      rw [List.any_eq_false]
      intro x hx hz
      have hx' := (List.mem_filter.mp hx).1
      obtain ⟨j, hj⟩ := List.mem_iff_getElem?.mp hx'
      rw [List.getElem?_take] at hj
      split at hj
      · rename_i hji
        have e1 : (kvs.map (·.1))[j]? = some q.1 := by rw [List.getElem?_map, hj]; simp at hz; simp [hz]
        have e2 : (kvs.map (·.1))[i]? = some q.1 := by rw [List.getElem?_map, h]; rfl
        have := (List.getElem?_inj (by rw [List.length_map]; omega) nd).mp (e1.trans e2.symm)
        omega
      · cases hj
    unfold putK
    rw [if_neg (by rw [no]; decide)]
    simp [he]
def strKs (ks : List (Key × D)) : Bool := ks.all fun q => (keyS q.1).isSome
def gDropC (nm : Str) (d : D) (S : Store) : Res D := match asD S d with
  | some ks => if strKs ks = true then .ok (.dic (dropD ks (.inr nm))) S else .stuck
  | none => .stuck
def fDropC (i1 i2 j : Nat) (fe : FE) : FE := fun ρ S => (fe ρ S).bind fun d S => match ρ[j]? with
  | some (some (.str nm)) => if i1 < ρ.length ∧ i2 < ρ.length then gDropC nm d S else .stuck
  | _ => .stuck
section
variable {X : Cx} {W : WX} {k : Nat}
theorem de_dropC (C : Cn X W k) {e : Expr} {fe : FE} {x1 x2 xn : Str} {i1 i2 j kk : Nat} {p1 p2 q1 q2 tp ap cp r1 r2 rp pos : Pos} {scope : Scope} {own : List (Str × Nat)} (he : DE X W e fe)
    (hbase : attributeBase e "items" X.env (eval e X.env) = eval e X.env := by rfl) (hline : (ap.endLine == cp.line) = true := by rfl)
    (ok : BlkOk X.N X.env.scope scope own)
    (hg : ∀ (s : Shared) (H : Hp) (Ca : Addr) (cl : List (Str × Addr)) (fp : List Addr), Cn (X.blk s H scope (compEnvC scope cl Ca X.env) fp) W0 k → PG (X.blk s H scope (compEnvC scope cl Ca X.env) fp) (.Tuple [.Name x1 q1, .Name x2 q2] kk tp) (gTup X.K 2 (gCons (gName i1) (gCons (gName i2) L2.gNil))))
    (hk : ∀ (s : Shared) (H : Hp) (Ca : Addr) (cl : List (Str × Addr)) (fp : List Addr), Cn (X.blk s H scope (compEnvC scope cl Ca X.env) fp) W0 k → PE (X.blk s H scope (compEnvC scope cl Ca X.env) fp) (.Name x1 p1) (tVar i1))
    (hv : ∀ (s : Shared) (H : Hp) (Ca : Addr) (cl : List (Str × Addr)) (fp : List Addr), Cn (X.blk s H scope (compEnvC scope cl Ca X.env) fp) W0 k → PE (X.blk s H scope (compEnvC scope cl Ca X.env) fp) (.Name x2 p2) (tVar i2))
    (hx : ∀ (s : Shared) (H : Hp) (Ca : Addr) (cl : List (Str × Addr)) (fp : List Addr), Cn (X.blk s H scope (compEnvC scope cl Ca X.env) fp) W0 k → PE (X.blk s H scope (compEnvC scope cl Ca X.env) fp) (.Name x1 r1) (tVar i1))
    (hn : ∀ (s : Shared) (H : Hp) (Ca : Addr) (cl : List (Str × Addr)) (fp : List Addr), Cn (X.blk s H scope (compEnvC scope cl Ca X.env) fp) W0 k → PE (X.blk s H scope (compEnvC scope cl Ca X.env) fp) (.Name xn r2) (tVar j))
    (h1 : i1 ∈ own.map (·.2) := by decide) (h2 : i2 ∈ own.map (·.2) := by decide) (hj : j ∉ own.map (·.2) := by decide) (h12 : i1 ≠ i2 := by decide)
    (hs : ∀ x, foldedSetIterable (.Call (.Attribute e "items" ap) [] [] cp) X.env x = pure x := by intro _; rfl) :
    DE X W (.DictComp (.Name x1 p1) (.Name x2 p2) [⟨.Tuple [.Name x1 q1, .Name x2 q2] kk tp, .Call (.Attribute e "items" ap) [] [] cp, [.Compare (.Name x1 r1) [.NotEq] [.Name xn r2] rp], 0⟩] scope pos) (fDropC i1 i2 j fe) := by
  obtain ⟨te, pe, qe⟩ := he.ex
  refine .mk (pe_unlV (pe_dc (g := gTup X.K 2 (gCons (gName i1) (gCons (gName i2) L2.gNil))) (tt := tB (tOp rNe (tVar i1) (tVar j))) (tk := tVar i1) (tv := tVar i2) C.calm C.nd (pi_items (pe_lockV pe) hbase hline) ok
    (fun s H Ca cl fp => hg s H Ca cl fp C.blk) (fun s H Ca cl fp => pts_one (pt_cmpR op_ne (hx s H Ca cl fp C.blk) (hn s H Ca cl fp C.blk) (nomark _))) (fun s H Ca cl fp => hk s H Ca cl fp C.blk) (fun s H Ca cl fp => hv s H Ca cl fp C.blk) hs)) fun Z φ S ρ σ H Q R sl w => ?_
  refine qe Z φ S ρ σ H _ R sl (w.bind fun d S1 v φ1 H1 R1 E1 dd w1 => ?_)
  have sl1 := sl.evo E1
  split at w1
  · rename_i nm hρ
    obtain ⟨⟨hb1, hb2⟩, w1⟩ := want_if w1
    unfold gDropC at w1
    split at w1
    · rename_i ks ek
      obtain ⟨hks, w2⟩ := want_if w1
      obtain ⟨a, kvs, rfl, ha, dk⟩ := asD_ok R1 dd ek
      have hσj : σ[j]? = some (some (.str nm)) := by
        obtain ⟨u, u1, u2⟩ := sl1.2 j _ hρ
        unfold Dat at u2
        rw [u1, u2]
      have texts : ∀ q ∈ kvs, ∃ x : Str, q.1 = .inr x := fun q hq => by
        have hm : q.1 ∈ ks.map (·.1) := by rw [← datK_fst dk]; exact List.mem_map_of_mem hq
        obtain ⟨z, hz, e1⟩ := List.mem_map.mp hm
        have := List.all_eq_true.mp hks z hz
        rw [← e1]
        cases hz1 : z.1 with
        | inr x => exact ⟨x, rfl⟩
        | inl i => rw [hz1] at this; simp [keyS] at this
      refine ⟨a, kvs, rfl, ha, fun nd hz o hnf => ⟨a, o, kvs, rfl, upd_same, fun p hp => ?_⟩⟩
      have hpa : p ≠ a := fun e => by rw [e, upd_same] at hp; cases hp
      have hp1 : H1 p = none := by rw [upd_ne hpa] at hp; exact hp
      let Iv : Nat → Hp → Prop := fun i H' => H' a = some (.frz o (.dK kvs)) ∧ H' p = some (.dK (dropK (kvs.take i) (.inr nm))) ∧ ∀ b u, b ≠ a → H1 b = some u → H' b = some u
      have hl1 : i1 < σ.length ∧ i2 < σ.length := ⟨by rw [← sl1.1]; exact hb1, by rw [← sl1.1]; exact hb2⟩
      refine ⟨fun i m H' => m = kvs.length - i ∧ i ≤ kvs.length ∧ Iv i H', ⟨_, rfl, Nat.zero_le _, ?_, ?_, ?_⟩, ?_⟩
      · rw [upd_ne (Ne.symm hpa)]; exact upd_same
      · rw [upd_same]; rfl
      · intro b u hb hu
        have hbp : b ≠ p := fun e => by rw [e, hp1] at hu; cases hu
        rw [upd_ne hbp, upd_ne hb]
        exact hu
      rintro i m H2 ⟨rfl, hle, va, vp, vk⟩
      by_cases hlt : i < kvs.length
      · refine .inr ⟨⟨va, hlt⟩, Iv (i + 1), fun H' h => ⟨_, by omega, rfl, hlt, h⟩, ?_⟩
        rintro x H3 ⟨T, kx, vx, hi, rfl, hT, rfl⟩
        have hTa : a ≠ T := fun e => by rw [← e, va] at hT; cases hT
        have hTp : p ≠ T := fun e => by rw [← e, vp] at hT; cases hT
        obtain ⟨y, hy⟩ := texts _ (List.mem_of_getElem? hi)
        have hy : kx = .inr y := hy
        subst hy
        have dt := dropK_take (.inr nm) hi nd
        refine ⟨T, [kV (.inr y), vx], rfl, .inl (.inl upd_same), rfl, kV (.inr y), [vx], rfl, vx, [], rfl, rfl, ?_, ?_⟩
        · rw [wipe_set h2, wipe_set h1, wipe_wipe]
        · have keepT : ∀ b u, b ≠ a → H1 b = some u → (upd H2 T (.tup [kV (.inr y), vx])) b = some u := fun b u hb hu => by
            have hbT : b ≠ T := fun e => by rw [e] at hu; have := vk T u (fun z => hTa z.symm) hu; rw [hT] at this; cases this
            rw [upd_ne hbT]
            exact vk b u hb hu
          refine ⟨kV (.inr y), ?_, .str nm, ?_, rfl, _, rfl, ?_⟩
          · rw [List.getElem?_set_ne (fun z => h12 z.symm), List.getElem?_set_self (by rw [wipe_length]; exact hl1.1)]
          · rw [List.getElem?_set_ne (fun z => hj (by rw [← z]; exact h2)), List.getElem?_set_ne (fun z => hj (by rw [← z]; exact h1)), wipe_out hj]
            exact hσj
          · show if (!decide (V.str y = V.str nm)) = true then _ else _
            by_cases ey : y = nm
            · subst ey
              simp only [decide_true, Bool.not_true, Bool.false_eq_true, if_false]
              rw [if_pos rfl] at dt
              refine ⟨?_, ?_, keepT⟩
              · rw [upd_ne hTa]; exact va
              · rw [upd_ne hTp, dt]; exact vp
            · have e1 : decide (V.str y = V.str nm) = false := decide_eq_false fun z => ey (by injection z)
              have e2 : ¬ ((Sum.inr y : Key) = .inr nm) := fun z => ey (by injection z)
              rw [if_neg e2] at dt
              rw [e1]
              simp only [Bool.not_false, if_true]
              refine ⟨kV (.inr y), ?_, vx, ?_, dropK (kvs.take i) (.inr nm), .inr y, rfl, ?_, ?_, ?_, ?_, ?_⟩
              · rw [List.getElem?_set_ne (fun z => h12 z.symm), List.getElem?_set_self (by rw [wipe_length]; exact hl1.1)]
              · rw [List.getElem?_set_self (by rw [List.length_set, wipe_length]; exact hl1.2)]
              · rw [upd_ne hTp]; exact vp
              · have l1 : (dropK (kvs.take i) (.inr nm)).length ≤ (kvs.take i).length := List.length_filter_le _ _
                have l2 : (kvs.take i).length ≤ i := by rw [List.length_take]; omega
                omega
              · rw [upd_ne (Ne.symm hpa), upd_ne hTa]; exact va
              · rw [upd_same, dt]
              · intro b u hb hu
                have hbp : b ≠ p := fun e => by rw [e, hp1] at hu; cases hu
                rw [upd_ne hbp]
                exact keepT b u hb hu
      · have ei : i = kvs.length := by omega
        subst ei
        refine .inl ⟨⟨va, Nat.le_refl _⟩, a, o, .dK kvs, va, hnf, ?_⟩
        rw [List.take_length] at vp
        have same : Same H1 (upd H2 a (.dK kvs)) := fun b u hu => by
          by_cases hb : b = a
          · subst hb
            rw [upd_same, ← ha]
            exact hu.symm ▸ rfl
          · rw [upd_ne hb]
            exact vk b u hb hu
        obtain ⟨R3, E3⟩ := R1.same same
        refine w2 _ φ1 _ R3 E3 ?_
        unfold RDat Dat
        exact ⟨p, _, rfl, without_some.mpr ⟨R1.out_gnd hp1, by rw [upd_ne hpa]; exact vp⟩, DatK.mono E3.pre E3.ext _ _ (datK_drop _ dk)⟩
    · exact w1.elim
  · exact w1.elim
end
end DL

/-! The data layer, part 88: texts compared; sorted(d) as an object; a keyword's default that is the empty tuple. -/
namespace DL
open PySem PySem.Spec PyProof.Rows L2
section
variable {X : Cx} {W : WX} {k : Nat} {e : Expr} {p pos : Pos}
def gLtS : G2 := fun x y S => match x, y with
  | .str a, .str b => .ok (.bl (decide (a.cps.toList < b.cps.toList))) S
  | _, _ => .stuck
def gGtS : G2 := fun x y S => match x, y with
  | .str a, .str b => .ok (.bl (decide (b.cps.toList < a.cps.toList))) S
  | _, _ => .stuck
theorem opd_ltS : OpD X (fun x y H Q => ∃ i j, x = .str i ∧ y = .str j ∧ Q (.bl (decide (i.cps.toList < j.cps.toList))) H) gLtS := fun Z φ S H x y u v Q E R dx dy w => by
  unfold gLtS at w
  split at w
  · cases dStr dx
    cases dStr dy
    exact ⟨_, _, rfl, rfl, w.now R (dat_bl _)⟩
  · exact w.elim
theorem opd_gtS : OpD X (fun x y H Q => ∃ i j, x = .str i ∧ y = .str j ∧ Q (.bl (decide (j.cps.toList < i.cps.toList))) H) gGtS := fun Z φ S H x y u v Q E R dx dy w => by
  unfold gGtS at w
  split at w
  · cases dStr dx
    cases dStr dy
    exact ⟨_, _, rfl, rfl, w.now R (dat_bl _)⟩
  · exact w.elim
def gSortDO : GC := fun ds S => match ds with
  | [d] => match (asD S d).bind keysS with
    | some xs => if xs.length < 64 then .ok (.oid S.length) (S ++ [.lst ((srtS xs).map D.str)]) else .stuck
    | none => .stuck
  | _ => .stuck
theorem cd_sortDO : CallD X (fun xs H Q => ∃ (a : Addr) (kvs : List (Key × V)) (ks : List Str), xs = [.ref a] ∧ Rd H a (.dK kvs) ∧ kvs.map (·.1) = ks.map Sum.inr ∧ ks.length < 64 ∧
    ∀ ys p, ys.Perm ks → sortedS ys = true → H p = none → Q (.ref p) (upd H p (.lst (ys.map V.str)))) gSortDO := fun Z φ S H ds vs Q E R d w => by
  unfold gSortDO at w
  split at w
  · obtain ⟨v, rfl, h1⟩ := datL1 d
    split at w
    · rename_i xs e1
      obtain ⟨ks, e2, e3⟩ := Option.bind_eq_some_iff.mp e1
      obtain ⟨a, kvs, rfl, h2, h3⟩ := asD_ok R h1 e2
      obtain ⟨hl, w1⟩ := want_if w
      refine ⟨a, kvs, xs, rfl, .inl h2, (datK_fst h3).trans (keysS_ok e3), hl, fun ys p hp hs hn => ?_⟩
      rw [eq_srtS hp hs]
      obtain ⟨r, e, g⟩ := dat_newO R (datL_strs (srtS xs)) hn
      exact w1 _ _ _ r e g
    · exact w.elim
  · exact w.elim
theorem de_sortDO (C : Cn X W k) {fa : FA} (hg : Gl X "sorted") (hm : X.mg "sorted" = none) (ha : DA X W [e] fa) (he : starEach [e] X.env = (false, eval e X.env) :: starEach [] X.env := by rfl) (hpl : (backTo pos (starEach [] X.env)).any (·.1) = false := by rfl) :
    DE X W (.Call (.Name "sorted" p) [e] [] pos) (fCB gSortDO fa) := de_callB (call_sortedD C.calm) cd_sortDO hg hm (by rfl) ha (by decide) (by decide) he hpl
end
/-! ### a keyword's default that is the empty tuple -/
theorem tupdB_ok {K : PySem.W.Frag} {f : Str × Option Str} {x : Str} {zs : List Str} (h : tupdB K f x zs = true) : TupC K (kwAt f x K) zs := by
  intro G
  unfold tupdB at h
  split at h
  · rename_i c od its n sl e
    obtain ⟨h1, h2⟩ := He.ba h
    obtain ⟨h2, h3⟩ := He.ba h2
    have hs : sizeLine = 16777216 := sizeLine_eq
    have h4 : its.size ≤ 1000 := of_decide_eq_true h2
    exact .inr ⟨_, its, n, e, by rw [of_decide_eq_true h1], rfl, by omega, strsB_ok h3⟩
  · cases h
theorem dat_tupd {K : PySem.W.Frag} {mg : Str → Option Value} {φ : List Addr} {G : Hp} {a : Addr} {zs : List Str} (h : TupC K a zs) : Dat K mg φ G (.tup (zs.map D.str)) (.ref a) := by
  unfold Dat
  exact ⟨a, _, rfl, h G, datL_strs zs⟩
/-! ### bool(x) -/
section
variable {X : Cx} {W : WX} {k : Nat} {e : Expr} {p pos : Pos}
def gBoolB : GC := fun ds S => match ds with
  | [.int i] => .ok (.bl (i != 0)) S
  | [.bl b] => .ok (.bl b) S
  | _ => .stuck
theorem de_boolB {fa : FA} (hg : Gl X "bool") (hm : X.mg "bool" = none) (ha : DA X W [e] fa) (he : starEach [e] X.env = (false, eval e X.env) :: starEach [] X.env := by rfl) (hpl : (backTo pos (starEach [] X.env)).any (·.1) = false := by rfl) :
    DE X W (.Call (.Name "bool" p) [e] [] pos) (fCB gBoolB fa) :=
  de_callTy call_bool1 (fun Z φ S H ds vs Q E R d w => by
    unfold gBoolB at w
    split at w
    · obtain ⟨v, rfl, h1⟩ := datL1 d
      cases dInt h1
      exact .inl ⟨_, rfl, w.now R (dat_bl _)⟩
    · obtain ⟨v, rfl, h1⟩ := datL1 d
      cases dBl h1
      exact .inr ⟨_, rfl, w.now R (dat_bl _)⟩
    · exact w.elim) hg hm (by rfl) ha (by decide) (by decide) he hpl
end
end DL

/-! The data layer, part 89: len(x) by an own __len__, x an object of the store. -/
namespace DL
open PySem PySem.Spec PyProof.Rows L2
section
variable {X : Cx} {W : WX} {k n : Nat} {e : Expr} {pos p : Pos} {C f : Addr} {fd : FuncData} {ps : List Str} {sem : Sem'}
def rLenP (X : Cx) (sem : Sem') (C : Addr) : List V → Hp → VK → Prop := fun xs H Q => ∃ a dx fs, xs = [.ref a] ∧ H a = some (.ins C dx fs) ∧ ∀ wx : XK, spD X.K X.mg 1 sem [.ref a] H (fun v H' => ∃ i, v = .int i ∧ (0 ≤ i ∧ i < 1000) ∧ Q (.int i) H') wx
theorem call_lenP (Cc : Cn X W k) (hm : Meth X.K C "__len__" f) (F : FnG X.prog X.w X.K X.mg X.base n f fd ps (spD X.K X.mg ps.length sem)) (hps : ps.length = 1) (hb : Binds X.K fd ps []) (hle : n + 1 ≤ k := by decide) :
    CallR X (.builtin "len") (rLenP X sem C) := by
  intro pins s σ H xs us Q I rx h
  obtain ⟨a, dx, fs, rfl, ha, hs⟩ := h
  obtain ⟨u, rfl, ru⟩ := vals1 rx
  cases ru
  obtain ⟨mA, J, _⟩ := ins_get I.hok ha
  obtain ⟨od, J, _⟩ := J.look
  obtain ⟨m, hF⟩ := I.fr
  refine PySem.W.len_K hF I.ok.mod.kin J hm.at_ hm.fn ?_
  have hsp : spD X.K X.mg ps.length sem [.ref a] H (fun v H' => ∃ i, v = .int i ∧ (0 ≤ i ∧ i < 1000) ∧ Q (.int i) H') (WE W σ) := by rw [hps]; exact hs _
  have r2 : Vals [V.ref a] [Value.ref a] := .cons rfl .nil
  have hB := hb s [.ref a] I.kIn (by simp [hps])
  have t : wpAny (model X.prog X.w) X.A.in1 (call (.ref f) [.ref a] ([].zip [])) (EP X pins σ (fun v H' => ∃ i, v = .int i ∧ (0 ≤ i ∧ i < 1000) ∧ Q (.int i) H')) X.xe s := by
    refine wpAny_call (codeAny_mono (F.run X.A.in1 X.stack s H _ [.ref a] [.ref a] _ (WE W σ) (Cc.room.mono hle).in1 Cc.gd I.env0.in1 (by simpa using hB) r2 hsp) fun res s' hq => ?_)
    cases res with
    | error e => exact L2N.passAt Cc.tk σ pins H s e s' I hq
    | ok fl => cases fl with
      | ret u => exact I.after hq
      | _ => exact hq.elim
  refine wpAny_mono t (fun r s' z => ?_) fun _ _ x => x
  obtain ⟨zv, H', I', rz, i, ez, ⟨i0, i1⟩, q⟩ := z
  subst ez
  obtain ⟨tk, rfl⟩ := rz
  refine ⟨⟨i0, by omega⟩, ?_⟩
  exact ⟨.int i, H', I'.tok _, ⟨_, rfl⟩, q⟩
noncomputable def gLenP (c : Str) (sem : Sem') : GC := fun ds S => match ds with
  | [d] => (match asI S d with
    | some (c1, _) => if c1 = c then (match sem [d] S with
      | .ok (.int n) S' => @ite _ (0 ≤ n ∧ n < 1000) (Classical.propDecidable _) (.ok (.int n) S') .stuck
      | _ => .stuck) else .stuck
    | none => .stuck)
  | _ => .stuck
theorem cd_lenP {c : Str} (cl : ClsI X c C) : CallD X (rLenP X sem C) (gLenP c sem) := fun Z φ S H ds vs Q E R d w => by
  unfold gLenP at w
  split at w
  · obtain ⟨v, rfl, dx⟩ := datL1 d
    split at w
    · rename_i c1 fs e1
      obtain ⟨rfl, w1⟩ := want_if w
      obtain ⟨a, A, ex, fvs, rfl, q0, q1, _⟩ := asI_ok R dx e1
      rw [cl.mg] at q0
      cases q0
      split at w1
      · rename_i i S1 hs
        by_cases hi : 0 ≤ i ∧ i < 1000
        · rw [if_pos hi] at w1
          refine ⟨a, ex, fvs, rfl, q1, fun wx => ⟨rfl, Z, φ, S, _, R, d, ?_⟩⟩
          rw [hs]
          intro v φ1 H1 R1 E1 dv
          have q := w1 v φ1 H1 R1 E1 dv
          have e := dInt dv
          exact ⟨i, e, hi, by rw [← e]; exact q⟩
        · rw [if_neg hi] at w1
          exact w1.elim
      · exact w1.elim
    · exact w.elim
  · exact w.elim
theorem de_lenP {c : Str} {fa : FA} (Cc : Cn X W k) (hm : Meth X.K C "__len__" f) (F : FnG X.prog X.w X.K X.mg X.base n f fd ps (spD X.K X.mg ps.length sem)) (hps : ps.length = 1) (hb : Binds X.K fd ps []) (cl : ClsI X c C) (hg : Gl X "len") (hmg : X.mg "len" = none) (ha : DA X W [e] fa)
    (hle : n + 1 ≤ k := by decide) (he : starEach [e] X.env = (false, eval e X.env) :: starEach [] X.env := by rfl) (hpl : (backTo pos (starEach [] X.env)).any (·.1) = false := by rfl) :
    DE X W (.Call (.Name "len" p) [e] [] pos) (fCB (gLenP c sem) fa) :=
  de_callB (call_lenP Cc hm F hps hb hle) (cd_lenP cl) hg hmg (by rfl) ha (by decide) (by decide) he hpl
/-- o[i] //= a great divisor, o a list -/
theorem ip_fdivW : PIp X .FloorDiv (rI CDivW fun i j => .int (i / j)) := fun pins s σ H x y u v Q I rx ry h => iop_fdivW pins s σ H x y u v Q I rx ry h
theorem ipd_fdivW : IpD X (rI CDivW fun i j => .int (i / j)) gDivW := opd_I (fun i j h => by
    have h2 := @of_decide_eq_true _ (Classical.propDecidable _) h
    exact wide_div (b := 133) h2.1 (by have : (2 : Nat) ^ 133 = 10889035741470030830827987437816582766592 := by decide
                                       omega) (by decide) (by decide)) fun i j φ G => by unfold Dat; rfl
end
end DL

namespace K03
open PySem PySem.Spec PyProof.Rows L2 DL
/-! ### _law_state -/
abbrev N_p_law_state : List Str := ["_law_script", "_law_k", "_law_cell", "_law_state_here", "_law_prime", "_law_mark"]
noncomputable def m_p_law_state : FS := (gSeq (gSet 2 (fC (.int 0))) (gSeq (gIf (toB (fBin gGt (fCB gLen (fCons (fVar 0) (fun _ S => .ok [] S))) (fC (.int 0)))) (gSet 2 (fCB gAbs (fCons (fBin gIx (fVar 0) (fBin gMod (fVar 1) (fCB gLen (fCons (fVar 0) (fun _ S => .ok [] S))))) (fun _ S => .ok [] S)))) gNil) (gSeq (gIf (toB (fBin gGe (fVar 2) (fBin gPow (fC (.int 10)) (fC (.int 18))))) (gRet (fLstO (fCons (fBin gSub (fVar 2) (fBin gPow (fC (.int 10)) (fC (.int 18)))) (fun _ S => .ok [] S)))) gNil) (gSeq (gSet 3 (fC (.int 0))) (gSeq (gFor (fSeq (fTup (fCons (fC (.int 2147483629)) (fCons (fC (.int 2147483587)) (fCons (fC (.int 2147483579)) (fCons (fC (.int 2147483563)) (fCons (fC (.int 2147483549)) (fCons (fC (.int 2147483543)) (fCons (fC (.int 2147483497)) (fCons (fC (.int 2147483489)) (fCons (fC (.int 2147483477)) (fCons (fC (.int 2147483423)) (fCons (fC (.int 2147483399)) (fCons (fC (.int 2147483353)) (fun _ S => .ok [] S))))))))))))))) (mName 4) (gSeq (gSet 5 (fBin gMod (fBin gMul (fBin gAdd (fBin gMod (fVar 2) (fVar 4)) (fBin gMul (fC (.int 7919)) (fBin gAdd (fVar 1) (fC (.int 1))))) (fC (.int 48271))) (fVar 4))) (gSeq (gSet 5 (fBin gMod (fBin gAdd (fBin gMul (fVar 5) (fVar 5)) (fC (.int 104729))) (fVar 4))) (gSet 3 (fBin gAdd (fBin gMul (fVar 3) (fC (.int 2147483647))) (fBin gMod (fBin gMul (fVar 5) (fVar 5)) (fVar 4))))))) (gRet (fLstO (fCons (fVar 3) (fun _ S => .ok [] S)))))))))
noncomputable def S_p_law_state : Sem' := semOf 6 m_p_law_state
/-! ### _law_next -/
abbrev N_p_law_next : List Str := ["_law_state_here", "_law_most", "_law_found"]
noncomputable def m_p_law_next : FS := (gSeq (gSet 2 (fBin gMod (fBin gIx (fVar 0) (fC (.int 0))) (fVar 1))) (gSeq (gAugL gDivW (fVar 0) (fC (.int 0)) (fVar 1)) (gRet (fVar 2))))
noncomputable def S_p_law_next : Sem' := semOf 3 m_p_law_next
/-! ### _law_name -/
abbrev N_p_law_name : List Str := ["_law_state_here", "_law_taken", "_law_letters", "_law_name_here", "_law_one", "_law_other", "_law_place"]
noncomputable def m_p_law_name : FS := (gSeq (gSet 2 (fC (.str "abcdefghijklmnopqrstuvwxyz"))) (gSeq (gSet 3 (fBM "str" gJoin (fC (.str "")) (fCons (fComp (fRng1 (fCons (fBin gAdd (fC (.int 1)) (fCall S_p_law_next (fun ds es => pick [(0, 0), (0, 1)] ds es []) 2 0 2 (fCons (fVar 0) (fCons (fC (.int 8)) (fun _ S => .ok [] S))) (fun _ S => .ok [] S))) (fun _ S => .ok [] S))) (mName 6) fYes (fBin gIx (fVar 2) (fCall S_p_law_next (fun ds es => pick [(0, 0), (0, 1)] ds es []) 2 0 2 (fCons (fVar 0) (fCons (fC (.int 26)) (fun _ S => .ok [] S))) (fun _ S => .ok [] S))) ([("_law_place", 6)].map (·.2)) finL) (fun _ S => .ok [] S)))) (gSeq (gIf (toB (fBin gNotIn (fVar 3) (fVar 1))) (gRet (fVar 3)) gNil) (gSeq (gFor (fSigns (fVar 2)) (mName 4) (gFor (fSigns (fVar 2)) (mName 5) (gIf (toB (fBin gNotIn (fBin gAdd (fBin gAdd (fSlS (fVar 3) fPartN (fPart (fC (.int 6)))) (fVar 4)) (fVar 5)) (fVar 1))) (gRet (fBin gAdd (fBin gAdd (fSlS (fVar 3) fPartN (fPart (fC (.int 6)))) (fVar 4)) (fVar 5))) gNil))) (gRet (fVar 3))))))
noncomputable def S_p_law_name : Sem' := semOf 7 m_p_law_name
/-! ### _law_names -/
abbrev N_p_law_names : List Str := ["_law_state_here", "_law_many", "_law_found", "_law_k"]
noncomputable def m_p_law_names : FS := (gSeq (gSet 2 (fLstO (fun _ S => .ok [] S))) (gSeq (gFor (fRng1 (fCons (fVar 1) (fun _ S => .ok [] S))) (mName 3) (gExpr (fBM "list" gApp (fVar 2) (fCons (fCall S_p_law_name (fun ds es => pick [(0, 0), (0, 1)] ds es []) 2 0 2 (fCons (fVar 0) (fCons (fVar 2) (fun _ S => .ok [] S))) (fun _ S => .ok [] S)) (fun _ S => .ok [] S))))) (gRet (fFrz (fVar 2)))))
noncomputable def S_p_law_names : Sem' := semOf 4 m_p_law_names
/-! ### House.init -/
abbrev N_House_init : List Str := ["self"]
noncomputable def m_House_init : FS := (gSeq (gFld ["House"] "named" (fVar 0) fDictE) (gSeq (gFld ["House"] "things" (fVar 0) (fLst (fun _ S => .ok [] S))) (gSeq (gFld ["House"] "waits" (fVar 0) (fLst (fun _ S => .ok [] S))) (gSeq (gFld ["House"] "stands" (fVar 0) (fLstO (fun _ S => .ok [] S))) (gSeq (gFld ["House"] "elder" (fVar 0) (fLstO (fun _ S => .ok [] S))) (gFldC ["House"] "tried" "tried_out" (fVar 0) (fVar 0) (fC (.int 0))))))))
noncomputable def S_House_init : Sem' := semOf 1 m_House_init
/-! ### _law_number -/
abbrev N_p_law_number : List Str := ["_law_state_here", "_law_choice", "_law_some"]
noncomputable def m_p_law_number : FS := (gSeq (gSet 1 (fCall S_p_law_next (fun ds es => pick [(0, 0), (0, 1)] ds es []) 2 0 2 (fCons (fVar 0) (fCons (fC (.int 6)) (fun _ S => .ok [] S))) (fun _ S => .ok [] S))) (gSeq (gSet 2 (fBin gSub (fCall S_p_law_next (fun ds es => pick [(0, 0), (0, 1)] ds es []) 2 0 2 (fCons (fVar 0) (fCons (fBin gAdd (fBin gMul (fC (.int 2)) (fBin gPow (fC (.int 10)) (fC (.int 9)))) (fC (.int 1))) (fun _ S => .ok [] S))) (fun _ S => .ok [] S)) (fBin gPow (fC (.int 10)) (fC (.int 9))))) (gRet (fBin gIx (fLst (fCons (fVar 2) (fCons (fBin gMod (fVar 2) (fC (.int 7))) (fCons (fBin gMod (fVar 2) (fC (.int 7))) (fCons (fBin gPow (fC (.int 10)) (fC (.int 9))) (fCons (fUn gNeg (fBin gPow (fC (.int 10)) (fC (.int 9)))) (fCons (fC (.int 0)) (fun _ S => .ok [] S)))))))) (fVar 1)))))
noncomputable def S_p_law_number : Sem' := semOf 3 m_p_law_number
/-! ### _law_deed -/
abbrev N_p_law_deed : List Str := ["_law_state_here", "_law_menu", "_law_hints", "_law_word", "_law_one", "_law_other", "_law_k"]
noncomputable def m_p_law_deed : FS := (gSeq (gSet 3 (fBin gIx (fVar 1) (fCall S_p_law_next (fun ds es => pick [(0, 0), (0, 1)] ds es []) 2 0 2 (fCons (fVar 0) (fCons (fCB gLen (fCons (fVar 1) (fun _ S => .ok [] S))) (fun _ S => .ok [] S))) (fun _ S => .ok [] S)))) (gSeq (gSet 4 (fBin gIx (fVar 2) (fCall S_p_law_next (fun ds es => pick [(0, 0), (0, 1)] ds es []) 2 0 2 (fCons (fVar 0) (fCons (fCB gLen (fCons (fVar 2) (fun _ S => .ok [] S))) (fun _ S => .ok [] S))) (fun _ S => .ok [] S)))) (gSeq (gSet 5 (fBin gIx (fVar 2) (fCall S_p_law_next (fun ds es => pick [(0, 0), (0, 1)] ds es []) 2 0 2 (fCons (fVar 0) (fCons (fCB gLen (fCons (fVar 2) (fun _ S => .ok [] S))) (fun _ S => .ok [] S))) (fun _ S => .ok [] S)))) (gSeq (gSet 6 (fCall S_p_law_next (fun ds es => pick [(0, 0), (0, 1)] ds es []) 2 0 2 (fCons (fVar 0) (fCons (fC (.int 4)) (fun _ S => .ok [] S))) (fun _ S => .ok [] S))) (gSeq (gIf (toB (fBin gIn (fVar 3) (fTup (fCons (fC (.str "number")) (fCons (fC (.str "cell")) (fun _ S => .ok [] S)))))) (gSeq (gIf (toB (fBin gEq (fVar 3) (fC (.str "number")))) (gRet (fTup (fCons (fVar 3) (fCons (fVar 4) (fCons (fCall S_p_law_number (fun ds es => pick [(0, 0)] ds es []) 1 0 1 (fCons (fVar 0) (fun _ S => .ok [] S)) (fun _ S => .ok [] S)) (fun _ S => .ok [] S)))))) gNil) (gRet (fTup (fCons (fVar 3) (fCons (fVar 4) (fCons (fCall S_p_law_next (fun ds es => pick [(0, 0), (0, 1)] ds es []) 2 0 2 (fCons (fVar 0) (fCons (fC (.int 4)) (fun _ S => .ok [] S))) (fun _ S => .ok [] S)) (fCons (fBin gEq (fCall S_p_law_next (fun ds es => pick [(0, 0), (0, 1)] ds es []) 2 0 2 (fCons (fVar 0) (fCons (fC (.int 2)) (fun _ S => .ok [] S))) (fun _ S => .ok [] S)) (fC (.int 1))) (fun _ S => .ok [] S)))))))) gNil) (gSeq (gIf (toB (fBin gIn (fVar 3) (fTup (fCons (fC (.str "hold")) (fCons (fC (.str "tie")) (fCons (fC (.str "follow")) (fun _ S => .ok [] S))))))) (gRet (fTup (fCons (fVar 3) (fCons (fVar 4) (fCons (fVar 5) (fun _ S => .ok [] S)))))) gNil) (gSeq (gIf (toB (fBin gEq (fVar 3) (fC (.str "get")))) (gRet (fTup (fCons (fVar 3) (fCons (fVar 4) (fCons (fVar 5) (fCons (fVar 6) (fun _ S => .ok [] S))))))) gNil) (gSeq (gIf (toB (fBin gEq (fVar 3) (fC (.str "put")))) (gRet (fTup (fCons (fVar 3) (fCons (fVar 4) (fCons (fVar 6) (fCons (fVar 5) (fun _ S => .ok [] S))))))) gNil) (gSeq (gIf (toB (fBin gEq (fVar 3) (fC (.str "tidy")))) (fun _ _ => .stuck) gNil) (gRet (fTup (fCons (fVar 3) (fCons (fVar 4) (fun _ S => .ok [] S))))))))))))))
noncomputable def S_p_law_deed : Sem' := semOf 7 m_p_law_deed
/-! ### _law_needs -/
abbrev N_p_law_needs : List Str := ["_law_word"]
noncomputable def m_p_law_needs : FS := (gSeq (gIf (toB (fBin gIn (fVar 0) (fTup (fCons (fC (.str "hold")) (fCons (fC (.str "tie")) (fCons (fC (.str "get")) (fCons (fC (.str "follow")) (fun _ S => .ok [] S)))))))) (gRet (fTup (fCons (fTup (fCons (fC (.int 1)) (fCons (fC (.int 2)) (fun _ S => .ok [] S)))) (fCons (fTup (fCons (fC (.int 2)) (fun _ S => .ok [] S))) (fCons (fTup (fCons (fC (.int 1)) (fun _ S => .ok [] S))) (fun _ S => .ok [] S)))))) gNil) (gSeq (gIf (toB (fBin gEq (fVar 0) (fC (.str "put")))) (gRet (fTup (fCons (fTup (fCons (fC (.int 1)) (fCons (fC (.int 3)) (fun _ S => .ok [] S)))) (fCons (fTup (fCons (fC (.int 1)) (fCons (fC (.int 3)) (fun _ S => .ok [] S)))) (fCons (fTup (fun _ S => .ok [] S)) (fun _ S => .ok [] S)))))) gNil) (gSeq (gIf (toB (fBin gEq (fVar 0) (fC (.str "drop")))) (gRet (fTup (fCons (fTup (fCons (fC (.int 1)) (fun _ S => .ok [] S))) (fCons (fTup (fCons (fC (.int 1)) (fun _ S => .ok [] S))) (fCons (fTup (fun _ S => .ok [] S)) (fun _ S => .ok [] S)))))) gNil) (gRet (fTup (fCons (fTup (fCons (fC (.int 1)) (fun _ S => .ok [] S))) (fCons (fTup (fun _ S => .ok [] S)) (fCons (fTup (fCons (fC (.int 1)) (fun _ S => .ok [] S))) (fun _ S => .ok [] S)))))))))
noncomputable def S_p_law_needs : Sem' := semOf 1 m_p_law_needs
/-! ### _law_whole -/
abbrev N_p_law_whole : List Str := ["_law_thing", "_law_least", "_law_most"]
noncomputable def m_p_law_whole : FS := (gRet (fAndV (fCB gIsi (fCons (fVar 0) (fCons (fC (.ty "int")) (fun _ S => .ok [] S)))) (fAndV (fNotV (fCB gIsi (fCons (fVar 0) (fCons (fC (.ty "bool")) (fun _ S => .ok [] S))))) (fChain gLe gLe (fVar 1) (fVar 0) (fVar 2)))))
noncomputable def S_p_law_whole : Sem' := semOf 3 m_p_law_whole
/-! ### _law_sort -/
abbrev N_p_law_sort : List Str := ["_law_here", "_law_name_here", "_law_value_here"]
noncomputable def m_p_law_sort : FS := (gSeq (gSet 2 (fBin gIx (fBin gIx (fVar 0) (fC (.str "names"))) (fVar 1))) (gSeq (gIf (fNotT (toB (fCB gIsi (fCons (fVar 2) (fCons (fC (.ty "tuple")) (fun _ S => .ok [] S)))))) (gRet (fC (.str "none"))) gNil) (gRet (fBin gIx (fBin gIx (fBin gIx (fVar 0) (fC (.str "things"))) (fBin gIx (fVar 2) (fC (.int 1)))) (fC (.int 0))))))
noncomputable def S_p_law_sort : Sem' := semOf 3 m_p_law_sort
/-! ### _law_refused_thing -/
abbrev N_p_law_refused_thing : List Str := ["_law_here", "_law_deed_here", "_law_word", "_law_whose", "_law_k"]
noncomputable def m_p_law_refused_thing : FS := (gSeq (gSet 2 (fBin gIx (fVar 1) (fC (.int 0)))) (gSeq (gIf (fAndT (toB (fBin gEq (fVar 2) (fC (.str "number")))) (fNotT (toB (fCall (callSub S_p_law_whole) (fun ds es => pick [(0, 0), (0, 1), (0, 2)] ds es []) 3 0 3 (fCons (fBin gIx (fVar 1) (fC (.int 2))) (fCons (fUn gNeg (fBin gPow (fC (.int 10)) (fC (.int 9)))) (fCons (fBin gPow (fC (.int 10)) (fC (.int 9))) (fun _ S => .ok [] S)))) (fun _ S => .ok [] S))))) (gRet (fTup (fCons (fC (.str "BadNumber")) (fCons (fC .non) (fun _ S => .ok [] S))))) gNil) (gSeq (gIf (fAndT (toB (fBin gEq (fVar 2) (fC (.str "cell")))) (fNotT (toB (fCall (callSub S_p_law_whole) (fun ds es => pick [(0, 0), (0, 1), (0, 2)] ds es []) 3 0 3 (fCons (fBin gIx (fVar 1) (fC (.int 2))) (fCons (fC (.int 0)) (fCons (fC (.int 6)) (fun _ S => .ok [] S)))) (fun _ S => .ok [] S))))) (gRet (fTup (fCons (fC (.str "NoField")) (fCons (fC .non) (fun _ S => .ok [] S))))) gNil) (gSeq (gIf (fAndT (toB (fBin gEq (fVar 2) (fC (.str "tie")))) (toB (fBin gEq (fCall S_p_law_sort (fun ds es => pick [(0, 0), (0, 1)] ds es []) 2 0 2 (fCons (fVar 0) (fCons (fBin gIx (fVar 1) (fC (.int 2))) (fun _ S => .ok [] S))) (fun _ S => .ok [] S)) (fC (.str "none"))))) (gRet (fTup (fCons (fC (.str "NoCell")) (fCons (fC .non) (fun _ S => .ok [] S))))) gNil) (gSeq (gIf (fAndT (toB (fBin gEq (fVar 2) (fC (.str "follow")))) (toB (fBin gNe (fCall S_p_law_sort (fun ds es => pick [(0, 0), (0, 1)] ds es []) 2 0 2 (fCons (fVar 0) (fCons (fBin gIx (fVar 1) (fC (.int 2))) (fun _ S => .ok [] S))) (fun _ S => .ok [] S)) (fC (.str "tie"))))) (gRet (fTup (fCons (fC (.str "NoCell")) (fCons (fC .non) (fun _ S => .ok [] S))))) gNil) (gSeq (gIf (toB (fBin gIn (fVar 2) (fTup (fCons (fC (.str "get")) (fCons (fC (.str "put")) (fun _ S => .ok [] S)))))) (gSeq (gAsg (mTup 2 (mCons (mName 3) (mCons (mName 4) (fun ds ρ _ => match ds with | [] => some ρ | _ => none)))) (fIf (toB (fBin gEq (fVar 2) (fC (.str "get")))) (fTup (fCons (fBin gIx (fVar 1) (fC (.int 2))) (fCons (fBin gIx (fVar 1) (fC (.int 3))) (fun _ S => .ok [] S)))) (fTup (fCons (fBin gIx (fVar 1) (fC (.int 1))) (fCons (fBin gIx (fVar 1) (fC (.int 2))) (fun _ S => .ok [] S)))))) (gSeq (gIf (toB (fBin gNotIn (fCall S_p_law_sort (fun ds es => pick [(0, 0), (0, 1)] ds es []) 2 0 2 (fCons (fVar 0) (fCons (fVar 3) (fun _ S => .ok [] S))) (fun _ S => .ok [] S)) (fTup (fCons (fC (.str "cell")) (fCons (fC (.str "last")) (fun _ S => .ok [] S)))))) (gRet (fTup (fCons (fC (.str "NoCell")) (fCons (fC .non) (fun _ S => .ok [] S))))) gNil) (gIf (fNotT (toB (fCall (callSub S_p_law_whole) (fun ds es => pick [(0, 0), (0, 1), (0, 2)] ds es []) 3 0 3 (fCons (fVar 4) (fCons (fC (.int 0)) (fCons (fBin gSub (fCB gLen (fCons (fBin gIx (fBin gIx (fBin gIx (fVar 0) (fC (.str "things"))) (fBin gIx (fBin gIx (fBin gIx (fVar 0) (fC (.str "names"))) (fVar 3)) (fC (.int 1)))) (fC (.int 1))) (fun _ S => .ok [] S))) (fC (.int 1))) (fun _ S => .ok [] S)))) (fun _ S => .ok [] S)))) (gRet (fTup (fCons (fC (.str "NoField")) (fCons (fC .non) (fun _ S => .ok [] S))))) gNil))) gNil) (gRet (fC .non))))))))
noncomputable def S_p_law_refused_thing : Sem' := semOf 5 m_p_law_refused_thing
/-! ### _law_refusal -/
abbrev N_p_law_refusal : List Str := ["_law_here", "_law_deed_here", "_law_word", "_law_at", "_law_name_here", "_law_small", "_law_sign"]
noncomputable def m_p_law_refusal : FS := (gSeq (gSet 2 (fBin gIx (fVar 1) (fC (.int 0)))) (gSeq (gIf (toB (fBin gEq (fVar 2) (fC (.str "tidy")))) (gRet (fC .non)) gNil) (gSeq (gFor (fSeq (fBin gIx (fCall (callSub S_p_law_needs) (fun ds es => pick [(0, 0)] ds es []) 1 0 1 (fCons (fVar 2) (fun _ S => .ok [] S)) (fun _ S => .ok [] S)) (fC (.int 0)))) (mName 3) (gSeq (gSet 4 (fBin gIx (fVar 1) (fVar 3))) (gSeq (gSet 5 (fAndV (fCB gIsi (fCons (fVar 4) (fCons (fC (.ty "str")) (fun _ S => .ok [] S)))) (fBin gEq (fComp (fSigns (fVar 4)) (mName 6) (fOrT (toB (fBin gLtS (fVar 6) (fC (.str "a")))) (toB (fBin gGtS (fVar 6) (fC (.str "z"))))) (fVar 6) ([("_law_sign", 6)].map (·.2)) finL) (fLst (fun _ S => .ok [] S))))) (gIf (fOrT (fNotT (toB (fVar 5))) (fNotT (toB (fChain gLe gLe (fC (.int 1)) (fCB gLen (fCons (fVar 4) (fun _ S => .ok [] S))) (fC (.int 8)))))) (gRet (fTup (fCons (fC (.str "BadName")) (fCons (fVar 4) (fun _ S => .ok [] S))))) gNil)))) (gSeq (gFor (fSeq (fBin gIx (fCall (callSub S_p_law_needs) (fun ds es => pick [(0, 0)] ds es []) 1 0 1 (fCons (fVar 2) (fun _ S => .ok [] S)) (fun _ S => .ok [] S)) (fC (.int 1)))) (mName 3) (gIf (toB (fBin gNotIn (fBin gIx (fVar 1) (fVar 3)) (fBin gIx (fVar 0) (fC (.str "names"))))) (gRet (fTup (fCons (fC (.str "NoName")) (fCons (fBin gIx (fVar 1) (fVar 3)) (fun _ S => .ok [] S))))) gNil)) (gSeq (gFor (fSeq (fBin gIx (fCall (callSub S_p_law_needs) (fun ds es => pick [(0, 0)] ds es []) 1 0 1 (fCons (fVar 2) (fun _ S => .ok [] S)) (fun _ S => .ok [] S)) (fC (.int 2)))) (mName 3) (gIf (fAndT (toB (fBin gNotIn (fBin gIx (fVar 1) (fVar 3)) (fBin gIx (fVar 0) (fC (.str "names"))))) (toB (fBin gGt (fCB gLen (fCons (fBin gIx (fVar 0) (fC (.str "names"))) (fun _ S => .ok [] S))) (fC (.int 39))))) (gRet (fTup (fCons (fC (.str "TooMany")) (fCons (fC .non) (fun _ S => .ok [] S))))) gNil)) (gRet (fCall S_p_law_refused_thing (fun ds es => pick [(0, 0), (0, 1)] ds es []) 2 0 2 (fCons (fVar 0) (fCons (fVar 1) (fun _ S => .ok [] S))) (fun _ S => .ok [] S))))))))
noncomputable def S_p_law_refusal : Sem' := semOf 7 m_p_law_refusal
/-! ### _law_gotten -/
abbrev N_p_law_gotten : List Str := ["_law_here", "_law_deed_here", "_law_word", "_law_names_here", "_law_things", "_law_goal"]
noncomputable def m_p_law_gotten : FS := (gSeq (gSet 2 (fBin gIx (fVar 1) (fC (.int 0)))) (gSeq (gPar 3 4 (fCons (fBin gIx (fVar 0) (fC (.str "names"))) (fCons (fBin gIx (fVar 0) (fC (.str "things"))) (fun _ S => .ok [] S)))) (gSeq (gIf (toB (fBin gEq (fVar 2) (fC (.str "number")))) (gRet (fBin gIx (fVar 1) (fC (.int 2)))) gNil) (gSeq (gIf (toB (fBin gEq (fVar 2) (fC (.str "hold")))) (gRet (fBin gIx (fVar 3) (fBin gIx (fVar 1) (fC (.int 2))))) gNil) (gSeq (gIf (toB (fBin gEq (fVar 2) (fC (.str "get")))) (gRet (fBin gIx (fBin gIx (fBin gIx (fVar 4) (fBin gIx (fBin gIx (fVar 3) (fBin gIx (fVar 1) (fC (.int 2)))) (fC (.int 1)))) (fC (.int 1))) (fBin gIx (fVar 1) (fC (.int 3))))) gNil) (gSeq (gIf (toB (fBin gEq (fVar 2) (fC (.str "follow")))) (gSeq (gSet 5 (fBin gIx (fBin gIx (fVar 4) (fBin gIx (fBin gIx (fVar 3) (fBin gIx (fVar 1) (fC (.int 2)))) (fC (.int 1)))) (fC (.int 1)))) (gRet (fIf (toB (fBin gIs (fVar 5) (fC .non))) (fC .non) (fTup (fCons (fC (.str "at")) (fCons (fVar 5) (fun _ S => .ok [] S))))))) gNil) (gSeq (gIf (toB (fBin gEq (fVar 2) (fC (.str "cell")))) (gExpr (fBM "list" gApp (fVar 4) (fCons (fTup (fCons (fBin gIx (fLst (fCons (fC (.str "cell")) (fCons (fC (.str "last")) (fun _ S => .ok [] S)))) (fCB gIntB (fCons (fBin gIx (fVar 1) (fC (.int 3))) (fun _ S => .ok [] S)))) (fCons (fBin gRepT (fTup (fCons (fC .non) (fun _ S => .ok [] S))) (fBin gIx (fVar 1) (fC (.int 2)))) (fun _ S => .ok [] S)))) (fun _ S => .ok [] S)))) gNil) (gSeq (gIf (toB (fBin gEq (fVar 2) (fC (.str "tie")))) (gExpr (fBM "list" gApp (fVar 4) (fCons (fTup (fCons (fC (.str "tie")) (fCons (fBin gIx (fBin gIx (fVar 3) (fBin gIx (fVar 1) (fC (.int 2)))) (fC (.int 1))) (fun _ S => .ok [] S)))) (fun _ S => .ok [] S)))) gNil) (gRet (fIf (toB (fBin gEq (fVar 2) (fC (.str "nothing")))) (fC .non) (fTup (fCons (fC (.str "at")) (fCons (fBin gSub (fCB gLen (fCons (fVar 4) (fun _ S => .ok [] S))) (fC (.int 1))) (fun _ S => .ok [] S))))))))))))))
noncomputable def S_p_law_gotten : Sem' := semOf 6 m_p_law_gotten
/-! ### _law_done -/
abbrev N_p_law_done : List Str := ["_law_here", "_law_deed_here", "_law_word", "_law_names_here", "_law_things", "_law_n", "_law_sort_here", "_law_part"]
noncomputable def m_p_law_done : FS := (gSeq (gSet 2 (fBin gIx (fVar 1) (fC (.int 0)))) (gSeq (gPar 3 4 (fCons (fBin gIx (fVar 0) (fC (.str "names"))) (fCons (fBin gIx (fVar 0) (fC (.str "things"))) (fun _ S => .ok [] S)))) (gSeq (gIf (toB (fBin gEq (fVar 2) (fC (.str "tidy")))) (fun _ _ => .stuck) gNil) (gSeq (gIf (toB (fBin gEq (fVar 2) (fC (.str "put")))) (gSeq (gSet 5 (fBin gIx (fBin gIx (fVar 3) (fBin gIx (fVar 1) (fC (.int 1)))) (fC (.int 1)))) (gSeq (gAsg (mTup 2 (mCons (mName 6) (mCons (mName 7) (fun ds ρ _ => match ds with | [] => some ρ | _ => none)))) (fBin gIx (fVar 4) (fVar 5))) (gPut (fVar 4) (fVar 5) (fTup (fCons (fVar 6) (fCons (fBin gAdd0 (fBin gAdd0 (fSl (fVar 7) fPartN (fPart (fBin gIx (fVar 1) (fC (.int 2))))) (fTup (fCons (fBin gIx (fVar 3) (fBin gIx (fVar 1) (fC (.int 3)))) (fun _ S => .ok [] S)))) (fSl (fVar 7) (fPart (fBin gAdd0 (fBin gIx (fVar 1) (fC (.int 2))) (fC (.int 1)))) fPartN)) (fun _ S => .ok [] S))))))) (gIf (toB (fBin gEq (fVar 2) (fC (.str "drop")))) (gExpr (fPopK (fVar 3) (fBin gIx (fVar 1) (fC (.int 1))))) (gIf (toB (fBin gEq (fVar 2) (fC (.str "wish")))) (gSeq (gPut (fVar 3) (fBin gIx (fVar 1) (fC (.int 1))) (fC .non)) (gSeq (gIf (toB (fBin gNe (fBin gIx (fVar 0) (fC (.str "queue"))) (fLst (fun _ S => .ok [] S)))) (gSeq (gPut (fVar 3) (fBin gIx (fVar 1) (fC (.int 1))) (fTup (fCons (fC (.str "at")) (fCons (fBM "list" gPopAt (fBin gIx (fVar 0) (fC (.str "queue"))) (fCons (fC (.int 0)) (fun _ S => .ok [] S))) (fun _ S => .ok [] S))))) (gRet (fC (.bl true)))) gNil) (gRet (fC (.bl false))))) (gPut (fVar 3) (fBin gIx (fVar 1) (fC (.int 1))) (fCall S_p_law_gotten (fun ds es => pick [(0, 0), (0, 1)] ds es []) 2 0 2 (fCons (fVar 0) (fCons (fVar 1) (fun _ S => .ok [] S))) (fun _ S => .ok [] S)))))) (gRet (fC .non))))))
noncomputable def S_p_law_done : Sem' := semOf 8 m_p_law_done
/-! ### _law_heard -/
abbrev N_p_law_heard : List Str := ["_law_ask", "_law_told", "_law_error", "e", "_law_some", "_law_word", "_law_there"]
noncomputable def m_p_law_heard : (Store → Res D) → FS := fun th => (gSeq (gSet 1 (fC .non)) (gSeq (gSet 2 (fC .non)) (gSeq (gTry (gActSet 1 th) (⟨tb_YardError, some 3, (gSet 2 (fVar 3))⟩ :: [])) (gSeq (gIf (toB (fBin gIs (fVar 2) (fC .non))) (gRet (fTup (fCons (fC (.str "told")) (fCons (fVar 1) (fun _ S => .ok [] S))))) gNil) (gSeq (gIf (toB (fCB (gIsF tb_BadName (.cls "BadName")) (fCons (fVar 2) (fCons (fC (.cls "BadName")) (fun _ S => .ok [] S))))) (gRet (fTup (fCons (fC (.str "BadName")) (fCons (fFldX ["BadName", "NoName"] "name" (fVar 2)) (fun _ S => .ok [] S))))) gNil) (gSeq (gIf (toB (fCB (gIsF tb_NoName (.cls "NoName")) (fCons (fVar 2) (fCons (fC (.cls "NoName")) (fun _ S => .ok [] S))))) (gRet (fTup (fCons (fC (.str "NoName")) (fCons (fFldX ["BadName", "NoName"] "name" (fVar 2)) (fun _ S => .ok [] S))))) gNil) (gSeq (gSet 4 (fLst (fCons (fTup (fCons (fC (.str "BadNumber")) (fCons (fCB (gIsF tb_BadNumber (.cls "BadNumber")) (fCons (fVar 2) (fCons (fC (.cls "BadNumber")) (fun _ S => .ok [] S)))) (fun _ S => .ok [] S)))) (fCons (fTup (fCons (fC (.str "NoCell")) (fCons (fCB (gIsF tb_NoCell (.cls "NoCell")) (fCons (fVar 2) (fCons (fC (.cls "NoCell")) (fun _ S => .ok [] S)))) (fun _ S => .ok [] S)))) (fCons (fTup (fCons (fC (.str "NoField")) (fCons (fCB (gIsF tb_NoField (.cls "NoField")) (fCons (fVar 2) (fCons (fC (.cls "NoField")) (fun _ S => .ok [] S)))) (fun _ S => .ok [] S)))) (fCons (fTup (fCons (fC (.str "NoDeed")) (fCons (fCB (gIsF tb_NoDeed (.cls "NoDeed")) (fCons (fVar 2) (fCons (fC (.cls "NoDeed")) (fun _ S => .ok [] S)))) (fun _ S => .ok [] S)))) (fCons (fTup (fCons (fC (.str "TooMany")) (fCons (fCB (gIsF tb_TooMany (.cls "TooMany")) (fCons (fVar 2) (fCons (fC (.cls "TooMany")) (fun _ S => .ok [] S)))) (fun _ S => .ok [] S)))) (fun _ S => .ok [] S)))))))) (gRet (fTup (fCons (fBM "str" gJoin (fC (.str " ")) (fCons (fComp (fSeq (fVar 4)) (mTup 2 (mCons (mName 5) (mCons (mName 6) (fun ds ρ _ => match ds with | [] => some ρ | _ => none)))) (toB (fVar 6)) (fVar 5) ([("_law_word", 5), ("_law_there", 6)].map (·.2)) finL) (fun _ S => .ok [] S))) (fCons (fC .non) (fun _ S => .ok [] S))))))))))))
/-! ### is_name -/
abbrev N_is_name : List Str := ["thing", "sign"]
noncomputable def m_is_name : FS := (gSeq (gIf (fOrT (fNotT (toB (fCB gIsi (fCons (fVar 0) (fCons (fC (.ty "str")) (fun _ S => .ok [] S)))))) (fNotT (toB (fChain gLe gLe (fC (.int 1)) (fCB gLen (fCons (fVar 0) (fun _ S => .ok [] S))) (fC (.int 8)))))) (gRet (fC (.bl false))) gNil) (gRet (fCB (gAllAny true) (fCons (fComp (fSigns (fVar 0)) (mName 1) fYes (fBin (gInC false) (fVar 1) (fC (.str "abcdefghijklmnopqrstuvwxyz"))) ([("sign", 1)].map (·.2)) finL) (fun _ S => .ok [] S)))))
noncomputable def S_is_name : Sem' := semOf 2 m_is_name
/-! ### BadName.init -/
abbrev N_BadName_init : List Str := ["self", "name"]
/-! ### NoName.init -/
abbrev N_NoName_init : List Str := ["self", "name"]
/-! ### House.need -/
abbrev N_House_need : List Str := ["self", "names", "there", "new", "name"]
noncomputable def m_House_need : FS := (gSeq (gFor (fSeq (fVar 1)) (mName 4) (gIf (fNotT (toB (fCall (callSub S_is_name) (fun ds es => pick [(0, 0)] ds es []) 1 0 1 (fCons (fVar 4) (fun _ S => .ok [] S)) (fun _ S => .ok [] S)))) (gRaiX "BadName" ["name"] (fCons (fVar 4) (fun _ S => .ok [] S))) gNil)) (gSeq (gFor (fSeq (fVar 2)) (mName 4) (gIf (toB (fBin gNotIn (fVar 4) (fFld ["House"] "named" (fVar 0)))) (gRaiX "NoName" ["name"] (fCons (fVar 4) (fun _ S => .ok [] S))) gNil)) (gIf (fAndT (toB (fBin gIsNot (fVar 3) (fC .non))) (fAndT (toB (fBin gNotIn (fVar 3) (fFld ["House"] "named" (fVar 0)))) (toB (fBin gEq (fCB gLen (fCons (fFld ["House"] "named" (fVar 0)) (fun _ S => .ok [] S))) (fC (.int (40))))))) (fun ρ S => .ex "TooMany" [] ρ S) gNil)))
noncomputable def S_House_need : Sem' := semOf 5 m_House_need
/-! ### is_whole -/
abbrev N_is_whole : List Str := ["thing", "least", "most"]
noncomputable def m_is_whole : FS := (gRet (fAndV (fCB gIsi (fCons (fVar 0) (fCons (fC (.ty "int")) (fun _ S => .ok [] S)))) (fAndV (fNotV (fCB gIsi (fCons (fVar 0) (fCons (fC (.ty "bool")) (fun _ S => .ok [] S))))) (fChain gLe gLe (fVar 1) (fVar 0) (fVar 2)))))
noncomputable def S_is_whole : Sem' := semOf 3 m_is_whole
/-! ### is_number -/
abbrev N_is_number : List Str := ["thing"]
noncomputable def m_is_number : FS := (gRet (fCall (callSub S_is_whole) (fun ds es => pick [(0, 0), (0, 1), (0, 2)] ds es []) 3 0 3 (fCons (fVar 0) (fCons (fUn gNeg (fC (.int (1000000000)))) (fCons (fC (.int (1000000000))) (fun _ S => .ok [] S)))) (fun _ S => .ok [] S)))
noncomputable def S_is_number : Sem' := semOf 1 m_is_number
/-! ### House.keep -/
abbrev N_House_keep : List Str := ["self", "deed", "named", "things", "waits"]
noncomputable def m_House_keep : FS := (gSeq (gExpr (fBM "list" gApp (fFld ["House"] "elder" (fVar 0)) (fCons (fTup (fCons (fFld ["House"] "named" (fVar 0)) (fCons (fFld ["House"] "things" (fVar 0)) (fCons (fFld ["House"] "waits" (fVar 0)) (fun _ S => .ok [] S))))) (fun _ S => .ok [] S)))) (gSeq (gExpr (fBM "list" gApp (fFld ["House"] "stands" (fVar 0)) (fCons (fVar 1) (fun _ S => .ok [] S)))) (gSeq (gIf (toB (fBin gIsNot (fVar 2) (fC .non))) (gFld ["House"] "named" (fVar 0) (fVar 2)) gNil) (gSeq (gIf (toB (fBin gIsNot (fVar 3) (fC .non))) (gFld ["House"] "things" (fVar 0) (fVar 3)) gNil) (gIf (toB (fBin gIsNot (fVar 4) (fC .non))) (gFld ["House"] "waits" (fVar 0) (fVar 4)) gNil)))))
noncomputable def S_House_keep : Sem' := semOf 5 m_House_keep
/-! ### House.with_name -/
abbrev N_House_with_name : List Str := ["self", "name", "value", "named"]
noncomputable def m_House_with_name : FS := (gSeq (gSet 3 (fCB gDictC (fCons (fFld ["House"] "named" (fVar 0)) (fun _ S => .ok [] S)))) (gSeq (gPut (fVar 3) (fVar 1) (fVar 2)) (gRet (fFrz (fVar 3)))))
noncomputable def S_House_with_name : Sem' := semOf 4 m_House_with_name
/-! ### House.number -/
abbrev N_House_number : List Str := ["self", "name", "n"]
noncomputable def m_House_number : FS := (gSeq (gExpr (fMeth S_House_need (fun ds es => pick [(0, 0), (0, 1), (2, 0), (1, 0)] ds es [.tup (([] : List Str).map D.str)]) "House" "need" 2 1 4 (fVar 0) (fCons (fLst (fCons (fVar 1) (fun _ S => .ok [] S))) (fun _ S => .ok [] S)) (fCons (fVar 1) (fun _ S => .ok [] S)))) (gSeq (gIf (fNotT (toB (fCall (callSub S_is_number) (fun ds es => pick [(0, 0)] ds es []) 1 0 1 (fCons (fVar 2) (fun _ S => .ok [] S)) (fun _ S => .ok [] S)))) (fun ρ S => .ex "BadNumber" [] ρ S) gNil) (gExpr (fMeth S_House_keep (fun ds es => pick [(0, 0), (0, 1), (1, 0), (2, 0), (2, 1)] ds es [.non, .non]) "House" "keep" 2 1 5 (fVar 0) (fCons (fTup (fCons (fC (.str "number")) (fCons (fVar 1) (fCons (fVar 2) (fun _ S => .ok [] S))))) (fun _ S => .ok [] S)) (fCons (fMeth S_House_with_name (fun ds es => pick [(0, 0), (0, 1), (0, 2)] ds es []) "House" "with_name" 3 0 3 (fVar 0) (fCons (fVar 1) (fCons (fVar 2) (fun _ S => .ok [] S))) (fun _ S => .ok [] S)) (fun _ S => .ok [] S))))))
noncomputable def S_House_number : Sem' := semOf 3 m_House_number
/-! ### House.nothing -/
abbrev N_House_nothing : List Str := ["self", "name"]
noncomputable def m_House_nothing : FS := (gSeq (gExpr (fMeth S_House_need (fun ds es => pick [(0, 0), (0, 1), (2, 0), (1, 0)] ds es [.tup (([] : List Str).map D.str)]) "House" "need" 2 1 4 (fVar 0) (fCons (fLst (fCons (fVar 1) (fun _ S => .ok [] S))) (fun _ S => .ok [] S)) (fCons (fVar 1) (fun _ S => .ok [] S)))) (gExpr (fMeth S_House_keep (fun ds es => pick [(0, 0), (0, 1), (1, 0), (2, 0), (2, 1)] ds es [.non, .non]) "House" "keep" 2 1 5 (fVar 0) (fCons (fTup (fCons (fC (.str "nothing")) (fCons (fVar 1) (fun _ S => .ok [] S)))) (fun _ S => .ok [] S)) (fCons (fMeth S_House_with_name (fun ds es => pick [(0, 0), (0, 1), (0, 2)] ds es []) "House" "with_name" 3 0 3 (fVar 0) (fCons (fVar 1) (fCons (fC .non) (fun _ S => .ok [] S))) (fun _ S => .ok [] S)) (fun _ S => .ok [] S)))))
noncomputable def S_House_nothing : Sem' := semOf 2 m_House_nothing
/-! ### House.hold -/
abbrev N_House_hold : List Str := ["self", "name", "other"]
noncomputable def m_House_hold : FS := (gSeq (gExpr (fMeth S_House_need (fun ds es => pick [(0, 0), (0, 1), (1, 0), (1, 1)] ds es []) "House" "need" 2 2 4 (fVar 0) (fCons (fLst (fCons (fVar 1) (fCons (fVar 2) (fun _ S => .ok [] S)))) (fun _ S => .ok [] S)) (fCons (fLst (fCons (fVar 2) (fun _ S => .ok [] S))) (fCons (fVar 1) (fun _ S => .ok [] S))))) (gExpr (fMeth S_House_keep (fun ds es => pick [(0, 0), (0, 1), (1, 0), (2, 0), (2, 1)] ds es [.non, .non]) "House" "keep" 2 1 5 (fVar 0) (fCons (fTup (fCons (fC (.str "hold")) (fCons (fVar 1) (fCons (fVar 2) (fun _ S => .ok [] S))))) (fun _ S => .ok [] S)) (fCons (fMeth S_House_with_name (fun ds es => pick [(0, 0), (0, 1), (0, 2)] ds es []) "House" "with_name" 3 0 3 (fVar 0) (fCons (fVar 1) (fCons (fBin gIx (fFld ["House"] "named" (fVar 0)) (fVar 2)) (fun _ S => .ok [] S))) (fun _ S => .ok [] S)) (fun _ S => .ok [] S)))))
noncomputable def S_House_hold : Sem' := semOf 3 m_House_hold
/-! ### House.cell -/
abbrev N_House_cell : List Str := ["self", "name", "many", "last", "deed", "things"]
noncomputable def m_House_cell : FS := (gSeq (gExpr (fMeth S_House_need (fun ds es => pick [(0, 0), (0, 1), (2, 0), (1, 0)] ds es [.tup (([] : List Str).map D.str)]) "House" "need" 2 1 4 (fVar 0) (fCons (fLst (fCons (fVar 1) (fun _ S => .ok [] S))) (fun _ S => .ok [] S)) (fCons (fVar 1) (fun _ S => .ok [] S)))) (gSeq (gIf (fNotT (toB (fCall (callSub S_is_whole) (fun ds es => pick [(0, 0), (0, 1), (0, 2)] ds es []) 3 0 3 (fCons (fVar 2) (fCons (fC (.int 0)) (fCons (fC (.int (6))) (fun _ S => .ok [] S)))) (fun _ S => .ok [] S)))) (fun ρ S => .ex "NoField" [] ρ S) gNil) (gSeq (gSet 4 (fTup (fCons (fC (.str "cell")) (fCons (fVar 1) (fCons (fVar 2) (fCons (fCB gBoolB (fCons (fVar 3) (fun _ S => .ok [] S))) (fun _ S => .ok [] S))))))) (gSeq (gSet 5 (fBin gAdd (fFld ["House"] "things" (fVar 0)) (fLst (fCons (fTup (fCons (fIf (toB (fVar 3)) (fC (.str "last")) (fC (.str "cell"))) (fCons (fBin gRepT (fTup (fCons (fC .non) (fun _ S => .ok [] S))) (fVar 2)) (fun _ S => .ok [] S)))) (fun _ S => .ok [] S))))) (gExpr (fMeth S_House_keep (fun ds es => pick [(0, 0), (0, 1), (1, 0), (1, 1), (2, 0)] ds es [.non]) "House" "keep" 2 2 5 (fVar 0) (fCons (fVar 4) (fun _ S => .ok [] S)) (fCons (fMeth S_House_with_name (fun ds es => pick [(0, 0), (0, 1), (0, 2)] ds es []) "House" "with_name" 3 0 3 (fVar 0) (fCons (fVar 1) (fCons (fTup (fCons (fC (.str "at")) (fCons (fCB gLen (fCons (fFld ["House"] "things" (fVar 0)) (fun _ S => .ok [] S))) (fun _ S => .ok [] S)))) (fun _ S => .ok [] S))) (fun _ S => .ok [] S)) (fCons (fVar 5) (fun _ S => .ok [] S)))))))))
noncomputable def S_House_cell : Sem' := semOf 6 m_House_cell
/-! ### House.thing_in -/
abbrev N_House_thing_in : List Str := ["self", "name", "sorts", "value"]
noncomputable def m_House_thing_in : FS := (gSeq (gSet 3 (fBin gIx (fFld ["House"] "named" (fVar 0)) (fVar 1))) (gSeq (gIf (fOrT (fNotT (toB (fCB gIsi (fCons (fVar 3) (fCons (fC (.ty "tuple")) (fun _ S => .ok [] S)))))) (toB (fBin gNotIn (fBin gIx (fBin gIx (fFld ["House"] "things" (fVar 0)) (fBin gIx (fVar 3) (fC (.int 1)))) (fC (.int 0))) (fVar 2)))) (fun ρ S => .ex "NoCell" [] ρ S) gNil) (gRet (fBin gIx (fVar 3) (fC (.int 1))))))
noncomputable def S_House_thing_in : Sem' := semOf 4 m_House_thing_in
/-! ### House.tie -/
abbrev N_House_tie : List Str := ["self", "name", "other", "things"]
noncomputable def m_House_tie : FS := (gSeq (gExpr (fMeth S_House_need (fun ds es => pick [(0, 0), (0, 1), (1, 0), (1, 1)] ds es []) "House" "need" 2 2 4 (fVar 0) (fCons (fLst (fCons (fVar 1) (fCons (fVar 2) (fun _ S => .ok [] S)))) (fun _ S => .ok [] S)) (fCons (fLst (fCons (fVar 2) (fun _ S => .ok [] S))) (fCons (fVar 1) (fun _ S => .ok [] S))))) (gSeq (gSet 3 (fBin gAdd (fFld ["House"] "things" (fVar 0)) (fLst (fCons (fTup (fCons (fC (.str "tie")) (fCons (fMeth S_House_thing_in (fun ds es => pick [(0, 0), (0, 1), (1, 0)] ds es []) "House" "thing_in" 2 1 3 (fVar 0) (fCons (fVar 2) (fun _ S => .ok [] S)) (fCons (fTup (fCons (fC (.str "cell")) (fCons (fC (.str "last")) (fCons (fC (.str "tie")) (fun _ S => .ok [] S))))) (fun _ S => .ok [] S))) (fun _ S => .ok [] S)))) (fun _ S => .ok [] S))))) (gExpr (fMeth S_House_keep (fun ds es => pick [(0, 0), (0, 1), (1, 0), (1, 1), (2, 0)] ds es [.non]) "House" "keep" 2 2 5 (fVar 0) (fCons (fTup (fCons (fC (.str "tie")) (fCons (fVar 1) (fCons (fVar 2) (fun _ S => .ok [] S))))) (fun _ S => .ok [] S)) (fCons (fMeth S_House_with_name (fun ds es => pick [(0, 0), (0, 1), (0, 2)] ds es []) "House" "with_name" 3 0 3 (fVar 0) (fCons (fVar 1) (fCons (fTup (fCons (fC (.str "at")) (fCons (fCB gLen (fCons (fFld ["House"] "things" (fVar 0)) (fun _ S => .ok [] S))) (fun _ S => .ok [] S)))) (fun _ S => .ok [] S))) (fun _ S => .ok [] S)) (fCons (fVar 3) (fun _ S => .ok [] S)))))))
noncomputable def S_House_tie : Sem' := semOf 4 m_House_tie
/-! ### House.field_in -/
abbrev N_House_field_in : List Str := ["self", "name", "k", "n"]
noncomputable def m_House_field_in : FS := (gSeq (gSet 3 (fMeth S_House_thing_in (fun ds es => pick [(0, 0), (0, 1), (2, 0)] ds es [.tup ((["cell", "last"] : List Str).map D.str)]) "House" "thing_in" 2 0 3 (fVar 0) (fCons (fVar 1) (fun _ S => .ok [] S)) (fun _ S => .ok [] S))) (gSeq (gIf (fNotT (toB (fCall (callSub S_is_whole) (fun ds es => pick [(0, 0), (0, 1), (0, 2)] ds es []) 3 0 3 (fCons (fVar 2) (fCons (fC (.int 0)) (fCons (fBin gSub (fCB gLen (fCons (fBin gIx (fBin gIx (fFld ["House"] "things" (fVar 0)) (fVar 3)) (fC (.int 1))) (fun _ S => .ok [] S))) (fC (.int 1))) (fun _ S => .ok [] S)))) (fun _ S => .ok [] S)))) (fun ρ S => .ex "NoField" [] ρ S) gNil) (gRet (fVar 3))))
noncomputable def S_House_field_in : Sem' := semOf 4 m_House_field_in
/-! ### House.get -/
abbrev N_House_get : List Str := ["self", "name", "other", "k", "value"]
noncomputable def m_House_get : FS := (gSeq (gExpr (fMeth S_House_need (fun ds es => pick [(0, 0), (0, 1), (1, 0), (1, 1)] ds es []) "House" "need" 2 2 4 (fVar 0) (fCons (fLst (fCons (fVar 1) (fCons (fVar 2) (fun _ S => .ok [] S)))) (fun _ S => .ok [] S)) (fCons (fLst (fCons (fVar 2) (fun _ S => .ok [] S))) (fCons (fVar 1) (fun _ S => .ok [] S))))) (gSeq (gSet 4 (fBin gIx (fBin gIx (fBin gIx (fFld ["House"] "things" (fVar 0)) (fMeth S_House_field_in (fun ds es => pick [(0, 0), (0, 1), (0, 2)] ds es []) "House" "field_in" 3 0 3 (fVar 0) (fCons (fVar 2) (fCons (fVar 3) (fun _ S => .ok [] S))) (fun _ S => .ok [] S))) (fC (.int 1))) (fVar 3))) (gExpr (fMeth S_House_keep (fun ds es => pick [(0, 0), (0, 1), (1, 0), (2, 0), (2, 1)] ds es [.non, .non]) "House" "keep" 2 1 5 (fVar 0) (fCons (fTup (fCons (fC (.str "get")) (fCons (fVar 1) (fCons (fVar 2) (fCons (fVar 3) (fun _ S => .ok [] S)))))) (fun _ S => .ok [] S)) (fCons (fMeth S_House_with_name (fun ds es => pick [(0, 0), (0, 1), (0, 2)] ds es []) "House" "with_name" 3 0 3 (fVar 0) (fCons (fVar 1) (fCons (fVar 4) (fun _ S => .ok [] S))) (fun _ S => .ok [] S)) (fun _ S => .ok [] S))))))
noncomputable def S_House_get : Sem' := semOf 5 m_House_get
/-! ### House.put -/
abbrev N_House_put : List Str := ["self", "other", "k", "name", "n", "kind", "fields", "things"]
noncomputable def m_House_put : FS := (gSeq (gExpr (fMeth S_House_need (fun ds es => pick [(0, 0), (0, 1), (1, 0), (2, 0)] ds es [.non]) "House" "need" 2 1 4 (fVar 0) (fCons (fLst (fCons (fVar 1) (fCons (fVar 3) (fun _ S => .ok [] S)))) (fun _ S => .ok [] S)) (fCons (fLst (fCons (fVar 1) (fCons (fVar 3) (fun _ S => .ok [] S)))) (fun _ S => .ok [] S)))) (gSeq (gSet 4 (fMeth S_House_field_in (fun ds es => pick [(0, 0), (0, 1), (0, 2)] ds es []) "House" "field_in" 3 0 3 (fVar 0) (fCons (fVar 1) (fCons (fVar 2) (fun _ S => .ok [] S))) (fun _ S => .ok [] S))) (gSeq (gAsg (mTup 2 (mCons (mName 5) (mCons (mName 6) (fun ds ρ _ => match ds with | [] => some ρ | _ => none)))) (fBin gIx (fFld ["House"] "things" (fVar 0)) (fVar 4))) (gSeq (gSet 7 (fCB gListO (fCons (fFld ["House"] "things" (fVar 0)) (fun _ S => .ok [] S)))) (gSeq (gPut (fVar 7) (fVar 4) (fTup (fCons (fVar 5) (fCons (fBin gAdd0 (fBin gAdd0 (fSl (fVar 6) fPartN (fPart (fVar 2))) (fTup (fCons (fBin gIx (fFld ["House"] "named" (fVar 0)) (fVar 3)) (fun _ S => .ok [] S)))) (fSl (fVar 6) (fPart (fBin gAdd0 (fVar 2) (fC (.int 1)))) fPartN)) (fun _ S => .ok [] S))))) (gExpr (fMeth S_House_keep (fun ds es => pick [(0, 0), (0, 1), (2, 0), (1, 0), (2, 1)] ds es [.non, .non]) "House" "keep" 2 1 5 (fVar 0) (fCons (fTup (fCons (fC (.str "put")) (fCons (fVar 1) (fCons (fVar 2) (fCons (fVar 3) (fun _ S => .ok [] S)))))) (fun _ S => .ok [] S)) (fCons (fFrz (fVar 7)) (fun _ S => .ok [] S)))))))))
noncomputable def S_House_put : Sem' := semOf 8 m_House_put
/-! ### House.follow -/
abbrev N_House_follow : List Str := ["self", "name", "other", "goal", "value"]
noncomputable def m_House_follow : FS := (gSeq (gExpr (fMeth S_House_need (fun ds es => pick [(0, 0), (0, 1), (1, 0), (1, 1)] ds es []) "House" "need" 2 2 4 (fVar 0) (fCons (fLst (fCons (fVar 1) (fCons (fVar 2) (fun _ S => .ok [] S)))) (fun _ S => .ok [] S)) (fCons (fLst (fCons (fVar 2) (fun _ S => .ok [] S))) (fCons (fVar 1) (fun _ S => .ok [] S))))) (gSeq (gSet 3 (fBin gIx (fBin gIx (fFld ["House"] "things" (fVar 0)) (fMeth S_House_thing_in (fun ds es => pick [(0, 0), (0, 1), (1, 0)] ds es []) "House" "thing_in" 2 1 3 (fVar 0) (fCons (fVar 2) (fun _ S => .ok [] S)) (fCons (fTup (fCons (fC (.str "tie")) (fun _ S => .ok [] S))) (fun _ S => .ok [] S)))) (fC (.int 1)))) (gSeq (gSet 4 (fIf (toB (fBin gIs (fVar 3) (fC .non))) (fC .non) (fTup (fCons (fC (.str "at")) (fCons (fVar 3) (fun _ S => .ok [] S)))))) (gExpr (fMeth S_House_keep (fun ds es => pick [(0, 0), (0, 1), (1, 0), (2, 0), (2, 1)] ds es [.non, .non]) "House" "keep" 2 1 5 (fVar 0) (fCons (fTup (fCons (fC (.str "follow")) (fCons (fVar 1) (fCons (fVar 2) (fun _ S => .ok [] S))))) (fun _ S => .ok [] S)) (fCons (fMeth S_House_with_name (fun ds es => pick [(0, 0), (0, 1), (0, 2)] ds es []) "House" "with_name" 3 0 3 (fVar 0) (fCons (fVar 1) (fCons (fVar 4) (fun _ S => .ok [] S))) (fun _ S => .ok [] S)) (fun _ S => .ok [] S)))))))
noncomputable def S_House_follow : Sem' := semOf 5 m_House_follow
/-! ### House.drop -/
abbrev N_House_drop : List Str := ["self", "name", "one", "value"]
noncomputable def m_House_drop : FS := (gSeq (gExpr (fMeth S_House_need (fun ds es => pick [(0, 0), (0, 1), (1, 0), (2, 0)] ds es [.non]) "House" "need" 2 1 4 (fVar 0) (fCons (fLst (fCons (fVar 1) (fun _ S => .ok [] S))) (fun _ S => .ok [] S)) (fCons (fLst (fCons (fVar 1) (fun _ S => .ok [] S))) (fun _ S => .ok [] S)))) (gExpr (fMeth S_House_keep (fun ds es => pick [(0, 0), (0, 1), (1, 0), (2, 0), (2, 1)] ds es [.non, .non]) "House" "keep" 2 1 5 (fVar 0) (fCons (fTup (fCons (fC (.str "drop")) (fCons (fVar 1) (fun _ S => .ok [] S)))) (fun _ S => .ok [] S)) (fCons (fDropC 2 3 1 (fFld ["House"] "named" (fVar 0))) (fun _ S => .ok [] S)))))
noncomputable def S_House_drop : Sem' := semOf 4 m_House_drop
/-! ### _law_call -/
abbrev N_p_law_call : List Str := ["_law_house", "_law_deed_here", "_law_word"]
noncomputable def m_p_law_call : FS := (gSeq (gSet 2 (fBin gIx (fVar 1) (fC (.int 0)))) (gSeq (gIf (toB (fBin gEq (fVar 2) (fC (.str "number")))) (gRet (fMeth S_House_number (fun ds es => pick [(0, 0), (0, 1), (0, 2)] ds es []) "House" "number" 3 0 3 (fVar 0) (fCons (fBin gIx (fVar 1) (fC (.int 1))) (fCons (fBin gIx (fVar 1) (fC (.int 2))) (fun _ S => .ok [] S))) (fun _ S => .ok [] S))) gNil) (gSeq (gIf (toB (fBin gEq (fVar 2) (fC (.str "nothing")))) (gRet (fMeth S_House_nothing (fun ds es => pick [(0, 0), (0, 1)] ds es []) "House" "nothing" 2 0 2 (fVar 0) (fCons (fBin gIx (fVar 1) (fC (.int 1))) (fun _ S => .ok [] S)) (fun _ S => .ok [] S))) gNil) (gSeq (gIf (toB (fBin gEq (fVar 2) (fC (.str "hold")))) (gRet (fMeth S_House_hold (fun ds es => pick [(0, 0), (0, 1), (0, 2)] ds es []) "House" "hold" 3 0 3 (fVar 0) (fCons (fBin gIx (fVar 1) (fC (.int 1))) (fCons (fBin gIx (fVar 1) (fC (.int 2))) (fun _ S => .ok [] S))) (fun _ S => .ok [] S))) gNil) (gSeq (gIf (toB (fBin gEq (fVar 2) (fC (.str "cell")))) (gRet (fMeth S_House_cell (fun ds es => pick [(0, 0), (0, 1), (0, 2), (1, 0)] ds es []) "House" "cell" 3 1 4 (fVar 0) (fCons (fBin gIx (fVar 1) (fC (.int 1))) (fCons (fBin gIx (fVar 1) (fC (.int 2))) (fun _ S => .ok [] S))) (fCons (fBin gIx (fVar 1) (fC (.int 3))) (fun _ S => .ok [] S)))) gNil) (gSeq (gIf (toB (fBin gEq (fVar 2) (fC (.str "tie")))) (gRet (fMeth S_House_tie (fun ds es => pick [(0, 0), (0, 1), (0, 2)] ds es []) "House" "tie" 3 0 3 (fVar 0) (fCons (fBin gIx (fVar 1) (fC (.int 1))) (fCons (fBin gIx (fVar 1) (fC (.int 2))) (fun _ S => .ok [] S))) (fun _ S => .ok [] S))) gNil) (gSeq (gIf (toB (fBin gEq (fVar 2) (fC (.str "get")))) (gRet (fMeth S_House_get (fun ds es => pick [(0, 0), (0, 1), (0, 2), (0, 3)] ds es []) "House" "get" 4 0 4 (fVar 0) (fCons (fBin gIx (fVar 1) (fC (.int 1))) (fCons (fBin gIx (fVar 1) (fC (.int 2))) (fCons (fBin gIx (fVar 1) (fC (.int 3))) (fun _ S => .ok [] S)))) (fun _ S => .ok [] S))) gNil) (gSeq (gIf (toB (fBin gEq (fVar 2) (fC (.str "put")))) (gRet (fMeth S_House_put (fun ds es => pick [(0, 0), (0, 1), (0, 2), (0, 3)] ds es []) "House" "put" 4 0 4 (fVar 0) (fCons (fBin gIx (fVar 1) (fC (.int 1))) (fCons (fBin gIx (fVar 1) (fC (.int 2))) (fCons (fBin gIx (fVar 1) (fC (.int 3))) (fun _ S => .ok [] S)))) (fun _ S => .ok [] S))) gNil) (gSeq (gIf (toB (fBin gEq (fVar 2) (fC (.str "follow")))) (gRet (fMeth S_House_follow (fun ds es => pick [(0, 0), (0, 1), (0, 2)] ds es []) "House" "follow" 3 0 3 (fVar 0) (fCons (fBin gIx (fVar 1) (fC (.int 1))) (fCons (fBin gIx (fVar 1) (fC (.int 2))) (fun _ S => .ok [] S))) (fun _ S => .ok [] S))) gNil) (gSeq (gIf (toB (fBin gEq (fVar 2) (fC (.str "wish")))) (fun _ _ => .stuck) gNil) (gSeq (gIf (toB (fBin gEq (fVar 2) (fC (.str "drop")))) (gRet (fMeth S_House_drop (fun ds es => pick [(0, 0), (0, 1)] ds es []) "House" "drop" 2 0 2 (fVar 0) (fCons (fBin gIx (fVar 1) (fC (.int 1))) (fun _ S => .ok [] S)) (fun _ S => .ok [] S))) gNil) (fun _ _ => .stuck))))))))))))
noncomputable def S_p_law_call : Sem' := semOf 3 m_p_law_call
/-! ### House.names -/
abbrev N_House_names : List Str := ["self"]
noncomputable def m_House_names : FS := (gRet (fCB gSortD (fCons (fFld ["House"] "named" (fVar 0)) (fun _ S => .ok [] S))))
noncomputable def S_House_names : Sem' := semOf 1 m_House_names
/-! ### House.__len__ -/
abbrev N_House_len : List Str := ["self"]
noncomputable def m_House_len : FS := (gRet (fCB gLen (fCons (fFld ["House"] "named" (fVar 0)) (fun _ S => .ok [] S))))
noncomputable def S_House_len : Sem' := semOf 1 m_House_len
/-! ### House.value -/
abbrev N_House_value : List Str := ["self", "name", "value"]
noncomputable def m_House_value : FS := (gSeq (gExpr (fMeth S_House_need (fun ds es => pick [(0, 0), (0, 1), (1, 0), (2, 0)] ds es [.non]) "House" "need" 2 1 4 (fVar 0) (fCons (fLst (fCons (fVar 1) (fun _ S => .ok [] S))) (fun _ S => .ok [] S)) (fCons (fLst (fCons (fVar 1) (fun _ S => .ok [] S))) (fun _ S => .ok [] S)))) (gSeq (gSet 2 (fBin gIx (fFld ["House"] "named" (fVar 0)) (fVar 1))) (gSeq (gIf (fNotT (toB (fCB gIsi (fCons (fVar 2) (fCons (fC (.ty "tuple")) (fun _ S => .ok [] S)))))) (gRet (fVar 2)) gNil) (gRet (fIf (toB (fBin gEq (fBin gIx (fBin gIx (fFld ["House"] "things" (fVar 0)) (fBin gIx (fVar 2) (fC (.int 1)))) (fC (.int 0))) (fC (.str "tie")))) (fC (.str "tie")) (fC (.str "cell")))))))
noncomputable def S_House_value : Sem' := semOf 3 m_House_value
/-! ### _law_value -/
abbrev N_p_law_value : List Str := ["_law_here", "_law_name_here", "_law_value_here"]
noncomputable def m_p_law_value : FS := (gSeq (gSet 2 (fBin gIx (fBin gIx (fVar 0) (fC (.str "names"))) (fVar 1))) (gSeq (gIf (fNotT (toB (fCB gIsi (fCons (fVar 2) (fCons (fC (.ty "tuple")) (fun _ S => .ok [] S)))))) (gRet (fVar 2)) gNil) (gRet (fIf (toB (fBin gEq (fBin gIx (fBin gIx (fBin gIx (fVar 0) (fC (.str "things"))) (fBin gIx (fVar 2) (fC (.int 1)))) (fC (.int 0))) (fC (.str "tie")))) (fC (.str "tie")) (fC (.str "cell"))))))
noncomputable def S_p_law_value : Sem' := semOf 3 m_p_law_value
/-! ### House.same -/
abbrev N_House_same : List Str := ["self", "name", "other"]
noncomputable def m_House_same : FS := (gSeq (gExpr (fMeth S_House_need (fun ds es => pick [(0, 0), (0, 1), (1, 0), (2, 0)] ds es [.non]) "House" "need" 2 1 4 (fVar 0) (fCons (fLst (fCons (fVar 1) (fCons (fVar 2) (fun _ S => .ok [] S)))) (fun _ S => .ok [] S)) (fCons (fLst (fCons (fVar 1) (fCons (fVar 2) (fun _ S => .ok [] S)))) (fun _ S => .ok [] S)))) (gRet (fBin gEq (fBin gIx (fFld ["House"] "named" (fVar 0)) (fVar 1)) (fBin gIx (fFld ["House"] "named" (fVar 0)) (fVar 2)))))
noncomputable def S_House_same : Sem' := semOf 3 m_House_same
/-! ### _law_stands -/
abbrev N_p_law_stands : List Str := ["_law_house", "_law_here", "_law_names_here", "_law_one", "_law_dues", "_law_name_here", "_law_other"]
noncomputable def m_p_law_stands : FS := (gSeq (gSet 2 (fCB gSortD (fCons (fBin gIx (fVar 1) (fC (.str "names"))) (fun _ S => .ok [] S)))) (gSeq (gIf (fOrT (toB (fBin gNe (fCB gRepr (fCons (fMeth S_House_names (fun ds es => pick [(0, 0)] ds es []) "House" "names" 1 0 1 (fVar 0) (fun _ S => .ok [] S) (fun _ S => .ok [] S)) (fun _ S => .ok [] S))) (fCB gRepr (fCons (fVar 2) (fun _ S => .ok [] S))))) (toB (fBin gNe (fCB gRepr (fCons (fCB (gLenP "House" S_House_len) (fCons (fVar 0) (fun _ S => .ok [] S))) (fun _ S => .ok [] S))) (fCB gRepr (fCons (fCB gLen (fCons (fVar 2) (fun _ S => .ok [] S))) (fun _ S => .ok [] S)))))) (gRet (fC (.bl false))) gNil) (gSeq (gIf (toB (fBin gNe (fCB gRepr (fCons (fComp (fSeq (fVar 2)) (mName 5) fYes (fMeth S_House_value (fun ds es => pick [(0, 0), (0, 1)] ds es []) "House" "value" 2 0 2 (fVar 0) (fCons (fVar 5) (fun _ S => .ok [] S)) (fun _ S => .ok [] S)) ([("_law_name_here", 5)].map (·.2)) finL) (fun _ S => .ok [] S))) (fCB gRepr (fCons (fComp (fSeq (fVar 2)) (mName 5) fYes (fCall S_p_law_value (fun ds es => pick [(0, 0), (0, 1)] ds es []) 2 0 2 (fCons (fVar 1) (fCons (fVar 5) (fun _ S => .ok [] S))) (fun _ S => .ok [] S)) ([("_law_name_here", 5)].map (·.2)) finL) (fun _ S => .ok [] S))))) (gRet (fC (.bl false))) gNil) (gSeq (gFor (fSeq (fSl (fVar 2) fPartN (fPart (fC (.int 3))))) (mName 3) (gSeq (gSet 4 (fComp (fSeq (fSl (fVar 2) fPartN (fPart (fC (.int 3))))) (mName 6) fYes (fBin gEq (fBin gIx (fBin gIx (fVar 1) (fC (.str "names"))) (fVar 3)) (fBin gIx (fBin gIx (fVar 1) (fC (.str "names"))) (fVar 6))) ([("_law_other", 6)].map (·.2)) finL)) (gIf (toB (fBin gNe (fCB gRepr (fCons (fComp (fSeq (fSl (fVar 2) fPartN (fPart (fC (.int 3))))) (mName 6) fYes (fMeth S_House_same (fun ds es => pick [(0, 0), (0, 1), (0, 2)] ds es []) "House" "same" 3 0 3 (fVar 0) (fCons (fVar 3) (fCons (fVar 6) (fun _ S => .ok [] S))) (fun _ S => .ok [] S)) ([("_law_other", 6)].map (·.2)) finL) (fun _ S => .ok [] S))) (fCB gRepr (fCons (fVar 4) (fun _ S => .ok [] S))))) (gRet (fC (.bl false))) gNil))) (gRet (fC (.bl true)))))))
noncomputable def S_p_law_stands : Sem' := semOf 7 m_p_law_stands
/-! ### House.names@o -/
abbrev N_House_names_o : List Str := ["self"]
noncomputable def m_House_names_o : FS := (gRet (fCB gSortDO (fCons (fFld ["House"] "named" (fVar 0)) (fun _ S => .ok [] S))))
noncomputable def S_House_names_o : Sem' := semOf 1 m_House_names_o
/-! ### law -/
abbrev N_law : List Str := ["_law_script", "_law_state_here", "_law_hints", "_law_menu", "_law_house", "_law_here", "_law_k", "_law_deed_here", "_law_due"]
noncomputable def m_law : FS := (gSeq (gSet 1 (fCall S_p_law_state (fun ds es => pick [(0, 0), (0, 1)] ds es []) 2 0 2 (fCons (fVar 0) (fCons (fC (.int 0)) (fun _ S => .ok [] S))) (fun _ S => .ok [] S))) (gSeq (gSet 2 (fCall S_p_law_names (fun ds es => pick [(0, 0), (0, 1)] ds es []) 2 0 2 (fCons (fVar 1) (fCons (fBin gAdd (fC (.int 2)) (fCall S_p_law_next (fun ds es => pick [(0, 0), (0, 1)] ds es []) 2 0 2 (fCons (fVar 1) (fCons (fC (.int 4)) (fun _ S => .ok [] S))) (fun _ S => .ok [] S))) (fun _ S => .ok [] S))) (fun _ S => .ok [] S))) (gSeq (gSet 3 (fLst (fCons (fC (.str "number")) (fCons (fC (.str "cell")) (fCons (fC (.str "cell")) (fCons (fC (.str "put")) (fCons (fC (.str "get")) (fCons (fC (.str "tie")) (fCons (fC (.str "hold")) (fCons (fC (.str "follow")) (fCons (fC (.str "nothing")) (fCons (fC (.str "drop")) (fCons (fC (.str "put")) (fCons (fC (.str "get")) (fun _ S => .ok [] S))))))))))))))) (gSeq (gSet 4 (fMake (makeO S_House_init (fun ds es => pick [(0, 0)] ds es []) "House" 1) 0 0 (fun _ S => .ok [] S) (fun _ S => .ok [] S))) (gSeq (gSet 5 (fDisp (fPs (fC (.str "names")) fDict0 (fPs (fC (.str "things")) (fLstO (fun _ S => .ok [] S)) (fPs (fC (.str "queue")) (fLstO (fun _ S => .ok [] S)) fPs0))))) (gSeq (gFor (fRng1 (fCons (fCB gMin (fCons (fCB gLen (fCons (fVar 0) (fun _ S => .ok [] S))) (fCons (fC (.int 40)) (fun _ S => .ok [] S)))) (fun _ S => .ok [] S))) (mName 6) (gSeq (gSet 7 (fCall S_p_law_deed (fun ds es => pick [(0, 0), (0, 1), (0, 2)] ds es []) 3 0 3 (fCons (fCall S_p_law_state (fun ds es => pick [(0, 0), (0, 1)] ds es []) 2 0 2 (fCons (fVar 0) (fCons (fVar 6) (fun _ S => .ok [] S))) (fun _ S => .ok [] S)) (fCons (fVar 3) (fCons (fVar 2) (fun _ S => .ok [] S)))) (fun _ S => .ok [] S))) (gSeq (gSet 8 (fCall S_p_law_refusal (fun ds es => pick [(0, 0), (0, 1)] ds es []) 2 0 2 (fCons (fVar 5) (fCons (fVar 7) (fun _ S => .ok [] S))) (fun _ S => .ok [] S))) (gSeq (gIf (toB (fBin gIs (fVar 8) (fC .non))) (gSet 8 (fTup (fCons (fC (.str "told")) (fCons (fCall S_p_law_done (fun ds es => pick [(0, 0), (0, 1)] ds es []) 2 0 2 (fCons (fVar 5) (fCons (fVar 7) (fun _ S => .ok [] S))) (fun _ S => .ok [] S)) (fun _ S => .ok [] S))))) gNil) (gIf (fOrT (toB (fBin gNe (fCB gRepr (fCons (fTold ("law", none) ((("law" : Str) ++ ".<locals>.") ++ "<lambda>") 7 m_p_law_heard (fCall S_p_law_call (fun ds es => pick [(0, 0), (0, 1)] ds es []) 2 0 2 (fCons (fVar 4) (fCons (fVar 7) (fun _ S => .ok [] S))) (fun _ S => .ok [] S))) (fun _ S => .ok [] S))) (fCB gRepr (fCons (fVar 8) (fun _ S => .ok [] S))))) (fNotT (toB (fCall S_p_law_stands (fun ds es => pick [(0, 0), (0, 1)] ds es []) 2 0 2 (fCons (fVar 4) (fCons (fVar 5) (fun _ S => .ok [] S))) (fun _ S => .ok [] S))))) (gRet (fC (.bl false))) gNil))))) (gSeq (gExpr (fBM "list" gApp (fMeth S_House_names_o (fun ds es => pick [(0, 0)] ds es []) "House" "names" 1 0 1 (fVar 4) (fun _ S => .ok [] S) (fun _ S => .ok [] S)) (fCons (fC (.str "more")) (fun _ S => .ok [] S)))) (gRet (fAndV (fCall S_p_law_stands (fun ds es => pick [(0, 0), (0, 1)] ds es []) 2 0 2 (fCons (fVar 4) (fCons (fVar 5) (fun _ S => .ok [] S))) (fun _ S => .ok [] S)) (fBin gEq (fCB (gLenP "House" S_House_len) (fCons (fMake (makeO S_House_init (fun ds es => pick [(0, 0)] ds es []) "House" 1) 0 0 (fun _ S => .ok [] S) (fun _ S => .ok [] S)) (fun _ S => .ok [] S))) (fC (.int 0))))))))))))
noncomputable def S_law : Sem' := semOf 9 m_law
structure Txt (K : PySem.W.Frag) (mg : Str → Option Value) : Prop where
  says : He.SaysD fa fn K
  glo : ∀ {x : Str}, (He.Fa.glo x).ok K = true → mg x = some (.ref (He.ga K x))
  free : ∀ {x : Str}, (He.Fa.free x).ok K = true → mg x = none
  int : ∀ {x : Str} {i : Int}, (He.Fa.int x i).ok K = true → ∃ t, mg x = some (.int i t)
  str : ∀ {x z : Str}, (He.Fa.str x z).ok K = true → ∃ t, mg x = some (.str z t)
  ex : exB K = true
section
variable {K : PySem.W.Frag} {mg : Str → Option Value}
theorem txt_of {h : Heap} (X : K.In h) (G : h.Ns mainGlobals mg) (c : He.SaysD fa fn K) (cx : exB K = true) : Txt K mg := ⟨c, fun q => He.glo_ok X G q, fun q => He.free_ok X G q, fun q => He.int_ok X G q, fun q => He.str_ok X G q, cx⟩
theorem glo_p_law_state (T : Txt K mg) : mg "_law_state" = some (.ref (He.fAd K d_p_law_state.at_)) := T.glo (T.says.fact 0 (f := .glo "_law_state") rfl)
theorem glo_p_law_next (T : Txt K mg) : mg "_law_next" = some (.ref (He.fAd K d_p_law_next.at_)) := T.glo (T.says.fact 1 (f := .glo "_law_next") rfl)
theorem glo_p_law_name (T : Txt K mg) : mg "_law_name" = some (.ref (He.fAd K d_p_law_name.at_)) := T.glo (T.says.fact 2 (f := .glo "_law_name") rfl)
theorem glo_p_law_names (T : Txt K mg) : mg "_law_names" = some (.ref (He.fAd K d_p_law_names.at_)) := T.glo (T.says.fact 3 (f := .glo "_law_names") rfl)
theorem glo_p_law_number (T : Txt K mg) : mg "_law_number" = some (.ref (He.fAd K d_p_law_number.at_)) := T.glo (T.says.fact 4 (f := .glo "_law_number") rfl)
theorem glo_p_law_deed (T : Txt K mg) : mg "_law_deed" = some (.ref (He.fAd K d_p_law_deed.at_)) := T.glo (T.says.fact 5 (f := .glo "_law_deed") rfl)
theorem glo_p_law_needs (T : Txt K mg) : mg "_law_needs" = some (.ref (He.fAd K d_p_law_needs.at_)) := T.glo (T.says.fact 6 (f := .glo "_law_needs") rfl)
theorem glo_p_law_whole (T : Txt K mg) : mg "_law_whole" = some (.ref (He.fAd K d_p_law_whole.at_)) := T.glo (T.says.fact 7 (f := .glo "_law_whole") rfl)
theorem glo_p_law_sort (T : Txt K mg) : mg "_law_sort" = some (.ref (He.fAd K d_p_law_sort.at_)) := T.glo (T.says.fact 8 (f := .glo "_law_sort") rfl)
theorem glo_p_law_refused_thing (T : Txt K mg) : mg "_law_refused_thing" = some (.ref (He.fAd K d_p_law_refused_thing.at_)) := T.glo (T.says.fact 9 (f := .glo "_law_refused_thing") rfl)
theorem glo_p_law_refusal (T : Txt K mg) : mg "_law_refusal" = some (.ref (He.fAd K d_p_law_refusal.at_)) := T.glo (T.says.fact 10 (f := .glo "_law_refusal") rfl)
theorem glo_p_law_gotten (T : Txt K mg) : mg "_law_gotten" = some (.ref (He.fAd K d_p_law_gotten.at_)) := T.glo (T.says.fact 11 (f := .glo "_law_gotten") rfl)
theorem glo_p_law_done (T : Txt K mg) : mg "_law_done" = some (.ref (He.fAd K d_p_law_done.at_)) := T.glo (T.says.fact 12 (f := .glo "_law_done") rfl)
theorem glo_p_law_heard (T : Txt K mg) : mg "_law_heard" = some (.ref (He.fAd K d_p_law_heard.at_)) := T.glo (T.says.fact 13 (f := .glo "_law_heard") rfl)
theorem glo_is_name (T : Txt K mg) : mg "is_name" = some (.ref (He.fAd K d_is_name.at_)) := T.glo (T.says.fact 14 (f := .glo "is_name") rfl)
theorem glo_is_whole (T : Txt K mg) : mg "is_whole" = some (.ref (He.fAd K d_is_whole.at_)) := T.glo (T.says.fact 15 (f := .glo "is_whole") rfl)
theorem glo_is_number (T : Txt K mg) : mg "is_number" = some (.ref (He.fAd K d_is_number.at_)) := T.glo (T.says.fact 16 (f := .glo "is_number") rfl)
theorem glo_p_law_call (T : Txt K mg) : mg "_law_call" = some (.ref (He.fAd K d_p_law_call.at_)) := T.glo (T.says.fact 17 (f := .glo "_law_call") rfl)
theorem glo_p_law_value (T : Txt K mg) : mg "_law_value" = some (.ref (He.fAd K d_p_law_value.at_)) := T.glo (T.says.fact 18 (f := .glo "_law_value") rfl)
theorem glo_p_law_stands (T : Txt K mg) : mg "_law_stands" = some (.ref (He.fAd K d_p_law_stands.at_)) := T.glo (T.says.fact 19 (f := .glo "_law_stands") rfl)
theorem glo_law (T : Txt K mg) : mg "law" = some (.ref (He.fAd K d_law.at_)) := T.glo (T.says.fact 20 (f := .glo "law") rfl)
theorem free_abs (T : Txt K mg) : mg "abs" = none := T.free (T.says.fact 21 (f := .free "abs") rfl)
theorem free_all (T : Txt K mg) : mg "all" = none := T.free (T.says.fact 22 (f := .free "all") rfl)
theorem free_bool (T : Txt K mg) : mg "bool" = none := T.free (T.says.fact 23 (f := .free "bool") rfl)
theorem free_dict (T : Txt K mg) : mg "dict" = none := T.free (T.says.fact 24 (f := .free "dict") rfl)
theorem free_int (T : Txt K mg) : mg "int" = none := T.free (T.says.fact 25 (f := .free "int") rfl)
theorem free_isinstance (T : Txt K mg) : mg "isinstance" = none := T.free (T.says.fact 26 (f := .free "isinstance") rfl)
theorem free_len (T : Txt K mg) : mg "len" = none := T.free (T.says.fact 27 (f := .free "len") rfl)
theorem free_list (T : Txt K mg) : mg "list" = none := T.free (T.says.fact 28 (f := .free "list") rfl)
theorem free_min (T : Txt K mg) : mg "min" = none := T.free (T.says.fact 29 (f := .free "min") rfl)
theorem free_range (T : Txt K mg) : mg "range" = none := T.free (T.says.fact 30 (f := .free "range") rfl)
theorem free_repr (T : Txt K mg) : mg "repr" = none := T.free (T.says.fact 31 (f := .free "repr") rfl)
theorem free_sorted (T : Txt K mg) : mg "sorted" = none := T.free (T.says.fact 32 (f := .free "sorted") rfl)
theorem free_str (T : Txt K mg) : mg "str" = none := T.free (T.says.fact 33 (f := .free "str") rfl)
theorem free_tuple (T : Txt K mg) : mg "tuple" = none := T.free (T.says.fact 34 (f := .free "tuple") rfl)
theorem int_GREATEST (T : Txt K mg) : ∃ t, mg "GREATEST" = some (.int (1000000000) t) := T.int (T.says.fact 35 (f := .int "GREATEST" (1000000000)) rfl)
theorem int_MOST_FIELDS (T : Txt K mg) : ∃ t, mg "MOST_FIELDS" = some (.int (6) t) := T.int (T.says.fact 36 (f := .int "MOST_FIELDS" (6)) rfl)
theorem int_MOST_NAMES (T : Txt K mg) : ∃ t, mg "MOST_NAMES" = some (.int (40) t) := T.int (T.says.fact 37 (f := .int "MOST_NAMES" (40)) rfl)
theorem str_SMALL (T : Txt K mg) : ∃ t, mg "SMALL" = some (.str "abcdefghijklmnopqrstuvwxyz" t) := T.str (T.says.fact 38 (f := .str "SMALL" "abcdefghijklmnopqrstuvwxyz") rfl)
theorem gloc_BadName (T : Txt K mg) : mg "BadName" = some (.ref (He.ga K "BadName")) := T.glo (T.says.fact 39 (f := .glo "BadName") rfl)
theorem gloc_BadNumber (T : Txt K mg) : mg "BadNumber" = some (.ref (He.ga K "BadNumber")) := T.glo (T.says.fact 40 (f := .glo "BadNumber") rfl)
theorem gloc_NoCell (T : Txt K mg) : mg "NoCell" = some (.ref (He.ga K "NoCell")) := T.glo (T.says.fact 41 (f := .glo "NoCell") rfl)
theorem gloc_NoDeed (T : Txt K mg) : mg "NoDeed" = some (.ref (He.ga K "NoDeed")) := T.glo (T.says.fact 42 (f := .glo "NoDeed") rfl)
theorem gloc_NoField (T : Txt K mg) : mg "NoField" = some (.ref (He.ga K "NoField")) := T.glo (T.says.fact 43 (f := .glo "NoField") rfl)
theorem gloc_NoName (T : Txt K mg) : mg "NoName" = some (.ref (He.ga K "NoName")) := T.glo (T.says.fact 44 (f := .glo "NoName") rfl)
theorem gloc_TooMany (T : Txt K mg) : mg "TooMany" = some (.ref (He.ga K "TooMany")) := T.glo (T.says.fact 45 (f := .glo "TooMany") rfl)
theorem gloc_YardError (T : Txt K mg) : mg "YardError" = some (.ref (He.ga K "YardError")) := T.glo (T.says.fact 46 (f := .glo "YardError") rfl)
theorem gloc_House (T : Txt K mg) : mg "House" = some (.ref (He.ga K "House")) := T.glo (T.says.fact 47 (f := .glo "House") rfl)
theorem cls_House (T : Txt K mg) : Cls K (He.ga K "House") := He.cls_ok (T.says.fact 48 (f := .cls "House") rfl)
theorem mkr_House (T : Txt K mg) : Mk K (He.ga K "House") (He.fAd K d_House_init.at_) := He.mkr_ok (T.says.fact 49 (f := .mkr "House") rfl)
theorem meth_House___len__ (T : Txt K mg) : Meth K (He.ga K "House") "__len__" (He.fAd K d_House_len.at_) := He.meth_ok (T.says.fact 50 (f := .meth "House" "__len__") rfl)
theorem meth_House_cell (T : Txt K mg) : Meth K (He.ga K "House") "cell" (He.fAd K d_House_cell.at_) := He.meth_ok (T.says.fact 51 (f := .meth "House" "cell") rfl)
theorem meth_House_drop (T : Txt K mg) : Meth K (He.ga K "House") "drop" (He.fAd K d_House_drop.at_) := He.meth_ok (T.says.fact 52 (f := .meth "House" "drop") rfl)
theorem meth_House_field_in (T : Txt K mg) : Meth K (He.ga K "House") "field_in" (He.fAd K d_House_field_in.at_) := He.meth_ok (T.says.fact 53 (f := .meth "House" "field_in") rfl)
theorem meth_House_follow (T : Txt K mg) : Meth K (He.ga K "House") "follow" (He.fAd K d_House_follow.at_) := He.meth_ok (T.says.fact 54 (f := .meth "House" "follow") rfl)
theorem meth_House_get (T : Txt K mg) : Meth K (He.ga K "House") "get" (He.fAd K d_House_get.at_) := He.meth_ok (T.says.fact 55 (f := .meth "House" "get") rfl)
theorem meth_House_hold (T : Txt K mg) : Meth K (He.ga K "House") "hold" (He.fAd K d_House_hold.at_) := He.meth_ok (T.says.fact 56 (f := .meth "House" "hold") rfl)
theorem meth_House_keep (T : Txt K mg) : Meth K (He.ga K "House") "keep" (He.fAd K d_House_keep.at_) := He.meth_ok (T.says.fact 57 (f := .meth "House" "keep") rfl)
theorem meth_House_names (T : Txt K mg) : Meth K (He.ga K "House") "names" (He.fAd K d_House_names.at_) := He.meth_ok (T.says.fact 58 (f := .meth "House" "names") rfl)
theorem meth_House_need (T : Txt K mg) : Meth K (He.ga K "House") "need" (He.fAd K d_House_need.at_) := He.meth_ok (T.says.fact 59 (f := .meth "House" "need") rfl)
theorem meth_House_nothing (T : Txt K mg) : Meth K (He.ga K "House") "nothing" (He.fAd K d_House_nothing.at_) := He.meth_ok (T.says.fact 60 (f := .meth "House" "nothing") rfl)
theorem meth_House_number (T : Txt K mg) : Meth K (He.ga K "House") "number" (He.fAd K d_House_number.at_) := He.meth_ok (T.says.fact 61 (f := .meth "House" "number") rfl)
theorem meth_House_put (T : Txt K mg) : Meth K (He.ga K "House") "put" (He.fAd K d_House_put.at_) := He.meth_ok (T.says.fact 62 (f := .meth "House" "put") rfl)
theorem meth_House_same (T : Txt K mg) : Meth K (He.ga K "House") "same" (He.fAd K d_House_same.at_) := He.meth_ok (T.says.fact 63 (f := .meth "House" "same") rfl)
theorem meth_House_thing_in (T : Txt K mg) : Meth K (He.ga K "House") "thing_in" (He.fAd K d_House_thing_in.at_) := He.meth_ok (T.says.fact 64 (f := .meth "House" "thing_in") rfl)
theorem meth_House_tie (T : Txt K mg) : Meth K (He.ga K "House") "tie" (He.fAd K d_House_tie.at_) := He.meth_ok (T.says.fact 65 (f := .meth "House" "tie") rfl)
theorem meth_House_value (T : Txt K mg) : Meth K (He.ga K "House") "value" (He.fAd K d_House_value.at_) := He.meth_ok (T.says.fact 66 (f := .meth "House" "value") rfl)
theorem meth_House_with_name (T : Txt K mg) : Meth K (He.ga K "House") "with_name" (He.fAd K d_House_with_name.at_) := He.meth_ok (T.says.fact 67 (f := .meth "House" "with_name") rfl)
theorem noat_House_elder (T : Txt K mg) : NoAttr K (He.ga K "House") "elder" := He.noat_ok (T.says.fact 68 (f := .noat "House" "elder") rfl)
theorem noat_House_named (T : Txt K mg) : NoAttr K (He.ga K "House") "named" := He.noat_ok (T.says.fact 69 (f := .noat "House" "named") rfl)
theorem noat_House_stands (T : Txt K mg) : NoAttr K (He.ga K "House") "stands" := He.noat_ok (T.says.fact 70 (f := .noat "House" "stands") rfl)
theorem noat_House_things (T : Txt K mg) : NoAttr K (He.ga K "House") "things" := He.noat_ok (T.says.fact 71 (f := .noat "House" "things") rfl)
theorem noat_House_tried (T : Txt K mg) : NoAttr K (He.ga K "House") "tried" := He.noat_ok (T.says.fact 72 (f := .noat "House" "tried") rfl)
theorem noat_House_tried_out (T : Txt K mg) : NoAttr K (He.ga K "House") "tried_out" := He.noat_ok (T.says.fact 73 (f := .noat "House" "tried_out") rfl)
theorem noat_House_waits (T : Txt K mg) : NoAttr K (He.ga K "House") "waits" := He.noat_ok (T.says.fact 74 (f := .noat "House" "waits") rfl)
theorem tupdc_House_need_there (T : Txt K mg) : TupC K (kwAt ("House", some "need") "there" K) ([] : List Str) := tupdB_ok (He.ba T.ex).1
theorem tupdc_House_thing_in_sorts (T : Txt K mg) : TupC K (kwAt ("House", some "thing_in") "sorts" K) (["cell", "last"] : List Str) := tupdB_ok (He.ba (He.ba T.ex).2).1
theorem raic_BadNumber (T : Txt K mg) : RaiC K (He.ga K "BadNumber") := raiB_ok (He.ba (He.ba (He.ba T.ex).2).2).1
theorem raic_NoCell (T : Txt K mg) : RaiC K (He.ga K "NoCell") := raiB_ok (He.ba (He.ba (He.ba (He.ba T.ex).2).2).2).1
theorem raic_NoField (T : Txt K mg) : RaiC K (He.ga K "NoField") := raiB_ok (He.ba (He.ba (He.ba (He.ba (He.ba T.ex).2).2).2).2).1
theorem raic_TooMany (T : Txt K mg) : RaiC K (He.ga K "TooMany") := raiB_ok (He.ba (He.ba (He.ba (He.ba (He.ba (He.ba T.ex).2).2).2).2).2).1
theorem xic_BadName (T : Txt K mg) : XiC K (He.ga K "BadName") (He.ga K "YardError") (He.fAd K d_BadName_init.at_) ["name"] := xiB_ok (He.ba (He.ba (He.ba (He.ba (He.ba (He.ba (He.ba T.ex).2).2).2).2).2).2).1
theorem xic_NoName (T : Txt K mg) : XiC K (He.ga K "NoName") (He.ga K "YardError") (He.fAd K d_NoName_init.at_) ["name"] := xiB_ok (He.ba (He.ba (He.ba (He.ba (He.ba (He.ba (He.ba (He.ba T.ex).2).2).2).2).2).2).2).1
theorem isec_BadName (T : Txt K mg) : L2.ExcC K (He.ga K "BadName") := iseB_ok (He.ba (He.ba (He.ba (He.ba (He.ba (He.ba (He.ba (He.ba (He.ba T.ex).2).2).2).2).2).2).2).2).1
theorem isec_NoName (T : Txt K mg) : L2.ExcC K (He.ga K "NoName") := iseB_ok (He.ba (He.ba (He.ba (He.ba (He.ba (He.ba (He.ba (He.ba (He.ba (He.ba T.ex).2).2).2).2).2).2).2).2).2).1
theorem isec_TooMany (T : Txt K mg) : L2.ExcC K (He.ga K "TooMany") := iseB_ok (He.ba (He.ba (He.ba (He.ba (He.ba (He.ba (He.ba (He.ba (He.ba (He.ba (He.ba T.ex).2).2).2).2).2).2).2).2).2).2).1
theorem isec_NoCell (T : Txt K mg) : L2.ExcC K (He.ga K "NoCell") := iseB_ok (He.ba (He.ba (He.ba (He.ba (He.ba (He.ba (He.ba (He.ba (He.ba (He.ba (He.ba (He.ba T.ex).2).2).2).2).2).2).2).2).2).2).2).1
theorem isec_NoField (T : Txt K mg) : L2.ExcC K (He.ga K "NoField") := iseB_ok (He.ba (He.ba (He.ba (He.ba (He.ba (He.ba (He.ba (He.ba (He.ba (He.ba (He.ba (He.ba (He.ba T.ex).2).2).2).2).2).2).2).2).2).2).2).2).1
theorem isec_BadNumber (T : Txt K mg) : L2.ExcC K (He.ga K "BadNumber") := iseB_ok (He.ba (He.ba (He.ba (He.ba (He.ba (He.ba (He.ba (He.ba (He.ba (He.ba (He.ba (He.ba (He.ba (He.ba T.ex).2).2).2).2).2).2).2).2).2).2).2).2).2).1
theorem exm0_YardError (T : Txt K mg) : exmT K (.ref (He.ga K "YardError")) tb_YardError = true := id (He.ba (He.ba (He.ba (He.ba (He.ba (He.ba (He.ba (He.ba (He.ba (He.ba (He.ba (He.ba (He.ba (He.ba (He.ba T.ex).2).2).2).2).2).2).2).2).2).2).2).2).2).2).1
theorem kit0_BadName (T : Txt K mg) : kitT K (.ref (He.ga K "BadName")) tb_BadName = true := id (He.ba (He.ba (He.ba (He.ba (He.ba (He.ba (He.ba (He.ba (He.ba (He.ba (He.ba (He.ba (He.ba (He.ba (He.ba (He.ba T.ex).2).2).2).2).2).2).2).2).2).2).2).2).2).2).2).1
theorem kit0_BadNumber (T : Txt K mg) : kitT K (.ref (He.ga K "BadNumber")) tb_BadNumber = true := id (He.ba (He.ba (He.ba (He.ba (He.ba (He.ba (He.ba (He.ba (He.ba (He.ba (He.ba (He.ba (He.ba (He.ba (He.ba (He.ba (He.ba T.ex).2).2).2).2).2).2).2).2).2).2).2).2).2).2).2).2).1
theorem kit0_NoCell (T : Txt K mg) : kitT K (.ref (He.ga K "NoCell")) tb_NoCell = true := id (He.ba (He.ba (He.ba (He.ba (He.ba (He.ba (He.ba (He.ba (He.ba (He.ba (He.ba (He.ba (He.ba (He.ba (He.ba (He.ba (He.ba (He.ba T.ex).2).2).2).2).2).2).2).2).2).2).2).2).2).2).2).2).2).1
theorem kit0_NoDeed (T : Txt K mg) : kitT K (.ref (He.ga K "NoDeed")) tb_NoDeed = true := id (He.ba (He.ba (He.ba (He.ba (He.ba (He.ba (He.ba (He.ba (He.ba (He.ba (He.ba (He.ba (He.ba (He.ba (He.ba (He.ba (He.ba (He.ba (He.ba T.ex).2).2).2).2).2).2).2).2).2).2).2).2).2).2).2).2).2).2).1
theorem kit0_NoField (T : Txt K mg) : kitT K (.ref (He.ga K "NoField")) tb_NoField = true := id (He.ba (He.ba (He.ba (He.ba (He.ba (He.ba (He.ba (He.ba (He.ba (He.ba (He.ba (He.ba (He.ba (He.ba (He.ba (He.ba (He.ba (He.ba (He.ba (He.ba T.ex).2).2).2).2).2).2).2).2).2).2).2).2).2).2).2).2).2).2).2).1
theorem kit0_NoName (T : Txt K mg) : kitT K (.ref (He.ga K "NoName")) tb_NoName = true := id (He.ba (He.ba (He.ba (He.ba (He.ba (He.ba (He.ba (He.ba (He.ba (He.ba (He.ba (He.ba (He.ba (He.ba (He.ba (He.ba (He.ba (He.ba (He.ba (He.ba (He.ba T.ex).2).2).2).2).2).2).2).2).2).2).2).2).2).2).2).2).2).2).2).2).1
theorem kit0_TooMany (T : Txt K mg) : kitT K (.ref (He.ga K "TooMany")) tb_TooMany = true := id (He.ba (He.ba (He.ba (He.ba (He.ba (He.ba (He.ba (He.ba (He.ba (He.ba (He.ba (He.ba (He.ba (He.ba (He.ba (He.ba (He.ba (He.ba (He.ba (He.ba (He.ba (He.ba T.ex).2).2).2).2).2).2).2).2).2).2).2).2).2).2).2).2).2).2).2).2).2).1
theorem exmc_YardError (T : Txt K mg) : ∀ C b A, tb_YardError.lookup C = some b → mg C = some (.ref A) → PySem.W.exmOne K (.ref A) (.ref (He.ga K "YardError")) = some b := exmT_ok (exm0_YardError T) (by intro q hq; simp only [List.mem_cons, List.not_mem_nil, or_false] at hq; rcases hq with rfl | rfl | rfl | rfl | rfl | rfl <;> first | exact gloc_BadName T | exact gloc_NoName T | exact gloc_TooMany T | exact gloc_NoCell T | exact gloc_NoField T | exact gloc_BadNumber T)
theorem kitc_BadName (T : Txt K mg) : ∀ C b A, tb_BadName.lookup C = some b → mg C = some (.ref A) → L2.ExcC K A ∧ PySem.W.kitOne K (.ref A) (.ref (He.ga K "BadName")) = some b := kitT_ok (kit0_BadName T) (by intro q hq; simp only [List.mem_cons, List.not_mem_nil, or_false] at hq; rcases hq with rfl | rfl | rfl | rfl | rfl | rfl <;> first | exact gloc_BadName T | exact gloc_NoName T | exact gloc_TooMany T | exact gloc_NoCell T | exact gloc_NoField T | exact gloc_BadNumber T) (by intro q hq; simp only [List.mem_cons, List.not_mem_nil, or_false] at hq; rcases hq with rfl | rfl | rfl | rfl | rfl | rfl <;> first | exact isec_BadName T | exact isec_NoName T | exact isec_TooMany T | exact isec_NoCell T | exact isec_NoField T | exact isec_BadNumber T)
theorem kitc_BadNumber (T : Txt K mg) : ∀ C b A, tb_BadNumber.lookup C = some b → mg C = some (.ref A) → L2.ExcC K A ∧ PySem.W.kitOne K (.ref A) (.ref (He.ga K "BadNumber")) = some b := kitT_ok (kit0_BadNumber T) (by intro q hq; simp only [List.mem_cons, List.not_mem_nil, or_false] at hq; rcases hq with rfl | rfl | rfl | rfl | rfl | rfl <;> first | exact gloc_BadName T | exact gloc_NoName T | exact gloc_TooMany T | exact gloc_NoCell T | exact gloc_NoField T | exact gloc_BadNumber T) (by intro q hq; simp only [List.mem_cons, List.not_mem_nil, or_false] at hq; rcases hq with rfl | rfl | rfl | rfl | rfl | rfl <;> first | exact isec_BadName T | exact isec_NoName T | exact isec_TooMany T | exact isec_NoCell T | exact isec_NoField T | exact isec_BadNumber T)
theorem kitc_NoCell (T : Txt K mg) : ∀ C b A, tb_NoCell.lookup C = some b → mg C = some (.ref A) → L2.ExcC K A ∧ PySem.W.kitOne K (.ref A) (.ref (He.ga K "NoCell")) = some b := kitT_ok (kit0_NoCell T) (by intro q hq; simp only [List.mem_cons, List.not_mem_nil, or_false] at hq; rcases hq with rfl | rfl | rfl | rfl | rfl | rfl <;> first | exact gloc_BadName T | exact gloc_NoName T | exact gloc_TooMany T | exact gloc_NoCell T | exact gloc_NoField T | exact gloc_BadNumber T) (by intro q hq; simp only [List.mem_cons, List.not_mem_nil, or_false] at hq; rcases hq with rfl | rfl | rfl | rfl | rfl | rfl <;> first | exact isec_BadName T | exact isec_NoName T | exact isec_TooMany T | exact isec_NoCell T | exact isec_NoField T | exact isec_BadNumber T)
theorem kitc_NoDeed (T : Txt K mg) : ∀ C b A, tb_NoDeed.lookup C = some b → mg C = some (.ref A) → L2.ExcC K A ∧ PySem.W.kitOne K (.ref A) (.ref (He.ga K "NoDeed")) = some b := kitT_ok (kit0_NoDeed T) (by intro q hq; simp only [List.mem_cons, List.not_mem_nil, or_false] at hq; rcases hq with rfl | rfl | rfl | rfl | rfl | rfl <;> first | exact gloc_BadName T | exact gloc_NoName T | exact gloc_TooMany T | exact gloc_NoCell T | exact gloc_NoField T | exact gloc_BadNumber T) (by intro q hq; simp only [List.mem_cons, List.not_mem_nil, or_false] at hq; rcases hq with rfl | rfl | rfl | rfl | rfl | rfl <;> first | exact isec_BadName T | exact isec_NoName T | exact isec_TooMany T | exact isec_NoCell T | exact isec_NoField T | exact isec_BadNumber T)
theorem kitc_NoField (T : Txt K mg) : ∀ C b A, tb_NoField.lookup C = some b → mg C = some (.ref A) → L2.ExcC K A ∧ PySem.W.kitOne K (.ref A) (.ref (He.ga K "NoField")) = some b := kitT_ok (kit0_NoField T) (by intro q hq; simp only [List.mem_cons, List.not_mem_nil, or_false] at hq; rcases hq with rfl | rfl | rfl | rfl | rfl | rfl <;> first | exact gloc_BadName T | exact gloc_NoName T | exact gloc_TooMany T | exact gloc_NoCell T | exact gloc_NoField T | exact gloc_BadNumber T) (by intro q hq; simp only [List.mem_cons, List.not_mem_nil, or_false] at hq; rcases hq with rfl | rfl | rfl | rfl | rfl | rfl <;> first | exact isec_BadName T | exact isec_NoName T | exact isec_TooMany T | exact isec_NoCell T | exact isec_NoField T | exact isec_BadNumber T)
theorem kitc_NoName (T : Txt K mg) : ∀ C b A, tb_NoName.lookup C = some b → mg C = some (.ref A) → L2.ExcC K A ∧ PySem.W.kitOne K (.ref A) (.ref (He.ga K "NoName")) = some b := kitT_ok (kit0_NoName T) (by intro q hq; simp only [List.mem_cons, List.not_mem_nil, or_false] at hq; rcases hq with rfl | rfl | rfl | rfl | rfl | rfl <;> first | exact gloc_BadName T | exact gloc_NoName T | exact gloc_TooMany T | exact gloc_NoCell T | exact gloc_NoField T | exact gloc_BadNumber T) (by intro q hq; simp only [List.mem_cons, List.not_mem_nil, or_false] at hq; rcases hq with rfl | rfl | rfl | rfl | rfl | rfl <;> first | exact isec_BadName T | exact isec_NoName T | exact isec_TooMany T | exact isec_NoCell T | exact isec_NoField T | exact isec_BadNumber T)
theorem kitc_TooMany (T : Txt K mg) : ∀ C b A, tb_TooMany.lookup C = some b → mg C = some (.ref A) → L2.ExcC K A ∧ PySem.W.kitOne K (.ref A) (.ref (He.ga K "TooMany")) = some b := kitT_ok (kit0_TooMany T) (by intro q hq; simp only [List.mem_cons, List.not_mem_nil, or_false] at hq; rcases hq with rfl | rfl | rfl | rfl | rfl | rfl <;> first | exact gloc_BadName T | exact gloc_NoName T | exact gloc_TooMany T | exact gloc_NoCell T | exact gloc_NoField T | exact gloc_BadNumber T) (by intro q hq; simp only [List.mem_cons, List.not_mem_nil, or_false] at hq; rcases hq with rfl | rfl | rfl | rfl | rfl | rfl <;> first | exact isec_BadName T | exact isec_NoName T | exact isec_TooMany T | exact isec_NoCell T | exact isec_NoField T | exact isec_BadNumber T)
theorem fun_p_law_state (T : Txt K mg) : ∃ fd, FunD K d_p_law_state.name d_p_law_state.qual d_p_law_state.params d_p_law_state.body d_p_law_state.scope (d_p_law_state.dvs K) (d_p_law_state.kws K) (He.fAd K d_p_law_state.at_) fd := T.says.def_ 0 (d := d_p_law_state) rfl
theorem fun_p_law_next (T : Txt K mg) : ∃ fd, FunD K d_p_law_next.name d_p_law_next.qual d_p_law_next.params d_p_law_next.body d_p_law_next.scope (d_p_law_next.dvs K) (d_p_law_next.kws K) (He.fAd K d_p_law_next.at_) fd := T.says.def_ 1 (d := d_p_law_next) rfl
theorem fun_p_law_name (T : Txt K mg) : ∃ fd, FunD K d_p_law_name.name d_p_law_name.qual d_p_law_name.params d_p_law_name.body d_p_law_name.scope (d_p_law_name.dvs K) (d_p_law_name.kws K) (He.fAd K d_p_law_name.at_) fd := T.says.def_ 2 (d := d_p_law_name) rfl
theorem fun_p_law_names (T : Txt K mg) : ∃ fd, FunD K d_p_law_names.name d_p_law_names.qual d_p_law_names.params d_p_law_names.body d_p_law_names.scope (d_p_law_names.dvs K) (d_p_law_names.kws K) (He.fAd K d_p_law_names.at_) fd := T.says.def_ 3 (d := d_p_law_names) rfl
theorem fun_House_init (T : Txt K mg) : ∃ fd, FunD K d_House_init.name d_House_init.qual d_House_init.params d_House_init.body d_House_init.scope (d_House_init.dvs K) (d_House_init.kws K) (He.fAd K d_House_init.at_) fd := T.says.def_ 4 (d := d_House_init) rfl
theorem fun_p_law_number (T : Txt K mg) : ∃ fd, FunD K d_p_law_number.name d_p_law_number.qual d_p_law_number.params d_p_law_number.body d_p_law_number.scope (d_p_law_number.dvs K) (d_p_law_number.kws K) (He.fAd K d_p_law_number.at_) fd := T.says.def_ 5 (d := d_p_law_number) rfl
theorem fun_p_law_deed (T : Txt K mg) : ∃ fd, FunD K d_p_law_deed.name d_p_law_deed.qual d_p_law_deed.params d_p_law_deed.body d_p_law_deed.scope (d_p_law_deed.dvs K) (d_p_law_deed.kws K) (He.fAd K d_p_law_deed.at_) fd := T.says.def_ 6 (d := d_p_law_deed) rfl
theorem fun_p_law_needs (T : Txt K mg) : ∃ fd, FunD K d_p_law_needs.name d_p_law_needs.qual d_p_law_needs.params d_p_law_needs.body d_p_law_needs.scope (d_p_law_needs.dvs K) (d_p_law_needs.kws K) (He.fAd K d_p_law_needs.at_) fd := T.says.def_ 7 (d := d_p_law_needs) rfl
theorem fun_p_law_whole (T : Txt K mg) : ∃ fd, FunD K d_p_law_whole.name d_p_law_whole.qual d_p_law_whole.params d_p_law_whole.body d_p_law_whole.scope (d_p_law_whole.dvs K) (d_p_law_whole.kws K) (He.fAd K d_p_law_whole.at_) fd := T.says.def_ 8 (d := d_p_law_whole) rfl
theorem fun_p_law_sort (T : Txt K mg) : ∃ fd, FunD K d_p_law_sort.name d_p_law_sort.qual d_p_law_sort.params d_p_law_sort.body d_p_law_sort.scope (d_p_law_sort.dvs K) (d_p_law_sort.kws K) (He.fAd K d_p_law_sort.at_) fd := T.says.def_ 9 (d := d_p_law_sort) rfl
theorem fun_p_law_refused_thing (T : Txt K mg) : ∃ fd, FunD K d_p_law_refused_thing.name d_p_law_refused_thing.qual d_p_law_refused_thing.params d_p_law_refused_thing.body d_p_law_refused_thing.scope (d_p_law_refused_thing.dvs K) (d_p_law_refused_thing.kws K) (He.fAd K d_p_law_refused_thing.at_) fd := T.says.def_ 10 (d := d_p_law_refused_thing) rfl
theorem fun_p_law_refusal (T : Txt K mg) : ∃ fd, FunD K d_p_law_refusal.name d_p_law_refusal.qual d_p_law_refusal.params d_p_law_refusal.body d_p_law_refusal.scope (d_p_law_refusal.dvs K) (d_p_law_refusal.kws K) (He.fAd K d_p_law_refusal.at_) fd := T.says.def_ 11 (d := d_p_law_refusal) rfl
theorem fun_p_law_gotten (T : Txt K mg) : ∃ fd, FunD K d_p_law_gotten.name d_p_law_gotten.qual d_p_law_gotten.params d_p_law_gotten.body d_p_law_gotten.scope (d_p_law_gotten.dvs K) (d_p_law_gotten.kws K) (He.fAd K d_p_law_gotten.at_) fd := T.says.def_ 12 (d := d_p_law_gotten) rfl
theorem fun_p_law_done (T : Txt K mg) : ∃ fd, FunD K d_p_law_done.name d_p_law_done.qual d_p_law_done.params d_p_law_done.body d_p_law_done.scope (d_p_law_done.dvs K) (d_p_law_done.kws K) (He.fAd K d_p_law_done.at_) fd := T.says.def_ 13 (d := d_p_law_done) rfl
theorem fun_p_law_heard (T : Txt K mg) : ∃ fd, FunD K d_p_law_heard.name d_p_law_heard.qual d_p_law_heard.params d_p_law_heard.body d_p_law_heard.scope (d_p_law_heard.dvs K) (d_p_law_heard.kws K) (He.fAd K d_p_law_heard.at_) fd := T.says.def_ 14 (d := d_p_law_heard) rfl
theorem fun_is_name (T : Txt K mg) : ∃ fd, FunD K d_is_name.name d_is_name.qual d_is_name.params d_is_name.body d_is_name.scope (d_is_name.dvs K) (d_is_name.kws K) (He.fAd K d_is_name.at_) fd := T.says.def_ 15 (d := d_is_name) rfl
theorem fun_BadName_init (T : Txt K mg) : ∃ fd, FunD K d_BadName_init.name d_BadName_init.qual d_BadName_init.params d_BadName_init.body d_BadName_init.scope (d_BadName_init.dvs K) (d_BadName_init.kws K) (He.fAd K d_BadName_init.at_) fd := T.says.def_ 16 (d := d_BadName_init) rfl
theorem fun_NoName_init (T : Txt K mg) : ∃ fd, FunD K d_NoName_init.name d_NoName_init.qual d_NoName_init.params d_NoName_init.body d_NoName_init.scope (d_NoName_init.dvs K) (d_NoName_init.kws K) (He.fAd K d_NoName_init.at_) fd := T.says.def_ 17 (d := d_NoName_init) rfl
theorem fun_House_need (T : Txt K mg) : ∃ fd, FunD K d_House_need.name d_House_need.qual d_House_need.params d_House_need.body d_House_need.scope (d_House_need.dvs K) (d_House_need.kws K) (He.fAd K d_House_need.at_) fd := T.says.def_ 18 (d := d_House_need) rfl
theorem fun_is_whole (T : Txt K mg) : ∃ fd, FunD K d_is_whole.name d_is_whole.qual d_is_whole.params d_is_whole.body d_is_whole.scope (d_is_whole.dvs K) (d_is_whole.kws K) (He.fAd K d_is_whole.at_) fd := T.says.def_ 19 (d := d_is_whole) rfl
theorem fun_is_number (T : Txt K mg) : ∃ fd, FunD K d_is_number.name d_is_number.qual d_is_number.params d_is_number.body d_is_number.scope (d_is_number.dvs K) (d_is_number.kws K) (He.fAd K d_is_number.at_) fd := T.says.def_ 20 (d := d_is_number) rfl
theorem fun_House_keep (T : Txt K mg) : ∃ fd, FunD K d_House_keep.name d_House_keep.qual d_House_keep.params d_House_keep.body d_House_keep.scope (d_House_keep.dvs K) (d_House_keep.kws K) (He.fAd K d_House_keep.at_) fd := T.says.def_ 21 (d := d_House_keep) rfl
theorem fun_House_with_name (T : Txt K mg) : ∃ fd, FunD K d_House_with_name.name d_House_with_name.qual d_House_with_name.params d_House_with_name.body d_House_with_name.scope (d_House_with_name.dvs K) (d_House_with_name.kws K) (He.fAd K d_House_with_name.at_) fd := T.says.def_ 22 (d := d_House_with_name) rfl
theorem fun_House_number (T : Txt K mg) : ∃ fd, FunD K d_House_number.name d_House_number.qual d_House_number.params d_House_number.body d_House_number.scope (d_House_number.dvs K) (d_House_number.kws K) (He.fAd K d_House_number.at_) fd := T.says.def_ 23 (d := d_House_number) rfl
theorem fun_House_nothing (T : Txt K mg) : ∃ fd, FunD K d_House_nothing.name d_House_nothing.qual d_House_nothing.params d_House_nothing.body d_House_nothing.scope (d_House_nothing.dvs K) (d_House_nothing.kws K) (He.fAd K d_House_nothing.at_) fd := T.says.def_ 24 (d := d_House_nothing) rfl
theorem fun_House_hold (T : Txt K mg) : ∃ fd, FunD K d_House_hold.name d_House_hold.qual d_House_hold.params d_House_hold.body d_House_hold.scope (d_House_hold.dvs K) (d_House_hold.kws K) (He.fAd K d_House_hold.at_) fd := T.says.def_ 25 (d := d_House_hold) rfl
theorem fun_House_cell (T : Txt K mg) : ∃ fd, FunD K d_House_cell.name d_House_cell.qual d_House_cell.params d_House_cell.body d_House_cell.scope (d_House_cell.dvs K) (d_House_cell.kws K) (He.fAd K d_House_cell.at_) fd := T.says.def_ 26 (d := d_House_cell) rfl
theorem fun_House_thing_in (T : Txt K mg) : ∃ fd, FunD K d_House_thing_in.name d_House_thing_in.qual d_House_thing_in.params d_House_thing_in.body d_House_thing_in.scope (d_House_thing_in.dvs K) (d_House_thing_in.kws K) (He.fAd K d_House_thing_in.at_) fd := T.says.def_ 27 (d := d_House_thing_in) rfl
theorem fun_House_tie (T : Txt K mg) : ∃ fd, FunD K d_House_tie.name d_House_tie.qual d_House_tie.params d_House_tie.body d_House_tie.scope (d_House_tie.dvs K) (d_House_tie.kws K) (He.fAd K d_House_tie.at_) fd := T.says.def_ 28 (d := d_House_tie) rfl
theorem fun_House_field_in (T : Txt K mg) : ∃ fd, FunD K d_House_field_in.name d_House_field_in.qual d_House_field_in.params d_House_field_in.body d_House_field_in.scope (d_House_field_in.dvs K) (d_House_field_in.kws K) (He.fAd K d_House_field_in.at_) fd := T.says.def_ 29 (d := d_House_field_in) rfl
theorem fun_House_get (T : Txt K mg) : ∃ fd, FunD K d_House_get.name d_House_get.qual d_House_get.params d_House_get.body d_House_get.scope (d_House_get.dvs K) (d_House_get.kws K) (He.fAd K d_House_get.at_) fd := T.says.def_ 30 (d := d_House_get) rfl
theorem fun_House_put (T : Txt K mg) : ∃ fd, FunD K d_House_put.name d_House_put.qual d_House_put.params d_House_put.body d_House_put.scope (d_House_put.dvs K) (d_House_put.kws K) (He.fAd K d_House_put.at_) fd := T.says.def_ 31 (d := d_House_put) rfl
theorem fun_House_follow (T : Txt K mg) : ∃ fd, FunD K d_House_follow.name d_House_follow.qual d_House_follow.params d_House_follow.body d_House_follow.scope (d_House_follow.dvs K) (d_House_follow.kws K) (He.fAd K d_House_follow.at_) fd := T.says.def_ 32 (d := d_House_follow) rfl
theorem fun_House_drop (T : Txt K mg) : ∃ fd, FunD K d_House_drop.name d_House_drop.qual d_House_drop.params d_House_drop.body d_House_drop.scope (d_House_drop.dvs K) (d_House_drop.kws K) (He.fAd K d_House_drop.at_) fd := T.says.def_ 33 (d := d_House_drop) rfl
theorem fun_p_law_call (T : Txt K mg) : ∃ fd, FunD K d_p_law_call.name d_p_law_call.qual d_p_law_call.params d_p_law_call.body d_p_law_call.scope (d_p_law_call.dvs K) (d_p_law_call.kws K) (He.fAd K d_p_law_call.at_) fd := T.says.def_ 34 (d := d_p_law_call) rfl
theorem fun_House_names (T : Txt K mg) : ∃ fd, FunD K d_House_names.name d_House_names.qual d_House_names.params d_House_names.body d_House_names.scope (d_House_names.dvs K) (d_House_names.kws K) (He.fAd K d_House_names.at_) fd := T.says.def_ 35 (d := d_House_names) rfl
theorem fun_House_len (T : Txt K mg) : ∃ fd, FunD K d_House_len.name d_House_len.qual d_House_len.params d_House_len.body d_House_len.scope (d_House_len.dvs K) (d_House_len.kws K) (He.fAd K d_House_len.at_) fd := T.says.def_ 36 (d := d_House_len) rfl
theorem fun_House_value (T : Txt K mg) : ∃ fd, FunD K d_House_value.name d_House_value.qual d_House_value.params d_House_value.body d_House_value.scope (d_House_value.dvs K) (d_House_value.kws K) (He.fAd K d_House_value.at_) fd := T.says.def_ 37 (d := d_House_value) rfl
theorem fun_p_law_value (T : Txt K mg) : ∃ fd, FunD K d_p_law_value.name d_p_law_value.qual d_p_law_value.params d_p_law_value.body d_p_law_value.scope (d_p_law_value.dvs K) (d_p_law_value.kws K) (He.fAd K d_p_law_value.at_) fd := T.says.def_ 38 (d := d_p_law_value) rfl
theorem fun_House_same (T : Txt K mg) : ∃ fd, FunD K d_House_same.name d_House_same.qual d_House_same.params d_House_same.body d_House_same.scope (d_House_same.dvs K) (d_House_same.kws K) (He.fAd K d_House_same.at_) fd := T.says.def_ 39 (d := d_House_same) rfl
theorem fun_p_law_stands (T : Txt K mg) : ∃ fd, FunD K d_p_law_stands.name d_p_law_stands.qual d_p_law_stands.params d_p_law_stands.body d_p_law_stands.scope (d_p_law_stands.dvs K) (d_p_law_stands.kws K) (He.fAd K d_p_law_stands.at_) fd := T.says.def_ 40 (d := d_p_law_stands) rfl
theorem fun_House_names_o (T : Txt K mg) : ∃ fd, FunD K d_House_names_o.name d_House_names_o.qual d_House_names_o.params d_House_names_o.body d_House_names_o.scope (d_House_names_o.dvs K) (d_House_names_o.kws K) (He.fAd K d_House_names_o.at_) fd := T.says.def_ 41 (d := d_House_names_o) rfl
theorem fun_law (T : Txt K mg) : ∃ fd, FunD K d_law.name d_law.qual d_law.params d_law.body d_law.scope (d_law.dvs K) (d_law.kws K) (He.fAd K d_law.at_) fd := T.says.def_ 42 (d := d_law) rfl
end
end K03

namespace K03
open PySem PySem.Spec PyProof.Rows L2 DL
/-! ### the head -/
end K03

namespace K03
open PySem PySem.Spec PyProof.Rows L2 DL
theorem ok_p_law_state {P : Program} {w : World} {K : PySem.W.Frag} {mg : Str → Option Value} {base : Heap} (T : Txt K mg) (TB : ∀ p ∈ tq, LamX.TabB base mg (He.cT K p.1).1 (He.cT K p.1).2) : ∃ fd, FunD K d_p_law_state.name d_p_law_state.qual d_p_law_state.params d_p_law_state.body d_p_law_state.scope (d_p_law_state.dvs K) (d_p_law_state.kws K) (He.fAd K d_p_law_state.at_) fd ∧
    FnG P w K mg base 1 (He.fAd K d_p_law_state.at_) fd ["_law_script", "_law_k"] (spD K mg 2 S_p_law_state) := by
  have b_abs := free_abs T
  have b_len := free_len T
  obtain ⟨fd, F⟩ := fun_p_law_state T
  refine ⟨fd, F, fnG (N := N_p_law_state) (ps := ["_law_script", "_law_k"]) (k := 0) (g := m_p_law_state) F ⟨rfl, rfl, rfl, by decide +kernel, rfl, by decide +kernel, by decide +kernel⟩ fun cdv A outer s H E C => ?_⟩
  refine dss_cons (ds_set C (i := 2) rfl (by first | exact Or.inl rfl | exact Or.inr rfl) de_int) ?_
  refine dss_cons (ds_if (dt_cmp op_gt opd_gt (de_len rfl b_len (da_cons (de_var (pv 0)) da_nil)) de_int (nomark _)) (dss_one (ds_set C (i := 2) rfl (by first | exact Or.inl rfl | exact Or.inr rfl) (de_abs rfl b_abs (da_cons (de_sub1 C (de_var (pv 0)) (de_mod (de_var (pv 1)) (de_len rfl b_len (da_cons (de_var (pv 0)) da_nil)))) da_nil)))) dss_nil) ?_
  refine dss_cons (ds_if (dt_cmp op_ge opd_ge (de_var (pv 2)) (de_pow de_int de_int) (nomark _)) (dss_one (ds_ret (de_lstO (da_cons (de_sub (de_var (pv 2)) (de_pow de_int de_int)) da_nil)))) dss_nil) ?_
  exact (dss_cons (ds_set C (i := 3) rfl (by first | exact Or.inl rfl | exact Or.inr rfl) de_int) (dss_cons (ds_for C (di_seq (de_tup (da_cons de_int (da_cons de_int (da_cons de_int (da_cons de_int (da_cons de_int (da_cons de_int (da_cons de_int (da_cons de_int (da_cons de_int (da_cons de_int (da_cons de_int (da_cons de_int da_nil)))))))))))))) (dg_name (i := 4) (pg_name C.nd rfl (by first | exact Or.inl rfl | exact Or.inr rfl))) (dss_cons (ds_set C (i := 5) rfl (by first | exact Or.inl rfl | exact Or.inr rfl) (de_mod (de_mul (de_add (de_mod (de_var (pv 2)) (de_var (pv 4))) (de_mul de_int (de_add (de_var (pv 1)) de_int))) de_int) (de_var (pv 4)))) (dss_cons (ds_set C (i := 5) rfl (by first | exact Or.inl rfl | exact Or.inr rfl) (de_mod (de_add (de_mul (de_var (pv 5)) (de_var (pv 5))) de_int) (de_var (pv 4)))) (dss_one (ds_set C (i := 3) rfl (by first | exact Or.inl rfl | exact Or.inr rfl) (de_add (de_mul (de_var (pv 3)) de_int) (de_mod (de_mul (de_var (pv 5)) (de_var (pv 5))) (de_var (pv 4))))))))) (dss_one (ds_ret (de_lstO (da_cons (de_var (pv 3)) da_nil))))))
theorem ok_p_law_next {P : Program} {w : World} {K : PySem.W.Frag} {mg : Str → Option Value} {base : Heap} (T : Txt K mg) (TB : ∀ p ∈ tq, LamX.TabB base mg (He.cT K p.1).1 (He.cT K p.1).2) : ∃ fd, FunD K d_p_law_next.name d_p_law_next.qual d_p_law_next.params d_p_law_next.body d_p_law_next.scope (d_p_law_next.dvs K) (d_p_law_next.kws K) (He.fAd K d_p_law_next.at_) fd ∧
    FnG P w K mg base 1 (He.fAd K d_p_law_next.at_) fd ["_law_state_here", "_law_most"] (spD K mg 2 S_p_law_next) := by
  obtain ⟨fd, F⟩ := fun_p_law_next T
  refine ⟨fd, F, fnG (N := N_p_law_next) (ps := ["_law_state_here", "_law_most"]) (k := 0) (g := m_p_law_next) F ⟨rfl, rfl, rfl, by decide +kernel, rfl, by decide +kernel, by decide +kernel⟩ fun cdv A outer s H E C => ?_⟩
  exact (dss_cons (ds_set C (i := 2) rfl (by first | exact Or.inl rfl | exact Or.inr rfl) (de_mod (de_sub1 C (de_var (pv 0)) de_int) (de_var (pv 1)))) (dss_cons (ds_augL C ip_fdivW ipd_fdivW (de_var (pv 0)) de_int (de_var (pv 1))) (dss_one (ds_ret (de_var (pv 2))))))
theorem ok_p_law_name {P : Program} {w : World} {K : PySem.W.Frag} {mg : Str → Option Value} {base : Heap} (T : Txt K mg) (TB : ∀ p ∈ tq, LamX.TabB base mg (He.cT K p.1).1 (He.cT K p.1).2) : ∃ fd, FunD K d_p_law_name.name d_p_law_name.qual d_p_law_name.params d_p_law_name.body d_p_law_name.scope (d_p_law_name.dvs K) (d_p_law_name.kws K) (He.fAd K d_p_law_name.at_) fd ∧
    FnG P w K mg base 2 (He.fAd K d_p_law_name.at_) fd ["_law_state_here", "_law_taken"] (spD K mg 2 S_p_law_name) := by
  obtain ⟨fd_p_law_next, D_p_law_next, G_p_law_next⟩ := ok_p_law_next (P := P) (w := w) (base := base) T TB
  have m_p_law_next := glo_p_law_next T
  have b_range := free_range T
  obtain ⟨fd, F⟩ := fun_p_law_name T
  refine ⟨fd, F, fnG (N := N_p_law_name) (ps := ["_law_state_here", "_law_taken"]) (k := 1) (g := m_p_law_name) F ⟨rfl, rfl, rfl, by decide +kernel, rfl, by decide +kernel, by decide +kernel⟩ fun cdv A outer s H E C => ?_⟩
  refine dss_cons (ds_set C (i := 2) rfl (by first | exact Or.inl rfl | exact Or.inr rfl) de_str) ?_
  refine dss_cons (ds_set C (i := 3) rfl (by first | exact Or.inl rfl | exact Or.inr rfl) (de_join de_str (da_cons (de_lcB C finL_ok (di_range1 rfl b_range (da_cons (de_add de_int (de_call (x := "_law_next") G_p_law_next callOk_share C rfl m_p_law_next D_p_law_next.kp (kb_all D_p_law_next rfl 2 [] [(0, 0), (0, 1)] fun _ _ _ _ _ _ us ws l1 l2 => match us, ws, l1, l2 with | [_, _], [], _, _ => rfl) (da_cons (de_var (pv 0)) (da_cons de_int da_nil)) dkw_nil)) da_nil)) (show BlkOk N_p_law_name (defScope s_p_law_name) _ [("_law_place", 6)] from ⟨rfl, by decide +kernel, by decide +kernel, by decide +kernel, by decide +kernel⟩) (fun _ _ _ _ _ C1 => (dg_name (i := 6) (pg_name C1.nd rfl (by first | exact Or.inl rfl | exact Or.inr rfl)))) (fun _ _ _ _ _ C1 => dts_nil) (fun _ _ _ _ _ C1 => (de_sub1 C1 (de_var (pv 2)) (de_call (x := "_law_next") G_p_law_next callOk_share C1 rfl m_p_law_next D_p_law_next.kp (kb_all D_p_law_next rfl 2 [] [(0, 0), (0, 1)] fun _ _ _ _ _ _ us ws l1 l2 => match us, ws, l1, l2 with | [_, _], [], _, _ => rfl) (da_cons (de_var (pv 0)) (da_cons de_int da_nil)) dkw_nil)))) da_nil))) ?_
  exact (dss_cons (ds_if (dt_cmp (opr_notIn C) opd_notIn (de_var (pv 3)) (de_var (pv 1)) (by with_unfolding_all rfl)) (dss_one (ds_ret (de_var (pv 3)))) dss_nil) (dss_cons (ds_for C (di_signs (de_var (pv 2))) (dg_name (i := 4) (pg_name C.nd rfl (by first | exact Or.inl rfl | exact Or.inr rfl))) (dss_one (ds_for C (di_signs (de_var (pv 2))) (dg_name (i := 5) (pg_name C.nd rfl (by first | exact Or.inl rfl | exact Or.inr rfl))) (dss_one (ds_if (dt_cmp (opr_notIn C) opd_notIn (de_add (de_add (de_sliceS (de_var (pv 3)) do_none (do_some de_int)) (de_var (pv 4))) (de_var (pv 5))) (de_var (pv 1)) (by with_unfolding_all rfl)) (dss_one (ds_ret (de_add (de_add (de_sliceS (de_var (pv 3)) do_none (do_some de_int)) (de_var (pv 4))) (de_var (pv 5))))) dss_nil))))) (dss_one (ds_ret (de_var (pv 3))))))
theorem ok_p_law_names {P : Program} {w : World} {K : PySem.W.Frag} {mg : Str → Option Value} {base : Heap} (T : Txt K mg) (TB : ∀ p ∈ tq, LamX.TabB base mg (He.cT K p.1).1 (He.cT K p.1).2) : ∃ fd, FunD K d_p_law_names.name d_p_law_names.qual d_p_law_names.params d_p_law_names.body d_p_law_names.scope (d_p_law_names.dvs K) (d_p_law_names.kws K) (He.fAd K d_p_law_names.at_) fd ∧
    FnG P w K mg base 3 (He.fAd K d_p_law_names.at_) fd ["_law_state_here", "_law_many"] (spD K mg 2 S_p_law_names) := by
  obtain ⟨fd_p_law_name, D_p_law_name, G_p_law_name⟩ := ok_p_law_name (P := P) (w := w) (base := base) T TB
  have m_p_law_name := glo_p_law_name T
  have b_range := free_range T
  obtain ⟨fd, F⟩ := fun_p_law_names T
  refine ⟨fd, F, fnG (N := N_p_law_names) (ps := ["_law_state_here", "_law_many"]) (k := 2) (g := m_p_law_names) F ⟨rfl, rfl, rfl, by decide +kernel, rfl, by decide +kernel, by decide +kernel⟩ fun cdv A outer s H E C => ?_⟩
  exact (dss_cons (ds_set C (i := 2) rfl (by first | exact Or.inl rfl | exact Or.inr rfl) (de_lstO da_nil)) (dss_cons (ds_for C (di_range1 rfl b_range (da_cons (de_var (pv 1)) da_nil)) (dg_name (i := 3) (pg_name C.nd rfl (by first | exact Or.inl rfl | exact Or.inr rfl))) (dss_one (ds_expr (de_append (de_var (pv 2)) (da_cons (de_call (x := "_law_name") G_p_law_name callOk_share C rfl m_p_law_name D_p_law_name.kp (kb_all D_p_law_name rfl 2 [] [(0, 0), (0, 1)] fun _ _ _ _ _ _ us ws l1 l2 => match us, ws, l1, l2 with | [_, _], [], _, _ => rfl) (da_cons (de_var (pv 0)) (da_cons (de_var (pv 2)) da_nil)) dkw_nil) da_nil))))) (dss_one (ds_ret (de_frz (de_var (pv 2)))))))
theorem ok_House_init {P : Program} {w : World} {K : PySem.W.Frag} {mg : Str → Option Value} {base : Heap} (T : Txt K mg) (TB : ∀ p ∈ tq, LamX.TabB base mg (He.cT K p.1).1 (He.cT K p.1).2) : ∃ fd, FunD K d_House_init.name d_House_init.qual d_House_init.params d_House_init.body d_House_init.scope (d_House_init.dvs K) (d_House_init.kws K) (He.fAd K d_House_init.at_) fd ∧
    FnG P w K mg base 1 (He.fAd K d_House_init.at_) fd ["self"] (spD K mg 1 S_House_init) := by
  have I_House : ∀ {X : Cx}, X.K = K → X.mg = mg → ClsI X "House" (He.ga K "House") := fun h1 h2 => ⟨by rw [h2]; exact gloc_House T, by rw [h1]; exact cls_House T⟩
  have N_House_elder := noat_House_elder T
  have N_House_named := noat_House_named T
  have N_House_stands := noat_House_stands T
  have N_House_things := noat_House_things T
  have N_House_tried := noat_House_tried T
  have N_House_tried_out := noat_House_tried_out T
  have N_House_waits := noat_House_waits T
  obtain ⟨fd, F⟩ := fun_House_init T
  refine ⟨fd, F, fnG (N := N_House_init) (ps := ["self"]) (k := 0) (g := m_House_init) F ⟨rfl, rfl, rfl, by decide +kernel, rfl, by decide +kernel, by decide +kernel⟩ fun cdv A outer s H E C => ?_⟩
  exact (dss_cons (ds_fld (de_var (pv 0)) de_dictE (cs := ["House"]) fun c hc => by rw [List.mem_singleton.mp hc]; exact ⟨_, I_House rfl rfl, N_House_named⟩) (dss_cons (ds_fld (de_var (pv 0)) (de_lst da_nil) (cs := ["House"]) fun c hc => by rw [List.mem_singleton.mp hc]; exact ⟨_, I_House rfl rfl, N_House_things⟩) (dss_cons (ds_fld (de_var (pv 0)) (de_lst da_nil) (cs := ["House"]) fun c hc => by rw [List.mem_singleton.mp hc]; exact ⟨_, I_House rfl rfl, N_House_waits⟩) (dss_cons (ds_fld (de_var (pv 0)) (de_lstO da_nil) (cs := ["House"]) fun c hc => by rw [List.mem_singleton.mp hc]; exact ⟨_, I_House rfl rfl, N_House_stands⟩) (dss_cons (ds_fld (de_var (pv 0)) (de_lstO da_nil) (cs := ["House"]) fun c hc => by rw [List.mem_singleton.mp hc]; exact ⟨_, I_House rfl rfl, N_House_elder⟩) (dss_one (ds_fldC (de_var (pv 0)) (de_var (pv 0)) de_int (cs := ["House"]) (fun c hc => by rw [List.mem_singleton.mp hc]; exact ⟨_, I_House rfl rfl, N_House_tried⟩) (fun c hc => by rw [List.mem_singleton.mp hc]; exact ⟨_, I_House rfl rfl, N_House_tried_out⟩))))))))
theorem ok_p_law_number {P : Program} {w : World} {K : PySem.W.Frag} {mg : Str → Option Value} {base : Heap} (T : Txt K mg) (TB : ∀ p ∈ tq, LamX.TabB base mg (He.cT K p.1).1 (He.cT K p.1).2) : ∃ fd, FunD K d_p_law_number.name d_p_law_number.qual d_p_law_number.params d_p_law_number.body d_p_law_number.scope (d_p_law_number.dvs K) (d_p_law_number.kws K) (He.fAd K d_p_law_number.at_) fd ∧
    FnG P w K mg base 2 (He.fAd K d_p_law_number.at_) fd ["_law_state_here"] (spD K mg 1 S_p_law_number) := by
  obtain ⟨fd_p_law_next, D_p_law_next, G_p_law_next⟩ := ok_p_law_next (P := P) (w := w) (base := base) T TB
  have m_p_law_next := glo_p_law_next T
  obtain ⟨fd, F⟩ := fun_p_law_number T
  refine ⟨fd, F, fnG (N := N_p_law_number) (ps := ["_law_state_here"]) (k := 1) (g := m_p_law_number) F ⟨rfl, rfl, rfl, by decide +kernel, rfl, by decide +kernel, by decide +kernel⟩ fun cdv A outer s H E C => ?_⟩
  exact (dss_cons (ds_set C (i := 1) rfl (by first | exact Or.inl rfl | exact Or.inr rfl) (de_call (x := "_law_next") G_p_law_next callOk_share C rfl m_p_law_next D_p_law_next.kp (kb_all D_p_law_next rfl 2 [] [(0, 0), (0, 1)] fun _ _ _ _ _ _ us ws l1 l2 => match us, ws, l1, l2 with | [_, _], [], _, _ => rfl) (da_cons (de_var (pv 0)) (da_cons de_int da_nil)) dkw_nil)) (dss_cons (ds_set C (i := 2) rfl (by first | exact Or.inl rfl | exact Or.inr rfl) (de_sub (de_call (x := "_law_next") G_p_law_next callOk_share C rfl m_p_law_next D_p_law_next.kp (kb_all D_p_law_next rfl 2 [] [(0, 0), (0, 1)] fun _ _ _ _ _ _ us ws l1 l2 => match us, ws, l1, l2 with | [_, _], [], _, _ => rfl) (da_cons (de_var (pv 0)) (da_cons (de_add (de_mul de_int (de_pow de_int de_int)) de_int) da_nil)) dkw_nil) (de_pow de_int de_int))) (dss_one (ds_ret (de_sub1 C (de_lst (da_cons (de_var (pv 2)) (da_cons (de_mod (de_var (pv 2)) de_int) (da_cons (de_mod (de_var (pv 2)) de_int) (da_cons (de_pow de_int de_int) (da_cons (de_neg (de_pow de_int de_int)) (da_cons de_int da_nil))))))) (de_var (pv 1)))))))
theorem ok_p_law_deed {P : Program} {w : World} {K : PySem.W.Frag} {mg : Str → Option Value} {base : Heap} (T : Txt K mg) (TB : ∀ p ∈ tq, LamX.TabB base mg (He.cT K p.1).1 (He.cT K p.1).2) : ∃ fd, FunD K d_p_law_deed.name d_p_law_deed.qual d_p_law_deed.params d_p_law_deed.body d_p_law_deed.scope (d_p_law_deed.dvs K) (d_p_law_deed.kws K) (He.fAd K d_p_law_deed.at_) fd ∧
    FnG P w K mg base 3 (He.fAd K d_p_law_deed.at_) fd ["_law_state_here", "_law_menu", "_law_hints"] (spD K mg 3 S_p_law_deed) := by
  obtain ⟨fd_p_law_next, D_p_law_next, G_p_law_next⟩ := ok_p_law_next (P := P) (w := w) (base := base) T TB
  have m_p_law_next := glo_p_law_next T
  obtain ⟨fd_p_law_number, D_p_law_number, G_p_law_number⟩ := ok_p_law_number (P := P) (w := w) (base := base) T TB
  have m_p_law_number := glo_p_law_number T
  have b_len := free_len T
  obtain ⟨fd, F⟩ := fun_p_law_deed T
  refine ⟨fd, F, fnG (N := N_p_law_deed) (ps := ["_law_state_here", "_law_menu", "_law_hints"]) (k := 2) (g := m_p_law_deed) F ⟨rfl, rfl, rfl, by decide +kernel, rfl, by decide +kernel, by decide +kernel⟩ fun cdv A outer s H E C => ?_⟩
  refine dss_cons (ds_set C (i := 3) rfl (by first | exact Or.inl rfl | exact Or.inr rfl) (de_sub1 C (de_var (pv 1)) (de_call (x := "_law_next") G_p_law_next callOk_share C rfl m_p_law_next D_p_law_next.kp (kb_all D_p_law_next rfl 2 [] [(0, 0), (0, 1)] fun _ _ _ _ _ _ us ws l1 l2 => match us, ws, l1, l2 with | [_, _], [], _, _ => rfl) (da_cons (de_var (pv 0)) (da_cons (de_len rfl b_len (da_cons (de_var (pv 1)) da_nil)) da_nil)) dkw_nil))) ?_
  refine dss_cons (ds_set C (i := 4) rfl (by first | exact Or.inl rfl | exact Or.inr rfl) (de_sub1 C (de_var (pv 2)) (de_call (x := "_law_next") G_p_law_next callOk_share C rfl m_p_law_next D_p_law_next.kp (kb_all D_p_law_next rfl 2 [] [(0, 0), (0, 1)] fun _ _ _ _ _ _ us ws l1 l2 => match us, ws, l1, l2 with | [_, _], [], _, _ => rfl) (da_cons (de_var (pv 0)) (da_cons (de_len rfl b_len (da_cons (de_var (pv 2)) da_nil)) da_nil)) dkw_nil))) ?_
  refine dss_cons (ds_set C (i := 5) rfl (by first | exact Or.inl rfl | exact Or.inr rfl) (de_sub1 C (de_var (pv 2)) (de_call (x := "_law_next") G_p_law_next callOk_share C rfl m_p_law_next D_p_law_next.kp (kb_all D_p_law_next rfl 2 [] [(0, 0), (0, 1)] fun _ _ _ _ _ _ us ws l1 l2 => match us, ws, l1, l2 with | [_, _], [], _, _ => rfl) (da_cons (de_var (pv 0)) (da_cons (de_len rfl b_len (da_cons (de_var (pv 2)) da_nil)) da_nil)) dkw_nil))) ?_
  refine dss_cons (ds_set C (i := 6) rfl (by first | exact Or.inl rfl | exact Or.inr rfl) (de_call (x := "_law_next") G_p_law_next callOk_share C rfl m_p_law_next D_p_law_next.kp (kb_all D_p_law_next rfl 2 [] [(0, 0), (0, 1)] fun _ _ _ _ _ _ us ws l1 l2 => match us, ws, l1, l2 with | [_, _], [], _, _ => rfl) (da_cons (de_var (pv 0)) (da_cons de_int da_nil)) dkw_nil)) ?_
  refine dss_cons ?_ ?_
  · refine ds_if (dt_cmp (opr_in C) opd_in (de_var (pv 3)) (de_tup (da_cons de_str (da_cons de_str da_nil))) (by with_unfolding_all rfl)) ?_ ?_
    · exact (dss_cons (ds_if (dt_cmp (opr_eq C) opd_eq (de_var (pv 3)) de_str (nomark _)) (dss_one (ds_ret (de_tup (da_cons (de_var (pv 3)) (da_cons (de_var (pv 4)) (da_cons (de_call (x := "_law_number") G_p_law_number callOk_share C rfl m_p_law_number D_p_law_number.kp (kb_all D_p_law_number rfl 1 [] [(0, 0)] fun _ _ _ _ _ _ us ws l1 l2 => match us, ws, l1, l2 with | [_], [], _, _ => rfl) (da_cons (de_var (pv 0)) da_nil) dkw_nil) da_nil)))))) dss_nil) (dss_one (ds_ret (de_tup (da_cons (de_var (pv 3)) (da_cons (de_var (pv 4)) (da_cons (de_call (x := "_law_next") G_p_law_next callOk_share C rfl m_p_law_next D_p_law_next.kp (kb_all D_p_law_next rfl 2 [] [(0, 0), (0, 1)] fun _ _ _ _ _ _ us ws l1 l2 => match us, ws, l1, l2 with | [_, _], [], _, _ => rfl) (da_cons (de_var (pv 0)) (da_cons de_int da_nil)) dkw_nil) (da_cons (de_cmp (opr_eq C) opd_eq (de_call (x := "_law_next") G_p_law_next callOk_share C rfl m_p_law_next D_p_law_next.kp (kb_all D_p_law_next rfl 2 [] [(0, 0), (0, 1)] fun _ _ _ _ _ _ us ws l1 l2 => match us, ws, l1, l2 with | [_, _], [], _, _ => rfl) (da_cons (de_var (pv 0)) (da_cons de_int da_nil)) dkw_nil) de_int (nomark _)) da_nil))))))))
    · exact dss_nil
  exact (dss_cons (ds_if (dt_cmp (opr_in C) opd_in (de_var (pv 3)) (de_tup (da_cons de_str (da_cons de_str (da_cons de_str da_nil)))) (by with_unfolding_all rfl)) (dss_one (ds_ret (de_tup (da_cons (de_var (pv 3)) (da_cons (de_var (pv 4)) (da_cons (de_var (pv 5)) da_nil)))))) dss_nil) (dss_cons (ds_if (dt_cmp (opr_eq C) opd_eq (de_var (pv 3)) de_str (nomark _)) (dss_one (ds_ret (de_tup (da_cons (de_var (pv 3)) (da_cons (de_var (pv 4)) (da_cons (de_var (pv 5)) (da_cons (de_var (pv 6)) da_nil))))))) dss_nil) (dss_cons (ds_if (dt_cmp (opr_eq C) opd_eq (de_var (pv 3)) de_str (nomark _)) (dss_one (ds_ret (de_tup (da_cons (de_var (pv 3)) (da_cons (de_var (pv 4)) (da_cons (de_var (pv 6)) (da_cons (de_var (pv 5)) da_nil))))))) dss_nil) (dss_cons (ds_if (dt_cmp (opr_eq C) opd_eq (de_var (pv 3)) de_str (nomark _)) dss_none dss_nil) (dss_one (ds_ret (de_tup (da_cons (de_var (pv 3)) (da_cons (de_var (pv 4)) da_nil)))))))))
theorem ok_p_law_needs {P : Program} {w : World} {K : PySem.W.Frag} {mg : Str → Option Value} {base : Heap} (T : Txt K mg) (TB : ∀ p ∈ tq, LamX.TabB base mg (He.cT K p.1).1 (He.cT K p.1).2) : ∃ fd, FunD K d_p_law_needs.name d_p_law_needs.qual d_p_law_needs.params d_p_law_needs.body d_p_law_needs.scope (d_p_law_needs.dvs K) (d_p_law_needs.kws K) (He.fAd K d_p_law_needs.at_) fd ∧
    FnG P w K mg base 1 (He.fAd K d_p_law_needs.at_) fd ["_law_word"] (spD K mg 1 S_p_law_needs) := by
  obtain ⟨fd, F⟩ := fun_p_law_needs T
  refine ⟨fd, F, fnG (N := N_p_law_needs) (ps := ["_law_word"]) (k := 0) (g := m_p_law_needs) F ⟨rfl, rfl, rfl, by decide +kernel, rfl, by decide +kernel, by decide +kernel⟩ fun cdv A outer s H E C => ?_⟩
  exact (dss_cons (ds_if (dt_cmp (opr_in C) opd_in (de_var (pv 0)) (de_tup (da_cons de_str (da_cons de_str (da_cons de_str (da_cons de_str da_nil))))) (by with_unfolding_all rfl)) (dss_one (ds_ret (de_tup (da_cons (de_tup (da_cons de_int (da_cons de_int da_nil))) (da_cons (de_tup (da_cons de_int da_nil)) (da_cons (de_tup (da_cons de_int da_nil)) da_nil)))))) dss_nil) (dss_cons (ds_if (dt_cmp (opr_eq C) opd_eq (de_var (pv 0)) de_str (nomark _)) (dss_one (ds_ret (de_tup (da_cons (de_tup (da_cons de_int (da_cons de_int da_nil))) (da_cons (de_tup (da_cons de_int (da_cons de_int da_nil))) (da_cons (de_tup da_nil) da_nil)))))) dss_nil) (dss_cons (ds_if (dt_cmp (opr_eq C) opd_eq (de_var (pv 0)) de_str (nomark _)) (dss_one (ds_ret (de_tup (da_cons (de_tup (da_cons de_int da_nil)) (da_cons (de_tup (da_cons de_int da_nil)) (da_cons (de_tup da_nil) da_nil)))))) dss_nil) (dss_one (ds_ret (de_tup (da_cons (de_tup (da_cons de_int da_nil)) (da_cons (de_tup da_nil) (da_cons (de_tup (da_cons de_int da_nil)) da_nil)))))))))
theorem ok_p_law_whole {P : Program} {w : World} {K : PySem.W.Frag} {mg : Str → Option Value} {base : Heap} (T : Txt K mg) (TB : ∀ p ∈ tq, LamX.TabB base mg (He.cT K p.1).1 (He.cT K p.1).2) : ∃ fd, FunD K d_p_law_whole.name d_p_law_whole.qual d_p_law_whole.params d_p_law_whole.body d_p_law_whole.scope (d_p_law_whole.dvs K) (d_p_law_whole.kws K) (He.fAd K d_p_law_whole.at_) fd ∧
    FnG P w K mg base 1 (He.fAd K d_p_law_whole.at_) fd ["_law_thing", "_law_least", "_law_most"] (spD K mg 3 S_p_law_whole) := by
  have b_bool := free_bool T
  have b_int := free_int T
  have b_isinstance := free_isinstance T
  obtain ⟨fd, F⟩ := fun_p_law_whole T
  refine ⟨fd, F, fnG (N := N_p_law_whole) (ps := ["_law_thing", "_law_least", "_law_most"]) (k := 0) (g := m_p_law_whole) F ⟨rfl, rfl, rfl, by decide +kernel, rfl, by decide +kernel, by decide +kernel⟩ fun cdv A outer s H E C => ?_⟩
  exact (dss_one (ds_ret (de_and (de_isi rfl b_isinstance (da_cons (de_var (pv 0)) (da_cons (de_ty rfl b_int (by rfl)) da_nil))) (de_and (de_not (de_isi rfl b_isinstance (da_cons (de_var (pv 0)) (da_cons (de_ty rfl b_bool (by rfl)) da_nil)))) (de_one (de_chain op_le op_le opd_le opd_le (de_var (pv 1)) (de_var (pv 0)) (de_var (pv 2))))))))
theorem ok_p_law_sort {P : Program} {w : World} {K : PySem.W.Frag} {mg : Str → Option Value} {base : Heap} (T : Txt K mg) (TB : ∀ p ∈ tq, LamX.TabB base mg (He.cT K p.1).1 (He.cT K p.1).2) : ∃ fd, FunD K d_p_law_sort.name d_p_law_sort.qual d_p_law_sort.params d_p_law_sort.body d_p_law_sort.scope (d_p_law_sort.dvs K) (d_p_law_sort.kws K) (He.fAd K d_p_law_sort.at_) fd ∧
    FnG P w K mg base 1 (He.fAd K d_p_law_sort.at_) fd ["_law_here", "_law_name_here"] (spD K mg 2 S_p_law_sort) := by
  have b_isinstance := free_isinstance T
  have b_tuple := free_tuple T
  obtain ⟨fd, F⟩ := fun_p_law_sort T
  refine ⟨fd, F, fnG (N := N_p_law_sort) (ps := ["_law_here", "_law_name_here"]) (k := 0) (g := m_p_law_sort) F ⟨rfl, rfl, rfl, by decide +kernel, rfl, by decide +kernel, by decide +kernel⟩ fun cdv A outer s H E C => ?_⟩
  exact (dss_cons (ds_set C (i := 2) rfl (by first | exact Or.inl rfl | exact Or.inr rfl) (de_sub1 C (de_sub1 C (de_var (pv 0)) de_str) (de_var (pv 1)))) (dss_cons (ds_if (dt_not (dt_val (de_isi rfl b_isinstance (da_cons (de_var (pv 2)) (da_cons (de_ty rfl b_tuple (by rfl)) da_nil))))) (dss_one (ds_ret de_str)) dss_nil) (dss_one (ds_ret (de_sub1 C (de_sub1 C (de_sub1 C (de_var (pv 0)) de_str) (de_sub1 C (de_var (pv 2)) de_int)) de_int)))))
theorem ok_p_law_refused_thing {P : Program} {w : World} {K : PySem.W.Frag} {mg : Str → Option Value} {base : Heap} (T : Txt K mg) (TB : ∀ p ∈ tq, LamX.TabB base mg (He.cT K p.1).1 (He.cT K p.1).2) : ∃ fd, FunD K d_p_law_refused_thing.name d_p_law_refused_thing.qual d_p_law_refused_thing.params d_p_law_refused_thing.body d_p_law_refused_thing.scope (d_p_law_refused_thing.dvs K) (d_p_law_refused_thing.kws K) (He.fAd K d_p_law_refused_thing.at_) fd ∧
    FnG P w K mg base 2 (He.fAd K d_p_law_refused_thing.at_) fd ["_law_here", "_law_deed_here"] (spD K mg 2 S_p_law_refused_thing) := by
  obtain ⟨fd_p_law_whole, D_p_law_whole, G_p_law_whole⟩ := ok_p_law_whole (P := P) (w := w) (base := base) T TB
  have m_p_law_whole := glo_p_law_whole T
  obtain ⟨fd_p_law_sort, D_p_law_sort, G_p_law_sort⟩ := ok_p_law_sort (P := P) (w := w) (base := base) T TB
  have m_p_law_sort := glo_p_law_sort T
  have b_len := free_len T
  obtain ⟨fd, F⟩ := fun_p_law_refused_thing T
  refine ⟨fd, F, fnG (N := N_p_law_refused_thing) (ps := ["_law_here", "_law_deed_here"]) (k := 1) (g := m_p_law_refused_thing) F ⟨rfl, rfl, rfl, by decide +kernel, rfl, by decide +kernel, by decide +kernel⟩ fun cdv A outer s H E C => ?_⟩
  refine dss_cons (ds_set C (i := 2) rfl (by first | exact Or.inl rfl | exact Or.inr rfl) (de_sub1 C (de_var (pv 1)) de_int)) ?_
  refine dss_cons (ds_if (DW.dt (dw_and (dt_cmp (opr_eq C) opd_eq (de_var (pv 2)) de_str (nomark _)) (dw_and1 (dt_not (dt_val (de_call (x := "_law_whole") G_p_law_whole callOk_sub C rfl m_p_law_whole D_p_law_whole.kp (kb_all D_p_law_whole rfl 3 [] [(0, 0), (0, 1), (0, 2)] fun _ _ _ _ _ _ us ws l1 l2 => match us, ws, l1, l2 with | [_, _, _], [], _, _ => rfl) (da_cons (de_sub1 C (de_var (pv 1)) de_int) (da_cons (de_neg (de_pow de_int de_int)) (da_cons (de_pow de_int de_int) da_nil))) dkw_nil)))))) (dss_one (ds_ret (de_tup (da_cons de_str (da_cons de_non da_nil))))) dss_nil) ?_
  refine dss_cons (ds_if (DW.dt (dw_and (dt_cmp (opr_eq C) opd_eq (de_var (pv 2)) de_str (nomark _)) (dw_and1 (dt_not (dt_val (de_call (x := "_law_whole") G_p_law_whole callOk_sub C rfl m_p_law_whole D_p_law_whole.kp (kb_all D_p_law_whole rfl 3 [] [(0, 0), (0, 1), (0, 2)] fun _ _ _ _ _ _ us ws l1 l2 => match us, ws, l1, l2 with | [_, _, _], [], _, _ => rfl) (da_cons (de_sub1 C (de_var (pv 1)) de_int) (da_cons de_int (da_cons de_int da_nil))) dkw_nil)))))) (dss_one (ds_ret (de_tup (da_cons de_str (da_cons de_non da_nil))))) dss_nil) ?_
  refine dss_cons (ds_if (DW.dt (dw_and (dt_cmp (opr_eq C) opd_eq (de_var (pv 2)) de_str (nomark _)) (dw_and1 (dt_cmp (opr_eq C) opd_eq (de_call (x := "_law_sort") G_p_law_sort callOk_share C rfl m_p_law_sort D_p_law_sort.kp (kb_all D_p_law_sort rfl 2 [] [(0, 0), (0, 1)] fun _ _ _ _ _ _ us ws l1 l2 => match us, ws, l1, l2 with | [_, _], [], _, _ => rfl) (da_cons (de_var (pv 0)) (da_cons (de_sub1 C (de_var (pv 1)) de_int) da_nil)) dkw_nil) de_str (nomark _))))) (dss_one (ds_ret (de_tup (da_cons de_str (da_cons de_non da_nil))))) dss_nil) ?_
  refine dss_cons (ds_if (DW.dt (dw_and (dt_cmp (opr_eq C) opd_eq (de_var (pv 2)) de_str (nomark _)) (dw_and1 (dt_cmp (opr_ne C) opd_ne (de_call (x := "_law_sort") G_p_law_sort callOk_share C rfl m_p_law_sort D_p_law_sort.kp (kb_all D_p_law_sort rfl 2 [] [(0, 0), (0, 1)] fun _ _ _ _ _ _ us ws l1 l2 => match us, ws, l1, l2 with | [_, _], [], _, _ => rfl) (da_cons (de_var (pv 0)) (da_cons (de_sub1 C (de_var (pv 1)) de_int) da_nil)) dkw_nil) de_str (nomark _))))) (dss_one (ds_ret (de_tup (da_cons de_str (da_cons de_non da_nil))))) dss_nil) ?_
  refine dss_cons ?_ ?_
  · refine ds_if (dt_cmp (opr_in C) opd_in (de_var (pv 2)) (de_tup (da_cons de_str (da_cons de_str da_nil))) (by with_unfolding_all rfl)) ?_ ?_
    · refine dss_cons (ds_asg (de_ifExp (dt_cmp (opr_eq C) opd_eq (de_var (pv 2)) de_str (nomark _)) (de_tup (da_cons (de_sub1 C (de_var (pv 1)) de_int) (da_cons (de_sub1 C (de_var (pv 1)) de_int) da_nil))) (de_tup (da_cons (de_sub1 C (de_var (pv 1)) de_int) (da_cons (de_sub1 C (de_var (pv 1)) de_int) da_nil)))) (dg_tup C.calm (dgs_cons (dg_name (i := 3) (pg_name C.nd rfl (by first | exact Or.inl rfl | exact Or.inr rfl))) (dgs_cons (dg_name (i := 4) (pg_name C.nd rfl (by first | exact Or.inl rfl | exact Or.inr rfl))) dgs_nil)))) ?_
      exact (dss_cons (ds_if (dt_cmp (opr_notIn C) opd_notIn (de_call (x := "_law_sort") G_p_law_sort callOk_share C rfl m_p_law_sort D_p_law_sort.kp (kb_all D_p_law_sort rfl 2 [] [(0, 0), (0, 1)] fun _ _ _ _ _ _ us ws l1 l2 => match us, ws, l1, l2 with | [_, _], [], _, _ => rfl) (da_cons (de_var (pv 0)) (da_cons (de_var (pv 3)) da_nil)) dkw_nil) (de_tup (da_cons de_str (da_cons de_str da_nil))) (by with_unfolding_all rfl)) (dss_one (ds_ret (de_tup (da_cons de_str (da_cons de_non da_nil))))) dss_nil) (dss_one (ds_if (dt_not (dt_val (de_call (x := "_law_whole") G_p_law_whole callOk_sub C rfl m_p_law_whole D_p_law_whole.kp (kb_all D_p_law_whole rfl 3 [] [(0, 0), (0, 1), (0, 2)] fun _ _ _ _ _ _ us ws l1 l2 => match us, ws, l1, l2 with | [_, _, _], [], _, _ => rfl) (da_cons (de_var (pv 4)) (da_cons de_int (da_cons (de_sub (de_len rfl b_len (da_cons (de_sub1 C (de_sub1 C (de_sub1 C (de_var (pv 0)) de_str) (de_sub1 C (de_sub1 C (de_sub1 C (de_var (pv 0)) de_str) (de_var (pv 3))) de_int)) de_int) da_nil)) de_int) da_nil))) dkw_nil))) (dss_one (ds_ret (de_tup (da_cons de_str (da_cons de_non da_nil))))) dss_nil)))
    · exact dss_nil
  exact (dss_one (ds_ret de_non))
theorem ok_p_law_refusal {P : Program} {w : World} {K : PySem.W.Frag} {mg : Str → Option Value} {base : Heap} (T : Txt K mg) (TB : ∀ p ∈ tq, LamX.TabB base mg (He.cT K p.1).1 (He.cT K p.1).2) : ∃ fd, FunD K d_p_law_refusal.name d_p_law_refusal.qual d_p_law_refusal.params d_p_law_refusal.body d_p_law_refusal.scope (d_p_law_refusal.dvs K) (d_p_law_refusal.kws K) (He.fAd K d_p_law_refusal.at_) fd ∧
    FnG P w K mg base 3 (He.fAd K d_p_law_refusal.at_) fd ["_law_here", "_law_deed_here"] (spD K mg 2 S_p_law_refusal) := by
  obtain ⟨fd_p_law_needs, D_p_law_needs, G_p_law_needs⟩ := ok_p_law_needs (P := P) (w := w) (base := base) T TB
  have m_p_law_needs := glo_p_law_needs T
  obtain ⟨fd_p_law_refused_thing, D_p_law_refused_thing, G_p_law_refused_thing⟩ := ok_p_law_refused_thing (P := P) (w := w) (base := base) T TB
  have m_p_law_refused_thing := glo_p_law_refused_thing T
  have b_isinstance := free_isinstance T
  have b_len := free_len T
  have b_str := free_str T
  obtain ⟨fd, F⟩ := fun_p_law_refusal T
  refine ⟨fd, F, fnG (N := N_p_law_refusal) (ps := ["_law_here", "_law_deed_here"]) (k := 2) (g := m_p_law_refusal) F ⟨rfl, rfl, rfl, by decide +kernel, rfl, by decide +kernel, by decide +kernel⟩ fun cdv A outer s H E C => ?_⟩
  refine dss_cons (ds_set C (i := 2) rfl (by first | exact Or.inl rfl | exact Or.inr rfl) (de_sub1 C (de_var (pv 1)) de_int)) ?_
  refine dss_cons (ds_if (dt_cmp (opr_eq C) opd_eq (de_var (pv 2)) de_str (nomark _)) (dss_one (ds_ret de_non)) dss_nil) ?_
  refine dss_cons ?_ ?_
  · refine ds_for C (di_seq (de_sub1 C (de_call (x := "_law_needs") G_p_law_needs callOk_sub C rfl m_p_law_needs D_p_law_needs.kp (kb_all D_p_law_needs rfl 1 [] [(0, 0)] fun _ _ _ _ _ _ us ws l1 l2 => match us, ws, l1, l2 with | [_], [], _, _ => rfl) (da_cons (de_var (pv 2)) da_nil) dkw_nil) de_int)) (dg_name (i := 3) (pg_name C.nd rfl (by first | exact Or.inl rfl | exact Or.inr rfl))) ?_
    exact (dss_cons (ds_set C (i := 4) rfl (by first | exact Or.inl rfl | exact Or.inr rfl) (de_sub1 C (de_var (pv 1)) (de_var (pv 3)))) (dss_cons (ds_set C (i := 5) rfl (by first | exact Or.inl rfl | exact Or.inr rfl) (de_and (de_isi rfl b_isinstance (da_cons (de_var (pv 4)) (da_cons (de_ty rfl b_str (by rfl)) da_nil))) (de_one (de_cmp (opr_eq C) opd_eq (de_lcB C finL_ok (di_signs (de_var (pv 4))) (show BlkOk N_p_law_refusal (defScope s_p_law_refusal) _ [("_law_sign", 6)] from ⟨rfl, by decide +kernel, by decide +kernel, by decide +kernel, by decide +kernel⟩) (fun _ _ _ _ _ C1 => (dg_name (i := 6) (pg_name C1.nd rfl (by first | exact Or.inl rfl | exact Or.inr rfl)))) (fun _ _ _ _ _ C1 => (dts_one (DW.dt (dw_or (dt_cmp op_lt_str opd_ltS (de_var (pv 6)) de_str (nomark _)) (dw_or1 (dt_cmp op_gt_str opd_gtS (de_var (pv 6)) de_str (nomark _))))))) (fun _ _ _ _ _ C1 => (de_var (pv 6)))) (de_lst da_nil) (nomark _))))) (dss_one (ds_if (DW.dt (dw_or (dt_not (dt_val (de_var (pv 5)))) (dw_or1 (dt_not (dt_chain op_le op_le opd_le opd_le de_int (de_len rfl b_len (da_cons (de_var (pv 4)) da_nil)) de_int))))) (dss_one (ds_ret (de_tup (da_cons de_str (da_cons (de_var (pv 4)) da_nil))))) dss_nil))))
  refine dss_cons (ds_for C (di_seq (de_sub1 C (de_call (x := "_law_needs") G_p_law_needs callOk_sub C rfl m_p_law_needs D_p_law_needs.kp (kb_all D_p_law_needs rfl 1 [] [(0, 0)] fun _ _ _ _ _ _ us ws l1 l2 => match us, ws, l1, l2 with | [_], [], _, _ => rfl) (da_cons (de_var (pv 2)) da_nil) dkw_nil) de_int)) (dg_name (i := 3) (pg_name C.nd rfl (by first | exact Or.inl rfl | exact Or.inr rfl))) (dss_one (ds_if (dt_cmp (opr_notIn C) opd_notIn (de_sub1 C (de_var (pv 1)) (de_var (pv 3))) (de_sub1 C (de_var (pv 0)) de_str) (by with_unfolding_all rfl)) (dss_one (ds_ret (de_tup (da_cons de_str (da_cons (de_sub1 C (de_var (pv 1)) (de_var (pv 3))) da_nil))))) dss_nil))) ?_
  exact (dss_cons (ds_for C (di_seq (de_sub1 C (de_call (x := "_law_needs") G_p_law_needs callOk_sub C rfl m_p_law_needs D_p_law_needs.kp (kb_all D_p_law_needs rfl 1 [] [(0, 0)] fun _ _ _ _ _ _ us ws l1 l2 => match us, ws, l1, l2 with | [_], [], _, _ => rfl) (da_cons (de_var (pv 2)) da_nil) dkw_nil) de_int)) (dg_name (i := 3) (pg_name C.nd rfl (by first | exact Or.inl rfl | exact Or.inr rfl))) (dss_one (ds_if (DW.dt (dw_and (dt_cmp (opr_notIn C) opd_notIn (de_sub1 C (de_var (pv 1)) (de_var (pv 3))) (de_sub1 C (de_var (pv 0)) de_str) (by with_unfolding_all rfl)) (dw_and1 (dt_cmp op_gt opd_gt (de_len rfl b_len (da_cons (de_sub1 C (de_var (pv 0)) de_str) da_nil)) de_int (nomark _))))) (dss_one (ds_ret (de_tup (da_cons de_str (da_cons de_non da_nil))))) dss_nil))) (dss_one (ds_ret (de_call (x := "_law_refused_thing") G_p_law_refused_thing callOk_share C rfl m_p_law_refused_thing D_p_law_refused_thing.kp (kb_all D_p_law_refused_thing rfl 2 [] [(0, 0), (0, 1)] fun _ _ _ _ _ _ us ws l1 l2 => match us, ws, l1, l2 with | [_, _], [], _, _ => rfl) (da_cons (de_var (pv 0)) (da_cons (de_var (pv 1)) da_nil)) dkw_nil))))
theorem ok_p_law_gotten {P : Program} {w : World} {K : PySem.W.Frag} {mg : Str → Option Value} {base : Heap} (T : Txt K mg) (TB : ∀ p ∈ tq, LamX.TabB base mg (He.cT K p.1).1 (He.cT K p.1).2) : ∃ fd, FunD K d_p_law_gotten.name d_p_law_gotten.qual d_p_law_gotten.params d_p_law_gotten.body d_p_law_gotten.scope (d_p_law_gotten.dvs K) (d_p_law_gotten.kws K) (He.fAd K d_p_law_gotten.at_) fd ∧
    FnG P w K mg base 1 (He.fAd K d_p_law_gotten.at_) fd ["_law_here", "_law_deed_here"] (spD K mg 2 S_p_law_gotten) := by
  have b_int := free_int T
  have b_len := free_len T
  obtain ⟨fd, F⟩ := fun_p_law_gotten T
  refine ⟨fd, F, fnG (N := N_p_law_gotten) (ps := ["_law_here", "_law_deed_here"]) (k := 0) (g := m_p_law_gotten) F ⟨rfl, rfl, rfl, by decide +kernel, rfl, by decide +kernel, by decide +kernel⟩ fun cdv A outer s H E C => ?_⟩
  refine dss_cons (ds_set C (i := 2) rfl (by first | exact Or.inl rfl | exact Or.inr rfl) (de_sub1 C (de_var (pv 1)) de_int)) ?_
  refine dss_cons (ds_par C rfl rfl (by decide) rfl rfl (da_cons (de_sub1 C (de_var (pv 0)) de_str) (da_cons (de_sub1 C (de_var (pv 0)) de_str) da_nil)) (by rfl)) ?_
  refine dss_cons (ds_if (dt_cmp (opr_eq C) opd_eq (de_var (pv 2)) de_str (nomark _)) (dss_one (ds_ret (de_sub1 C (de_var (pv 1)) de_int))) dss_nil) ?_
  refine dss_cons (ds_if (dt_cmp (opr_eq C) opd_eq (de_var (pv 2)) de_str (nomark _)) (dss_one (ds_ret (de_sub1 C (de_var (pv 3)) (de_sub1 C (de_var (pv 1)) de_int)))) dss_nil) ?_
  refine dss_cons (ds_if (dt_cmp (opr_eq C) opd_eq (de_var (pv 2)) de_str (nomark _)) (dss_one (ds_ret (de_sub1 C (de_sub1 C (de_sub1 C (de_var (pv 4)) (de_sub1 C (de_sub1 C (de_var (pv 3)) (de_sub1 C (de_var (pv 1)) de_int)) de_int)) de_int) (de_sub1 C (de_var (pv 1)) de_int)))) dss_nil) ?_
  refine dss_cons (ds_if (dt_cmp (opr_eq C) opd_eq (de_var (pv 2)) de_str (nomark _)) (dss_cons (ds_set C (i := 5) rfl (by first | exact Or.inl rfl | exact Or.inr rfl) (de_sub1 C (de_sub1 C (de_var (pv 4)) (de_sub1 C (de_sub1 C (de_var (pv 3)) (de_sub1 C (de_var (pv 1)) de_int)) de_int)) de_int)) (dss_one (ds_ret (de_ifExp (dt_cmp op_isN opd_is (de_var (pv 5)) de_non (nomark _)) de_non (de_tup (da_cons de_str (da_cons (de_var (pv 5)) da_nil))))))) dss_nil) ?_
  exact (dss_cons (ds_if (dt_cmp (opr_eq C) opd_eq (de_var (pv 2)) de_str (nomark _)) (dss_one (ds_expr (de_append (de_var (pv 4)) (da_cons (de_tup (da_cons (de_sub1 C (de_lst (da_cons de_str (da_cons de_str da_nil))) (de_intB rfl b_int (da_cons (de_sub1 C (de_var (pv 1)) de_int) da_nil))) (da_cons (de_repT (de_tup (da_cons de_non da_nil)) (de_sub1 C (de_var (pv 1)) de_int)) da_nil))) da_nil)))) dss_nil) (dss_cons (ds_if (dt_cmp (opr_eq C) opd_eq (de_var (pv 2)) de_str (nomark _)) (dss_one (ds_expr (de_append (de_var (pv 4)) (da_cons (de_tup (da_cons de_str (da_cons (de_sub1 C (de_sub1 C (de_var (pv 3)) (de_sub1 C (de_var (pv 1)) de_int)) de_int) da_nil))) da_nil)))) dss_nil) (dss_one (ds_ret (de_ifExp (dt_cmp (opr_eq C) opd_eq (de_var (pv 2)) de_str (nomark _)) de_non (de_tup (da_cons de_str (da_cons (de_sub (de_len rfl b_len (da_cons (de_var (pv 4)) da_nil)) de_int) da_nil))))))))
theorem ok_p_law_done {P : Program} {w : World} {K : PySem.W.Frag} {mg : Str → Option Value} {base : Heap} (T : Txt K mg) (TB : ∀ p ∈ tq, LamX.TabB base mg (He.cT K p.1).1 (He.cT K p.1).2) : ∃ fd, FunD K d_p_law_done.name d_p_law_done.qual d_p_law_done.params d_p_law_done.body d_p_law_done.scope (d_p_law_done.dvs K) (d_p_law_done.kws K) (He.fAd K d_p_law_done.at_) fd ∧
    FnG P w K mg base 2 (He.fAd K d_p_law_done.at_) fd ["_law_here", "_law_deed_here"] (spD K mg 2 S_p_law_done) := by
  obtain ⟨fd_p_law_gotten, D_p_law_gotten, G_p_law_gotten⟩ := ok_p_law_gotten (P := P) (w := w) (base := base) T TB
  have m_p_law_gotten := glo_p_law_gotten T
  obtain ⟨fd, F⟩ := fun_p_law_done T
  refine ⟨fd, F, fnG (N := N_p_law_done) (ps := ["_law_here", "_law_deed_here"]) (k := 1) (g := m_p_law_done) F ⟨rfl, rfl, rfl, by decide +kernel, rfl, by decide +kernel, by decide +kernel⟩ fun cdv A outer s H E C => ?_⟩
  refine dss_cons (ds_set C (i := 2) rfl (by first | exact Or.inl rfl | exact Or.inr rfl) (de_sub1 C (de_var (pv 1)) de_int)) ?_
  refine dss_cons (ds_par C rfl rfl (by decide) rfl rfl (da_cons (de_sub1 C (de_var (pv 0)) de_str) (da_cons (de_sub1 C (de_var (pv 0)) de_str) da_nil)) (by rfl)) ?_
  refine dss_cons (ds_if (dt_cmp (opr_eq C) opd_eq (de_var (pv 2)) de_str (nomark _)) dss_none dss_nil) ?_
  refine dss_cons ?_ ?_
  · refine ds_if (dt_cmp (opr_eq C) opd_eq (de_var (pv 2)) de_str (nomark _)) ?_ ?_
    · exact (dss_cons (ds_set C (i := 5) rfl (by first | exact Or.inl rfl | exact Or.inr rfl) (de_sub1 C (de_sub1 C (de_var (pv 3)) (de_sub1 C (de_var (pv 1)) de_int)) de_int)) (dss_cons (ds_asg (de_sub1 C (de_var (pv 4)) (de_var (pv 5))) (dg_tup C.calm (dgs_cons (dg_name (i := 6) (pg_name C.nd rfl (by first | exact Or.inl rfl | exact Or.inr rfl))) (dgs_cons (dg_name (i := 7) (pg_name C.nd rfl (by first | exact Or.inl rfl | exact Or.inr rfl))) dgs_nil)))) (dss_one (ds_put C (de_var (pv 4)) (de_var (pv 5)) (de_tup (da_cons (de_var (pv 6)) (da_cons (de_add0 (de_add0 (de_slice (de_var (pv 7)) do_none (do_some (de_sub1 C (de_var (pv 1)) de_int))) (de_tup (da_cons (de_sub1 C (de_var (pv 3)) (de_sub1 C (de_var (pv 1)) de_int)) da_nil))) (de_slice (de_var (pv 7)) (do_some (de_add0 (de_sub1 C (de_var (pv 1)) de_int) de_int)) do_none)) da_nil)))))))
    · exact (dss_one (ds_if (dt_cmp (opr_eq C) opd_eq (de_var (pv 2)) de_str (nomark _)) (dss_one (ds_expr (de_popK (de_var (pv 3)) (de_sub1 C (de_var (pv 1)) de_int) ⟨by rfl, by rfl, by rfl, by rfl⟩))) (dss_one (ds_if (dt_cmp (opr_eq C) opd_eq (de_var (pv 2)) de_str (nomark _)) (dss_cons (ds_put C (de_var (pv 3)) (de_sub1 C (de_var (pv 1)) de_int) de_non) (dss_cons (ds_if (dt_cmp (opr_ne C) opd_ne (de_sub1 C (de_var (pv 0)) de_str) (de_lst da_nil) (nomark _)) (dss_cons (ds_put C (de_var (pv 3)) (de_sub1 C (de_var (pv 1)) de_int) (de_tup (da_cons de_str (da_cons (de_popAt (de_sub1 C (de_var (pv 0)) de_str) (da_cons de_int da_nil)) da_nil)))) (dss_one (ds_ret de_bl))) dss_nil) (dss_one (ds_ret de_bl)))) (dss_one (ds_put C (de_var (pv 3)) (de_sub1 C (de_var (pv 1)) de_int) (de_call (x := "_law_gotten") G_p_law_gotten callOk_share C rfl m_p_law_gotten D_p_law_gotten.kp (kb_all D_p_law_gotten rfl 2 [] [(0, 0), (0, 1)] fun _ _ _ _ _ _ us ws l1 l2 => match us, ws, l1, l2 with | [_, _], [], _, _ => rfl) (da_cons (de_var (pv 0)) (da_cons (de_var (pv 1)) da_nil)) dkw_nil)))))))
  exact (dss_one (ds_ret de_non))
theorem ok_p_law_heard {P : Program} {w : World} {K : PySem.W.Frag} {mg : Str → Option Value} {base : Heap} (T : Txt K mg) (TB : ∀ p ∈ tq, LamX.TabB base mg (He.cT K p.1).1 (He.cT K p.1).2) : ∃ fd, FunD K d_p_law_heard.name d_p_law_heard.qual d_p_law_heard.params d_p_law_heard.body d_p_law_heard.scope (d_p_law_heard.dvs K) (d_p_law_heard.kws K) (He.fAd K d_p_law_heard.at_) fd ∧
    FnT P w K mg base 31 "_law_heard" d_p_law_heard.scope (He.fAd K d_p_law_heard.at_) fd "_law_ask" N_p_law_heard m_p_law_heard := by
  have b_isinstance := free_isinstance T
  have c_BadName := gloc_BadName T
  have c_BadNumber := gloc_BadNumber T
  have c_NoCell := gloc_NoCell T
  have c_NoDeed := gloc_NoDeed T
  have c_NoField := gloc_NoField T
  have c_NoName := gloc_NoName T
  have c_TooMany := gloc_TooMany T
  have gx_BadName := gloc_BadName T
  have gx_BadNumber := gloc_BadNumber T
  have gx_NoCell := gloc_NoCell T
  have gx_NoDeed := gloc_NoDeed T
  have gx_NoField := gloc_NoField T
  have gx_NoName := gloc_NoName T
  have gx_TooMany := gloc_TooMany T
  have gx_YardError := gloc_YardError T
  have xi_BadName := xic_BadName T
  have xi_NoName := xic_NoName T
  have kit_BadName := kitc_BadName T
  have kit_BadNumber := kitc_BadNumber T
  have kit_NoCell := kitc_NoCell T
  have kit_NoDeed := kitc_NoDeed T
  have kit_NoField := kitc_NoField T
  have kit_NoName := kitc_NoName T
  have kit_TooMany := kitc_TooMany T
  have exm_YardError := exmc_YardError T
  obtain ⟨fd, F⟩ := fun_p_law_heard T
  refine ⟨fd, F, fnT (k := 31) (m := m_p_law_heard) F ⟨rfl, rfl, rfl, by decide +kernel, rfl, by decide +kernel, by decide +kernel⟩ rfl (by first | exact Or.inl rfl | exact Or.inr (Or.inl rfl)) (fun s v => L2.FunD.bindsA (ps := ["_law_ask"]) F (fun _ _ _ _ _ _ us hl => match us, hl with | [_], _ => rfl) s [v] rfl) fun cdv A outer s H E f c q tl C act => ?_⟩
  exact (ts_const C (i := 1) (d := .non) (by rfl) rfl (by first | exact Or.inl rfl | exact Or.inr rfl) pe_non (fun _ _ => dat_non) (ts_const C (i := 2) (d := .non) (by rfl) rfl (by first | exact Or.inl rfl | exact Or.inr rfl) pe_non (fun _ _ => dat_non) (ts_trySet act C rfl rfl rfl (i := 1) rfl (by first | exact Or.inl rfl | exact Or.inr rfl) (.named ⟨rfl, by decide, .inl gx_YardError⟩ C.nd (i := 3) rfl rfl exm_YardError (fun a pn => (dss_one (ds_setS (by exact C.nd) (i := 2) rfl (by first | exact Or.inl rfl | exact Or.inr rfl) (de_var (pv 3))))) .nil) (dss_cons (ds_if (dt_cmp op_isN opd_is (de_var (pv 2)) de_non (nomark _)) (dss_one (ds_ret (de_tup (da_cons de_str (da_cons (de_var (pv 1)) da_nil))))) dss_nil) (dss_cons (ds_if (dt_val (de_isF rfl b_isinstance gx_BadName kit_BadName (da_cons (de_var (pv 2)) (da_cons (de_own rfl c_BadName) da_nil)))) (dss_one (ds_ret (de_tup (da_cons de_str (da_cons (de_fldX (de_var (pv 2)) (cs := ["BadName", "NoName"]) (fun c hc => by simp only [List.mem_cons, List.not_mem_nil, or_false] at hc; rcases hc with rfl | rfl; exact ⟨_, gx_BadName, xi_BadName.xf, xi_BadName.no _ (by decide +kernel)⟩; exact ⟨_, gx_NoName, xi_NoName.xf, xi_NoName.no _ (by decide +kernel)⟩)) da_nil))))) dss_nil) (dss_cons (ds_if (dt_val (de_isF rfl b_isinstance gx_NoName kit_NoName (da_cons (de_var (pv 2)) (da_cons (de_own rfl c_NoName) da_nil)))) (dss_one (ds_ret (de_tup (da_cons de_str (da_cons (de_fldX (de_var (pv 2)) (cs := ["BadName", "NoName"]) (fun c hc => by simp only [List.mem_cons, List.not_mem_nil, or_false] at hc; rcases hc with rfl | rfl; exact ⟨_, gx_BadName, xi_BadName.xf, xi_BadName.no _ (by decide +kernel)⟩; exact ⟨_, gx_NoName, xi_NoName.xf, xi_NoName.no _ (by decide +kernel)⟩)) da_nil))))) dss_nil) (dss_cons (ds_set C (i := 4) rfl (by first | exact Or.inl rfl | exact Or.inr rfl) (de_lst (da_cons (de_tup (da_cons de_str (da_cons (de_isF rfl b_isinstance gx_BadNumber kit_BadNumber (da_cons (de_var (pv 2)) (da_cons (de_own rfl c_BadNumber) da_nil))) da_nil))) (da_cons (de_tup (da_cons de_str (da_cons (de_isF rfl b_isinstance gx_NoCell kit_NoCell (da_cons (de_var (pv 2)) (da_cons (de_own rfl c_NoCell) da_nil))) da_nil))) (da_cons (de_tup (da_cons de_str (da_cons (de_isF rfl b_isinstance gx_NoField kit_NoField (da_cons (de_var (pv 2)) (da_cons (de_own rfl c_NoField) da_nil))) da_nil))) (da_cons (de_tup (da_cons de_str (da_cons (de_isF rfl b_isinstance gx_NoDeed kit_NoDeed (da_cons (de_var (pv 2)) (da_cons (de_own rfl c_NoDeed) da_nil))) da_nil))) (da_cons (de_tup (da_cons de_str (da_cons (de_isF rfl b_isinstance gx_TooMany kit_TooMany (da_cons (de_var (pv 2)) (da_cons (de_own rfl c_TooMany) da_nil))) da_nil))) da_nil))))))) (dss_one (ds_ret (de_tup (da_cons (de_join de_str (da_cons (de_lcB C finL_ok (di_seq (de_var (pv 4))) (show BlkOk N_p_law_heard (defScope s_p_law_heard) _ [("_law_word", 5), ("_law_there", 6)] from ⟨rfl, by decide +kernel, by decide +kernel, by decide +kernel, by decide +kernel⟩) (fun _ _ _ _ _ C1 => (dg_tup C1.calm (dgs_cons (dg_name (i := 5) (pg_name C1.nd rfl (by first | exact Or.inl rfl | exact Or.inr rfl))) (dgs_cons (dg_name (i := 6) (pg_name C1.nd rfl (by first | exact Or.inl rfl | exact Or.inr rfl))) dgs_nil)))) (fun _ _ _ _ _ C1 => (dts_one (dt_val (de_var (pv 6))))) (fun _ _ _ _ _ C1 => (de_var (pv 5)))) da_nil)) (da_cons de_non da_nil))))))))))))
theorem ok_is_name {P : Program} {w : World} {K : PySem.W.Frag} {mg : Str → Option Value} {base : Heap} (T : Txt K mg) (TB : ∀ p ∈ tq, LamX.TabB base mg (He.cT K p.1).1 (He.cT K p.1).2) : ∃ fd, FunD K d_is_name.name d_is_name.qual d_is_name.params d_is_name.body d_is_name.scope (d_is_name.dvs K) (d_is_name.kws K) (He.fAd K d_is_name.at_) fd ∧
    FnG P w K mg base 1 (He.fAd K d_is_name.at_) fd ["thing"] (spD K mg 1 S_is_name) := by
  have b_all := free_all T
  have b_isinstance := free_isinstance T
  have b_len := free_len T
  have b_str := free_str T
  obtain ⟨_, i_SMALL⟩ := str_SMALL T
  obtain ⟨fd, F⟩ := fun_is_name T
  refine ⟨fd, F, fnG (N := N_is_name) (ps := ["thing"]) (k := 0) (g := m_is_name) F ⟨rfl, rfl, rfl, by decide +kernel, rfl, by decide +kernel, by decide +kernel⟩ fun cdv A outer s H E C => ?_⟩
  exact (dss_cons (ds_if (DW.dt (dw_or (dt_not (dt_val (de_isi rfl b_isinstance (da_cons (de_var (pv 0)) (da_cons (de_ty rfl b_str (by rfl)) da_nil))))) (dw_or1 (dt_not (dt_chain op_le op_le opd_le opd_le de_int (de_len rfl b_len (da_cons (de_var (pv 0)) da_nil)) de_int))))) (dss_one (ds_ret de_bl)) dss_nil) (dss_one (ds_ret (de_all C rfl b_all (da_cons (de_lcB C finL_ok (di_signs (de_var (pv 0))) (show BlkOk N_is_name (defScope s_is_name) _ [("sign", 1)] from ⟨rfl, by decide +kernel, by decide +kernel, by decide +kernel, by decide +kernel⟩) (fun _ _ _ _ _ C1 => (dg_name (i := 1) (pg_name C1.nd rfl (by first | exact Or.inl rfl | exact Or.inr rfl)))) (fun _ _ _ _ _ C1 => dts_nil) (fun _ _ _ _ _ C1 => (de_cmp op_in_sign opd_inC (de_var (pv 1)) (de_globS rfl i_SMALL) (by with_unfolding_all rfl)))) da_nil)))))
theorem ok_BadName_init {P : Program} {w : World} {K : PySem.W.Frag} {mg : Str → Option Value} {base : Heap} (T : Txt K mg) (TB : ∀ p ∈ tq, LamX.TabB base mg (He.cT K p.1).1 (He.cT K p.1).2) : ∃ fd, FunD K d_BadName_init.name d_BadName_init.qual d_BadName_init.params d_BadName_init.body d_BadName_init.scope (d_BadName_init.dvs K) (d_BadName_init.kws K) (He.fAd K d_BadName_init.at_) fd ∧
    FnG P w K mg base 1 (He.fAd K d_BadName_init.at_) fd ["self", "name"] (spX K ["name"]) := by
  have gx_YardError := gloc_YardError T
  have xi_BadName := xic_BadName T
  obtain ⟨fd, F⟩ := fun_BadName_init T
  exact ⟨fd, F, fnX (N := N_BadName_init) (ps := ["self", "name"]) (k := 0) (m := "no name") F ⟨rfl, rfl, rfl, by decide +kernel, rfl, by decide +kernel, by decide +kernel⟩ rfl (by decide) (by decide) fun cdv A outer s H E C => pss_cons (ps_expr (pe_veinitC rfl gx_YardError xi_BadName.rd xi_BadName.iv (pa_cons (pv 0) (pa_cons pe_str pa_nil)))) (pss_cons (ps_ost (pv 0) (pv 1)) pss_nil)⟩
theorem ok_NoName_init {P : Program} {w : World} {K : PySem.W.Frag} {mg : Str → Option Value} {base : Heap} (T : Txt K mg) (TB : ∀ p ∈ tq, LamX.TabB base mg (He.cT K p.1).1 (He.cT K p.1).2) : ∃ fd, FunD K d_NoName_init.name d_NoName_init.qual d_NoName_init.params d_NoName_init.body d_NoName_init.scope (d_NoName_init.dvs K) (d_NoName_init.kws K) (He.fAd K d_NoName_init.at_) fd ∧
    FnG P w K mg base 1 (He.fAd K d_NoName_init.at_) fd ["self", "name"] (spX K ["name"]) := by
  have gx_YardError := gloc_YardError T
  have xi_NoName := xic_NoName T
  obtain ⟨fd, F⟩ := fun_NoName_init T
  exact ⟨fd, F, fnX (N := N_NoName_init) (ps := ["self", "name"]) (k := 0) (m := "no such name") F ⟨rfl, rfl, rfl, by decide +kernel, rfl, by decide +kernel, by decide +kernel⟩ rfl (by decide) (by decide) fun cdv A outer s H E C => pss_cons (ps_expr (pe_veinitC rfl gx_YardError xi_NoName.rd xi_NoName.iv (pa_cons (pv 0) (pa_cons pe_str pa_nil)))) (pss_cons (ps_ost (pv 0) (pv 1)) pss_nil)⟩
theorem ok_House_need {P : Program} {w : World} {K : PySem.W.Frag} {mg : Str → Option Value} {base : Heap} (T : Txt K mg) (TB : ∀ p ∈ tq, LamX.TabB base mg (He.cT K p.1).1 (He.cT K p.1).2) : ∃ fd, FunD K d_House_need.name d_House_need.qual d_House_need.params d_House_need.body d_House_need.scope (d_House_need.dvs K) (d_House_need.kws K) (He.fAd K d_House_need.at_) fd ∧
    FnG P w K mg base 3 (He.fAd K d_House_need.at_) fd ["self", "names", "there", "new"] (spD K mg 4 S_House_need) := by
  obtain ⟨fd_is_name, D_is_name, G_is_name⟩ := ok_is_name (P := P) (w := w) (base := base) T TB
  have m_is_name := glo_is_name T
  obtain ⟨fd_BadName_init, D_BadName_init, G_BadName_init⟩ := ok_BadName_init (P := P) (w := w) (base := base) T TB
  obtain ⟨fd_NoName_init, D_NoName_init, G_NoName_init⟩ := ok_NoName_init (P := P) (w := w) (base := base) T TB
  have b_len := free_len T
  obtain ⟨_, i_MOST_NAMES⟩ := int_MOST_NAMES T
  obtain ⟨_, i_SMALL⟩ := str_SMALL T
  have gx_BadName := gloc_BadName T
  have gx_NoName := gloc_NoName T
  have gx_TooMany := gloc_TooMany T
  have rai_TooMany := raic_TooMany T
  have xi_BadName := xic_BadName T
  have xi_NoName := xic_NoName T
  have I_House : ∀ {X : Cx}, X.K = K → X.mg = mg → ClsI X "House" (He.ga K "House") := fun h1 h2 => ⟨by rw [h2]; exact gloc_House T, by rw [h1]; exact cls_House T⟩
  have N_House_named := noat_House_named T
  obtain ⟨fd, F⟩ := fun_House_need T
  refine ⟨fd, F, fnG (N := N_House_need) (ps := ["self", "names", "there", "new"]) (k := 2) (g := m_House_need) F ⟨rfl, rfl, rfl, by decide +kernel, rfl, by decide +kernel, by decide +kernel⟩ fun cdv A outer s H E C => ?_⟩
  refine dss_cons (ds_for C (di_seq (de_var (pv 1))) (dg_name (i := 4) (pg_name C.nd rfl (by first | exact Or.inl rfl | exact Or.inr rfl))) (dss_one (ds_if (dt_not (dt_val (de_call (x := "is_name") G_is_name callOk_sub C rfl m_is_name D_is_name.kp (kb_all D_is_name rfl 1 [] [(0, 0)] fun _ _ _ _ _ _ us ws l1 l2 => match us, ws, l1, l2 with | [_], [], _, _ => rfl) (da_cons (de_var (pv 4)) da_nil) dkw_nil))) (dss_one (ds_raiseX xi_BadName G_BadName_init rfl (bindX D_BadName_init rfl fun _ _ _ _ _ _ us hl => match us, hl with | [_, _], _ => rfl) C rfl gx_BadName (da_cons (de_var (pv 4)) da_nil) (by decide))) dss_nil))) ?_
  exact (dss_cons (ds_for C (di_seq (de_var (pv 2))) (dg_name (i := 4) (pg_name C.nd rfl (by first | exact Or.inl rfl | exact Or.inr rfl))) (dss_one (ds_if (dt_cmp (opr_notIn C) opd_notIn (de_var (pv 4)) (de_fld (de_var (pv 0)) (cs := ["House"]) fun c hc => by rw [List.mem_singleton.mp hc]; exact ⟨_, I_House rfl rfl, N_House_named⟩) (by with_unfolding_all rfl)) (dss_one (ds_raiseX xi_NoName G_NoName_init rfl (bindX D_NoName_init rfl fun _ _ _ _ _ _ us hl => match us, hl with | [_, _], _ => rfl) C rfl gx_NoName (da_cons (de_var (pv 4)) da_nil) (by decide))) dss_nil))) (dss_one (ds_if (DW.dt (dw_and (dt_cmp op_notN opd_isnot (de_var (pv 3)) de_non (nomark _)) (dw_and (dt_cmp (opr_notIn C) opd_notIn (de_var (pv 3)) (de_fld (de_var (pv 0)) (cs := ["House"]) fun c hc => by rw [List.mem_singleton.mp hc]; exact ⟨_, I_House rfl rfl, N_House_named⟩) (by with_unfolding_all rfl)) (dw_and1 (dt_cmp (opr_eq C) opd_eq (de_len rfl b_len (da_cons (de_fld (de_var (pv 0)) (cs := ["House"]) fun c hc => by rw [List.mem_singleton.mp hc]; exact ⟨_, I_House rfl rfl, N_House_named⟩) da_nil)) (de_globI rfl i_MOST_NAMES) (nomark _)))))) (dss_one (ds_raiseC C rai_TooMany gx_TooMany rfl)) dss_nil)))
theorem ok_is_whole {P : Program} {w : World} {K : PySem.W.Frag} {mg : Str → Option Value} {base : Heap} (T : Txt K mg) (TB : ∀ p ∈ tq, LamX.TabB base mg (He.cT K p.1).1 (He.cT K p.1).2) : ∃ fd, FunD K d_is_whole.name d_is_whole.qual d_is_whole.params d_is_whole.body d_is_whole.scope (d_is_whole.dvs K) (d_is_whole.kws K) (He.fAd K d_is_whole.at_) fd ∧
    FnG P w K mg base 1 (He.fAd K d_is_whole.at_) fd ["thing", "least", "most"] (spD K mg 3 S_is_whole) := by
  have b_bool := free_bool T
  have b_int := free_int T
  have b_isinstance := free_isinstance T
  obtain ⟨_, i_MOST_NAMES⟩ := int_MOST_NAMES T
  obtain ⟨_, i_SMALL⟩ := str_SMALL T
  obtain ⟨fd, F⟩ := fun_is_whole T
  refine ⟨fd, F, fnG (N := N_is_whole) (ps := ["thing", "least", "most"]) (k := 0) (g := m_is_whole) F ⟨rfl, rfl, rfl, by decide +kernel, rfl, by decide +kernel, by decide +kernel⟩ fun cdv A outer s H E C => ?_⟩
  exact (dss_one (ds_ret (de_and (de_isi rfl b_isinstance (da_cons (de_var (pv 0)) (da_cons (de_ty rfl b_int (by rfl)) da_nil))) (de_and (de_not (de_isi rfl b_isinstance (da_cons (de_var (pv 0)) (da_cons (de_ty rfl b_bool (by rfl)) da_nil)))) (de_one (de_chain op_le op_le opd_le opd_le (de_var (pv 1)) (de_var (pv 0)) (de_var (pv 2))))))))
theorem ok_is_number {P : Program} {w : World} {K : PySem.W.Frag} {mg : Str → Option Value} {base : Heap} (T : Txt K mg) (TB : ∀ p ∈ tq, LamX.TabB base mg (He.cT K p.1).1 (He.cT K p.1).2) : ∃ fd, FunD K d_is_number.name d_is_number.qual d_is_number.params d_is_number.body d_is_number.scope (d_is_number.dvs K) (d_is_number.kws K) (He.fAd K d_is_number.at_) fd ∧
    FnG P w K mg base 2 (He.fAd K d_is_number.at_) fd ["thing"] (spD K mg 1 S_is_number) := by
  obtain ⟨fd_is_whole, D_is_whole, G_is_whole⟩ := ok_is_whole (P := P) (w := w) (base := base) T TB
  have m_is_whole := glo_is_whole T
  obtain ⟨_, i_GREATEST⟩ := int_GREATEST T
  obtain ⟨_, i_MOST_NAMES⟩ := int_MOST_NAMES T
  obtain ⟨_, i_SMALL⟩ := str_SMALL T
  obtain ⟨fd, F⟩ := fun_is_number T
  refine ⟨fd, F, fnG (N := N_is_number) (ps := ["thing"]) (k := 1) (g := m_is_number) F ⟨rfl, rfl, rfl, by decide +kernel, rfl, by decide +kernel, by decide +kernel⟩ fun cdv A outer s H E C => ?_⟩
  exact (dss_one (ds_ret (de_call (x := "is_whole") G_is_whole callOk_sub C rfl m_is_whole D_is_whole.kp (kb_all D_is_whole rfl 3 [] [(0, 0), (0, 1), (0, 2)] fun _ _ _ _ _ _ us ws l1 l2 => match us, ws, l1, l2 with | [_, _, _], [], _, _ => rfl) (da_cons (de_var (pv 0)) (da_cons (de_neg (de_globI rfl i_GREATEST)) (da_cons (de_globI rfl i_GREATEST) da_nil))) dkw_nil)))
theorem ok_House_keep {P : Program} {w : World} {K : PySem.W.Frag} {mg : Str → Option Value} {base : Heap} (T : Txt K mg) (TB : ∀ p ∈ tq, LamX.TabB base mg (He.cT K p.1).1 (He.cT K p.1).2) : ∃ fd, FunD K d_House_keep.name d_House_keep.qual d_House_keep.params d_House_keep.body d_House_keep.scope (d_House_keep.dvs K) (d_House_keep.kws K) (He.fAd K d_House_keep.at_) fd ∧
    FnG P w K mg base 1 (He.fAd K d_House_keep.at_) fd ["self", "deed", "named", "things", "waits"] (spD K mg 5 S_House_keep) := by
  obtain ⟨_, i_GREATEST⟩ := int_GREATEST T
  obtain ⟨_, i_MOST_NAMES⟩ := int_MOST_NAMES T
  obtain ⟨_, i_SMALL⟩ := str_SMALL T
  have I_House : ∀ {X : Cx}, X.K = K → X.mg = mg → ClsI X "House" (He.ga K "House") := fun h1 h2 => ⟨by rw [h2]; exact gloc_House T, by rw [h1]; exact cls_House T⟩
  have N_House_elder := noat_House_elder T
  have N_House_named := noat_House_named T
  have N_House_stands := noat_House_stands T
  have N_House_things := noat_House_things T
  have N_House_waits := noat_House_waits T
  obtain ⟨fd, F⟩ := fun_House_keep T
  refine ⟨fd, F, fnG (N := N_House_keep) (ps := ["self", "deed", "named", "things", "waits"]) (k := 0) (g := m_House_keep) F ⟨rfl, rfl, rfl, by decide +kernel, rfl, by decide +kernel, by decide +kernel⟩ fun cdv A outer s H E C => ?_⟩
  refine dss_cons (ds_expr (de_append (de_fld (de_var (pv 0)) (cs := ["House"]) fun c hc => by rw [List.mem_singleton.mp hc]; exact ⟨_, I_House rfl rfl, N_House_elder⟩) (da_cons (de_tup (da_cons (de_fld (de_var (pv 0)) (cs := ["House"]) fun c hc => by rw [List.mem_singleton.mp hc]; exact ⟨_, I_House rfl rfl, N_House_named⟩) (da_cons (de_fld (de_var (pv 0)) (cs := ["House"]) fun c hc => by rw [List.mem_singleton.mp hc]; exact ⟨_, I_House rfl rfl, N_House_things⟩) (da_cons (de_fld (de_var (pv 0)) (cs := ["House"]) fun c hc => by rw [List.mem_singleton.mp hc]; exact ⟨_, I_House rfl rfl, N_House_waits⟩) da_nil)))) da_nil))) ?_
  exact (dss_cons (ds_expr (de_append (de_fld (de_var (pv 0)) (cs := ["House"]) fun c hc => by rw [List.mem_singleton.mp hc]; exact ⟨_, I_House rfl rfl, N_House_stands⟩) (da_cons (de_var (pv 1)) da_nil))) (dss_cons (ds_if (dt_cmp op_notN opd_isnot (de_var (pv 2)) de_non (nomark _)) (dss_one (ds_fld (de_var (pv 0)) (de_var (pv 2)) (cs := ["House"]) fun c hc => by rw [List.mem_singleton.mp hc]; exact ⟨_, I_House rfl rfl, N_House_named⟩)) dss_nil) (dss_cons (ds_if (dt_cmp op_notN opd_isnot (de_var (pv 3)) de_non (nomark _)) (dss_one (ds_fld (de_var (pv 0)) (de_var (pv 3)) (cs := ["House"]) fun c hc => by rw [List.mem_singleton.mp hc]; exact ⟨_, I_House rfl rfl, N_House_things⟩)) dss_nil) (dss_one (ds_if (dt_cmp op_notN opd_isnot (de_var (pv 4)) de_non (nomark _)) (dss_one (ds_fld (de_var (pv 0)) (de_var (pv 4)) (cs := ["House"]) fun c hc => by rw [List.mem_singleton.mp hc]; exact ⟨_, I_House rfl rfl, N_House_waits⟩)) dss_nil)))))
theorem ok_House_with_name {P : Program} {w : World} {K : PySem.W.Frag} {mg : Str → Option Value} {base : Heap} (T : Txt K mg) (TB : ∀ p ∈ tq, LamX.TabB base mg (He.cT K p.1).1 (He.cT K p.1).2) : ∃ fd, FunD K d_House_with_name.name d_House_with_name.qual d_House_with_name.params d_House_with_name.body d_House_with_name.scope (d_House_with_name.dvs K) (d_House_with_name.kws K) (He.fAd K d_House_with_name.at_) fd ∧
    FnG P w K mg base 1 (He.fAd K d_House_with_name.at_) fd ["self", "name", "value"] (spD K mg 3 S_House_with_name) := by
  have b_dict := free_dict T
  obtain ⟨_, i_GREATEST⟩ := int_GREATEST T
  obtain ⟨_, i_MOST_NAMES⟩ := int_MOST_NAMES T
  obtain ⟨_, i_SMALL⟩ := str_SMALL T
  have I_House : ∀ {X : Cx}, X.K = K → X.mg = mg → ClsI X "House" (He.ga K "House") := fun h1 h2 => ⟨by rw [h2]; exact gloc_House T, by rw [h1]; exact cls_House T⟩
  have N_House_named := noat_House_named T
  obtain ⟨fd, F⟩ := fun_House_with_name T
  refine ⟨fd, F, fnG (N := N_House_with_name) (ps := ["self", "name", "value"]) (k := 0) (g := m_House_with_name) F ⟨rfl, rfl, rfl, by decide +kernel, rfl, by decide +kernel, by decide +kernel⟩ fun cdv A outer s H E C => ?_⟩
  exact (dss_cons (ds_set C (i := 3) rfl (by first | exact Or.inl rfl | exact Or.inr rfl) (de_dictC rfl b_dict (da_cons (de_fld (de_var (pv 0)) (cs := ["House"]) fun c hc => by rw [List.mem_singleton.mp hc]; exact ⟨_, I_House rfl rfl, N_House_named⟩) da_nil))) (dss_cons (ds_put C (de_var (pv 3)) (de_var (pv 1)) (de_var (pv 2))) (dss_one (ds_ret (de_frz (de_var (pv 3)))))))
theorem ok_House_number {P : Program} {w : World} {K : PySem.W.Frag} {mg : Str → Option Value} {base : Heap} (T : Txt K mg) (TB : ∀ p ∈ tq, LamX.TabB base mg (He.cT K p.1).1 (He.cT K p.1).2) : ∃ fd, FunD K d_House_number.name d_House_number.qual d_House_number.params d_House_number.body d_House_number.scope (d_House_number.dvs K) (d_House_number.kws K) (He.fAd K d_House_number.at_) fd ∧
    FnG P w K mg base 4 (He.fAd K d_House_number.at_) fd ["self", "name", "n"] (spD K mg 3 S_House_number) := by
  obtain ⟨fd_House_need, D_House_need, G_House_need⟩ := ok_House_need (P := P) (w := w) (base := base) T TB
  obtain ⟨fd_is_number, D_is_number, G_is_number⟩ := ok_is_number (P := P) (w := w) (base := base) T TB
  have m_is_number := glo_is_number T
  obtain ⟨fd_House_keep, D_House_keep, G_House_keep⟩ := ok_House_keep (P := P) (w := w) (base := base) T TB
  obtain ⟨fd_House_with_name, D_House_with_name, G_House_with_name⟩ := ok_House_with_name (P := P) (w := w) (base := base) T TB
  obtain ⟨_, i_GREATEST⟩ := int_GREATEST T
  obtain ⟨_, i_MOST_NAMES⟩ := int_MOST_NAMES T
  obtain ⟨_, i_SMALL⟩ := str_SMALL T
  have gx_BadNumber := gloc_BadNumber T
  have tupd_House_need_there := tupdc_House_need_there T
  have rai_BadNumber := raic_BadNumber T
  have H_House_keep := meth_House_keep T
  have H_House_need := meth_House_need T
  have H_House_with_name := meth_House_with_name T
  have I_House : ∀ {X : Cx}, X.K = K → X.mg = mg → ClsI X "House" (He.ga K "House") := fun h1 h2 => ⟨by rw [h2]; exact gloc_House T, by rw [h1]; exact cls_House T⟩
  obtain ⟨fd, F⟩ := fun_House_number T
  refine ⟨fd, F, fnG (N := N_House_number) (ps := ["self", "name", "n"]) (k := 3) (g := m_House_number) F ⟨rfl, rfl, rfl, by decide +kernel, rfl, by decide +kernel, by decide +kernel⟩ fun cdv A outer s H E C => ?_⟩
  refine dss_cons (ds_expr (de_meth (de_var (pv 0)) (I_House rfl rfl) H_House_need G_House_need callOk_share C (kb_dfl D_House_need 2 ["new"] [("there", .ref (kwAt ("House", some "need") "there" _))] [.tup (([] : List Str).map D.str)] [(0, 0), (0, 1), (2, 0), (1, 0)] (by simp [He.DefD.kws, d_House_need]) (show ∀ q ∈ ([("there", .ref (kwAt ("House", some "need") "there" _))] : List (Str × V)), q ∈ ([("there", .ref (kwAt ("House", some "need") "there" _)), ("new", .non)] : List (Str × V)) by simp) (fun _ _ _ => (.cons (dat_tupd tupd_House_need_there) DatL.nil)) fun _ _ _ _ _ _ us mv ws l1 l2 l3 => match us, mv, ws, l1, l2, l3 with | [_, _], [_], [_], _, _, _ => ⟨_, _, _, _, _, _, rfl, rfl, (by show _ = pure _; rfl)⟩) (da_cons (de_lst (da_cons (de_var (pv 1)) da_nil)) da_nil) (dkw_cons (de_var (pv 1)) dkw_nil))) ?_
  refine dss_cons (ds_if (dt_not (dt_val (de_call (x := "is_number") G_is_number callOk_sub C rfl m_is_number D_is_number.kp (kb_all D_is_number rfl 1 [] [(0, 0)] fun _ _ _ _ _ _ us ws l1 l2 => match us, ws, l1, l2 with | [_], [], _, _ => rfl) (da_cons (de_var (pv 2)) da_nil) dkw_nil))) (dss_one (ds_raiseC C rai_BadNumber gx_BadNumber rfl)) dss_nil) ?_
  exact (dss_one (ds_expr (de_meth (de_var (pv 0)) (I_House rfl rfl) H_House_keep G_House_keep callOk_share C (kb_dfl D_House_keep 2 ["named"] [("things", .non), ("waits", .non)] [.non, .non] [(0, 0), (0, 1), (1, 0), (2, 0), (2, 1)] (by simp [He.DefD.kws, d_House_keep]) (show ∀ q ∈ ([("things", .non), ("waits", .non)] : List (Str × V)), q ∈ ([("named", .non), ("things", .non), ("waits", .non)] : List (Str × V)) by decide) (fun _ _ _ => (.cons (by unfold Dat; rfl) (.cons (by unfold Dat; rfl) DatL.nil))) fun _ _ _ _ _ _ us mv ws l1 l2 l3 => match us, mv, ws, l1, l2, l3 with | [_, _], [_, _], [_], _, _, _ => ⟨_, _, _, _, _, _, rfl, rfl, ⟨_, _, _, _, _, _, rfl, rfl, (by show _ = pure _; rfl)⟩⟩) (da_cons (de_tup (da_cons de_str (da_cons (de_var (pv 1)) (da_cons (de_var (pv 2)) da_nil)))) da_nil) (dkw_cons (de_meth (de_var (pv 0)) (I_House rfl rfl) H_House_with_name G_House_with_name callOk_share C (kb_all D_House_with_name rfl 3 [] [(0, 0), (0, 1), (0, 2)] fun _ _ _ _ _ _ us ws l1 l2 => match us, ws, l1, l2 with | [_, _, _], [], _, _ => rfl) (da_cons (de_var (pv 1)) (da_cons (de_var (pv 2)) da_nil)) dkw_nil) dkw_nil))))
theorem ok_House_nothing {P : Program} {w : World} {K : PySem.W.Frag} {mg : Str → Option Value} {base : Heap} (T : Txt K mg) (TB : ∀ p ∈ tq, LamX.TabB base mg (He.cT K p.1).1 (He.cT K p.1).2) : ∃ fd, FunD K d_House_nothing.name d_House_nothing.qual d_House_nothing.params d_House_nothing.body d_House_nothing.scope (d_House_nothing.dvs K) (d_House_nothing.kws K) (He.fAd K d_House_nothing.at_) fd ∧
    FnG P w K mg base 4 (He.fAd K d_House_nothing.at_) fd ["self", "name"] (spD K mg 2 S_House_nothing) := by
  obtain ⟨fd_House_need, D_House_need, G_House_need⟩ := ok_House_need (P := P) (w := w) (base := base) T TB
  obtain ⟨fd_House_keep, D_House_keep, G_House_keep⟩ := ok_House_keep (P := P) (w := w) (base := base) T TB
  obtain ⟨fd_House_with_name, D_House_with_name, G_House_with_name⟩ := ok_House_with_name (P := P) (w := w) (base := base) T TB
  obtain ⟨_, i_GREATEST⟩ := int_GREATEST T
  obtain ⟨_, i_MOST_NAMES⟩ := int_MOST_NAMES T
  obtain ⟨_, i_SMALL⟩ := str_SMALL T
  have tupd_House_need_there := tupdc_House_need_there T
  have H_House_keep := meth_House_keep T
  have H_House_need := meth_House_need T
  have H_House_with_name := meth_House_with_name T
  have I_House : ∀ {X : Cx}, X.K = K → X.mg = mg → ClsI X "House" (He.ga K "House") := fun h1 h2 => ⟨by rw [h2]; exact gloc_House T, by rw [h1]; exact cls_House T⟩
  obtain ⟨fd, F⟩ := fun_House_nothing T
  refine ⟨fd, F, fnG (N := N_House_nothing) (ps := ["self", "name"]) (k := 3) (g := m_House_nothing) F ⟨rfl, rfl, rfl, by decide +kernel, rfl, by decide +kernel, by decide +kernel⟩ fun cdv A outer s H E C => ?_⟩
  refine dss_cons (ds_expr (de_meth (de_var (pv 0)) (I_House rfl rfl) H_House_need G_House_need callOk_share C (kb_dfl D_House_need 2 ["new"] [("there", .ref (kwAt ("House", some "need") "there" _))] [.tup (([] : List Str).map D.str)] [(0, 0), (0, 1), (2, 0), (1, 0)] (by simp [He.DefD.kws, d_House_need]) (show ∀ q ∈ ([("there", .ref (kwAt ("House", some "need") "there" _))] : List (Str × V)), q ∈ ([("there", .ref (kwAt ("House", some "need") "there" _)), ("new", .non)] : List (Str × V)) by simp) (fun _ _ _ => (.cons (dat_tupd tupd_House_need_there) DatL.nil)) fun _ _ _ _ _ _ us mv ws l1 l2 l3 => match us, mv, ws, l1, l2, l3 with | [_, _], [_], [_], _, _, _ => ⟨_, _, _, _, _, _, rfl, rfl, (by show _ = pure _; rfl)⟩) (da_cons (de_lst (da_cons (de_var (pv 1)) da_nil)) da_nil) (dkw_cons (de_var (pv 1)) dkw_nil))) ?_
  exact (dss_one (ds_expr (de_meth (de_var (pv 0)) (I_House rfl rfl) H_House_keep G_House_keep callOk_share C (kb_dfl D_House_keep 2 ["named"] [("things", .non), ("waits", .non)] [.non, .non] [(0, 0), (0, 1), (1, 0), (2, 0), (2, 1)] (by simp [He.DefD.kws, d_House_keep]) (show ∀ q ∈ ([("things", .non), ("waits", .non)] : List (Str × V)), q ∈ ([("named", .non), ("things", .non), ("waits", .non)] : List (Str × V)) by decide) (fun _ _ _ => (.cons (by unfold Dat; rfl) (.cons (by unfold Dat; rfl) DatL.nil))) fun _ _ _ _ _ _ us mv ws l1 l2 l3 => match us, mv, ws, l1, l2, l3 with | [_, _], [_, _], [_], _, _, _ => ⟨_, _, _, _, _, _, rfl, rfl, ⟨_, _, _, _, _, _, rfl, rfl, (by show _ = pure _; rfl)⟩⟩) (da_cons (de_tup (da_cons de_str (da_cons (de_var (pv 1)) da_nil))) da_nil) (dkw_cons (de_meth (de_var (pv 0)) (I_House rfl rfl) H_House_with_name G_House_with_name callOk_share C (kb_all D_House_with_name rfl 3 [] [(0, 0), (0, 1), (0, 2)] fun _ _ _ _ _ _ us ws l1 l2 => match us, ws, l1, l2 with | [_, _, _], [], _, _ => rfl) (da_cons (de_var (pv 1)) (da_cons de_non da_nil)) dkw_nil) dkw_nil))))
theorem ok_House_hold {P : Program} {w : World} {K : PySem.W.Frag} {mg : Str → Option Value} {base : Heap} (T : Txt K mg) (TB : ∀ p ∈ tq, LamX.TabB base mg (He.cT K p.1).1 (He.cT K p.1).2) : ∃ fd, FunD K d_House_hold.name d_House_hold.qual d_House_hold.params d_House_hold.body d_House_hold.scope (d_House_hold.dvs K) (d_House_hold.kws K) (He.fAd K d_House_hold.at_) fd ∧
    FnG P w K mg base 4 (He.fAd K d_House_hold.at_) fd ["self", "name", "other"] (spD K mg 3 S_House_hold) := by
  obtain ⟨fd_House_need, D_House_need, G_House_need⟩ := ok_House_need (P := P) (w := w) (base := base) T TB
  obtain ⟨fd_House_keep, D_House_keep, G_House_keep⟩ := ok_House_keep (P := P) (w := w) (base := base) T TB
  obtain ⟨fd_House_with_name, D_House_with_name, G_House_with_name⟩ := ok_House_with_name (P := P) (w := w) (base := base) T TB
  obtain ⟨_, i_GREATEST⟩ := int_GREATEST T
  obtain ⟨_, i_MOST_NAMES⟩ := int_MOST_NAMES T
  obtain ⟨_, i_SMALL⟩ := str_SMALL T
  have H_House_keep := meth_House_keep T
  have H_House_need := meth_House_need T
  have H_House_with_name := meth_House_with_name T
  have I_House : ∀ {X : Cx}, X.K = K → X.mg = mg → ClsI X "House" (He.ga K "House") := fun h1 h2 => ⟨by rw [h2]; exact gloc_House T, by rw [h1]; exact cls_House T⟩
  have N_House_named := noat_House_named T
  obtain ⟨fd, F⟩ := fun_House_hold T
  refine ⟨fd, F, fnG (N := N_House_hold) (ps := ["self", "name", "other"]) (k := 3) (g := m_House_hold) F ⟨rfl, rfl, rfl, by decide +kernel, rfl, by decide +kernel, by decide +kernel⟩ fun cdv A outer s H E C => ?_⟩
  refine dss_cons (ds_expr (de_meth (de_var (pv 0)) (I_House rfl rfl) H_House_need G_House_need callOk_share C (kb_all D_House_need rfl 2 ["there", "new"] [(0, 0), (0, 1), (1, 0), (1, 1)] fun _ _ _ _ _ _ us ws l1 l2 => match us, ws, l1, l2 with | [_, _], [_, _], _, _ => rfl) (da_cons (de_lst (da_cons (de_var (pv 1)) (da_cons (de_var (pv 2)) da_nil))) da_nil) (dkw_cons (de_lst (da_cons (de_var (pv 2)) da_nil)) (dkw_cons (de_var (pv 1)) dkw_nil)))) ?_
  refine dss_one ?_
  exact (ds_expr (de_meth (de_var (pv 0)) (I_House rfl rfl) H_House_keep G_House_keep callOk_share C (kb_dfl D_House_keep 2 ["named"] [("things", .non), ("waits", .non)] [.non, .non] [(0, 0), (0, 1), (1, 0), (2, 0), (2, 1)] (by simp [He.DefD.kws, d_House_keep]) (show ∀ q ∈ ([("things", .non), ("waits", .non)] : List (Str × V)), q ∈ ([("named", .non), ("things", .non), ("waits", .non)] : List (Str × V)) by decide) (fun _ _ _ => (.cons (by unfold Dat; rfl) (.cons (by unfold Dat; rfl) DatL.nil))) fun _ _ _ _ _ _ us mv ws l1 l2 l3 => match us, mv, ws, l1, l2, l3 with | [_, _], [_, _], [_], _, _, _ => ⟨_, _, _, _, _, _, rfl, rfl, ⟨_, _, _, _, _, _, rfl, rfl, (by show _ = pure _; rfl)⟩⟩) (da_cons (de_tup (da_cons de_str (da_cons (de_var (pv 1)) (da_cons (de_var (pv 2)) da_nil)))) da_nil) (dkw_cons (de_meth (de_var (pv 0)) (I_House rfl rfl) H_House_with_name G_House_with_name callOk_share C (kb_all D_House_with_name rfl 3 [] [(0, 0), (0, 1), (0, 2)] fun _ _ _ _ _ _ us ws l1 l2 => match us, ws, l1, l2 with | [_, _, _], [], _, _ => rfl) (da_cons (de_var (pv 1)) (da_cons (de_sub1 C (de_fld (de_var (pv 0)) (cs := ["House"]) fun c hc => by rw [List.mem_singleton.mp hc]; exact ⟨_, I_House rfl rfl, N_House_named⟩) (de_var (pv 2))) da_nil)) dkw_nil) dkw_nil)))
theorem ok_House_cell {P : Program} {w : World} {K : PySem.W.Frag} {mg : Str → Option Value} {base : Heap} (T : Txt K mg) (TB : ∀ p ∈ tq, LamX.TabB base mg (He.cT K p.1).1 (He.cT K p.1).2) : ∃ fd, FunD K d_House_cell.name d_House_cell.qual d_House_cell.params d_House_cell.body d_House_cell.scope (d_House_cell.dvs K) (d_House_cell.kws K) (He.fAd K d_House_cell.at_) fd ∧
    FnG P w K mg base 4 (He.fAd K d_House_cell.at_) fd ["self", "name", "many", "last"] (spD K mg 4 S_House_cell) := by
  obtain ⟨fd_House_need, D_House_need, G_House_need⟩ := ok_House_need (P := P) (w := w) (base := base) T TB
  obtain ⟨fd_is_whole, D_is_whole, G_is_whole⟩ := ok_is_whole (P := P) (w := w) (base := base) T TB
  have m_is_whole := glo_is_whole T
  obtain ⟨fd_House_keep, D_House_keep, G_House_keep⟩ := ok_House_keep (P := P) (w := w) (base := base) T TB
  obtain ⟨fd_House_with_name, D_House_with_name, G_House_with_name⟩ := ok_House_with_name (P := P) (w := w) (base := base) T TB
  have b_bool := free_bool T
  have b_len := free_len T
  obtain ⟨_, i_GREATEST⟩ := int_GREATEST T
  obtain ⟨_, i_MOST_FIELDS⟩ := int_MOST_FIELDS T
  obtain ⟨_, i_MOST_NAMES⟩ := int_MOST_NAMES T
  obtain ⟨_, i_SMALL⟩ := str_SMALL T
  have gx_NoField := gloc_NoField T
  have tupd_House_need_there := tupdc_House_need_there T
  have rai_NoField := raic_NoField T
  have H_House_keep := meth_House_keep T
  have H_House_need := meth_House_need T
  have H_House_with_name := meth_House_with_name T
  have I_House : ∀ {X : Cx}, X.K = K → X.mg = mg → ClsI X "House" (He.ga K "House") := fun h1 h2 => ⟨by rw [h2]; exact gloc_House T, by rw [h1]; exact cls_House T⟩
  have N_House_things := noat_House_things T
  obtain ⟨fd, F⟩ := fun_House_cell T
  refine ⟨fd, F, fnG (N := N_House_cell) (ps := ["self", "name", "many", "last"]) (k := 3) (g := m_House_cell) F ⟨rfl, rfl, rfl, by decide +kernel, rfl, by decide +kernel, by decide +kernel⟩ fun cdv A outer s H E C => ?_⟩
  refine dss_cons (ds_expr (de_meth (de_var (pv 0)) (I_House rfl rfl) H_House_need G_House_need callOk_share C (kb_dfl D_House_need 2 ["new"] [("there", .ref (kwAt ("House", some "need") "there" _))] [.tup (([] : List Str).map D.str)] [(0, 0), (0, 1), (2, 0), (1, 0)] (by simp [He.DefD.kws, d_House_need]) (show ∀ q ∈ ([("there", .ref (kwAt ("House", some "need") "there" _))] : List (Str × V)), q ∈ ([("there", .ref (kwAt ("House", some "need") "there" _)), ("new", .non)] : List (Str × V)) by simp) (fun _ _ _ => (.cons (dat_tupd tupd_House_need_there) DatL.nil)) fun _ _ _ _ _ _ us mv ws l1 l2 l3 => match us, mv, ws, l1, l2, l3 with | [_, _], [_], [_], _, _, _ => ⟨_, _, _, _, _, _, rfl, rfl, (by show _ = pure _; rfl)⟩) (da_cons (de_lst (da_cons (de_var (pv 1)) da_nil)) da_nil) (dkw_cons (de_var (pv 1)) dkw_nil))) ?_
  refine dss_cons (ds_if (dt_not (dt_val (de_call (x := "is_whole") G_is_whole callOk_sub C rfl m_is_whole D_is_whole.kp (kb_all D_is_whole rfl 3 [] [(0, 0), (0, 1), (0, 2)] fun _ _ _ _ _ _ us ws l1 l2 => match us, ws, l1, l2 with | [_, _, _], [], _, _ => rfl) (da_cons (de_var (pv 2)) (da_cons de_int (da_cons (de_globI rfl i_MOST_FIELDS) da_nil))) dkw_nil))) (dss_one (ds_raiseC C rai_NoField gx_NoField rfl)) dss_nil) ?_
  refine dss_cons (ds_set C (i := 4) rfl (by first | exact Or.inl rfl | exact Or.inr rfl) (de_tup (da_cons de_str (da_cons (de_var (pv 1)) (da_cons (de_var (pv 2)) (da_cons (de_boolB rfl b_bool (da_cons (de_var (pv 3)) da_nil)) da_nil)))))) ?_
  refine dss_cons (ds_set C (i := 5) rfl (by first | exact Or.inl rfl | exact Or.inr rfl) (de_add (de_fld (de_var (pv 0)) (cs := ["House"]) fun c hc => by rw [List.mem_singleton.mp hc]; exact ⟨_, I_House rfl rfl, N_House_things⟩) (de_lst (da_cons (de_tup (da_cons (de_ifExp (dt_val (de_var (pv 3))) de_str de_str) (da_cons (de_repT (de_tup (da_cons de_non da_nil)) (de_var (pv 2))) da_nil))) da_nil)))) ?_
  exact (dss_one (ds_expr (de_meth (de_var (pv 0)) (I_House rfl rfl) H_House_keep G_House_keep callOk_share C (kb_dfl D_House_keep 2 ["named", "things"] [("waits", .non)] [.non] [(0, 0), (0, 1), (1, 0), (1, 1), (2, 0)] (by simp [He.DefD.kws, d_House_keep]) (show ∀ q ∈ ([("waits", .non)] : List (Str × V)), q ∈ ([("named", .non), ("things", .non), ("waits", .non)] : List (Str × V)) by decide) (fun _ _ _ => (.cons (by unfold Dat; rfl) DatL.nil)) fun _ _ _ _ _ _ us mv ws l1 l2 l3 => match us, mv, ws, l1, l2, l3 with | [_, _], [_], [_, _], _, _, _ => ⟨_, _, _, _, _, _, rfl, rfl, (by show _ = pure _; rfl)⟩) (da_cons (de_var (pv 4)) da_nil) (dkw_cons (de_meth (de_var (pv 0)) (I_House rfl rfl) H_House_with_name G_House_with_name callOk_share C (kb_all D_House_with_name rfl 3 [] [(0, 0), (0, 1), (0, 2)] fun _ _ _ _ _ _ us ws l1 l2 => match us, ws, l1, l2 with | [_, _, _], [], _, _ => rfl) (da_cons (de_var (pv 1)) (da_cons (de_tup (da_cons de_str (da_cons (de_len rfl b_len (da_cons (de_fld (de_var (pv 0)) (cs := ["House"]) fun c hc => by rw [List.mem_singleton.mp hc]; exact ⟨_, I_House rfl rfl, N_House_things⟩) da_nil)) da_nil))) da_nil)) dkw_nil) (dkw_cons (de_var (pv 5)) dkw_nil)))))
theorem ok_House_thing_in {P : Program} {w : World} {K : PySem.W.Frag} {mg : Str → Option Value} {base : Heap} (T : Txt K mg) (TB : ∀ p ∈ tq, LamX.TabB base mg (He.cT K p.1).1 (He.cT K p.1).2) : ∃ fd, FunD K d_House_thing_in.name d_House_thing_in.qual d_House_thing_in.params d_House_thing_in.body d_House_thing_in.scope (d_House_thing_in.dvs K) (d_House_thing_in.kws K) (He.fAd K d_House_thing_in.at_) fd ∧
    FnG P w K mg base 1 (He.fAd K d_House_thing_in.at_) fd ["self", "name", "sorts"] (spD K mg 3 S_House_thing_in) := by
  have b_isinstance := free_isinstance T
  have b_tuple := free_tuple T
  obtain ⟨_, i_GREATEST⟩ := int_GREATEST T
  obtain ⟨_, i_MOST_FIELDS⟩ := int_MOST_FIELDS T
  obtain ⟨_, i_MOST_NAMES⟩ := int_MOST_NAMES T
  obtain ⟨_, i_SMALL⟩ := str_SMALL T
  have gx_NoCell := gloc_NoCell T
  have rai_NoCell := raic_NoCell T
  have I_House : ∀ {X : Cx}, X.K = K → X.mg = mg → ClsI X "House" (He.ga K "House") := fun h1 h2 => ⟨by rw [h2]; exact gloc_House T, by rw [h1]; exact cls_House T⟩
  have N_House_named := noat_House_named T
  have N_House_things := noat_House_things T
  obtain ⟨fd, F⟩ := fun_House_thing_in T
  refine ⟨fd, F, fnG (N := N_House_thing_in) (ps := ["self", "name", "sorts"]) (k := 0) (g := m_House_thing_in) F ⟨rfl, rfl, rfl, by decide +kernel, rfl, by decide +kernel, by decide +kernel⟩ fun cdv A outer s H E C => ?_⟩
  exact (dss_cons (ds_set C (i := 3) rfl (by first | exact Or.inl rfl | exact Or.inr rfl) (de_sub1 C (de_fld (de_var (pv 0)) (cs := ["House"]) fun c hc => by rw [List.mem_singleton.mp hc]; exact ⟨_, I_House rfl rfl, N_House_named⟩) (de_var (pv 1)))) (dss_cons (ds_if (DW.dt (dw_or (dt_not (dt_val (de_isi rfl b_isinstance (da_cons (de_var (pv 3)) (da_cons (de_ty rfl b_tuple (by rfl)) da_nil))))) (dw_or1 (dt_cmp (opr_notIn C) opd_notIn (de_sub1 C (de_sub1 C (de_fld (de_var (pv 0)) (cs := ["House"]) fun c hc => by rw [List.mem_singleton.mp hc]; exact ⟨_, I_House rfl rfl, N_House_things⟩) (de_sub1 C (de_var (pv 3)) de_int)) de_int) (de_var (pv 2)) (by with_unfolding_all rfl))))) (dss_one (ds_raiseC C rai_NoCell gx_NoCell rfl)) dss_nil) (dss_one (ds_ret (de_sub1 C (de_var (pv 3)) de_int)))))
theorem ok_House_tie {P : Program} {w : World} {K : PySem.W.Frag} {mg : Str → Option Value} {base : Heap} (T : Txt K mg) (TB : ∀ p ∈ tq, LamX.TabB base mg (He.cT K p.1).1 (He.cT K p.1).2) : ∃ fd, FunD K d_House_tie.name d_House_tie.qual d_House_tie.params d_House_tie.body d_House_tie.scope (d_House_tie.dvs K) (d_House_tie.kws K) (He.fAd K d_House_tie.at_) fd ∧
    FnG P w K mg base 4 (He.fAd K d_House_tie.at_) fd ["self", "name", "other"] (spD K mg 3 S_House_tie) := by
  obtain ⟨fd_House_need, D_House_need, G_House_need⟩ := ok_House_need (P := P) (w := w) (base := base) T TB
  obtain ⟨fd_House_thing_in, D_House_thing_in, G_House_thing_in⟩ := ok_House_thing_in (P := P) (w := w) (base := base) T TB
  obtain ⟨fd_House_keep, D_House_keep, G_House_keep⟩ := ok_House_keep (P := P) (w := w) (base := base) T TB
  obtain ⟨fd_House_with_name, D_House_with_name, G_House_with_name⟩ := ok_House_with_name (P := P) (w := w) (base := base) T TB
  have b_len := free_len T
  obtain ⟨_, i_GREATEST⟩ := int_GREATEST T
  obtain ⟨_, i_MOST_FIELDS⟩ := int_MOST_FIELDS T
  obtain ⟨_, i_MOST_NAMES⟩ := int_MOST_NAMES T
  obtain ⟨_, i_SMALL⟩ := str_SMALL T
  have H_House_keep := meth_House_keep T
  have H_House_need := meth_House_need T
  have H_House_thing_in := meth_House_thing_in T
  have H_House_with_name := meth_House_with_name T
  have I_House : ∀ {X : Cx}, X.K = K → X.mg = mg → ClsI X "House" (He.ga K "House") := fun h1 h2 => ⟨by rw [h2]; exact gloc_House T, by rw [h1]; exact cls_House T⟩
  have N_House_things := noat_House_things T
  obtain ⟨fd, F⟩ := fun_House_tie T
  refine ⟨fd, F, fnG (N := N_House_tie) (ps := ["self", "name", "other"]) (k := 3) (g := m_House_tie) F ⟨rfl, rfl, rfl, by decide +kernel, rfl, by decide +kernel, by decide +kernel⟩ fun cdv A outer s H E C => ?_⟩
  refine dss_cons (ds_expr (de_meth (de_var (pv 0)) (I_House rfl rfl) H_House_need G_House_need callOk_share C (kb_all D_House_need rfl 2 ["there", "new"] [(0, 0), (0, 1), (1, 0), (1, 1)] fun _ _ _ _ _ _ us ws l1 l2 => match us, ws, l1, l2 with | [_, _], [_, _], _, _ => rfl) (da_cons (de_lst (da_cons (de_var (pv 1)) (da_cons (de_var (pv 2)) da_nil))) da_nil) (dkw_cons (de_lst (da_cons (de_var (pv 2)) da_nil)) (dkw_cons (de_var (pv 1)) dkw_nil)))) ?_
  refine dss_cons (ds_set C (i := 3) rfl (by first | exact Or.inl rfl | exact Or.inr rfl) (de_add (de_fld (de_var (pv 0)) (cs := ["House"]) fun c hc => by rw [List.mem_singleton.mp hc]; exact ⟨_, I_House rfl rfl, N_House_things⟩) (de_lst (da_cons (de_tup (da_cons de_str (da_cons (de_meth (de_var (pv 0)) (I_House rfl rfl) H_House_thing_in G_House_thing_in callOk_share C (kb_all D_House_thing_in rfl 2 ["sorts"] [(0, 0), (0, 1), (1, 0)] fun _ _ _ _ _ _ us ws l1 l2 => match us, ws, l1, l2 with | [_, _], [_], _, _ => rfl) (da_cons (de_var (pv 2)) da_nil) (dkw_cons (de_tup (da_cons de_str (da_cons de_str (da_cons de_str da_nil)))) dkw_nil)) da_nil))) da_nil)))) ?_
  refine dss_one ?_
  exact (ds_expr (de_meth (de_var (pv 0)) (I_House rfl rfl) H_House_keep G_House_keep callOk_share C (kb_dfl D_House_keep 2 ["named", "things"] [("waits", .non)] [.non] [(0, 0), (0, 1), (1, 0), (1, 1), (2, 0)] (by simp [He.DefD.kws, d_House_keep]) (show ∀ q ∈ ([("waits", .non)] : List (Str × V)), q ∈ ([("named", .non), ("things", .non), ("waits", .non)] : List (Str × V)) by decide) (fun _ _ _ => (.cons (by unfold Dat; rfl) DatL.nil)) fun _ _ _ _ _ _ us mv ws l1 l2 l3 => match us, mv, ws, l1, l2, l3 with | [_, _], [_], [_, _], _, _, _ => ⟨_, _, _, _, _, _, rfl, rfl, (by show _ = pure _; rfl)⟩) (da_cons (de_tup (da_cons de_str (da_cons (de_var (pv 1)) (da_cons (de_var (pv 2)) da_nil)))) da_nil) (dkw_cons (de_meth (de_var (pv 0)) (I_House rfl rfl) H_House_with_name G_House_with_name callOk_share C (kb_all D_House_with_name rfl 3 [] [(0, 0), (0, 1), (0, 2)] fun _ _ _ _ _ _ us ws l1 l2 => match us, ws, l1, l2 with | [_, _, _], [], _, _ => rfl) (da_cons (de_var (pv 1)) (da_cons (de_tup (da_cons de_str (da_cons (de_len rfl b_len (da_cons (de_fld (de_var (pv 0)) (cs := ["House"]) fun c hc => by rw [List.mem_singleton.mp hc]; exact ⟨_, I_House rfl rfl, N_House_things⟩) da_nil)) da_nil))) da_nil)) dkw_nil) (dkw_cons (de_var (pv 3)) dkw_nil))))
theorem ok_House_field_in {P : Program} {w : World} {K : PySem.W.Frag} {mg : Str → Option Value} {base : Heap} (T : Txt K mg) (TB : ∀ p ∈ tq, LamX.TabB base mg (He.cT K p.1).1 (He.cT K p.1).2) : ∃ fd, FunD K d_House_field_in.name d_House_field_in.qual d_House_field_in.params d_House_field_in.body d_House_field_in.scope (d_House_field_in.dvs K) (d_House_field_in.kws K) (He.fAd K d_House_field_in.at_) fd ∧
    FnG P w K mg base 2 (He.fAd K d_House_field_in.at_) fd ["self", "name", "k"] (spD K mg 3 S_House_field_in) := by
  obtain ⟨fd_House_thing_in, D_House_thing_in, G_House_thing_in⟩ := ok_House_thing_in (P := P) (w := w) (base := base) T TB
  obtain ⟨fd_is_whole, D_is_whole, G_is_whole⟩ := ok_is_whole (P := P) (w := w) (base := base) T TB
  have m_is_whole := glo_is_whole T
  have b_len := free_len T
  obtain ⟨_, i_GREATEST⟩ := int_GREATEST T
  obtain ⟨_, i_MOST_FIELDS⟩ := int_MOST_FIELDS T
  obtain ⟨_, i_MOST_NAMES⟩ := int_MOST_NAMES T
  obtain ⟨_, i_SMALL⟩ := str_SMALL T
  have gx_NoField := gloc_NoField T
  have tupd_House_thing_in_sorts := tupdc_House_thing_in_sorts T
  have rai_NoField := raic_NoField T
  have H_House_thing_in := meth_House_thing_in T
  have I_House : ∀ {X : Cx}, X.K = K → X.mg = mg → ClsI X "House" (He.ga K "House") := fun h1 h2 => ⟨by rw [h2]; exact gloc_House T, by rw [h1]; exact cls_House T⟩
  have N_House_things := noat_House_things T
  obtain ⟨fd, F⟩ := fun_House_field_in T
  refine ⟨fd, F, fnG (N := N_House_field_in) (ps := ["self", "name", "k"]) (k := 1) (g := m_House_field_in) F ⟨rfl, rfl, rfl, by decide +kernel, rfl, by decide +kernel, by decide +kernel⟩ fun cdv A outer s H E C => ?_⟩
  refine dss_cons (ds_set C (i := 3) rfl (by first | exact Or.inl rfl | exact Or.inr rfl) (de_meth (de_var (pv 0)) (I_House rfl rfl) H_House_thing_in G_House_thing_in callOk_share C (kb_dfl D_House_thing_in 2 [] [("sorts", .ref (kwAt ("House", some "thing_in") "sorts" _))] [.tup ((["cell", "last"] : List Str).map D.str)] [(0, 0), (0, 1), (2, 0)] (by simp [He.DefD.kws, d_House_thing_in]) (show ∀ q ∈ ([("sorts", .ref (kwAt ("House", some "thing_in") "sorts" _))] : List (Str × V)), q ∈ ([("sorts", .ref (kwAt ("House", some "thing_in") "sorts" _))] : List (Str × V)) by simp) (fun _ _ _ => (.cons (dat_tupd tupd_House_thing_in_sorts) DatL.nil)) fun _ _ _ _ _ _ us mv ws l1 l2 l3 => match us, mv, ws, l1, l2, l3 with | [_, _], [_], [], _, _, _ => ⟨_, _, _, _, _, _, rfl, rfl, (by show _ = pure _; rfl)⟩) (da_cons (de_var (pv 1)) da_nil) dkw_nil)) ?_
  exact (dss_cons (ds_if (dt_not (dt_val (de_call (x := "is_whole") G_is_whole callOk_sub C rfl m_is_whole D_is_whole.kp (kb_all D_is_whole rfl 3 [] [(0, 0), (0, 1), (0, 2)] fun _ _ _ _ _ _ us ws l1 l2 => match us, ws, l1, l2 with | [_, _, _], [], _, _ => rfl) (da_cons (de_var (pv 2)) (da_cons de_int (da_cons (de_sub (de_len rfl b_len (da_cons (de_sub1 C (de_sub1 C (de_fld (de_var (pv 0)) (cs := ["House"]) fun c hc => by rw [List.mem_singleton.mp hc]; exact ⟨_, I_House rfl rfl, N_House_things⟩) (de_var (pv 3))) de_int) da_nil)) de_int) da_nil))) dkw_nil))) (dss_one (ds_raiseC C rai_NoField gx_NoField rfl)) dss_nil) (dss_one (ds_ret (de_var (pv 3)))))
theorem ok_House_get {P : Program} {w : World} {K : PySem.W.Frag} {mg : Str → Option Value} {base : Heap} (T : Txt K mg) (TB : ∀ p ∈ tq, LamX.TabB base mg (He.cT K p.1).1 (He.cT K p.1).2) : ∃ fd, FunD K d_House_get.name d_House_get.qual d_House_get.params d_House_get.body d_House_get.scope (d_House_get.dvs K) (d_House_get.kws K) (He.fAd K d_House_get.at_) fd ∧
    FnG P w K mg base 4 (He.fAd K d_House_get.at_) fd ["self", "name", "other", "k"] (spD K mg 4 S_House_get) := by
  obtain ⟨fd_House_need, D_House_need, G_House_need⟩ := ok_House_need (P := P) (w := w) (base := base) T TB
  obtain ⟨fd_House_field_in, D_House_field_in, G_House_field_in⟩ := ok_House_field_in (P := P) (w := w) (base := base) T TB
  obtain ⟨fd_House_keep, D_House_keep, G_House_keep⟩ := ok_House_keep (P := P) (w := w) (base := base) T TB
  obtain ⟨fd_House_with_name, D_House_with_name, G_House_with_name⟩ := ok_House_with_name (P := P) (w := w) (base := base) T TB
  obtain ⟨_, i_GREATEST⟩ := int_GREATEST T
  obtain ⟨_, i_MOST_FIELDS⟩ := int_MOST_FIELDS T
  obtain ⟨_, i_MOST_NAMES⟩ := int_MOST_NAMES T
  obtain ⟨_, i_SMALL⟩ := str_SMALL T
  have H_House_field_in := meth_House_field_in T
  have H_House_keep := meth_House_keep T
  have H_House_need := meth_House_need T
  have H_House_with_name := meth_House_with_name T
  have I_House : ∀ {X : Cx}, X.K = K → X.mg = mg → ClsI X "House" (He.ga K "House") := fun h1 h2 => ⟨by rw [h2]; exact gloc_House T, by rw [h1]; exact cls_House T⟩
  have N_House_things := noat_House_things T
  obtain ⟨fd, F⟩ := fun_House_get T
  refine ⟨fd, F, fnG (N := N_House_get) (ps := ["self", "name", "other", "k"]) (k := 3) (g := m_House_get) F ⟨rfl, rfl, rfl, by decide +kernel, rfl, by decide +kernel, by decide +kernel⟩ fun cdv A outer s H E C => ?_⟩
  refine dss_cons (ds_expr (de_meth (de_var (pv 0)) (I_House rfl rfl) H_House_need G_House_need callOk_share C (kb_all D_House_need rfl 2 ["there", "new"] [(0, 0), (0, 1), (1, 0), (1, 1)] fun _ _ _ _ _ _ us ws l1 l2 => match us, ws, l1, l2 with | [_, _], [_, _], _, _ => rfl) (da_cons (de_lst (da_cons (de_var (pv 1)) (da_cons (de_var (pv 2)) da_nil))) da_nil) (dkw_cons (de_lst (da_cons (de_var (pv 2)) da_nil)) (dkw_cons (de_var (pv 1)) dkw_nil)))) ?_
  refine dss_cons (ds_set C (i := 4) rfl (by first | exact Or.inl rfl | exact Or.inr rfl) (de_sub1 C (de_sub1 C (de_sub1 C (de_fld (de_var (pv 0)) (cs := ["House"]) fun c hc => by rw [List.mem_singleton.mp hc]; exact ⟨_, I_House rfl rfl, N_House_things⟩) (de_meth (de_var (pv 0)) (I_House rfl rfl) H_House_field_in G_House_field_in callOk_share C (kb_all D_House_field_in rfl 3 [] [(0, 0), (0, 1), (0, 2)] fun _ _ _ _ _ _ us ws l1 l2 => match us, ws, l1, l2 with | [_, _, _], [], _, _ => rfl) (da_cons (de_var (pv 2)) (da_cons (de_var (pv 3)) da_nil)) dkw_nil)) de_int) (de_var (pv 3)))) ?_
  exact (dss_one (ds_expr (de_meth (de_var (pv 0)) (I_House rfl rfl) H_House_keep G_House_keep callOk_share C (kb_dfl D_House_keep 2 ["named"] [("things", .non), ("waits", .non)] [.non, .non] [(0, 0), (0, 1), (1, 0), (2, 0), (2, 1)] (by simp [He.DefD.kws, d_House_keep]) (show ∀ q ∈ ([("things", .non), ("waits", .non)] : List (Str × V)), q ∈ ([("named", .non), ("things", .non), ("waits", .non)] : List (Str × V)) by decide) (fun _ _ _ => (.cons (by unfold Dat; rfl) (.cons (by unfold Dat; rfl) DatL.nil))) fun _ _ _ _ _ _ us mv ws l1 l2 l3 => match us, mv, ws, l1, l2, l3 with | [_, _], [_, _], [_], _, _, _ => ⟨_, _, _, _, _, _, rfl, rfl, ⟨_, _, _, _, _, _, rfl, rfl, (by show _ = pure _; rfl)⟩⟩) (da_cons (de_tup (da_cons de_str (da_cons (de_var (pv 1)) (da_cons (de_var (pv 2)) (da_cons (de_var (pv 3)) da_nil))))) da_nil) (dkw_cons (de_meth (de_var (pv 0)) (I_House rfl rfl) H_House_with_name G_House_with_name callOk_share C (kb_all D_House_with_name rfl 3 [] [(0, 0), (0, 1), (0, 2)] fun _ _ _ _ _ _ us ws l1 l2 => match us, ws, l1, l2 with | [_, _, _], [], _, _ => rfl) (da_cons (de_var (pv 1)) (da_cons (de_var (pv 4)) da_nil)) dkw_nil) dkw_nil))))
theorem ok_House_put {P : Program} {w : World} {K : PySem.W.Frag} {mg : Str → Option Value} {base : Heap} (T : Txt K mg) (TB : ∀ p ∈ tq, LamX.TabB base mg (He.cT K p.1).1 (He.cT K p.1).2) : ∃ fd, FunD K d_House_put.name d_House_put.qual d_House_put.params d_House_put.body d_House_put.scope (d_House_put.dvs K) (d_House_put.kws K) (He.fAd K d_House_put.at_) fd ∧
    FnG P w K mg base 4 (He.fAd K d_House_put.at_) fd ["self", "other", "k", "name"] (spD K mg 4 S_House_put) := by
  obtain ⟨fd_House_need, D_House_need, G_House_need⟩ := ok_House_need (P := P) (w := w) (base := base) T TB
  obtain ⟨fd_House_field_in, D_House_field_in, G_House_field_in⟩ := ok_House_field_in (P := P) (w := w) (base := base) T TB
  obtain ⟨fd_House_keep, D_House_keep, G_House_keep⟩ := ok_House_keep (P := P) (w := w) (base := base) T TB
  have b_list := free_list T
  obtain ⟨_, i_GREATEST⟩ := int_GREATEST T
  obtain ⟨_, i_MOST_FIELDS⟩ := int_MOST_FIELDS T
  obtain ⟨_, i_MOST_NAMES⟩ := int_MOST_NAMES T
  obtain ⟨_, i_SMALL⟩ := str_SMALL T
  have H_House_field_in := meth_House_field_in T
  have H_House_keep := meth_House_keep T
  have H_House_need := meth_House_need T
  have I_House : ∀ {X : Cx}, X.K = K → X.mg = mg → ClsI X "House" (He.ga K "House") := fun h1 h2 => ⟨by rw [h2]; exact gloc_House T, by rw [h1]; exact cls_House T⟩
  have N_House_named := noat_House_named T
  have N_House_things := noat_House_things T
  obtain ⟨fd, F⟩ := fun_House_put T
  refine ⟨fd, F, fnG (N := N_House_put) (ps := ["self", "other", "k", "name"]) (k := 3) (g := m_House_put) F ⟨rfl, rfl, rfl, by decide +kernel, rfl, by decide +kernel, by decide +kernel⟩ fun cdv A outer s H E C => ?_⟩
  refine dss_cons (ds_expr (de_meth (de_var (pv 0)) (I_House rfl rfl) H_House_need G_House_need callOk_share C (kb_dfl D_House_need 2 ["there"] [("new", .non)] [.non] [(0, 0), (0, 1), (1, 0), (2, 0)] (by simp [He.DefD.kws, d_House_need]) (show ∀ q ∈ ([("new", .non)] : List (Str × V)), q ∈ ([("there", .ref (kwAt ("House", some "need") "there" _)), ("new", .non)] : List (Str × V)) by simp) (fun _ _ _ => (.cons (by unfold Dat; rfl) DatL.nil)) fun _ _ _ _ _ _ us mv ws l1 l2 l3 => match us, mv, ws, l1, l2, l3 with | [_, _], [_], [_], _, _, _ => ⟨_, _, _, _, _, _, rfl, rfl, (by show _ = pure _; rfl)⟩) (da_cons (de_lst (da_cons (de_var (pv 1)) (da_cons (de_var (pv 3)) da_nil))) da_nil) (dkw_cons (de_lst (da_cons (de_var (pv 1)) (da_cons (de_var (pv 3)) da_nil))) dkw_nil))) ?_
  refine dss_cons (ds_set C (i := 4) rfl (by first | exact Or.inl rfl | exact Or.inr rfl) (de_meth (de_var (pv 0)) (I_House rfl rfl) H_House_field_in G_House_field_in callOk_share C (kb_all D_House_field_in rfl 3 [] [(0, 0), (0, 1), (0, 2)] fun _ _ _ _ _ _ us ws l1 l2 => match us, ws, l1, l2 with | [_, _, _], [], _, _ => rfl) (da_cons (de_var (pv 1)) (da_cons (de_var (pv 2)) da_nil)) dkw_nil)) ?_
  refine dss_cons (ds_asg (de_sub1 C (de_fld (de_var (pv 0)) (cs := ["House"]) fun c hc => by rw [List.mem_singleton.mp hc]; exact ⟨_, I_House rfl rfl, N_House_things⟩) (de_var (pv 4))) (dg_tup C.calm (dgs_cons (dg_name (i := 5) (pg_name C.nd rfl (by first | exact Or.inl rfl | exact Or.inr rfl))) (dgs_cons (dg_name (i := 6) (pg_name C.nd rfl (by first | exact Or.inl rfl | exact Or.inr rfl))) dgs_nil)))) ?_
  refine dss_cons (ds_set C (i := 7) rfl (by first | exact Or.inl rfl | exact Or.inr rfl) (de_listO C rfl b_list (da_cons (de_fld (de_var (pv 0)) (cs := ["House"]) fun c hc => by rw [List.mem_singleton.mp hc]; exact ⟨_, I_House rfl rfl, N_House_things⟩) da_nil))) ?_
  refine dss_cons (ds_put C (de_var (pv 7)) (de_var (pv 4)) (de_tup (da_cons (de_var (pv 5)) (da_cons (de_add0 (de_add0 (de_slice (de_var (pv 6)) do_none (do_some (de_var (pv 2)))) (de_tup (da_cons (de_sub1 C (de_fld (de_var (pv 0)) (cs := ["House"]) fun c hc => by rw [List.mem_singleton.mp hc]; exact ⟨_, I_House rfl rfl, N_House_named⟩) (de_var (pv 3))) da_nil))) (de_slice (de_var (pv 6)) (do_some (de_add0 (de_var (pv 2)) de_int)) do_none)) da_nil)))) ?_
  exact (dss_one (ds_expr (de_meth (de_var (pv 0)) (I_House rfl rfl) H_House_keep G_House_keep callOk_share C (kb_dfl D_House_keep 2 ["things"] [("named", .non), ("waits", .non)] [.non, .non] [(0, 0), (0, 1), (2, 0), (1, 0), (2, 1)] (by simp [He.DefD.kws, d_House_keep]) (show ∀ q ∈ ([("named", .non), ("waits", .non)] : List (Str × V)), q ∈ ([("named", .non), ("things", .non), ("waits", .non)] : List (Str × V)) by decide) (fun _ _ _ => (.cons (by unfold Dat; rfl) (.cons (by unfold Dat; rfl) DatL.nil))) fun _ _ _ _ _ _ us mv ws l1 l2 l3 => match us, mv, ws, l1, l2, l3 with | [_, _], [_, _], [_], _, _, _ => ⟨_, _, _, _, _, _, rfl, rfl, ⟨_, _, _, _, _, _, rfl, rfl, (by show _ = pure _; rfl)⟩⟩) (da_cons (de_tup (da_cons de_str (da_cons (de_var (pv 1)) (da_cons (de_var (pv 2)) (da_cons (de_var (pv 3)) da_nil))))) da_nil) (dkw_cons (de_frz (de_var (pv 7))) dkw_nil))))
theorem ok_House_follow {P : Program} {w : World} {K : PySem.W.Frag} {mg : Str → Option Value} {base : Heap} (T : Txt K mg) (TB : ∀ p ∈ tq, LamX.TabB base mg (He.cT K p.1).1 (He.cT K p.1).2) : ∃ fd, FunD K d_House_follow.name d_House_follow.qual d_House_follow.params d_House_follow.body d_House_follow.scope (d_House_follow.dvs K) (d_House_follow.kws K) (He.fAd K d_House_follow.at_) fd ∧
    FnG P w K mg base 4 (He.fAd K d_House_follow.at_) fd ["self", "name", "other"] (spD K mg 3 S_House_follow) := by
  obtain ⟨fd_House_need, D_House_need, G_House_need⟩ := ok_House_need (P := P) (w := w) (base := base) T TB
  obtain ⟨fd_House_thing_in, D_House_thing_in, G_House_thing_in⟩ := ok_House_thing_in (P := P) (w := w) (base := base) T TB
  obtain ⟨fd_House_keep, D_House_keep, G_House_keep⟩ := ok_House_keep (P := P) (w := w) (base := base) T TB
  obtain ⟨fd_House_with_name, D_House_with_name, G_House_with_name⟩ := ok_House_with_name (P := P) (w := w) (base := base) T TB
  obtain ⟨_, i_GREATEST⟩ := int_GREATEST T
  obtain ⟨_, i_MOST_FIELDS⟩ := int_MOST_FIELDS T
  obtain ⟨_, i_MOST_NAMES⟩ := int_MOST_NAMES T
  obtain ⟨_, i_SMALL⟩ := str_SMALL T
  have H_House_keep := meth_House_keep T
  have H_House_need := meth_House_need T
  have H_House_thing_in := meth_House_thing_in T
  have H_House_with_name := meth_House_with_name T
  have I_House : ∀ {X : Cx}, X.K = K → X.mg = mg → ClsI X "House" (He.ga K "House") := fun h1 h2 => ⟨by rw [h2]; exact gloc_House T, by rw [h1]; exact cls_House T⟩
  have N_House_things := noat_House_things T
  obtain ⟨fd, F⟩ := fun_House_follow T
  refine ⟨fd, F, fnG (N := N_House_follow) (ps := ["self", "name", "other"]) (k := 3) (g := m_House_follow) F ⟨rfl, rfl, rfl, by decide +kernel, rfl, by decide +kernel, by decide +kernel⟩ fun cdv A outer s H E C => ?_⟩
  refine dss_cons (ds_expr (de_meth (de_var (pv 0)) (I_House rfl rfl) H_House_need G_House_need callOk_share C (kb_all D_House_need rfl 2 ["there", "new"] [(0, 0), (0, 1), (1, 0), (1, 1)] fun _ _ _ _ _ _ us ws l1 l2 => match us, ws, l1, l2 with | [_, _], [_, _], _, _ => rfl) (da_cons (de_lst (da_cons (de_var (pv 1)) (da_cons (de_var (pv 2)) da_nil))) da_nil) (dkw_cons (de_lst (da_cons (de_var (pv 2)) da_nil)) (dkw_cons (de_var (pv 1)) dkw_nil)))) ?_
  refine dss_cons (ds_set C (i := 3) rfl (by first | exact Or.inl rfl | exact Or.inr rfl) (de_sub1 C (de_sub1 C (de_fld (de_var (pv 0)) (cs := ["House"]) fun c hc => by rw [List.mem_singleton.mp hc]; exact ⟨_, I_House rfl rfl, N_House_things⟩) (de_meth (de_var (pv 0)) (I_House rfl rfl) H_House_thing_in G_House_thing_in callOk_share C (kb_all D_House_thing_in rfl 2 ["sorts"] [(0, 0), (0, 1), (1, 0)] fun _ _ _ _ _ _ us ws l1 l2 => match us, ws, l1, l2 with | [_, _], [_], _, _ => rfl) (da_cons (de_var (pv 2)) da_nil) (dkw_cons (de_tup (da_cons de_str da_nil)) dkw_nil))) de_int)) ?_
  refine dss_cons (ds_set C (i := 4) rfl (by first | exact Or.inl rfl | exact Or.inr rfl) (de_ifExp (dt_cmp op_isN opd_is (de_var (pv 3)) de_non (nomark _)) de_non (de_tup (da_cons de_str (da_cons (de_var (pv 3)) da_nil))))) ?_
  exact (dss_one (ds_expr (de_meth (de_var (pv 0)) (I_House rfl rfl) H_House_keep G_House_keep callOk_share C (kb_dfl D_House_keep 2 ["named"] [("things", .non), ("waits", .non)] [.non, .non] [(0, 0), (0, 1), (1, 0), (2, 0), (2, 1)] (by simp [He.DefD.kws, d_House_keep]) (show ∀ q ∈ ([("things", .non), ("waits", .non)] : List (Str × V)), q ∈ ([("named", .non), ("things", .non), ("waits", .non)] : List (Str × V)) by decide) (fun _ _ _ => (.cons (by unfold Dat; rfl) (.cons (by unfold Dat; rfl) DatL.nil))) fun _ _ _ _ _ _ us mv ws l1 l2 l3 => match us, mv, ws, l1, l2, l3 with | [_, _], [_, _], [_], _, _, _ => ⟨_, _, _, _, _, _, rfl, rfl, ⟨_, _, _, _, _, _, rfl, rfl, (by show _ = pure _; rfl)⟩⟩) (da_cons (de_tup (da_cons de_str (da_cons (de_var (pv 1)) (da_cons (de_var (pv 2)) da_nil)))) da_nil) (dkw_cons (de_meth (de_var (pv 0)) (I_House rfl rfl) H_House_with_name G_House_with_name callOk_share C (kb_all D_House_with_name rfl 3 [] [(0, 0), (0, 1), (0, 2)] fun _ _ _ _ _ _ us ws l1 l2 => match us, ws, l1, l2 with | [_, _, _], [], _, _ => rfl) (da_cons (de_var (pv 1)) (da_cons (de_var (pv 4)) da_nil)) dkw_nil) dkw_nil))))
theorem ok_House_drop {P : Program} {w : World} {K : PySem.W.Frag} {mg : Str → Option Value} {base : Heap} (T : Txt K mg) (TB : ∀ p ∈ tq, LamX.TabB base mg (He.cT K p.1).1 (He.cT K p.1).2) : ∃ fd, FunD K d_House_drop.name d_House_drop.qual d_House_drop.params d_House_drop.body d_House_drop.scope (d_House_drop.dvs K) (d_House_drop.kws K) (He.fAd K d_House_drop.at_) fd ∧
    FnG P w K mg base 4 (He.fAd K d_House_drop.at_) fd ["self", "name"] (spD K mg 2 S_House_drop) := by
  obtain ⟨fd_House_need, D_House_need, G_House_need⟩ := ok_House_need (P := P) (w := w) (base := base) T TB
  obtain ⟨fd_House_keep, D_House_keep, G_House_keep⟩ := ok_House_keep (P := P) (w := w) (base := base) T TB
  obtain ⟨_, i_GREATEST⟩ := int_GREATEST T
  obtain ⟨_, i_MOST_FIELDS⟩ := int_MOST_FIELDS T
  obtain ⟨_, i_MOST_NAMES⟩ := int_MOST_NAMES T
  obtain ⟨_, i_SMALL⟩ := str_SMALL T
  have H_House_keep := meth_House_keep T
  have H_House_need := meth_House_need T
  have I_House : ∀ {X : Cx}, X.K = K → X.mg = mg → ClsI X "House" (He.ga K "House") := fun h1 h2 => ⟨by rw [h2]; exact gloc_House T, by rw [h1]; exact cls_House T⟩
  have N_House_named := noat_House_named T
  obtain ⟨fd, F⟩ := fun_House_drop T
  refine ⟨fd, F, fnG (N := N_House_drop) (ps := ["self", "name"]) (k := 3) (g := m_House_drop) F ⟨rfl, rfl, rfl, by decide +kernel, rfl, by decide +kernel, by decide +kernel⟩ fun cdv A outer s H E C => ?_⟩
  refine dss_cons (ds_expr (de_meth (de_var (pv 0)) (I_House rfl rfl) H_House_need G_House_need callOk_share C (kb_dfl D_House_need 2 ["there"] [("new", .non)] [.non] [(0, 0), (0, 1), (1, 0), (2, 0)] (by simp [He.DefD.kws, d_House_need]) (show ∀ q ∈ ([("new", .non)] : List (Str × V)), q ∈ ([("there", .ref (kwAt ("House", some "need") "there" _)), ("new", .non)] : List (Str × V)) by simp) (fun _ _ _ => (.cons (by unfold Dat; rfl) DatL.nil)) fun _ _ _ _ _ _ us mv ws l1 l2 l3 => match us, mv, ws, l1, l2, l3 with | [_, _], [_], [_], _, _, _ => ⟨_, _, _, _, _, _, rfl, rfl, (by show _ = pure _; rfl)⟩) (da_cons (de_lst (da_cons (de_var (pv 1)) da_nil)) da_nil) (dkw_cons (de_lst (da_cons (de_var (pv 1)) da_nil)) dkw_nil))) ?_
  refine dss_one ?_
  exact (ds_expr (de_meth (de_var (pv 0)) (I_House rfl rfl) H_House_keep G_House_keep callOk_share C (kb_dfl D_House_keep 2 ["named"] [("things", .non), ("waits", .non)] [.non, .non] [(0, 0), (0, 1), (1, 0), (2, 0), (2, 1)] (by simp [He.DefD.kws, d_House_keep]) (show ∀ q ∈ ([("things", .non), ("waits", .non)] : List (Str × V)), q ∈ ([("named", .non), ("things", .non), ("waits", .non)] : List (Str × V)) by decide) (fun _ _ _ => (.cons (by unfold Dat; rfl) (.cons (by unfold Dat; rfl) DatL.nil))) fun _ _ _ _ _ _ us mv ws l1 l2 l3 => match us, mv, ws, l1, l2, l3 with | [_, _], [_, _], [_], _, _, _ => ⟨_, _, _, _, _, _, rfl, rfl, ⟨_, _, _, _, _, _, rfl, rfl, (by show _ = pure _; rfl)⟩⟩) (da_cons (de_tup (da_cons de_str (da_cons (de_var (pv 1)) da_nil))) da_nil) (dkw_cons (de_dropC C (de_fld (de_var (pv 0)) (cs := ["House"]) fun c hc => by rw [List.mem_singleton.mp hc]; exact ⟨_, I_House rfl rfl, N_House_named⟩) rfl rfl (show BlkOk N_House_drop (defScope s_House_drop) _ [("one", 2), ("value", 3)] from ⟨rfl, by decide +kernel, by decide +kernel, by decide +kernel, by decide +kernel⟩) (fun _ _ _ _ _ C1 => pg_tup C1.calm (pgs_cons (pg_name C1.nd rfl (by first | exact Or.inl rfl | exact Or.inr rfl)) (pgs_cons (pg_name C1.nd rfl (by first | exact Or.inl rfl | exact Or.inr rfl)) pgs_nil))) (fun _ _ _ _ _ _ => pv 2) (fun _ _ _ _ _ _ => pv 3) (fun _ _ _ _ _ _ => pv 2) (fun _ _ _ _ _ _ => pv 1)) dkw_nil)))
theorem ok_p_law_call {P : Program} {w : World} {K : PySem.W.Frag} {mg : Str → Option Value} {base : Heap} (T : Txt K mg) (TB : ∀ p ∈ tq, LamX.TabB base mg (He.cT K p.1).1 (He.cT K p.1).2) : ∃ fd, FunD K d_p_law_call.name d_p_law_call.qual d_p_law_call.params d_p_law_call.body d_p_law_call.scope (d_p_law_call.dvs K) (d_p_law_call.kws K) (He.fAd K d_p_law_call.at_) fd ∧
    FnG P w K mg base 5 (He.fAd K d_p_law_call.at_) fd ["_law_house", "_law_deed_here"] (spD K mg 2 S_p_law_call) := by
  obtain ⟨fd_House_number, D_House_number, G_House_number⟩ := ok_House_number (P := P) (w := w) (base := base) T TB
  obtain ⟨fd_House_nothing, D_House_nothing, G_House_nothing⟩ := ok_House_nothing (P := P) (w := w) (base := base) T TB
  obtain ⟨fd_House_hold, D_House_hold, G_House_hold⟩ := ok_House_hold (P := P) (w := w) (base := base) T TB
  obtain ⟨fd_House_cell, D_House_cell, G_House_cell⟩ := ok_House_cell (P := P) (w := w) (base := base) T TB
  obtain ⟨fd_House_tie, D_House_tie, G_House_tie⟩ := ok_House_tie (P := P) (w := w) (base := base) T TB
  obtain ⟨fd_House_get, D_House_get, G_House_get⟩ := ok_House_get (P := P) (w := w) (base := base) T TB
  obtain ⟨fd_House_put, D_House_put, G_House_put⟩ := ok_House_put (P := P) (w := w) (base := base) T TB
  obtain ⟨fd_House_follow, D_House_follow, G_House_follow⟩ := ok_House_follow (P := P) (w := w) (base := base) T TB
  obtain ⟨fd_House_drop, D_House_drop, G_House_drop⟩ := ok_House_drop (P := P) (w := w) (base := base) T TB
  obtain ⟨_, i_GREATEST⟩ := int_GREATEST T
  obtain ⟨_, i_MOST_FIELDS⟩ := int_MOST_FIELDS T
  obtain ⟨_, i_MOST_NAMES⟩ := int_MOST_NAMES T
  obtain ⟨_, i_SMALL⟩ := str_SMALL T
  have H_House_cell := meth_House_cell T
  have H_House_drop := meth_House_drop T
  have H_House_follow := meth_House_follow T
  have H_House_get := meth_House_get T
  have H_House_hold := meth_House_hold T
  have H_House_nothing := meth_House_nothing T
  have H_House_number := meth_House_number T
  have H_House_put := meth_House_put T
  have H_House_tie := meth_House_tie T
  have I_House : ∀ {X : Cx}, X.K = K → X.mg = mg → ClsI X "House" (He.ga K "House") := fun h1 h2 => ⟨by rw [h2]; exact gloc_House T, by rw [h1]; exact cls_House T⟩
  obtain ⟨fd, F⟩ := fun_p_law_call T
  refine ⟨fd, F, fnG (N := N_p_law_call) (ps := ["_law_house", "_law_deed_here"]) (k := 4) (g := m_p_law_call) F ⟨rfl, rfl, rfl, by decide +kernel, rfl, by decide +kernel, by decide +kernel⟩ fun cdv A outer s H E C => ?_⟩
  refine dss_cons (ds_set C (i := 2) rfl (by first | exact Or.inl rfl | exact Or.inr rfl) (de_sub1 C (de_var (pv 1)) de_int)) ?_
  refine dss_cons (ds_if (dt_cmp (opr_eq C) opd_eq (de_var (pv 2)) de_str (nomark _)) (dss_one (ds_ret (de_meth (de_var (pv 0)) (I_House rfl rfl) H_House_number G_House_number callOk_share C (kb_all D_House_number rfl 3 [] [(0, 0), (0, 1), (0, 2)] fun _ _ _ _ _ _ us ws l1 l2 => match us, ws, l1, l2 with | [_, _, _], [], _, _ => rfl) (da_cons (de_sub1 C (de_var (pv 1)) de_int) (da_cons (de_sub1 C (de_var (pv 1)) de_int) da_nil)) dkw_nil))) dss_nil) ?_
  refine dss_cons (ds_if (dt_cmp (opr_eq C) opd_eq (de_var (pv 2)) de_str (nomark _)) (dss_one (ds_ret (de_meth (de_var (pv 0)) (I_House rfl rfl) H_House_nothing G_House_nothing callOk_share C (kb_all D_House_nothing rfl 2 [] [(0, 0), (0, 1)] fun _ _ _ _ _ _ us ws l1 l2 => match us, ws, l1, l2 with | [_, _], [], _, _ => rfl) (da_cons (de_sub1 C (de_var (pv 1)) de_int) da_nil) dkw_nil))) dss_nil) ?_
  refine dss_cons (ds_if (dt_cmp (opr_eq C) opd_eq (de_var (pv 2)) de_str (nomark _)) (dss_one (ds_ret (de_meth (de_var (pv 0)) (I_House rfl rfl) H_House_hold G_House_hold callOk_share C (kb_all D_House_hold rfl 3 [] [(0, 0), (0, 1), (0, 2)] fun _ _ _ _ _ _ us ws l1 l2 => match us, ws, l1, l2 with | [_, _, _], [], _, _ => rfl) (da_cons (de_sub1 C (de_var (pv 1)) de_int) (da_cons (de_sub1 C (de_var (pv 1)) de_int) da_nil)) dkw_nil))) dss_nil) ?_
  refine dss_cons (ds_if (dt_cmp (opr_eq C) opd_eq (de_var (pv 2)) de_str (nomark _)) (dss_one (ds_ret (de_meth (de_var (pv 0)) (I_House rfl rfl) H_House_cell G_House_cell callOk_share C (kb_all D_House_cell rfl 3 ["last"] [(0, 0), (0, 1), (0, 2), (1, 0)] fun _ _ _ _ _ _ us ws l1 l2 => match us, ws, l1, l2 with | [_, _, _], [_], _, _ => rfl) (da_cons (de_sub1 C (de_var (pv 1)) de_int) (da_cons (de_sub1 C (de_var (pv 1)) de_int) da_nil)) (dkw_cons (de_sub1 C (de_var (pv 1)) de_int) dkw_nil)))) dss_nil) ?_
  refine dss_cons (ds_if (dt_cmp (opr_eq C) opd_eq (de_var (pv 2)) de_str (nomark _)) (dss_one (ds_ret (de_meth (de_var (pv 0)) (I_House rfl rfl) H_House_tie G_House_tie callOk_share C (kb_all D_House_tie rfl 3 [] [(0, 0), (0, 1), (0, 2)] fun _ _ _ _ _ _ us ws l1 l2 => match us, ws, l1, l2 with | [_, _, _], [], _, _ => rfl) (da_cons (de_sub1 C (de_var (pv 1)) de_int) (da_cons (de_sub1 C (de_var (pv 1)) de_int) da_nil)) dkw_nil))) dss_nil) ?_
  refine dss_cons (ds_if (dt_cmp (opr_eq C) opd_eq (de_var (pv 2)) de_str (nomark _)) (dss_one (ds_ret (de_meth (de_var (pv 0)) (I_House rfl rfl) H_House_get G_House_get callOk_share C (kb_all D_House_get rfl 4 [] [(0, 0), (0, 1), (0, 2), (0, 3)] fun _ _ _ _ _ _ us ws l1 l2 => match us, ws, l1, l2 with | [_, _, _, _], [], _, _ => rfl) (da_cons (de_sub1 C (de_var (pv 1)) de_int) (da_cons (de_sub1 C (de_var (pv 1)) de_int) (da_cons (de_sub1 C (de_var (pv 1)) de_int) da_nil))) dkw_nil))) dss_nil) ?_
  refine dss_cons (ds_if (dt_cmp (opr_eq C) opd_eq (de_var (pv 2)) de_str (nomark _)) (dss_one (ds_ret (de_meth (de_var (pv 0)) (I_House rfl rfl) H_House_put G_House_put callOk_share C (kb_all D_House_put rfl 4 [] [(0, 0), (0, 1), (0, 2), (0, 3)] fun _ _ _ _ _ _ us ws l1 l2 => match us, ws, l1, l2 with | [_, _, _, _], [], _, _ => rfl) (da_cons (de_sub1 C (de_var (pv 1)) de_int) (da_cons (de_sub1 C (de_var (pv 1)) de_int) (da_cons (de_sub1 C (de_var (pv 1)) de_int) da_nil))) dkw_nil))) dss_nil) ?_
  exact (dss_cons (ds_if (dt_cmp (opr_eq C) opd_eq (de_var (pv 2)) de_str (nomark _)) (dss_one (ds_ret (de_meth (de_var (pv 0)) (I_House rfl rfl) H_House_follow G_House_follow callOk_share C (kb_all D_House_follow rfl 3 [] [(0, 0), (0, 1), (0, 2)] fun _ _ _ _ _ _ us ws l1 l2 => match us, ws, l1, l2 with | [_, _, _], [], _, _ => rfl) (da_cons (de_sub1 C (de_var (pv 1)) de_int) (da_cons (de_sub1 C (de_var (pv 1)) de_int) da_nil)) dkw_nil))) dss_nil) (dss_cons (ds_if (dt_cmp (opr_eq C) opd_eq (de_var (pv 2)) de_str (nomark _)) dss_none dss_nil) (dss_cons (ds_if (dt_cmp (opr_eq C) opd_eq (de_var (pv 2)) de_str (nomark _)) (dss_one (ds_ret (de_meth (de_var (pv 0)) (I_House rfl rfl) H_House_drop G_House_drop callOk_share C (kb_all D_House_drop rfl 2 [] [(0, 0), (0, 1)] fun _ _ _ _ _ _ us ws l1 l2 => match us, ws, l1, l2 with | [_, _], [], _, _ => rfl) (da_cons (de_sub1 C (de_var (pv 1)) de_int) da_nil) dkw_nil))) dss_nil) dss_none)))
theorem ok_House_names {P : Program} {w : World} {K : PySem.W.Frag} {mg : Str → Option Value} {base : Heap} (T : Txt K mg) (TB : ∀ p ∈ tq, LamX.TabB base mg (He.cT K p.1).1 (He.cT K p.1).2) : ∃ fd, FunD K d_House_names.name d_House_names.qual d_House_names.params d_House_names.body d_House_names.scope (d_House_names.dvs K) (d_House_names.kws K) (He.fAd K d_House_names.at_) fd ∧
    FnG P w K mg base 1 (He.fAd K d_House_names.at_) fd ["self"] (spD K mg 1 S_House_names) := by
  have b_sorted := free_sorted T
  obtain ⟨_, i_GREATEST⟩ := int_GREATEST T
  obtain ⟨_, i_MOST_FIELDS⟩ := int_MOST_FIELDS T
  obtain ⟨_, i_MOST_NAMES⟩ := int_MOST_NAMES T
  obtain ⟨_, i_SMALL⟩ := str_SMALL T
  have I_House : ∀ {X : Cx}, X.K = K → X.mg = mg → ClsI X "House" (He.ga K "House") := fun h1 h2 => ⟨by rw [h2]; exact gloc_House T, by rw [h1]; exact cls_House T⟩
  have N_House_named := noat_House_named T
  obtain ⟨fd, F⟩ := fun_House_names T
  refine ⟨fd, F, fnG (N := N_House_names) (ps := ["self"]) (k := 0) (g := m_House_names) F ⟨rfl, rfl, rfl, by decide +kernel, rfl, by decide +kernel, by decide +kernel⟩ fun cdv A outer s H E C => ?_⟩
  exact (dss_one (ds_ret (de_sortD C rfl b_sorted (da_cons (de_fld (de_var (pv 0)) (cs := ["House"]) fun c hc => by rw [List.mem_singleton.mp hc]; exact ⟨_, I_House rfl rfl, N_House_named⟩) da_nil))))
theorem ok_House_len {P : Program} {w : World} {K : PySem.W.Frag} {mg : Str → Option Value} {base : Heap} (T : Txt K mg) (TB : ∀ p ∈ tq, LamX.TabB base mg (He.cT K p.1).1 (He.cT K p.1).2) : ∃ fd, FunD K d_House_len.name d_House_len.qual d_House_len.params d_House_len.body d_House_len.scope (d_House_len.dvs K) (d_House_len.kws K) (He.fAd K d_House_len.at_) fd ∧
    FnG P w K mg base 1 (He.fAd K d_House_len.at_) fd ["self"] (spD K mg 1 S_House_len) := by
  have b_len := free_len T
  obtain ⟨_, i_GREATEST⟩ := int_GREATEST T
  obtain ⟨_, i_MOST_FIELDS⟩ := int_MOST_FIELDS T
  obtain ⟨_, i_MOST_NAMES⟩ := int_MOST_NAMES T
  obtain ⟨_, i_SMALL⟩ := str_SMALL T
  have I_House : ∀ {X : Cx}, X.K = K → X.mg = mg → ClsI X "House" (He.ga K "House") := fun h1 h2 => ⟨by rw [h2]; exact gloc_House T, by rw [h1]; exact cls_House T⟩
  have N_House_named := noat_House_named T
  obtain ⟨fd, F⟩ := fun_House_len T
  refine ⟨fd, F, fnG (N := N_House_len) (ps := ["self"]) (k := 0) (g := m_House_len) F ⟨rfl, rfl, rfl, by decide +kernel, rfl, by decide +kernel, by decide +kernel⟩ fun cdv A outer s H E C => ?_⟩
  exact (dss_one (ds_ret (de_len rfl b_len (da_cons (de_fld (de_var (pv 0)) (cs := ["House"]) fun c hc => by rw [List.mem_singleton.mp hc]; exact ⟨_, I_House rfl rfl, N_House_named⟩) da_nil))))
theorem ok_House_value {P : Program} {w : World} {K : PySem.W.Frag} {mg : Str → Option Value} {base : Heap} (T : Txt K mg) (TB : ∀ p ∈ tq, LamX.TabB base mg (He.cT K p.1).1 (He.cT K p.1).2) : ∃ fd, FunD K d_House_value.name d_House_value.qual d_House_value.params d_House_value.body d_House_value.scope (d_House_value.dvs K) (d_House_value.kws K) (He.fAd K d_House_value.at_) fd ∧
    FnG P w K mg base 4 (He.fAd K d_House_value.at_) fd ["self", "name"] (spD K mg 2 S_House_value) := by
  obtain ⟨fd_House_need, D_House_need, G_House_need⟩ := ok_House_need (P := P) (w := w) (base := base) T TB
  have b_isinstance := free_isinstance T
  have b_tuple := free_tuple T
  obtain ⟨_, i_GREATEST⟩ := int_GREATEST T
  obtain ⟨_, i_MOST_FIELDS⟩ := int_MOST_FIELDS T
  obtain ⟨_, i_MOST_NAMES⟩ := int_MOST_NAMES T
  obtain ⟨_, i_SMALL⟩ := str_SMALL T
  have H_House_need := meth_House_need T
  have I_House : ∀ {X : Cx}, X.K = K → X.mg = mg → ClsI X "House" (He.ga K "House") := fun h1 h2 => ⟨by rw [h2]; exact gloc_House T, by rw [h1]; exact cls_House T⟩
  have N_House_named := noat_House_named T
  have N_House_things := noat_House_things T
  obtain ⟨fd, F⟩ := fun_House_value T
  refine ⟨fd, F, fnG (N := N_House_value) (ps := ["self", "name"]) (k := 3) (g := m_House_value) F ⟨rfl, rfl, rfl, by decide +kernel, rfl, by decide +kernel, by decide +kernel⟩ fun cdv A outer s H E C => ?_⟩
  refine dss_cons (ds_expr (de_meth (de_var (pv 0)) (I_House rfl rfl) H_House_need G_House_need callOk_share C (kb_dfl D_House_need 2 ["there"] [("new", .non)] [.non] [(0, 0), (0, 1), (1, 0), (2, 0)] (by simp [He.DefD.kws, d_House_need]) (show ∀ q ∈ ([("new", .non)] : List (Str × V)), q ∈ ([("there", .ref (kwAt ("House", some "need") "there" _)), ("new", .non)] : List (Str × V)) by simp) (fun _ _ _ => (.cons (by unfold Dat; rfl) DatL.nil)) fun _ _ _ _ _ _ us mv ws l1 l2 l3 => match us, mv, ws, l1, l2, l3 with | [_, _], [_], [_], _, _, _ => ⟨_, _, _, _, _, _, rfl, rfl, (by show _ = pure _; rfl)⟩) (da_cons (de_lst (da_cons (de_var (pv 1)) da_nil)) da_nil) (dkw_cons (de_lst (da_cons (de_var (pv 1)) da_nil)) dkw_nil))) ?_
  exact (dss_cons (ds_set C (i := 2) rfl (by first | exact Or.inl rfl | exact Or.inr rfl) (de_sub1 C (de_fld (de_var (pv 0)) (cs := ["House"]) fun c hc => by rw [List.mem_singleton.mp hc]; exact ⟨_, I_House rfl rfl, N_House_named⟩) (de_var (pv 1)))) (dss_cons (ds_if (dt_not (dt_val (de_isi rfl b_isinstance (da_cons (de_var (pv 2)) (da_cons (de_ty rfl b_tuple (by rfl)) da_nil))))) (dss_one (ds_ret (de_var (pv 2)))) dss_nil) (dss_one (ds_ret (de_ifExp (dt_cmp (opr_eq C) opd_eq (de_sub1 C (de_sub1 C (de_fld (de_var (pv 0)) (cs := ["House"]) fun c hc => by rw [List.mem_singleton.mp hc]; exact ⟨_, I_House rfl rfl, N_House_things⟩) (de_sub1 C (de_var (pv 2)) de_int)) de_int) de_str (nomark _)) de_str de_str)))))
theorem ok_p_law_value {P : Program} {w : World} {K : PySem.W.Frag} {mg : Str → Option Value} {base : Heap} (T : Txt K mg) (TB : ∀ p ∈ tq, LamX.TabB base mg (He.cT K p.1).1 (He.cT K p.1).2) : ∃ fd, FunD K d_p_law_value.name d_p_law_value.qual d_p_law_value.params d_p_law_value.body d_p_law_value.scope (d_p_law_value.dvs K) (d_p_law_value.kws K) (He.fAd K d_p_law_value.at_) fd ∧
    FnG P w K mg base 1 (He.fAd K d_p_law_value.at_) fd ["_law_here", "_law_name_here"] (spD K mg 2 S_p_law_value) := by
  have b_isinstance := free_isinstance T
  have b_tuple := free_tuple T
  obtain ⟨_, i_GREATEST⟩ := int_GREATEST T
  obtain ⟨_, i_MOST_FIELDS⟩ := int_MOST_FIELDS T
  obtain ⟨_, i_MOST_NAMES⟩ := int_MOST_NAMES T
  obtain ⟨_, i_SMALL⟩ := str_SMALL T
  obtain ⟨fd, F⟩ := fun_p_law_value T
  refine ⟨fd, F, fnG (N := N_p_law_value) (ps := ["_law_here", "_law_name_here"]) (k := 0) (g := m_p_law_value) F ⟨rfl, rfl, rfl, by decide +kernel, rfl, by decide +kernel, by decide +kernel⟩ fun cdv A outer s H E C => ?_⟩
  exact (dss_cons (ds_set C (i := 2) rfl (by first | exact Or.inl rfl | exact Or.inr rfl) (de_sub1 C (de_sub1 C (de_var (pv 0)) de_str) (de_var (pv 1)))) (dss_cons (ds_if (dt_not (dt_val (de_isi rfl b_isinstance (da_cons (de_var (pv 2)) (da_cons (de_ty rfl b_tuple (by rfl)) da_nil))))) (dss_one (ds_ret (de_var (pv 2)))) dss_nil) (dss_one (ds_ret (de_ifExp (dt_cmp (opr_eq C) opd_eq (de_sub1 C (de_sub1 C (de_sub1 C (de_var (pv 0)) de_str) (de_sub1 C (de_var (pv 2)) de_int)) de_int) de_str (nomark _)) de_str de_str)))))
theorem ok_House_same {P : Program} {w : World} {K : PySem.W.Frag} {mg : Str → Option Value} {base : Heap} (T : Txt K mg) (TB : ∀ p ∈ tq, LamX.TabB base mg (He.cT K p.1).1 (He.cT K p.1).2) : ∃ fd, FunD K d_House_same.name d_House_same.qual d_House_same.params d_House_same.body d_House_same.scope (d_House_same.dvs K) (d_House_same.kws K) (He.fAd K d_House_same.at_) fd ∧
    FnG P w K mg base 4 (He.fAd K d_House_same.at_) fd ["self", "name", "other"] (spD K mg 3 S_House_same) := by
  obtain ⟨fd_House_need, D_House_need, G_House_need⟩ := ok_House_need (P := P) (w := w) (base := base) T TB
  obtain ⟨_, i_GREATEST⟩ := int_GREATEST T
  obtain ⟨_, i_MOST_FIELDS⟩ := int_MOST_FIELDS T
  obtain ⟨_, i_MOST_NAMES⟩ := int_MOST_NAMES T
  obtain ⟨_, i_SMALL⟩ := str_SMALL T
  have H_House_need := meth_House_need T
  have I_House : ∀ {X : Cx}, X.K = K → X.mg = mg → ClsI X "House" (He.ga K "House") := fun h1 h2 => ⟨by rw [h2]; exact gloc_House T, by rw [h1]; exact cls_House T⟩
  have N_House_named := noat_House_named T
  obtain ⟨fd, F⟩ := fun_House_same T
  refine ⟨fd, F, fnG (N := N_House_same) (ps := ["self", "name", "other"]) (k := 3) (g := m_House_same) F ⟨rfl, rfl, rfl, by decide +kernel, rfl, by decide +kernel, by decide +kernel⟩ fun cdv A outer s H E C => ?_⟩
  exact (dss_cons (ds_expr (de_meth (de_var (pv 0)) (I_House rfl rfl) H_House_need G_House_need callOk_share C (kb_dfl D_House_need 2 ["there"] [("new", .non)] [.non] [(0, 0), (0, 1), (1, 0), (2, 0)] (by simp [He.DefD.kws, d_House_need]) (show ∀ q ∈ ([("new", .non)] : List (Str × V)), q ∈ ([("there", .ref (kwAt ("House", some "need") "there" _)), ("new", .non)] : List (Str × V)) by simp) (fun _ _ _ => (.cons (by unfold Dat; rfl) DatL.nil)) fun _ _ _ _ _ _ us mv ws l1 l2 l3 => match us, mv, ws, l1, l2, l3 with | [_, _], [_], [_], _, _, _ => ⟨_, _, _, _, _, _, rfl, rfl, (by show _ = pure _; rfl)⟩) (da_cons (de_lst (da_cons (de_var (pv 1)) (da_cons (de_var (pv 2)) da_nil))) da_nil) (dkw_cons (de_lst (da_cons (de_var (pv 1)) (da_cons (de_var (pv 2)) da_nil))) dkw_nil))) (dss_one (ds_ret (de_cmp (opr_eq C) opd_eq (de_sub1 C (de_fld (de_var (pv 0)) (cs := ["House"]) fun c hc => by rw [List.mem_singleton.mp hc]; exact ⟨_, I_House rfl rfl, N_House_named⟩) (de_var (pv 1))) (de_sub1 C (de_fld (de_var (pv 0)) (cs := ["House"]) fun c hc => by rw [List.mem_singleton.mp hc]; exact ⟨_, I_House rfl rfl, N_House_named⟩) (de_var (pv 2))) (nomark _)))))
theorem ok_p_law_stands {P : Program} {w : World} {K : PySem.W.Frag} {mg : Str → Option Value} {base : Heap} (T : Txt K mg) (TB : ∀ p ∈ tq, LamX.TabB base mg (He.cT K p.1).1 (He.cT K p.1).2) : ∃ fd, FunD K d_p_law_stands.name d_p_law_stands.qual d_p_law_stands.params d_p_law_stands.body d_p_law_stands.scope (d_p_law_stands.dvs K) (d_p_law_stands.kws K) (He.fAd K d_p_law_stands.at_) fd ∧
    FnG P w K mg base 5 (He.fAd K d_p_law_stands.at_) fd ["_law_house", "_law_here"] (spD K mg 2 S_p_law_stands) := by
  obtain ⟨fd_House_names, D_House_names, G_House_names⟩ := ok_House_names (P := P) (w := w) (base := base) T TB
  obtain ⟨fd_House_len, D_House_len, G_House_len⟩ := ok_House_len (P := P) (w := w) (base := base) T TB
  obtain ⟨fd_House_value, D_House_value, G_House_value⟩ := ok_House_value (P := P) (w := w) (base := base) T TB
  obtain ⟨fd_p_law_value, D_p_law_value, G_p_law_value⟩ := ok_p_law_value (P := P) (w := w) (base := base) T TB
  have m_p_law_value := glo_p_law_value T
  obtain ⟨fd_House_same, D_House_same, G_House_same⟩ := ok_House_same (P := P) (w := w) (base := base) T TB
  have b_len := free_len T
  have b_repr := free_repr T
  have b_sorted := free_sorted T
  obtain ⟨_, i_GREATEST⟩ := int_GREATEST T
  obtain ⟨_, i_MOST_FIELDS⟩ := int_MOST_FIELDS T
  obtain ⟨_, i_MOST_NAMES⟩ := int_MOST_NAMES T
  obtain ⟨_, i_SMALL⟩ := str_SMALL T
  have H_House_len := meth_House___len__ T
  have H_House_names := meth_House_names T
  have H_House_same := meth_House_same T
  have H_House_value := meth_House_value T
  have I_House : ∀ {X : Cx}, X.K = K → X.mg = mg → ClsI X "House" (He.ga K "House") := fun h1 h2 => ⟨by rw [h2]; exact gloc_House T, by rw [h1]; exact cls_House T⟩
  obtain ⟨fd, F⟩ := fun_p_law_stands T
  refine ⟨fd, F, fnG (N := N_p_law_stands) (ps := ["_law_house", "_law_here"]) (k := 4) (g := m_p_law_stands) F ⟨rfl, rfl, rfl, by decide +kernel, rfl, by decide +kernel, by decide +kernel⟩ fun cdv A outer s H E C => ?_⟩
  refine dss_cons (ds_set C (i := 2) rfl (by first | exact Or.inl rfl | exact Or.inr rfl) (de_sortD C rfl b_sorted (da_cons (de_sub1 C (de_var (pv 1)) de_str) da_nil))) ?_
  refine dss_cons (ds_if (DW.dt (dw_or (dt_cmp (opr_ne C) opd_ne (de_repr C rfl b_repr (da_cons (de_meth0 (de_var (pv 0)) (I_House rfl rfl) H_House_names G_House_names callOk_share C (kb_all D_House_names rfl 1 [] [(0, 0)] fun _ _ _ _ _ _ us ws l1 l2 => match us, ws, l1, l2 with | [_], [], _, _ => rfl) dkw_nil) da_nil)) (de_repr C rfl b_repr (da_cons (de_var (pv 2)) da_nil)) (nomark _)) (dw_or1 (dt_cmp (opr_ne C) opd_ne (de_repr C rfl b_repr (da_cons (de_lenP C H_House_len G_House_len rfl (fun s us _ hl => by rw [List.append_nil] at hl ⊢; exact L2.FunD.bindsA (ps := ["self"]) D_House_len (fun _ _ _ _ _ _ us hl => match us, hl with | [_], _ => rfl) s us hl) (I_House rfl rfl) rfl b_len (da_cons (de_var (pv 0)) da_nil)) da_nil)) (de_repr C rfl b_repr (da_cons (de_len rfl b_len (da_cons (de_var (pv 2)) da_nil)) da_nil)) (nomark _))))) (dss_one (ds_ret de_bl)) dss_nil) ?_
  refine dss_cons ?_ ?_
  · refine ds_if (dt_cmp (opr_ne C) opd_ne (de_repr C rfl b_repr (da_cons (de_lcB C finL_ok (di_seq (de_var (pv 2))) (show BlkOk N_p_law_stands (defScope s_p_law_stands) _ [("_law_name_here", 5)] from ⟨rfl, by decide +kernel, by decide +kernel, by decide +kernel, by decide +kernel⟩) (fun _ _ _ _ _ C1 => (dg_name (i := 5) (pg_name C1.nd rfl (by first | exact Or.inl rfl | exact Or.inr rfl)))) (fun _ _ _ _ _ C1 => dts_nil) (fun _ _ _ _ _ C1 => (de_meth (de_var (pv 0)) (I_House rfl rfl) H_House_value G_House_value callOk_share C1 (kb_all D_House_value rfl 2 [] [(0, 0), (0, 1)] fun _ _ _ _ _ _ us ws l1 l2 => match us, ws, l1, l2 with | [_, _], [], _, _ => rfl) (da_cons (de_var (pv 5)) da_nil) dkw_nil))) da_nil)) (de_repr C rfl b_repr (da_cons (de_lcB C finL_ok (di_seq (de_var (pv 2))) (show BlkOk N_p_law_stands (defScope s_p_law_stands) _ [("_law_name_here", 5)] from ⟨rfl, by decide +kernel, by decide +kernel, by decide +kernel, by decide +kernel⟩) (fun _ _ _ _ _ C1 => (dg_name (i := 5) (pg_name C1.nd rfl (by first | exact Or.inl rfl | exact Or.inr rfl)))) (fun _ _ _ _ _ C1 => dts_nil) (fun _ _ _ _ _ C1 => (de_call (x := "_law_value") G_p_law_value callOk_share C1 rfl m_p_law_value D_p_law_value.kp (kb_all D_p_law_value rfl 2 [] [(0, 0), (0, 1)] fun _ _ _ _ _ _ us ws l1 l2 => match us, ws, l1, l2 with | [_, _], [], _, _ => rfl) (da_cons (de_var (pv 1)) (da_cons (de_var (pv 5)) da_nil)) dkw_nil))) da_nil)) (nomark _)) ?_ ?_
    · exact (dss_one (ds_ret de_bl))
    · exact dss_nil
  refine dss_cons ?_ ?_
  · refine ds_for C (di_seq (de_slice (de_var (pv 2)) do_none (do_some de_int))) (dg_name (i := 3) (pg_name C.nd rfl (by first | exact Or.inl rfl | exact Or.inr rfl))) ?_
    refine dss_cons (ds_setLcB C finL_ok (i := 4) rfl rfl (sw_true rfl rfl rfl (by decide +kernel)) (di_seq (de_slice (de_var (pv 2)) do_none (do_some de_int))) (show BlkOk N_p_law_stands (defScope s_p_law_stands) _ [("_law_other", 6)] from ⟨rfl, by decide +kernel, by decide +kernel, by decide +kernel, by decide +kernel⟩) (fun _ _ _ _ _ C1 => (dg_name (i := 6) (pg_name C1.nd rfl (by first | exact Or.inl rfl | exact Or.inr rfl)))) (fun _ _ _ _ _ C1 => dts_nil) (fun _ _ _ _ _ C1 => (de_cmp (opr_eq C1) opd_eq (de_sub1 C1 (de_sub1 C1 (de_var (pv 1)) de_str) (de_var (pv 3))) (de_sub1 C1 (de_sub1 C1 (de_var (pv 1)) de_str) (de_var (pv 6))) (nomark _)))) ?_
    exact (dss_one (ds_if (dt_cmp (opr_ne C) opd_ne (de_repr C rfl b_repr (da_cons (de_lcB C finL_ok (di_seq (de_slice (de_var (pv 2)) do_none (do_some de_int))) (show BlkOk N_p_law_stands (defScope s_p_law_stands) _ [("_law_other", 6)] from ⟨rfl, by decide +kernel, by decide +kernel, by decide +kernel, by decide +kernel⟩) (fun _ _ _ _ _ C1 => (dg_name (i := 6) (pg_name C1.nd rfl (by first | exact Or.inl rfl | exact Or.inr rfl)))) (fun _ _ _ _ _ C1 => dts_nil) (fun _ _ _ _ _ C1 => (de_meth (de_var (pv 0)) (I_House rfl rfl) H_House_same G_House_same callOk_share C1 (kb_all D_House_same rfl 3 [] [(0, 0), (0, 1), (0, 2)] fun _ _ _ _ _ _ us ws l1 l2 => match us, ws, l1, l2 with | [_, _, _], [], _, _ => rfl) (da_cons (de_var (pv 3)) (da_cons (de_var (pv 6)) da_nil)) dkw_nil))) da_nil)) (de_repr C rfl b_repr (da_cons (de_var (pv 4)) da_nil)) (nomark _)) (dss_one (ds_ret de_bl)) dss_nil))
  exact (dss_one (ds_ret de_bl))
theorem ok_House_names_o {P : Program} {w : World} {K : PySem.W.Frag} {mg : Str → Option Value} {base : Heap} (T : Txt K mg) (TB : ∀ p ∈ tq, LamX.TabB base mg (He.cT K p.1).1 (He.cT K p.1).2) : ∃ fd, FunD K d_House_names_o.name d_House_names_o.qual d_House_names_o.params d_House_names_o.body d_House_names_o.scope (d_House_names_o.dvs K) (d_House_names_o.kws K) (He.fAd K d_House_names_o.at_) fd ∧
    FnG P w K mg base 1 (He.fAd K d_House_names_o.at_) fd ["self"] (spD K mg 1 S_House_names_o) := by
  have b_sorted := free_sorted T
  obtain ⟨_, i_GREATEST⟩ := int_GREATEST T
  obtain ⟨_, i_MOST_FIELDS⟩ := int_MOST_FIELDS T
  obtain ⟨_, i_MOST_NAMES⟩ := int_MOST_NAMES T
  obtain ⟨_, i_SMALL⟩ := str_SMALL T
  have I_House : ∀ {X : Cx}, X.K = K → X.mg = mg → ClsI X "House" (He.ga K "House") := fun h1 h2 => ⟨by rw [h2]; exact gloc_House T, by rw [h1]; exact cls_House T⟩
  have N_House_named := noat_House_named T
  obtain ⟨fd, F⟩ := fun_House_names_o T
  refine ⟨fd, F, fnG (N := N_House_names_o) (ps := ["self"]) (k := 0) (g := m_House_names_o) F ⟨rfl, rfl, rfl, by decide +kernel, rfl, by decide +kernel, by decide +kernel⟩ fun cdv A outer s H E C => ?_⟩
  exact (dss_one (ds_ret (de_sortDO C rfl b_sorted (da_cons (de_fld (de_var (pv 0)) (cs := ["House"]) fun c hc => by rw [List.mem_singleton.mp hc]; exact ⟨_, I_House rfl rfl, N_House_named⟩) da_nil))))
theorem ok_law {P : Program} {w : World} {K : PySem.W.Frag} {mg : Str → Option Value} {base : Heap} (T : Txt K mg) (TB : ∀ p ∈ tq, LamX.TabB base mg (He.cT K p.1).1 (He.cT K p.1).2) : ∃ fd, FunD K d_law.name d_law.qual d_law.params d_law.body d_law.scope (d_law.dvs K) (d_law.kws K) (He.fAd K d_law.at_) fd ∧
    FnG P w K mg base 33 (He.fAd K d_law.at_) fd ["_law_script"] (spD K mg 1 S_law) := by
  obtain ⟨fd_p_law_state, D_p_law_state, G_p_law_state⟩ := ok_p_law_state (P := P) (w := w) (base := base) T TB
  have m_p_law_state := glo_p_law_state T
  obtain ⟨fd_p_law_names, D_p_law_names, G_p_law_names⟩ := ok_p_law_names (P := P) (w := w) (base := base) T TB
  have m_p_law_names := glo_p_law_names T
  obtain ⟨fd_p_law_next, D_p_law_next, G_p_law_next⟩ := ok_p_law_next (P := P) (w := w) (base := base) T TB
  have m_p_law_next := glo_p_law_next T
  obtain ⟨fd_House_init, D_House_init, G_House_init⟩ := ok_House_init (P := P) (w := w) (base := base) T TB
  obtain ⟨fd_p_law_deed, D_p_law_deed, G_p_law_deed⟩ := ok_p_law_deed (P := P) (w := w) (base := base) T TB
  have m_p_law_deed := glo_p_law_deed T
  obtain ⟨fd_p_law_refusal, D_p_law_refusal, G_p_law_refusal⟩ := ok_p_law_refusal (P := P) (w := w) (base := base) T TB
  have m_p_law_refusal := glo_p_law_refusal T
  obtain ⟨fd_p_law_done, D_p_law_done, G_p_law_done⟩ := ok_p_law_done (P := P) (w := w) (base := base) T TB
  have m_p_law_done := glo_p_law_done T
  obtain ⟨fd_p_law_heard, D_p_law_heard, G_p_law_heard⟩ := ok_p_law_heard (P := P) (w := w) (base := base) T TB
  have m_p_law_heard := glo_p_law_heard T
  obtain ⟨fd_p_law_call, D_p_law_call, G_p_law_call⟩ := ok_p_law_call (P := P) (w := w) (base := base) T TB
  have m_p_law_call := glo_p_law_call T
  obtain ⟨fd_p_law_stands, D_p_law_stands, G_p_law_stands⟩ := ok_p_law_stands (P := P) (w := w) (base := base) T TB
  have m_p_law_stands := glo_p_law_stands T
  obtain ⟨fd_House_names_o, D_House_names_o, G_House_names_o⟩ := ok_House_names_o (P := P) (w := w) (base := base) T TB
  obtain ⟨fd_House_len, D_House_len, G_House_len⟩ := ok_House_len (P := P) (w := w) (base := base) T TB
  have b_len := free_len T
  have b_min := free_min T
  have b_range := free_range T
  have b_repr := free_repr T
  obtain ⟨_, i_GREATEST⟩ := int_GREATEST T
  obtain ⟨_, i_MOST_FIELDS⟩ := int_MOST_FIELDS T
  obtain ⟨_, i_MOST_NAMES⟩ := int_MOST_NAMES T
  obtain ⟨_, i_SMALL⟩ := str_SMALL T
  have M_House := mkr_House T
  have c_House := gloc_House T
  have H_House_len := meth_House___len__ T
  have H_House_names := meth_House_names T
  have I_House : ∀ {X : Cx}, X.K = K → X.mg = mg → ClsI X "House" (He.ga K "House") := fun h1 h2 => ⟨by rw [h2]; exact gloc_House T, by rw [h1]; exact cls_House T⟩
  obtain ⟨fd, F⟩ := fun_law T
  refine ⟨fd, F, fnGc (N := N_law) (ps := ["_law_script"]) (k := 32) (g := m_law) F ⟨rfl, rfl, rfl, by decide +kernel, rfl, by decide +kernel, by decide +kernel⟩ fun cdv A outer s H E hcode C => ?_⟩
  refine dss_cons (ds_set C (i := 1) rfl (by first | exact Or.inl rfl | exact Or.inr rfl) (de_call (x := "_law_state") G_p_law_state callOk_share C rfl m_p_law_state D_p_law_state.kp (kb_all D_p_law_state rfl 2 [] [(0, 0), (0, 1)] fun _ _ _ _ _ _ us ws l1 l2 => match us, ws, l1, l2 with | [_, _], [], _, _ => rfl) (da_cons (de_var (pv 0)) (da_cons de_int da_nil)) dkw_nil)) ?_
  refine dss_cons (ds_set C (i := 2) rfl (by first | exact Or.inl rfl | exact Or.inr rfl) (de_call (x := "_law_names") G_p_law_names callOk_share C rfl m_p_law_names D_p_law_names.kp (kb_all D_p_law_names rfl 2 [] [(0, 0), (0, 1)] fun _ _ _ _ _ _ us ws l1 l2 => match us, ws, l1, l2 with | [_, _], [], _, _ => rfl) (da_cons (de_var (pv 1)) (da_cons (de_add de_int (de_call (x := "_law_next") G_p_law_next callOk_share C rfl m_p_law_next D_p_law_next.kp (kb_all D_p_law_next rfl 2 [] [(0, 0), (0, 1)] fun _ _ _ _ _ _ us ws l1 l2 => match us, ws, l1, l2 with | [_, _], [], _, _ => rfl) (da_cons (de_var (pv 1)) (da_cons de_int da_nil)) dkw_nil)) da_nil)) dkw_nil)) ?_
  refine dss_cons (ds_set C (i := 3) rfl (by first | exact Or.inl rfl | exact Or.inr rfl) (de_lst (da_cons de_str (da_cons de_str (da_cons de_str (da_cons de_str (da_cons de_str (da_cons de_str (da_cons de_str (da_cons de_str (da_cons de_str (da_cons de_str (da_cons de_str (da_cons de_str da_nil)))))))))))))) ?_
  refine dss_cons (ds_set C (i := 4) rfl (by first | exact Or.inl rfl | exact Or.inr rfl) (de_make0 (c := "House") M_House G_House_init makeO_ok C rfl c_House (kb_all D_House_init rfl 1 [] [(0, 0)] fun _ _ _ _ _ _ us ws l1 l2 => match us, ws, l1, l2 with | [_], [], _, _ => rfl) dkw_nil)) ?_
  refine dss_cons (ds_set C (i := 5) rfl (by first | exact Or.inl rfl | exact Or.inr rfl) (de_disp (dps_cons de_str de_dict0 (dps_cons de_str (de_lstO da_nil) (dps_cons de_str (de_lstO da_nil) dps_nil))))) ?_
  refine dss_cons ?_ ?_
  · refine ds_for C (di_range1 rfl b_range (da_cons (de_min C rfl b_min (da_cons (de_len rfl b_len (da_cons (de_var (pv 0)) da_nil)) (da_cons de_int da_nil))) da_nil)) (dg_name (i := 6) (pg_name C.nd rfl (by first | exact Or.inl rfl | exact Or.inr rfl))) ?_
    refine dss_cons (ds_set C (i := 7) rfl (by first | exact Or.inl rfl | exact Or.inr rfl) (de_call (x := "_law_deed") G_p_law_deed callOk_share C rfl m_p_law_deed D_p_law_deed.kp (kb_all D_p_law_deed rfl 3 [] [(0, 0), (0, 1), (0, 2)] fun _ _ _ _ _ _ us ws l1 l2 => match us, ws, l1, l2 with | [_, _, _], [], _, _ => rfl) (da_cons (de_call (x := "_law_state") G_p_law_state callOk_share C rfl m_p_law_state D_p_law_state.kp (kb_all D_p_law_state rfl 2 [] [(0, 0), (0, 1)] fun _ _ _ _ _ _ us ws l1 l2 => match us, ws, l1, l2 with | [_, _], [], _, _ => rfl) (da_cons (de_var (pv 0)) (da_cons (de_var (pv 6)) da_nil)) dkw_nil) (da_cons (de_var (pv 3)) (da_cons (de_var (pv 2)) da_nil))) dkw_nil)) ?_
    refine dss_cons (ds_set C (i := 8) rfl (by first | exact Or.inl rfl | exact Or.inr rfl) (de_call (x := "_law_refusal") G_p_law_refusal callOk_share C rfl m_p_law_refusal D_p_law_refusal.kp (kb_all D_p_law_refusal rfl 2 [] [(0, 0), (0, 1)] fun _ _ _ _ _ _ us ws l1 l2 => match us, ws, l1, l2 with | [_, _], [], _, _ => rfl) (da_cons (de_var (pv 5)) (da_cons (de_var (pv 7)) da_nil)) dkw_nil)) ?_
    refine dss_cons (ds_if (dt_cmp op_isN opd_is (de_var (pv 8)) de_non (nomark _)) (dss_one (ds_set C (i := 8) rfl (by first | exact Or.inl rfl | exact Or.inr rfl) (de_tup (da_cons de_str (da_cons (de_call (x := "_law_done") G_p_law_done callOk_share C rfl m_p_law_done D_p_law_done.kp (kb_all D_p_law_done rfl 2 [] [(0, 0), (0, 1)] fun _ _ _ _ _ _ us ws l1 l2 => match us, ws, l1, l2 with | [_, _], [], _, _ => rfl) (da_cons (de_var (pv 5)) (da_cons (de_var (pv 7)) da_nil)) dkw_nil) da_nil))))) dss_nil) ?_
    exact (dss_one (ds_if (DW.dt (dw_or (dt_cmp (opr_ne C) opd_ne (de_repr C rfl b_repr (da_cons (de_told (x := "_law_heard") (at_ := ("law", none)) G_p_law_heard C rfl m_p_law_heard D_p_law_heard.kp rfl hcode (TB (("law", none), ((("law" : Str) ++ ".<locals>.") ++ "<lambda>")) List.mem_cons_self) (show LamX.LamS (defScope s_law) _ from LamX.lamS_by (by decide +kernel)) rfl (fun _ _ _ _ _ => rfl) rfl (by decide) (fun A outer t H E f c CL => (de_call (x := "_law_call") G_p_law_call callOk_share CL rfl m_p_law_call D_p_law_call.kp (kb_all D_p_law_call rfl 2 [] [(0, 0), (0, 1)] fun _ _ _ _ _ _ us ws l1 l2 => match us, ws, l1, l2 with | [_, _], [], _, _ => rfl) (da_cons (de_var (pv 4)) (da_cons (de_var (pv 7)) da_nil)) dkw_nil))) da_nil)) (de_repr C rfl b_repr (da_cons (de_var (pv 8)) da_nil)) (nomark _)) (dw_or1 (dt_not (dt_val (de_call (x := "_law_stands") G_p_law_stands callOk_share C rfl m_p_law_stands D_p_law_stands.kp (kb_all D_p_law_stands rfl 2 [] [(0, 0), (0, 1)] fun _ _ _ _ _ _ us ws l1 l2 => match us, ws, l1, l2 with | [_, _], [], _, _ => rfl) (da_cons (de_var (pv 4)) (da_cons (de_var (pv 5)) da_nil)) dkw_nil)))))) (dss_one (ds_ret de_bl)) dss_nil))
  exact (dss_cons (ds_expr (de_append (de_meth0 (de_var (pv 4)) (I_House rfl rfl) H_House_names G_House_names_o callOk_share C (kb_all D_House_names_o rfl 1 [] [(0, 0)] fun _ _ _ _ _ _ us ws l1 l2 => match us, ws, l1, l2 with | [_], [], _, _ => rfl) dkw_nil) (da_cons de_str da_nil))) (dss_one (ds_ret (de_and (de_call (x := "_law_stands") G_p_law_stands callOk_share C rfl m_p_law_stands D_p_law_stands.kp (kb_all D_p_law_stands rfl 2 [] [(0, 0), (0, 1)] fun _ _ _ _ _ _ us ws l1 l2 => match us, ws, l1, l2 with | [_, _], [], _, _ => rfl) (da_cons (de_var (pv 4)) (da_cons (de_var (pv 5)) da_nil)) dkw_nil) (de_one (de_cmp (opr_eq C) opd_eq (de_lenP C H_House_len G_House_len rfl (fun s us _ hl => by rw [List.append_nil] at hl ⊢; exact L2.FunD.bindsA (ps := ["self"]) D_House_len (fun _ _ _ _ _ _ us hl => match us, hl with | [_], _ => rfl) s us hl) (I_House rfl rfl) rfl b_len (da_cons (de_make0 (c := "House") M_House G_House_init makeO_ok C rfl c_House (kb_all D_House_init rfl 1 [] [(0, 0)] fun _ _ _ _ _ _ us ws l1 l2 => match us, ws, l1, l2 with | [_], [], _, _ => rfl) dkw_nil) da_nil)) de_int (nomark _)))))))
end K03

/-! Plain laws, part 1: what mirrors come to. -/
namespace DL
open PySem L2

/-! ### calls -/
theorem subArgs_pure {S : Store} : ∀ (ds : List D) (n : Nat), pureL ds = true → subArgs S ds n = some (ds, [])
  | [], _, _ => rfl
  | d :: ds, n, h => by
    unfold pureL at h
    rw [Bool.and_eq_true] at h
    have q := subArgs_pure (S := S) ds n h.2
    cases d with
    | oid k => exact absurd h.1 (by unfold D.pure; exact Bool.false_ne_true)
    | _ =>
      unfold subArgs
      rw [if_pos h.1, q]
      rfl
theorem callSub_ok {sem : Sem'} {args : List D} {d : D} {S S' : Store} (hp : pureL args = true) (h : sem args [] = .ok d S') (hd : d.pure = true) : callSub sem args S = .ok d S := by
  unfold callSub
  rw [subArgs_pure args 0 hp]
  simp only [List.nodup_nil, if_true, subOf, List.map_nil, h, hd, List.length_nil, List.take_zero, List.all_nil, Nat.zero_le, decide_true, Bool.and_true, Bool.and_self]
  rw [show putBack S [] S' = S by unfold putBack; rfl]
/-! ### loops -/
theorem loopF_nil {m : FG} {b : FS} {ρ : EnvD} {S : Store} : loopF none m b [] ρ S = .nx ρ S := by
  unfold loopF
  rw [if_pos (show okC none _ from trivial)]
theorem loopF_cons {m : FG} {b : FS} {d : D} {ds : List D} {ρ ρ1 : EnvD} {S : Store} (hm : m d ρ S = some ρ1) : loopF none m b (d :: ds) ρ S = (match b ρ1 S with
    | .nx ρ S => loopF none m b ds ρ S
    | .ct ρ S => loopF none m b ds ρ S
    | .bk ρ S => .nx ρ S
    | o => o) := by
  rw [loopF]
  rw [if_pos (show okC none _ from trivial), hm]
  all_goals rfl
/-- a loop by its invariant -/
theorem loop_inv {m : FG} {b : FS} (I : Nat → EnvD → Store → Prop) : ∀ (ds : List D) (i : Nat) (ρ : EnvD) (S : Store), I i ρ S →
    (∀ j d ρ S, ds[j]? = some d → I (i + j) ρ S → ∃ ρ1 ρ2 S2, m d ρ S = some ρ1 ∧ (b ρ1 S = .nx ρ2 S2 ∨ b ρ1 S = .ct ρ2 S2) ∧ I (i + j + 1) ρ2 S2) → ∃ ρ' S', loopF none m b ds ρ S = .nx ρ' S' ∧ I (i + ds.length) ρ' S'
  | [], i, ρ, S, h0, _ => ⟨ρ, S, loopF_nil, h0⟩
  | d :: ds, i, ρ, S, h0, step => by
    obtain ⟨ρ1, ρ2, S2, h1, h2, h3⟩ := step 0 d ρ S rfl h0
    obtain ⟨ρ', S', q1, q2⟩ := loop_inv I ds (i + 1) ρ2 S2 h3 fun j e ρ S hj hI => by
      have := step (j + 1) e ρ S hj (by rw [show i + (j + 1) = i + 1 + j by omega]; exact hI)
      rw [show i + (j + 1) = i + 1 + j by omega] at this
      exact this
    refine ⟨ρ', S', ?_, by rw [List.length_cons, show i + (ds.length + 1) = i + 1 + ds.length by omega]; exact q2⟩
    rw [loopF_cons h1]
    rcases h2 with h2 | h2 <;> (rw [h2]; exact q1)
/-! ### comprehensions -/
theorem compF_nil {m : FG} {ft : FT} {fe : FE} {ρ : EnvD} {S : Store} : compF none m ft fe [] ρ S = .ok [] S := by
  unfold compF
  rw [if_pos (show okC none _ from trivial)]
theorem compF_cons {m : FG} {ft : FT} {fe : FE} {d : D} {ds : List D} {ρ ρ1 : EnvD} {S : Store} (hm : m d ρ S = some ρ1) :
    compF none m ft fe (d :: ds) ρ S = (ft ρ1 S).noEx.bind fun b S => if b then (fe ρ1 S).noEx.bind fun y S => (compF none m ft fe ds ρ S).bind fun ys S => .ok (y :: ys) S else compF none m ft fe ds ρ S := by
  rw [compF]
  rw [if_pos (show okC none _ from trivial), hm]
/-- no test, the store stays -/
theorem comp_map {m : FG} {fe : FE} {f : D → D} {ρ : EnvD} {S : Store} : ∀ (ds : List D), (∀ d ∈ ds, ∃ ρ1, m d ρ S = some ρ1 ∧ fe ρ1 S = .ok (f d) S) → compF none m fYes fe ds ρ S = .ok (ds.map f) S
  | [], _ => compF_nil
  | d :: ds, h => by
    obtain ⟨ρ1, h1, h2⟩ := h d List.mem_cons_self
    rw [compF_cons h1]
    have q := comp_map (m := m) (fe := fe) (f := f) (ρ := ρ) (S := S) ds fun e he => h e (List.mem_cons_of_mem _ he)
    simp only [fYes, Res.noEx_ok, Res.bind_ok, if_true, h2, q, List.map_cons]
/-- with a test, the store stays -/
theorem comp_filter {m : FG} {ft : FT} {fe : FE} {f : D → D} {p : D → Bool} {ρ : EnvD} {S : Store} : ∀ (ds : List D), (∀ d ∈ ds, ∃ ρ1, m d ρ S = some ρ1 ∧ ft ρ1 S = .ok (p d) S ∧ (p d = true → fe ρ1 S = .ok (f d) S)) → compF none m ft fe ds ρ S = .ok ((ds.filter p).map f) S
  | [], _ => compF_nil
  | d :: ds, h => by
    obtain ⟨ρ1, h1, h2, h3⟩ := h d List.mem_cons_self
    rw [compF_cons h1]
    have q := comp_filter (m := m) (ft := ft) (fe := fe) (f := f) (p := p) (ρ := ρ) (S := S) ds fun e he => h e (List.mem_cons_of_mem _ he)
    cases hp : p d with
    | true => simp [h2, hp, h3 hp, q, List.filter_cons]
    | false => simp [h2, hp, q, List.filter_cons]
/-- no test, the store goes on -/
theorem comp_inv {m : FG} {fe : FE} {ρ : EnvD} (I : Store → Prop) (A : D → Prop) : ∀ (ds : List D) (S : Store), I S → (∀ d ∈ ds, ∀ S, I S → ∃ ρ1 y S', m d ρ S = some ρ1 ∧ fe ρ1 S = .ok y S' ∧ A y ∧ I S') →
    ∃ ys S', compF none m fYes fe ds ρ S = .ok ys S' ∧ ys.length = ds.length ∧ (∀ y ∈ ys, A y) ∧ I S'
  | [], S, h0, _ => ⟨[], S, compF_nil, rfl, fun y hy => by simp at hy, h0⟩
  | d :: ds, S, h0, h => by
    obtain ⟨ρ1, y, S1, h1, h2, h3, h4⟩ := h d List.mem_cons_self S h0
    obtain ⟨ys, S', q1, q2, q3, q4⟩ := comp_inv (m := m) (fe := fe) (ρ := ρ) I A ds S1 h4 fun e he => h e (List.mem_cons_of_mem _ he)
    refine ⟨y :: ys, S', ?_, by simp [q2], fun z hz => ?_, q4⟩
    · rw [compF_cons h1]
      simp only [fYes, Res.noEx_ok, Res.bind_ok, if_true, h2, q1]
    · rcases List.mem_cons.mp hz with e | e
      · rw [e]; exact h3
      · exact q3 z e
theorem rng_length {lo hi : Int} : (rng lo hi).length = (hi - lo).toNat := by simp [rng]
theorem rng_get {lo hi : Int} {j : Nat} {d : D} (h : (rng lo hi)[j]? = some d) : d = .int (lo + j) ∧ j < (hi - lo).toNat := by
  unfold rng at h
  rw [List.getElem?_map] at h
  by_cases hj : j < (hi - lo).toNat
  · rw [List.getElem?_range hj] at h
    cases h
    exact ⟨rfl, hj⟩
  · rw [List.getElem?_eq_none (by simpa using hj)] at h
    cases h
end DL

/-! Plain laws, part 2: the mirrors' equations, for simp. -/
namespace DL
open PySem L2
section
variable (ρ : EnvD) (S : Store) (fa fb fc fe : FE) (ta tb : FT) (g g' : FS) (x y : D)
@[simp] theorem e_semOf (n : Nat) (ds : List D) : semOf n g ds S = (g (startD n ds) S).res := rfl
@[simp] theorem e_startD (n : Nat) (ds : List D) : startD n ds = ds.map some ++ List.replicate (n - ds.length) none := rfl
@[simp] theorem e_gSeq : gSeq g g' ρ S = (g ρ S).seq g' := rfl
@[simp] theorem e_gNil : gNil ρ S = .nx ρ S := rfl
@[simp] theorem e_gRet : gRet fe ρ S = (fe ρ S).into ρ fun d S => .rt d S := rfl
@[simp] theorem e_gIf : gIf ta g g' ρ S = (ta ρ S).into ρ fun k S => if k then g ρ S else g' ρ S := rfl
@[simp] theorem e_gSet (i : Nat) : gSet i fe ρ S = (fe ρ S).into ρ fun d S => .nx (ρ.set i (some d)) S := rfl
@[simp] theorem e_gExpr : gExpr fe ρ S = (fe ρ S).into ρ fun _ S => .nx ρ S := rfl
@[simp] theorem e_gAsg (m : FG) : gAsg m fe ρ S = (fe ρ S).into ρ fun d S => match m d ρ S with | some ρ => .nx ρ S | none => .stuck := rfl
@[simp] theorem e_gPut : gPut fa fb fe ρ S = (fe ρ S).into ρ fun d S => (fa ρ S).into ρ fun x S => (fb ρ S).into ρ fun y S => match storeAt x y d S with | some S => .nx ρ S | none => .stuck := rfl
@[simp] theorem e_gStar (i j : Nat) : gStar i j fe ρ S = (fe ρ S).into ρ fun d S => match asL S d with | some (x :: xs) => .nx ((ρ.set i (some x)).set j (some (.oid S.length))) (S ++ [.lst xs]) | _ => .stuck := rfl
@[simp] theorem e_gFor (fi : FI) (m : FG) : gFor fi m g ρ S = (fi ρ S).into ρ fun it S => loopF it.chk m g it.items ρ S := rfl
@[simp] theorem e_gFld (cs : List Str) (f : Str) : gFld cs f fa fe ρ S = (fe ρ S).into ρ fun d S => (fa ρ S).into ρ fun o S => match o with
  | .oid n => (match S[n]? with
    | some (.ins c fs) => if c ∈ cs ∧ fs.length < 1000 then .nx ρ (S.set n (.ins c (putFD f d fs))) else .stuck
    | _ => .stuck)
  | _ => .stuck := rfl
@[simp] theorem e_res_nx : (Out.nx ρ S).res = .ok .non S := rfl
@[simp] theorem e_res_rt : (Out.rt x S).res = .ok x S := rfl
@[simp] theorem e_res_ex (C fs) : (Out.ex C fs ρ S).res = .ex C fs S := rfl
@[simp] theorem e_fVar (i : Nat) : fVar i ρ S = match ρ[i]? with | some (some d) => .ok d S | _ => .stuck := rfl
@[simp] theorem e_fC : fC x ρ S = .ok x S := rfl
@[simp] theorem e_fAndV : fAndV fa fb ρ S = (fa ρ S).bind fun d S => match d with | .bl true => fb ρ S | .bl false => .ok (.bl false) S | _ => .stuck := rfl
@[simp] theorem e_fOrV : fOrV fa fb ρ S = (fa ρ S).bind fun d S => match d with | .bl true => .ok (.bl true) S | .bl false => fb ρ S | _ => .stuck := rfl
@[simp] theorem e_fNotV : fNotV fa ρ S = (fa ρ S).bind fun d S => match d with | .bl k => .ok (.bl (!k)) S | _ => .stuck := rfl
@[simp] theorem e_fAndT : fAndT ta tb ρ S = (ta ρ S).bind fun k S => if k then tb ρ S else .ok false S := rfl
@[simp] theorem e_fOrT : fOrT ta tb ρ S = (ta ρ S).bind fun k S => if k then .ok true S else tb ρ S := rfl
@[simp] theorem e_fNotT : fNotT ta ρ S = (ta ρ S).bind fun k S => .ok (!k) S := rfl
@[simp] theorem e_toB : toB fa ρ S = (fa ρ S).bind fun d S => match d with | .bl k => .ok k S | _ => .stuck := rfl
@[simp] theorem e_fIf : fIf ta fa fb ρ S = (ta ρ S).bind fun k S => if k then fa ρ S else fb ρ S := rfl
@[simp] theorem e_fCons (fr : FA) : fCons fa fr ρ S = (fa ρ S).bind fun x S => (fr ρ S).bind fun xs S => .ok (x :: xs) S := rfl
@[simp] theorem e_fTup (fr : FA) : fTup fr ρ S = (fr ρ S).bind fun xs S => if short xs.length then .ok (.tup xs) S else .stuck := rfl
@[simp] theorem e_fLst (fr : FA) : fLst fr ρ S = (fr ρ S).bind fun xs S => if short xs.length then .ok (.lst xs) S else .stuck := rfl
@[simp] theorem e_fLstO (fr : FA) : fLstO fr ρ S = (fr ρ S).bind fun xs S => if short xs.length then .ok (.oid S.length) (S ++ [.lst xs]) else .stuck := rfl
@[simp] theorem e_fDict0 : fDict0 ρ S = .ok (.oid S.length) (S ++ [.dic []]) := rfl
@[simp] theorem e_fBin (h : G2) : fBin h fa fb ρ S = (fa ρ S).bind fun x S => (fb ρ S).bind fun y S => h x y S := rfl
@[simp] theorem e_fUn (h : D → Store → Res D) : fUn h fa ρ S = (fa ρ S).bind h := rfl
@[simp] theorem e_fChain (h h' : G2) : fChain h h' fa fb fc ρ S = (fa ρ S).bind fun x S => (fb ρ S).bind fun y S => (h x y S).bind fun z S => match z with
  | .bl true => (fc ρ S).bind fun u S => h' y u S
  | .bl false => .ok (.bl false) S
  | _ => .stuck := rfl
@[simp] theorem e_fCB (h : GC) (fr : FA) : fCB h fr ρ S = (fr ρ S).bind h := rfl
@[simp] theorem e_fBM (T : String) (h : GM) (fr : FA) : fBM T h fa fr ρ S = (fa ρ S).bind fun x S => if tyS S x = some T ∧ T ≠ "tuple" then (fr ρ S).bind fun ds S => h x ds S else .stuck := rfl
@[simp] theorem e_fCall (cs : Sem') (gD : List D → List D → List D) (np nk n : Nat) (fr fk : FA) : fCall cs gD np nk n fr fk ρ S = (fr ρ S).bind fun ds S => (fk ρ S).bind fun es S => if ds.length = np ∧ es.length = nk ∧ (gD ds es).length = n then cs (gD ds es) S else .stuck := rfl
@[simp] theorem e_fMeth (cs : Sem') (gD : List D → List D → List D) (c m : Str) (np nk n : Nat) (fr fk : FA) : fMeth cs gD c m np nk n fa fr fk ρ S = (fa ρ S).bind fun o S => match asI S o with
  | some (c', fs) => if c' = c ∧ (fs.lookup m).isNone then (fr ρ S).bind fun ds S => (fk ρ S).bind fun es S => if (o :: ds).length = np ∧ es.length = nk ∧ (gD (o :: ds) es).length = n then cs (gD (o :: ds) es) S else .stuck else .stuck
  | none => .stuck := rfl
@[simp] theorem e_fFld (cs : List Str) (f : Str) : fFld cs f fa ρ S = (fa ρ S).bind fun o S => match asI S o with
  | some (c, fs) => if c ∈ cs then (match fs.lookup f with | some d => .ok d S | none => .stuck) else .stuck
  | none => .stuck := rfl
@[simp] theorem e_fMake (mk : MakeT) (np nk : Nat) (fr fk : FA) : fMake mk np nk fr fk ρ S = (fr ρ S).bind fun ds S => (fk ρ S).bind fun es S => if ds.length = np ∧ es.length = nk then mk ds es S else .stuck := rfl
@[simp] theorem e_fSeq_tup (ds : List D) (h : fa ρ S = .ok (.tup ds) S) : fSeq fa ρ S = .ok ⟨ds, none⟩ S := by unfold fSeq; rw [h]; rfl
@[simp] theorem e_fSeq_lst (ds : List D) (h : fa ρ S = .ok (.lst ds) S) : fSeq fa ρ S = .ok ⟨ds, none⟩ S := by unfold fSeq; rw [h]; rfl
@[simp] theorem e_pick (sel : List (Nat × Nat)) (us ws ms : List D) : pick sel us ws ms = sel.filterMap fun s => (src s.1 us ws ms)[s.2]? := rfl
@[simp] theorem e_src0 {α : Type} (us ws ms : List α) : src 0 us ws ms = us := rfl
@[simp] theorem e_src1 {α : Type} (us ws ms : List α) : src 1 us ws ms = ws := rfl
@[simp] theorem e_src2 {α : Type} (us ws ms : List α) : src 2 us ws ms = ms := rfl
@[simp] theorem e_mName (i : Nat) : mName i x ρ S = some (ρ.set i (some x)) := rfl
@[simp] theorem e_mTup (n : Nat) (ms : List D → EnvD → Store → Option EnvD) (ds : List D) : mTup n ms (.tup ds) ρ S = if ds.length = n then ms ds ρ S else none := rfl
@[simp] theorem e_mCons (m : FG) (ms : List D → EnvD → Store → Option EnvD) (d : D) (ds : List D) : mCons m ms (d :: ds) ρ S = (m d ρ S).bind fun ρ => ms ds ρ S := rfl
@[simp] theorem e_isi1 (n : String) : gIsi [x, .ty n] S = gIsi1 [x, .ty n] S := rfl
@[simp] theorem e_isiN (cs : List D) : gIsi [x, .tup cs] S = gIsiN [x, .tup cs] S := rfl
@[simp] theorem e_gIsi1 (n : String) : gIsi1 [x, .ty n] S = match (tyS S x).bind fun T => isiT T n with | some b => .ok (.bl b) S | none => .stuck := rfl
@[simp] theorem e_gIsiN (cs : List D) : gIsiN [x, .tup cs] S = match (tyS S x).bind fun T => (tysOf cs).bind fun ns => isiA T ns with | some b => .ok (.bl b) S | none => .stuck := rfl
@[simp] theorem e_ty_non : tyS S .non = some "NoneType" := rfl
@[simp] theorem e_ty_bl (b) : tyS S (.bl b) = some "bool" := rfl
@[simp] theorem e_ty_int (b) : tyS S (.int b) = some "int" := rfl
@[simp] theorem e_ty_str (b) : tyS S (.str b) = some "str" := rfl
@[simp] theorem e_ty_tup (b) : tyS S (.tup b) = some "tuple" := rfl
@[simp] theorem e_ty_lst (b) : tyS S (.lst b) = some "list" := rfl
variable (i j : Int) (a b : Bool) (xs ys : List D) (p q : Str)
@[simp] theorem e_gNeg : gNeg (.int i) S = .ok (.int (-i)) S := rfl
@[simp] theorem e_gSub : gSub (.int i) (.int j) S = .ok (.int (i - j)) S := rfl
@[simp] theorem e_gAdd : gAdd (.int i) (.int j) S = .ok (.int (i + j)) S := rfl
@[simp] theorem e_gMul (h : cMul i j = true) : gMul (.int i) (.int j) S = .ok (.int (i * j)) S := by simp [gMul, gI, h]
@[simp] theorem e_gMod (h : 0 < j) : gMod (.int i) (.int j) S = .ok (.int (i % j)) S := by simp [gMod, gI, h]
@[simp] theorem e_gDiv (h : 0 < j) (h2 : j < 1073741824) : gDiv (.int i) (.int j) S = .ok (.int (i / j)) S := by simp [gDiv, gI, cDiv, h, h2]
@[simp] theorem e_gLt : gLt (.int i) (.int j) S = .ok (.bl (decide (i < j))) S := rfl
@[simp] theorem e_gLe : gLe (.int i) (.int j) S = .ok (.bl (decide (i ≤ j))) S := rfl
@[simp] theorem e_gGt : gGt (.int i) (.int j) S = .ok (.bl (decide (j < i))) S := rfl
@[simp] theorem e_gGe : gGe (.int i) (.int j) S = .ok (.bl (decide (j ≤ i))) S := rfl
@[simp] theorem e_gIs : gIs x .non S = .ok (.bl x.isNon) S := rfl
@[simp] theorem e_gIsNot : gIsNot x .non S = .ok (.bl (!x.isNon)) S := rfl
@[simp] theorem e_nn : D.non.isNon = true := rfl
@[simp] theorem e_ni : (D.int i).isNon = false := rfl
@[simp] theorem e_ns : (D.str p).isNon = false := rfl
@[simp] theorem e_nt : (D.tup xs).isNon = false := rfl
@[simp] theorem e_nb : (D.bl a).isNon = false := rfl
@[simp] theorem e_nl : (D.lst xs).isNon = false := rfl
@[simp] theorem e_eq_ss : gEq (.str p) (.str q) S = .ok (.bl (decide (p = q))) S := rfl
@[simp] theorem e_eq_ii : gEq (.int i) (.int j) S = .ok (.bl (decide (i = j))) S := rfl
@[simp] theorem e_ne_ss : gNe (.str p) (.str q) S = .ok (.bl (!decide (p = q))) S := rfl
@[simp] theorem e_ne_ii : gNe (.int i) (.int j) S = .ok (.bl (!decide (i = j))) S := rfl
@[simp] theorem e_len_t : gLen [.tup xs] S = .ok (.int xs.length) S := rfl
@[simp] theorem e_len_l : gLen [.lst xs] S = .ok (.int xs.length) S := rfl
@[simp] theorem e_len_s : gLen [.scr xs] S = .ok (.int xs.length) S := rfl
@[simp] theorem e_ix_t : gIx (.tup xs) (.int i) S = match atI xs i with | some d => .ok d S | none => .stuck := rfl
@[simp] theorem e_ix_l : gIx (.lst xs) (.int i) S = match atI xs i with | some d => .ok d S | none => .stuck := rfl
@[simp] theorem e_ix_s : gIx (.scr xs) (.int i) S = match atI xs i with | some d => .ok d S | none => .stuck := rfl
@[simp] theorem e_asL_l : asL S (.lst xs) = some xs := rfl
@[simp] theorem e_asL_s : asL S (.scr xs) = some xs := rfl
@[simp] theorem e_asQ_t : asQ S (.tup xs) = some xs := rfl
@[simp] theorem e_asQ_l : asQ S (.lst xs) = some xs := rfl
@[simp] theorem e_list_l : gList [.lst xs] S = .ok (.lst xs) S := rfl
@[simp] theorem e_list_t : gList [.tup xs] S = .ok (.lst xs) S := rfl
@[simp] theorem e_list_d (ks : List (Key × D)) : gList [.dic ks] S = .ok (.lst (ks.map fun q => keyV q.1)) S := rfl
@[simp] theorem e_tuple_l : gTuple [.lst xs] S = .ok (.tup xs) S := rfl
@[simp] theorem e_lenum_t : gLEnum [.tup xs] S = .ok (.lst (enumD 0 xs)) S := rfl
@[simp] theorem e_lenum_l : gLEnum [.lst xs] S = .ok (.lst (enumD 0 xs)) S := rfl
@[simp] theorem e_max2 : gMax [.int i, .int j] S = .ok (.int (if j > i then j else i)) S := rfl
@[simp] theorem e_min2 : gMin [.int i, .int j] S = .ok (.int (if j < i then j else i)) S := rfl
@[simp] theorem e_abs : gAbs [.int i] S = .ok (.int (if i < 0 then -i else i)) S := rfl
theorem at_nat {α : Type} (zs : List α) (n : Nat) (h : n < zs.length) : atI zs (n : Int) = zs[n]? := by
  have h2 : (n : Int) < zs.length := by omega
  simp [atI, ixN, h2]
@[simp] theorem e_at_c0 {α : Type} (z : α) (zs : List α) : atI (z :: zs) 0 = some z := by
  have := at_nat (z :: zs) 0 (by simp)
  exact this
@[simp] theorem e_at_c1 {α : Type} (z y : α) (zs : List α) : atI (z :: y :: zs) 1 = some y := by
  have := at_nat (z :: y :: zs) 1 (by simp)
  exact this
@[simp] theorem e_fComp (fi : FI) (m : FG) (own : List Nat) (fin : Fin') : fComp fi m ta fe own fin ρ S = (fi ρ S).bind fun it S => (compF it.chk m ta fe it.items (wipeD ρ own) S).bind fin := rfl
@[simp] theorem e_wipe0 : wipeD ρ [] = ρ := rfl
@[simp] theorem e_wipe1 (v : Nat) (vs : List Nat) : wipeD ρ (v :: vs) = (wipeD ρ vs).set v none := rfl
@[simp] theorem e_finL : finL xs S = if short xs.length then .ok (.lst xs) S else .stuck := rfl
@[simp] theorem e_fRng1 (fr : FA) : fRng1 fr ρ S = (fr ρ S).bind fun ds S => match ds with
  | [.int j] => if cRng j then .ok ⟨rng 0 j, none⟩ S else .stuck
  | _ => .stuck := rfl
theorem e_all_true {α : Type} (l : List α) : gAllAny true [.lst (l.map fun _ => D.bl true)] S = .ok (.bl true) S := by
  have h : bsOf (l.map fun _ => D.bl true) = some (l.map fun _ => true) := by
    induction l with
    | nil => rfl
    | cons z l ih => simp [bsOf, ih]
  simp [gAllAny, h]
@[simp] theorem e_all_true2 {α β : Type} (l : List α) (f : α → β) : gAllAny true [.lst (l.map ((fun _ => D.bl true) ∘ f))] S = .ok (.bl true) S := e_all_true S l
@[simp] theorem e_in_tup : gNotIn x (.tup ys) S = gInQ true x (.tup ys) S := rfl
@[simp] theorem e_in_tup2 : gIn x (.tup ys) S = gInQ false x (.tup ys) S := rfl
@[simp] theorem e_in_lst : gNotIn x (.lst ys) S = gInQ true x (.lst ys) S := rfl
@[simp] theorem e_in_lst2 : gIn x (.lst ys) S = gInQ false x (.lst ys) S := rfl
theorem short_le {n : Nat} (h : n ≤ 1000000) : short n = true := by
  have : (1000000 : Nat) ≤ sizeLine := by decide
  exact decide_eq_true (Nat.le_trans h this)
@[simp] theorem short0 : short 0 = true := short_le (by decide)
@[simp] theorem short1 : short 1 = true := short_le (by decide)
@[simp] theorem short2 : short 2 = true := short_le (by decide)
@[simp] theorem short3 : short 3 = true := short_le (by decide)
@[simp] theorem short4 : short 4 = true := short_le (by decide)
@[simp] theorem short8 : short 8 = true := short_le (by decide)
@[simp] theorem short7 : short 7 = true := short_le (by decide)
end
end DL

namespace K03
open PySem L2 DL
/-! ### numbers -/
theorem whole_int (i a b : Int) (S : Store) : S_is_whole [.int i, .int a, .int b] S = .ok (.bl (decide (a ≤ i) && decide (i ≤ b))) S := by
  unfold S_is_whole m_is_whole
  by_cases h1 : a ≤ i <;> by_cases h2 : i ≤ b <;> simp [isiT, h1, h2]
theorem number_int (i : Int) (S : Store) : S_is_number [.int i] S = .ok (.bl (decide (-1000000000 ≤ i) && decide (i ≤ 1000000000))) S := by
  unfold S_is_number m_is_number
  have q := callSub_ok (S := S) (by rfl) (whole_int i (-1000000000) 1000000000 []) (by rfl)
  simp [q]
/-! ### values -/
inductive Vl where
  | non | num (i : Int) | at_ (n : Nat)
def dV : Vl → D
  | .non => .non
  | .num i => .int i
  | .at_ n => .tup [.str "at", .int n]
def okV (many : Nat) : Vl → Prop
  | .non => True
  | .num i => -1000000000 ≤ i ∧ i ≤ 1000000000
  | .at_ n => n < many
end K03

namespace K03
open PySem L2 DL
/-! ### cells -/
inductive Ce where
  | flds (last : Bool) (vs : List Vl) | tie (t : Option Nat)
def sortOf (last : Bool) : Str := if last then "last" else "cell"
def dT : Option Nat → D
  | none => .non
  | some n => .int n
def dC : Ce → D
  | .flds l vs => .tup [.str (sortOf l), .tup (vs.map dV)]
  | .tie t => .tup [.str "tie", dT t]
def okC' (many : Nat) : Ce → Prop
  | .flds _ vs => vs.length ≤ 6 ∧ ∀ v ∈ vs, okV many v
  | .tie (some n) => n < many
  | .tie none => True
theorem n1 : ¬ (("cell" : Str) = "tie") := by decide +kernel
theorem n2 : ¬ (("last" : Str) = "tie") := by decide +kernel
theorem n3 (l : Bool) : ¬ (sortOf l = "tie") := by cases l; exact n1; exact n2
theorem n4 (l : Bool) : inF (.str (sortOf l)) [.str "cell", .str "last"] = true := by cases l <;> decide +kernel
/-- a drawn web -/
structure Wb where
  cells : List Ce
  pegs : List Vl
def Wb.ok (w : Wb) : Prop := w.cells.length ≤ 1000 ∧ w.pegs.length ≤ 1000 ∧ (∀ c ∈ w.cells, okC' w.cells.length c) ∧ ∀ v ∈ w.pegs, okV w.cells.length v
/-! ### a Web -/
end K03

/-! Plain laws, part 3: plain data shown and compared. -/
namespace DL
open PySem L2

/-! ### data that can be shown -/
mutual
def D.sim : D → Bool
  | .non => true
  | .bl _ => true
  | .int i => decide (-1000000000000 < i ∧ i < 1000000000000)
  | .str x => PyData.strOk x
  | .tup ds => simL ds
  | .lst ds => simL ds
  | _ => false
def simL : List D → Bool
  | [] => true
  | d :: ds => d.sim && simL ds
end
mutual
def D.dep : D → Nat
  | .tup ds => depL ds + 1
  | .lst ds => depL ds + 1
  | _ => 0
def depL : List D → Nat
  | [] => 0
  | d :: ds => max d.dep (depL ds)
end
mutual
def D.wt : D → Nat
  | .int _ => 64
  | .str x => x.cps.size
  | .tup ds => wtL ds
  | .lst ds => wtL ds
  | _ => 0
def wtL : List D → Nat
  | [] => 0
  | d :: ds => d.wt + 1 + wtL ds
end
mutual
def D.py : D → PyData
  | .non => .none
  | .bl b => .bool b
  | .int i => .int i
  | .str x => .str x
  | .tup ds => .tuple (pyL ds)
  | .lst ds => .list (pyL ds)
  | _ => .none
def pyL : List D → List PyData
  | [] => []
  | d :: ds => d.py :: pyL ds
end
structure Sh (d : D) (p : PyData) : Prop where
  py : toPy d = some p
  lay : p.canLay0 = true
  dep : p.depth = d.dep
  wt : p.weight ≤ d.wt
  sh : p.intsShort 13 = true
  shw : p.showable = true
  hd : p.hasDict = false
structure ShL (d : List D) (p : List PyData) : Prop where
  py : toPyL d = some p
  lay : PyData.canLayAll0 p = true
  dep : PyData.depthAll p = depL d
  wt : PyData.weightAll p ≤ wtL d
  sh : PyData.intsShortAll 13 p = true
  shw : PyData.showableAll p = true
  hd : PyData.hasDictAll p = false
theorem int_short {i : Int} (h1 : -1000000000000 < i) (h2 : i < 1000000000000) : (PyData.shown (.int i)).length ≤ 13 := by
  simp only [PyData.shown]
  by_cases h : 0 ≤ i
  · have q := PyProof.Rows.toString_length_le (v := i) h (k := 12) (by decide) (by show i < 10 ^ 12; omega)
    omega
  · have hn : i < 0 := by omega
    have q := PyProof.Rows.toString_length_le (v := 0 - i) (by omega) (k := 12) (by decide) (by show 0 - i < 10 ^ 12; omega)
    rw [PyProof.Rows.toString_neg hn, PyProof.Rows.ofString_len, String.length_append]
    rw [PyProof.Rows.ofString_len] at q
    have e : ("-" : String).length = 1 := rfl
    omega
theorem log_small {n : Nat} (h : n < 1000000000000) : n.log2 < 63 := by
  by_cases h0 : n = 0
  · subst h0; decide
  · have := Nat.log2_self_le h0
    exact Nat.lt_of_not_le fun q => by
      have : 2 ^ 63 ≤ 2 ^ n.log2 := Nat.pow_le_pow_right (by decide) q
      have e : (2 : Nat) ^ 63 = 9223372036854775808 := by decide
      omega
mutual
theorem D.sh : ∀ d : D, d.sim = true → Sh d d.py
  | .non, _ => ⟨rfl, by simp [D.py, PyData.canLay0], by simp [D.py, PyData.depth, D.dep], by simp [D.py, PyData.weight], by simp [D.py, PyData.intsShort], by simp [D.py, PyData.showable], by simp [D.py, PyData.hasDict]⟩
  | .bl _, _ => ⟨rfl, by simp [D.py, PyData.canLay0], by simp [D.py, PyData.depth, D.dep], by simp [D.py, PyData.weight], by simp [D.py, PyData.intsShort], by simp [D.py, PyData.showable], by simp [D.py, PyData.hasDict]⟩
  | .int i, h => by
    have h' : -1000000000000 < i ∧ i < 1000000000000 := by simpa [D.sim] using h
    have lg := log_small (n := i.natAbs) (by omega)
    refine ⟨rfl, by simp [D.py, PyData.canLay0], by simp [D.py, PyData.depth, D.dep], ?_, ?_, ?_, by simp [D.py, PyData.hasDict]⟩
    · simp only [D.py, PyData.weight, D.wt]
      split <;> omega
    · simp only [D.py, PyData.intsShort]
      exact decide_eq_true (int_short h'.1 h'.2)
    · simp only [D.py, PyData.showable]
      exact decide_eq_true (by omega)
  | .str x, h => by
    have h' : PyData.strOk x = true := by simpa [D.sim] using h
    exact ⟨rfl, by simpa [D.py, PyData.canLay0] using h', by simp [D.py, PyData.depth, D.dep], by simp [D.py, PyData.weight, D.wt], by simp [D.py, PyData.intsShort], by simp [D.py, PyData.showable], by simp [D.py, PyData.hasDict]⟩
  | .tup ds, h => by
    have q := simL_sh ds (by simpa [D.sim] using h)
    exact ⟨by simp [toPy, q.py, D.py], by simpa [D.py, PyData.canLay0] using q.lay, by simp [D.py, PyData.depth, D.dep, q.dep], by simpa [D.py, PyData.weight, D.wt] using q.wt, by simpa [D.py, PyData.intsShort] using q.sh, by simpa [D.py, PyData.showable] using q.shw, by simpa [D.py, PyData.hasDict] using q.hd⟩
  | .lst ds, h => by
    have q := simL_sh ds (by simpa [D.sim] using h)
    exact ⟨by simp [toPy, q.py, D.py], by simpa [D.py, PyData.canLay0] using q.lay, by simp [D.py, PyData.depth, D.dep, q.dep], by simpa [D.py, PyData.weight, D.wt] using q.wt, by simpa [D.py, PyData.intsShort] using q.sh, by simpa [D.py, PyData.showable] using q.shw, by simpa [D.py, PyData.hasDict] using q.hd⟩
  | .ty _, h => by simp [D.sim] at h
  | .cls _, h => by simp [D.sim] at h
  | .scr _, h => by simp [D.sim] at h
  | .dic _, h => by simp [D.sim] at h
  | .ins _ _, h => by simp [D.sim] at h
  | .oid _, h => by simp [D.sim] at h
  | .exc _ _, h => by simp [D.sim] at h
theorem simL_sh : ∀ ds : List D, simL ds = true → ShL ds (pyL ds)
  | [], _ => ⟨rfl, by simp [pyL, PyData.canLayAll0], by simp [pyL, PyData.depthAll, depL], by simp [pyL, PyData.weightAll], by simp [pyL, PyData.intsShortAll], by simp [pyL, PyData.showableAll], by simp [pyL, PyData.hasDictAll]⟩
  | d :: ds, h => by
    have h' : d.sim = true ∧ simL ds = true := by simpa [simL] using h
    have a := D.sh d h'.1
    have b := simL_sh ds h'.2
    have bw := b.wt
    have aw := a.wt
    exact ⟨by simp [toPyL, a.py, b.py, pyL], by simp [pyL, PyData.canLayAll0, a.lay, b.lay], by simp [pyL, PyData.depthAll, depL, a.dep, b.dep], by simp only [pyL, PyData.weightAll, wtL]; omega, by simp [pyL, PyData.intsShortAll, a.sh, b.sh], by simp [pyL, PyData.showableAll, a.shw, b.shw], by simp [pyL, PyData.hasDictAll, a.hd, b.hd]⟩
end
theorem toPy_pyOf {d : D} {p : PyData} (S : Store) (h : toPy d = some p) : pyOf S d = some p := by
  cases d <;> first
    | exact h
    | (simp [toPy] at h)
theorem pyOf_sim {d : D} (S : Store) (h : d.sim = true) : pyOf S d = some d.py := toPy_pyOf S (D.sh d h).py
/-- data that is small enough is shown, wherever -/
theorem repr_D {d : D} (h : d.sim = true) (hd : d.dep ≤ 50) (hw : d.wt ≤ 1048576) (S : Store) : gRepr [d] S = .ok (.str d.py.shown) S := by
  have q := D.sh d h
  have e : (2 : Nat) ^ 20 = 1048576 := by decide
  have lay : PyData.layable0 d.py = true := by
    unfold PyData.layable0
    rw [Bool.and_eq_true, Bool.and_eq_true, e]
    have := q.dep
    have := q.wt
    exact ⟨⟨q.lay, decide_eq_true (by omega)⟩, decide_eq_true (by omega)⟩
  have l := PyProof.Rows.shown_le13 lay q.sh
  have s : (15728653 : Nat) ≤ sizeLine := by decide
  have := q.dep
  simp only [gRepr, pyOf_sim S h]
  rw [if_pos ⟨q.shw, q.hd, by omega, by omega⟩]
/-! ### data that is equal -/
mutual
theorem eqv_refl : ∀ p : PyData, p.hasDict = false → p.eqv p = true
  | .none, _ => by simp [PyData.eqv]
  | .bool _, _ => by simp [PyData.eqv]
  | .int _, _ => by simp [PyData.eqv]
  | .str _, _ => by simp [PyData.eqv]
  | .list xs, h => by
    simp only [PyData.eqv]
    exact eqvAll_refl xs (by simpa [PyData.hasDict] using h)
  | .tuple xs, h => by
    simp only [PyData.eqv]
    exact eqvAll_refl xs (by simpa [PyData.hasDict] using h)
  | .dict _, h => by simp [PyData.hasDict] at h
theorem eqvAll_refl : ∀ p : List PyData, PyData.hasDictAll p = false → PyData.eqvAll p p = true
  | [], _ => by simp [PyData.eqvAll]
  | x :: xs, h => by
    have h' : x.hasDict = false ∧ PyData.hasDictAll xs = false := by simpa [PyData.hasDictAll] using h
    simp only [PyData.eqvAll, eqv_refl x h'.1, eqvAll_refl xs h'.2]
    rfl
end
mutual
/-- no truths in it -/
def D.nb : D → Bool
  | .bl _ => false
  | .tup ds => nbL ds
  | .lst ds => nbL ds
  | _ => true
def nbL : List D → Bool
  | [] => true
  | d :: ds => d.nb && nbL ds
end
mutual
theorem eqv_eq : ∀ d e : D, d.sim = true → e.sim = true → d.nb = true → e.nb = true → d.py.eqv e.py = true → d = e
  | .non, e, _, h, _, n, q => by cases e <;> simp_all [D.sim, D.nb, D.py, PyData.eqv]
  | .int i, e, _, h, _, n, q => by cases e <;> simp_all [D.sim, D.nb, D.py, PyData.eqv]
  | .str i, e, _, h, _, n, q => by cases e <;> simp_all [D.sim, D.nb, D.py, PyData.eqv]
  | .tup ds, e, hd, h, hn, n, q => by
    cases e with
    | tup es =>
      simp only [D.sim, D.nb, D.py, PyData.eqv] at hd h hn n q
      rw [eqvL_eq ds es hd h hn n q]
    | _ => simp_all [D.sim, D.nb, D.py, PyData.eqv]
  | .lst ds, e, hd, h, hn, n, q => by
    cases e with
    | lst es =>
      simp only [D.sim, D.nb, D.py, PyData.eqv] at hd h hn n q
      rw [eqvL_eq ds es hd h hn n q]
    | _ => simp_all [D.sim, D.nb, D.py, PyData.eqv]
  | .bl _, _, _, _, h, _, _ => by simp [D.nb] at h
  | .ty _, _, h, _, _, _, _ => by simp [D.sim] at h
  | .cls _, _, h, _, _, _, _ => by simp [D.sim] at h
  | .scr _, _, h, _, _, _, _ => by simp [D.sim] at h
  | .dic _, _, h, _, _, _, _ => by simp [D.sim] at h
  | .ins _ _, _, h, _, _, _, _ => by simp [D.sim] at h
  | .exc _ _, _, h, _, _, _, _ => by simp [D.sim] at h
  | .oid _, _, h, _, _, _, _ => by simp [D.sim] at h
theorem eqvL_eq : ∀ ds es : List D, simL ds = true → simL es = true → nbL ds = true → nbL es = true → PyData.eqvAll (pyL ds) (pyL es) = true → ds = es
  | [], [], _, _, _, _, _ => rfl
  | [], _ :: _, _, _, _, _, q => by simp [pyL, PyData.eqvAll] at q
  | _ :: _, [], _, _, _, _, q => by simp [pyL, PyData.eqvAll] at q
  | d :: ds, e :: es, hd, h, hn, n, q => by
    simp only [simL, nbL, pyL, PyData.eqvAll, Bool.and_eq_true] at hd h hn n q
    rw [eqv_eq d e hd.1 h.1 hn.1 n.1 q.1, eqvL_eq ds es hd.2 h.2 hn.2 n.2 q.2]
end
theorem shaped_D {d : D} (h : d.sim = true) (hd : d.dep ≤ 60) : SeqAt.shaped d.py = true := by
  have q := D.sh d h
  have := q.dep
  unfold SeqAt.shaped
  rw [q.lay]
  simp
  omega
theorem scal_D {d e : D} (h : scalD d e = true) : eqS d e = d.py.eqv e.py := by
  cases d <;> cases e <;> simp_all [scalD, eqS, D.py, PyData.eqv] <;> rfl
theorem eq_D {d e : D} (h1 : d.sim = true) (h2 : e.sim = true) (d1 : d.dep ≤ 60) (d2 : e.dep ≤ 60) (S : Store) : gEq d e S = .ok (.bl (d.py.eqv e.py)) S := by
  unfold gEq
  by_cases h : scalD d e = true
  · rw [if_pos (show pScal d e S = true from h)]
    simp only [gEqS, h, if_true, scal_D h, Bool.false_eq_true, if_false]
  · rw [if_neg (show ¬ pScal d e S = true from h)]
    simp only [gEqD, pyOf_sim S h1, pyOf_sim S h2, shaped_D h1 d1, shaped_D h2 d2]
    rfl
theorem eq_self {d : D} (h1 : d.sim = true) (d1 : d.dep ≤ 60) (S : Store) : gEq d d S = .ok (.bl true) S := by rw [eq_D h1 h1 d1 d1, eqv_refl _ (D.sh d h1).hd]
def seqD : D → Store → Res ItD := fun d S => match d with
  | .tup ds => .ok ⟨ds, none⟩ S
  | .lst ds => .ok ⟨ds, none⟩ S
  | .scr ds => .ok ⟨ds, none⟩ S
  | d => match asL S d with
    | some ds => .ok ⟨ds, some (d, ds)⟩ S
    | none => .stuck
@[simp] theorem e_fSeq (fe : FE) (ρ : EnvD) (S : Store) : fSeq fe ρ S = (fe ρ S).bind seqD := rfl
@[simp] theorem e_seqD_t (ds : List D) (S : Store) : seqD (.tup ds) S = .ok ⟨ds, none⟩ S := rfl
@[simp] theorem e_seqD_l (ds : List D) (S : Store) : seqD (.lst ds) S = .ok ⟨ds, none⟩ S := rfl
@[simp] theorem e_seqD_s (ds : List D) (S : Store) : seqD (.scr ds) S = .ok ⟨ds, none⟩ S := rfl
def enumC : List D → Store → Res ItD := fun ds S => match ds with
  | [.lst ds] => .ok ⟨enumD 0 ds, none⟩ S
  | [d] => match asL S d with
    | some ds => .ok ⟨enumD 0 ds, some (d, ds)⟩ S
    | none => .stuck
  | _ => .stuck
@[simp] theorem e_fEnum (fr : FA) (ρ : EnvD) (S : Store) : fEnum fr ρ S = (fr ρ S).bind enumC := rfl
@[simp] theorem e_enumC_l (ds : List D) (S : Store) : enumC [.lst ds] S = .ok ⟨enumD 0 ds, none⟩ S := rfl
@[simp] theorem e_gAug (i : Nat) (fe : FE) (g : G2) (ρ : EnvD) (S : Store) : gAug i fe g ρ S = match ρ[i]? with
  | some (some x) => (fe ρ S).into ρ fun y S => (g x y S).into ρ fun z S => .nx (ρ.set i (some z)) S
  | _ => .stuck := rfl
@[simp] theorem e_gIp (f : Int → Int → Int) (i j : Int) (S : Store) : gIp f (.int i) (.int j) S = .ok (.int (f i j)) S := rfl
theorem e_addl (xs ys : List D) (S : Store) (h : short (xs.length + ys.length) = true) : gAdd (.lst xs) (.lst ys) S = .ok (.lst (xs ++ ys)) S := by
  simp [gAdd, isI, isS, isT, gAddL, asLt, h]
theorem simL_all {ds : List D} : simL ds = true ↔ ∀ d ∈ ds, d.sim = true := by
  induction ds with
  | nil => simp [simL]
  | cons d ds ih => simp [simL, ih]
theorem depL_le {n : Nat} {ds : List D} : depL ds ≤ n ↔ ∀ d ∈ ds, d.dep ≤ n := by
  induction ds with
  | nil => simp [depL]
  | cons d ds ih => simp [depL, ← ih, Nat.max_le]
theorem wtL_le {n : Nat} {ds : List D} (h : ∀ d ∈ ds, d.wt ≤ n) : wtL ds ≤ (n + 1) * ds.length := by
  induction ds with
  | nil => simp [wtL]
  | cons d ds ih =>
    have h1 := h d List.mem_cons_self
    have h2 := ih fun e he => h e (List.mem_cons_of_mem _ he)
    simp only [wtL, List.length_cons, Nat.mul_add, Nat.mul_one]
    omega
end DL

/-! Plain laws of dict displays, dicts of numbers, the least of a list. -/
namespace DL
open PySem L2
section
variable {ρ : EnvD} {S : Store}
@[simp] theorem e_fDisp (fp : FP) : fDisp fp ρ S = (fp ρ (S ++ [.dic []])).bind fun ps S' => dispAt S.length ps S' := rfl
@[simp] theorem e_fPs0 : fPs0 ρ S = .ok [] S := rfl
@[simp] theorem e_fPs (fk fv : FE) (fr : FP) : fPs fk fv fr ρ S = (fk ρ S).bind fun x S => (fv ρ S).bind fun y S => (fr ρ S).bind fun ps S => .ok ((x, y) :: ps) S := rfl
end
@[simp] theorem e_fGet2 {ρ : EnvD} {S : Store} (fo fe ff : FE) : fGet2 fo fe ff ρ S = (fo ρ S).bind fun x S => if (asD S x).isSome then (fe ρ S).bind fun y S => (ff ρ S).bind fun z S => gGet x y z S else .stuck := rfl
@[simp] theorem e_fGet1 {ρ : EnvD} {S : Store} (fo fe : FE) : fGet1 fo fe ρ S = (fo ρ S).bind fun x S => if (asD S x).isSome then (fe ρ S).bind fun y S => gGet x y .non S else .stuck := rfl
end DL

/-! Houses: how one lies; what it is asked first. -/
namespace K03
open PySem L2 DL
theorem app_h {S : Store} {n : Nat} {xs : List D} {x : D} (h : S[n]? = some (.lst xs)) (hl : xs.length ≤ 10000) : gApp (.oid n) [x] S = .ok .non (S.set n (.lst (xs ++ [x]))) := by
  have : (10000 : Nat) < sizeLine := by decide
  have hl' : xs.length < sizeLine := by omega
  simp [gApp, h, hl']
theorem map_injH {α β : Type} {f : α → β} (hf : ∀ a b, f a = f b → a = b) : ∀ {l m : List α}, l.map f = m.map f → l = m
  | [], [], _ => rfl
  | [], _ :: _, h => by simp at h
  | _ :: _, [], h => by simp at h
  | x :: l, y :: m, h => by
    simp only [List.map_cons, List.cons.injEq] at h
    rw [hf x y h.1, map_injH hf h.2]
@[simp] theorem str_inj {a b : String} : (Str.ofString a = Str.ofString b) ↔ a = b := by
  constructor
  · intro h
    rw [Str.ofString_eq_toList, Str.ofString_eq_toList] at h
    have h1 : a.toList.map Char.toNat = b.toList.map Char.toNat := by simpa using h
    have h2 := map_injH (fun x y e => by
      have : x.val.toNat = y.val.toNat := e
      exact Char.ext (UInt32.toNat_inj.mp this)) h1
    exact String.toList_inj.mp h2
  · rintro rfl
    rfl
theorem set_selfH {S : Store} {i : Nat} {o : SO} (h : S[i]? = some o) : S.set i o = S := by
  apply List.ext_getElem?
  intro j
  by_cases e : i = j
  · subst e
    rw [List.getElem?_set_self (List.getElem?_eq_some_iff.mp h).1, h]
  · rw [List.getElem?_set_ne e]
/-- a house: its names, its things, the due ones -/
structure Hm where
  nm : List (Str × Vl)
  th : List Ce
  wa : List Nat
def ntD (l : List Nat) : List D := l.map fun (n : Nat) => D.int n
def nmD (nm : List (Str × Vl)) : List (Key × D) := nm.map fun q => (.inr q.1, dV q.2)
def hfl (H : Hm) (a b : Nat) (t u : Int) : List (Str × D) := [("named", .dic (nmD H.nm)), ("things", .lst (H.th.map dC)), ("waits", .lst (ntD H.wa)), ("stands", .oid a), ("elder", .oid b), ("tried", .int t), ("tried_out", .int u)]
structure HAt (S : Store) (h a b : Nat) (st el : List D) (t u : Int) (H : Hm) : Prop where
  ins : S[h]? = some (.ins "House" (hfl H a b t u))
  st : S[a]? = some (.lst st)
  el : S[b]? = some (.lst el)
  ha : h ≠ a
  hb : h ≠ b
  ab : a ≠ b
section
variable (H : Hm) (a b : Nat) (t u : Int)
theorem hk1 : (("things" : Str) == "named") = false := by decide +kernel
theorem hk2 : (("waits" : Str) == "named") = false := by decide +kernel
theorem hk3 : (("waits" : Str) == "things") = false := by decide +kernel
theorem hk4 : (("stands" : Str) == "named") = false := by decide +kernel
theorem hk5 : (("stands" : Str) == "things") = false := by decide +kernel
theorem hk6 : (("stands" : Str) == "waits") = false := by decide +kernel
theorem hk7 : (("elder" : Str) == "named") = false := by decide +kernel
theorem hk8 : (("elder" : Str) == "things") = false := by decide +kernel
theorem hk9 : (("elder" : Str) == "waits") = false := by decide +kernel
theorem hk10 : (("elder" : Str) == "stands") = false := by decide +kernel
theorem lh_named : (hfl H a b t u).lookup ("named" : Str) = some (.dic (nmD H.nm)) := by simp [hfl, List.lookup]
theorem lh_things : (hfl H a b t u).lookup ("things" : Str) = some (.lst (H.th.map dC)) := by simp [hfl, List.lookup, hk1]
theorem lh_waits : (hfl H a b t u).lookup ("waits" : Str) = some (.lst (ntD H.wa)) := by simp [hfl, List.lookup, hk2, hk3]
theorem lh_stands : (hfl H a b t u).lookup ("stands" : Str) = some (.oid a) := by simp [hfl, List.lookup, hk4, hk5, hk6]
theorem lh_elder : (hfl H a b t u).lookup ("elder" : Str) = some (.oid b) := by simp [hfl, List.lookup, hk7, hk8, hk9, hk10]
def hNo (m : Str) : Bool := !(m == "named") && !(m == "things") && !(m == "waits") && !(m == "stands") && !(m == "elder") && !(m == "tried") && !(m == "tried_out")
theorem lh_no {m : Str} (h : hNo m = true) : (hfl H a b t u).lookup m = none := by
  simp only [hNo, Bool.and_eq_true, Bool.not_eq_true'] at h
  obtain ⟨⟨⟨⟨⟨⟨h1, h2⟩, h3⟩, h4⟩, h5⟩, h6⟩, h7⟩ := h
  simp [hfl, List.lookup, h1, h2, h3, h4, h5, h6, h7]
theorem hm_need : (hfl H a b t u).lookup ("need" : Str) = none := lh_no H a b t u (by decide +kernel)
theorem hm_keep : (hfl H a b t u).lookup ("keep" : Str) = none := lh_no H a b t u (by decide +kernel)
theorem hm_wn : (hfl H a b t u).lookup ("with_name" : Str) = none := lh_no H a b t u (by decide +kernel)
theorem hm_ti : (hfl H a b t u).lookup ("thing_in" : Str) = none := lh_no H a b t u (by decide +kernel)
theorem hm_fi : (hfl H a b t u).lookup ("field_in" : Str) = none := lh_no H a b t u (by decide +kernel)
theorem hm_number : (hfl H a b t u).lookup ("number" : Str) = none := lh_no H a b t u (by decide +kernel)
theorem hm_nothing : (hfl H a b t u).lookup ("nothing" : Str) = none := lh_no H a b t u (by decide +kernel)
theorem hm_hold : (hfl H a b t u).lookup ("hold" : Str) = none := lh_no H a b t u (by decide +kernel)
theorem hm_cell : (hfl H a b t u).lookup ("cell" : Str) = none := lh_no H a b t u (by decide +kernel)
theorem hm_tie : (hfl H a b t u).lookup ("tie" : Str) = none := lh_no H a b t u (by decide +kernel)
theorem hm_get : (hfl H a b t u).lookup ("get" : Str) = none := lh_no H a b t u (by decide +kernel)
theorem hm_put : (hfl H a b t u).lookup ("put" : Str) = none := lh_no H a b t u (by decide +kernel)
theorem hm_follow : (hfl H a b t u).lookup ("follow" : Str) = none := lh_no H a b t u (by decide +kernel)
theorem hm_drop : (hfl H a b t u).lookup ("drop" : Str) = none := lh_no H a b t u (by decide +kernel)
theorem hm_names : (hfl H a b t u).lookup ("names" : Str) = none := lh_no H a b t u (by decide +kernel)
theorem hm_value : (hfl H a b t u).lookup ("value" : Str) = none := lh_no H a b t u (by decide +kernel)
theorem hm_same : (hfl H a b t u).lookup ("same" : Str) = none := lh_no H a b t u (by decide +kernel)
end
section
variable {S : Store} {h a b : Nat} {st el : List D} {t u : Int} {H : Hm}
theorem HAt.asI (A : HAt S h a b st el t u H) : DL.asI S (.oid h) = some (("House" : Str), hfl H a b t u) := by simp [DL.asI, A.ins]
theorem HAt.frame {S' : Store} (A : HAt S h a b st el t u H) (k : ∀ i, i = h ∨ i = a ∨ i = b → S'[i]? = S[i]?) : HAt S' h a b st el t u H := ⟨by rw [k _ (.inl rfl)]; exact A.ins, by rw [k _ (.inr (.inl rfl))]; exact A.st, by rw [k _ (.inr (.inr rfl))]; exact A.el, A.ha, A.hb, A.ab⟩
theorem HAt.lt (A : HAt S h a b st el t u H) : h < S.length ∧ a < S.length ∧ b < S.length := ⟨(List.getElem?_eq_some_iff.mp A.ins).1, (List.getElem?_eq_some_iff.mp A.st).1, (List.getElem?_eq_some_iff.mp A.el).1⟩
theorem HAt.ext (A : HAt S h a b st el t u H) (T : Store) : HAt (S ++ T) h a b st el t u H := A.frame fun i hi => List.getElem?_append_left (by have := A.lt; rcases hi with rfl | rfl | rfl <;> omega)
end
/-! ### names -/
/-- the value of a name -/
def vOf (nm : List (Str × Vl)) (x : Str) : Option Vl := (nm.find? fun q => decide (q.1 = x)).map (·.2)
def inN (nm : List (Str × Vl)) (x : Str) : Bool := (vOf nm x).isSome
def putN (nm : List (Str × Vl)) (x : Str) (v : Vl) : List (Str × Vl) := if (nm.any fun q => decide (q.1 = x)) = true then nm.map (fun q => if q.1 = x then (q.1, v) else q) else nm ++ [(x, v)]
def dropN (nm : List (Str × Vl)) (x : Str) : List (Str × Vl) := nm.filter fun q => decide (q.1 ≠ x)
theorem inr_eq (x y : Str) : ((Sum.inr x : Key) = .inr y) ↔ x = y := ⟨fun h => by injection h, fun h => by rw [h]⟩
theorem val_nm (nm : List (Str × Vl)) (x : Str) : valD (nmD nm) (.inr x) = (vOf nm x).map dV := by
  unfold valD nmD vOf
  induction nm with
  | nil => rfl
  | cons q r ih =>
    rw [List.map_cons, List.find?_cons, List.find?_cons]
    by_cases e : q.1 = x
    · simp [e]
    · have e' : ¬ ((Sum.inr q.1 : Key) = .inr x) := fun z => e ((inr_eq _ _).mp z)
      simp only [e, e', decide_false]
      exact ih
theorem put_nm (nm : List (Str × Vl)) (x : Str) (v : Vl) : putKD (nmD nm) (.inr x) (dV v) = nmD (putN nm x v) := by
  have ea : ((nmD nm).any fun q => decide (q.1 = .inr x)) = nm.any fun q => decide (q.1 = x) := by
    unfold nmD
    rw [List.any_map]
    congr 1
    funext q
    simp only [Function.comp, inr_eq]
  unfold putKD putN
  rw [ea]
  split
  · unfold nmD
    rw [List.map_map, List.map_map]
    apply List.map_congr_left
    intro q _
    simp only [Function.comp, inr_eq]
    split <;> simp
  · simp [nmD]
theorem drop_nm (nm : List (Str × Vl)) (x : Str) : dropD (nmD nm) (.inr x) = nmD (dropN nm x) := by
  unfold dropD nmD dropN
  rw [List.filter_map]
  congr 1
  congr 1
  funext q
  simp only [Function.comp, ne_eq, inr_eq]
theorem val_nm0 (nm : List (Str × Vl)) (x : Str) : valD0 (nmD nm) (.inr x) = (vOf nm x).map dV := val_nm nm x
theorem strk_nm (nm : List (Str × Vl)) : strKs (nmD nm) = true := by
  unfold strKs nmD
  rw [List.all_map]
  exact List.all_eq_true.mpr fun q _ => rfl
theorem keys_nm (nm : List (Str × Vl)) : keysS (nmD nm) = some (nm.map (·.1)) := by
  unfold nmD
  induction nm with
  | nil => rfl
  | cons q r ih =>
    rw [List.map_cons]
    unfold keysS
    rw [ih]
    rfl
theorem putN_len (nm : List (Str × Vl)) (x : Str) (v : Vl) : (putN nm x v).length ≤ nm.length + 1 ∧ nm.length ≤ (putN nm x v).length := by
  unfold putN
  split
  · simp
  · simp
theorem dropN_len (nm : List (Str × Vl)) (x : Str) : (dropN nm x).length ≤ nm.length := List.length_filter_le _ _
theorem vOf_put (nm : List (Str × Vl)) (x : Str) (v : Vl) {z : Str × Vl} (h : z ∈ putN nm x v) : z ∈ nm ∨ z = (x, v) := by
  unfold putN at h
  split at h
  · obtain ⟨q, hq, e⟩ := List.mem_map.mp h
    split at e
    · rename_i hx
      right
      rw [← e, hx]
    · left
      rw [← e]
      exact hq
  · rcases List.mem_append.mp h with h | h
    · exact .inl h
    · exact .inr (List.mem_singleton.mp h)
theorem vOf_mem {nm : List (Str × Vl)} {x : Str} {v : Vl} (h : vOf nm x = some v) : (x, v) ∈ nm := by
  obtain ⟨q, hq, e⟩ := Option.map_eq_some_iff.mp h
  have h1 := List.mem_of_find?_eq_some hq
  have h2 := List.find?_some hq
  have h2 : q.1 = x := by simpa using h2
  rw [← h2, ← e]
  exact h1
section
variable {S : Store} {nm : List (Str × Vl)}
theorem ix_nm {x : Str} {v : Vl} (h : vOf nm x = some v) : gIx (.dic (nmD nm)) (.str x) S = .ok (dV v) S := by
  have e : valD (nmD nm) (.inr x) = some (dV v) := by rw [val_nm, h]; rfl
  simp [gIx, pDic1, asD, gIxD, keyD, e]
theorem notin_nm (x : Str) : gNotIn (.str x) (.dic (nmD nm)) S = .ok (.bl (!inN nm x)) S := by
  simp [gNotIn, pDic, asD, gInD, keyD, val_nm, inN]
theorem len_nm : gLen [.dic (nmD nm)] S = .ok (.int nm.length) S := by
  simp [gLen, isDic1, gLenD, asD, nmD]
end
end K03

/-! Houses: names asked; a deed kept. -/
namespace K03
open PySem L2 DL
/-- a name: one to eight small letters -/
def Nm (x : Str) : Prop := 1 ≤ x.length ∧ x.length ≤ 8 ∧ ∀ c ∈ x.cps.toList, 97 ≤ c ∧ c ≤ 122
theorem smalls (c : Nat) (h : 97 ≤ c ∧ c ≤ 122) : c ∈ ("abcdefghijklmnopqrstuvwxyz" : Str).cps.toList := by
  have e : ("abcdefghijklmnopqrstuvwxyz" : Str).cps.toList = [97, 98, 99, 100, 101, 102, 103, 104, 105, 106, 107, 108, 109, 110, 111, 112, 113, 114, 115, 116, 117, 118, 119, 120, 121, 122] := by decide +kernel
  rw [e]
  simp only [List.mem_cons, List.not_mem_nil, or_false]
  omega
theorem in_small {c : Nat} (h : 97 ≤ c ∧ c ≤ 122) (S : Store) : gInC false (.str ⟨#[c]⟩) (.str "abcdefghijklmnopqrstuvwxyz") S = .ok (.bl true) S := by
  have e : decide (c ∈ ("abcdefghijklmnopqrstuvwxyz" : Str).cps.toList) = true := decide_eq_true (smalls c h)
  rw [← e]
  simp [gInC]
theorem len_str {x : Str} (h : x.length ≤ 1000000) (S : Store) : gLen [.str x] S = .ok (.int x.length) S := by
  simp [gLen, isDic1, isStr1, gLenS, asD, short_le h]
theorem name_ok {x : Str} (h : Nm x) (S : Store) : callSub S_is_name [.str x] S = .ok (.bl true) S := by
  refine callSub_ok (S' := []) (by rfl) ?_ rfl
  obtain ⟨h1, h2, h3⟩ := h
  have ln := len_str (x := x) (by omega) []
  have lc : x.cps.toList.length = x.length := by simp [Str.length]
  have cm : compF none (mName 1) fYes (fBin (gInC false) (fVar 1) (fC (.str "abcdefghijklmnopqrstuvwxyz"))) (signs x) [some (.str x), none] [] = .ok ((signs x).map fun _ => D.bl true) [] := by
    rw [comp_map (f := fun _ => D.bl true)]
    intro d hd
    obtain ⟨c, hc, rfl⟩ := List.mem_map.mp hd
    exact ⟨_, rfl, by simp [in_small (h3 c hc)]⟩
  have sh : short (signs x).length = true := short_le (by unfold signs; rw [List.length_map, lc]; omega)
  have al := e_all_true ([] : Store) (signs x)
  unfold S_is_name m_is_name
  have c1 : (1 : Int) ≤ (x.length : Int) := by omega
  have c2 : (x.length : Int) ≤ 8 := by omega
  simp [List.replicate, tyS, isiT, ln, c1, c2, fSigns, signC]
  erw [cm]
  simp [finL, sh, al]
section
variable {S : Store} {h a b : Nat} {st el : List D} {t u : Int} {H : Hm}
/-- what is asked ahead of a deed -/
def need1 (H : Hm) : List Str → Option Str
  | [] => none
  | y :: r => if inN H.nm y then need1 H r else some y
def needX (H : Hm) (ys : List Str) (nw : Option Str) : Option (Str × List (Str × D)) := match need1 H ys with
  | some y => some ("NoName", [("name", .str y)])
  | none => match nw with
    | some x => if !inN H.nm x && decide (H.nm.length = 40) then some ("TooMany", []) else none
    | none => none
def sTs (xs : List Str) : List D := xs.map D.str
def dNw : Option Str → D
  | some x => .str x
  | none => .non
noncomputable abbrev nb1 : FS := (gIf (fNotT (toB (fCall (callSub S_is_name) (fun ds es => pick [(0, 0)] ds es []) 1 0 1 (fCons (fVar 4) (fun _ S => .ok [] S)) (fun _ S => .ok [] S)))) (gRaiX "BadName" ["name"] (fCons (fVar 4) (fun _ S => .ok [] S))) gNil)
noncomputable abbrev nb2 : FS := (gIf (toB (fBin gNotIn (fVar 4) (fFld ["House"] "named" (fVar 0)))) (gRaiX "NoName" ["name"] (fCons (fVar 4) (fun _ S => .ok [] S))) gNil)
noncomputable abbrev nb3 : FS := (gIf (fAndT (toB (fBin gIsNot (fVar 3) (fC .non))) (fAndT (toB (fBin gNotIn (fVar 3) (fFld ["House"] "named" (fVar 0)))) (toB (fBin gEq (fCB gLen (fCons (fFld ["House"] "named" (fVar 0)) (fun _ S => .ok [] S))) (fC (.int (40))))))) (fun ρ S => .ex "TooMany" [] ρ S) gNil)
theorem loop_names (S : Store) : ∀ (xs : List Str) (x0 x1 x2 x3 x4 : Option D), (∀ x ∈ xs, Nm x) → ∃ y, loopF none (mName 4) nb1 (sTs xs) [x0, x1, x2, x3, x4] S = .nx [x0, x1, x2, x3, y] S
  | [], x0, x1, x2, x3, x4, _ => ⟨x4, by unfold sTs loopF; simp [okC]⟩
  | x :: xs, x0, x1, x2, x3, x4, h => by
    obtain ⟨y, e⟩ := loop_names S xs x0 x1 x2 x3 (some (.str x)) fun z hz => h z (List.mem_cons_of_mem _ hz)
    have n := name_ok (h x List.mem_cons_self) S
    refine ⟨y, ?_⟩
    unfold sTs at e ⊢
    rw [List.map_cons]
    unfold loopF
    have m : mName 4 (.str x) [x0, x1, x2, x3, x4] S = some [x0, x1, x2, x3, some (.str x)] := rfl
    have b1 : nb1 [x0, x1, x2, x3, some (.str x)] S = .nx [x0, x1, x2, x3, some (.str x)] S := by
      unfold nb1
      simp [n]
    simp only [okC, if_true, m, b1]
    exact e
theorem loop_there (A : HAt S h a b st el t u H) : ∀ (ys : List Str) (x1 x2 x3 x4 : Option D), match need1 H ys with
    | some y => ∃ ρ, loopF none (mName 4) nb2 (sTs ys) [some (.oid h), x1, x2, x3, x4] S = .ex "NoName" [("name", .str y)] ρ S
    | none => ∃ z, loopF none (mName 4) nb2 (sTs ys) [some (.oid h), x1, x2, x3, x4] S = .nx [some (.oid h), x1, x2, x3, z] S
  | [], x1, x2, x3, x4 => ⟨x4, by unfold sTs loopF; simp [okC]⟩
  | y :: ys, x1, x2, x3, x4 => by
    have ih := loop_there A ys x1 x2 x3 (some (.str y))
    have ni := notin_nm (S := S) (nm := H.nm) y
    have m : mName 4 (.str y) [some (.oid h), x1, x2, x3, x4] S = some [some (.oid h), x1, x2, x3, some (.str y)] := rfl
    unfold need1
    by_cases e : inN H.nm y = true
    · rw [if_pos e]
      rw [e] at ni
      have b1 : nb2 [some (.oid h), x1, x2, x3, some (.str y)] S = .nx [some (.oid h), x1, x2, x3, some (.str y)] S := by
        unfold nb2
        simp [A.asI, lh_named, ni]
      have step : loopF none (mName 4) nb2 (sTs (y :: ys)) [some (.oid h), x1, x2, x3, x4] S = loopF none (mName 4) nb2 (sTs ys) [some (.oid h), x1, x2, x3, some (.str y)] S := by
        unfold sTs
        rw [List.map_cons]
        conv => lhs; unfold loopF
        simp only [okC, if_true, m, b1]
      rw [step]
      exact ih
    · rw [if_neg e]
      have e' : inN H.nm y = false := by simpa using e
      rw [e'] at ni
      refine ⟨[some (.oid h), x1, x2, x3, some (.str y)], ?_⟩
      have b1 : nb2 [some (.oid h), x1, x2, x3, some (.str y)] S = .ex "NoName" [("name", .str y)] [some (.oid h), x1, x2, x3, some (.str y)] S := by
        unfold nb2
        simp [A.asI, lh_named, ni, gRaiX]
      unfold sTs
      rw [List.map_cons]
      unfold loopF
      simp only [okC, if_true, m, b1]
/-- the asking -/
theorem need_ok (A : HAt S h a b st el t u H) {xs ys : List Str} (hx : ∀ x ∈ xs, Nm x) {dy : D} (hy : dy = .lst (sTs ys) ∨ dy = .tup (sTs ys)) (nw : Option Str) :
    S_House_need [.oid h, .lst (sTs xs), dy, dNw nw] S = match needX H ys nw with
      | some (w, fs) => .ex w fs S
      | none => .ok .non S := by
  obtain ⟨y4, l1⟩ := loop_names S xs (some (.oid h)) (some (.lst (sTs xs))) (some dy) (some (dNw nw)) none hx
  have l2 := loop_there A ys (some (.lst (sTs xs))) (some dy) (some (dNw nw)) y4
  have sq : seqD dy S = .ok ⟨sTs ys, none⟩ S := by rcases hy with rfl | rfl <;> simp
  have v1 : gFor (fSeq (fVar 1)) (mName 4) nb1 [some (.oid h), some (.lst (sTs xs)), some dy, some (dNw nw), none] S = .nx [some (.oid h), some (.lst (sTs xs)), some dy, some (dNw nw), y4] S := by
    rw [e_gFor, e_fSeq]
    simp only [e_fVar, List.getElem?_cons_succ, List.getElem?_cons_zero, Res.bind_ok, e_seqD_l, Res.into_ok]
    exact l1
  have st0 : S_House_need [.oid h, .lst (sTs xs), dy, dNw nw] S = (gSeq (gFor (fSeq (fVar 1)) (mName 4) nb1) (gSeq (gFor (fSeq (fVar 2)) (mName 4) nb2) nb3) [some (.oid h), some (.lst (sTs xs)), some dy, some (dNw nw), none] S).res := rfl
  have v2 : ∀ k : FS, (gSeq (gFor (fSeq (fVar 2)) (mName 4) nb2) k) [some (.oid h), some (.lst (sTs xs)), some dy, some (dNw nw), y4] S = (loopF none (mName 4) nb2 (sTs ys) [some (.oid h), some (.lst (sTs xs)), some dy, some (dNw nw), y4] S).seq k := fun k => by
    rw [e_gSeq, e_gFor, e_fSeq]
    simp only [e_fVar, List.getElem?_cons_succ, List.getElem?_cons_zero, Res.bind_ok, sq, Res.into_ok]
  rw [st0, e_gSeq, v1, Out.seq_nx, v2]
  unfold needX
  cases hn : need1 H ys with
  | some y =>
    rw [hn] at l2
    obtain ⟨ρ, e⟩ := l2
    rw [e]
    rfl
  | none =>
    rw [hn] at l2
    obtain ⟨z, e⟩ := l2
    rw [e, Out.seq_nx]
    cases nw with
    | none =>
      have n0 : D.isNon .non = true := rfl
      unfold nb3 dNw
      simp [gIsNot, n0]
    | some x =>
      have n0 : ∀ x, D.isNon (.str x) = false := fun _ => rfl
      have ni := notin_nm (S := S) (nm := H.nm) x
      have ln := len_nm (S := S) (nm := H.nm)
      have eq40 : ∀ n : Nat, gEq (.int (n : Int)) (.int 40) S = .ok (.bl (decide (n = 40))) S := fun n => by
        have : decide ((n : Int) = 40) = decide (n = 40) := decide_eq_decide.mpr (by omega)
        simp [this]
      unfold nb3 dNw
      by_cases e1 : inN H.nm x = true
      · rw [e1] at ni
        simp [gIsNot, n0, A.asI, lh_named, ni, e1]
      · have e1' : inN H.nm x = false := by simpa using e1
        rw [e1'] at ni
        by_cases e2 : H.nm.length = 40
        · simp [gIsNot, n0, A.asI, lh_named, ni, ln, eq40, e1', e2]
        · simp [gIsNot, n0, A.asI, lh_named, ni, ln, eq40, e1', e2]
/-! ### a deed kept -/
def dN? : Option (List (Str × Vl)) → D
  | some nm => .dic (nmD nm)
  | none => .non
def dT? : Option (List Ce) → D
  | some th => .lst (th.map dC)
  | none => .non
def dW? : Option (List Nat) → D
  | some wa => .lst (ntD wa)
  | none => .non
def Hm.upd (H : Hm) (n : Option (List (Str × Vl))) (th : Option (List Ce)) (w : Option (List Nat)) : Hm := ⟨n.getD H.nm, th.getD H.th, w.getD H.wa⟩
def dH (H : Hm) : D := .tup [.dic (nmD H.nm), .lst (H.th.map dC), .lst (ntD H.wa)]
theorem keep_ok (A : HAt S h a b st el t u H) (ls : st.length ≤ 10000) (le : el.length ≤ 10000) (d : D) (n : Option (List (Str × Vl))) (th : Option (List Ce)) (w : Option (List Nat)) :
    ∃ S', S_House_keep [.oid h, d, dN? n, dT? th, dW? w] S = .ok .non S' ∧ HAt S' h a b (st ++ [d]) (el ++ [dH H]) t u (H.upd n th w) ∧ S'.length = S.length ∧ ∀ i, i ≠ h → i ≠ a → i ≠ b → S'[i]? = S[i]? := by
  have s3 : short 3 = true := short_le (by omega)
  have ha := A.ha
  have hb := A.hb
  have ab := A.ab
  obtain ⟨S1, hS1⟩ : ∃ S1, S1 = S.set b (.lst (el ++ [dH H])) := ⟨_, rfl⟩
  have ap1 := app_h (x := dH H) A.el le
  rw [← hS1] at ap1
  have i1 : S1[h]? = some (.ins "House" (hfl H a b t u)) := by rw [hS1, List.getElem?_set_ne (Ne.symm hb)]; exact A.ins
  have a1 : S1[a]? = some (.lst st) := by rw [hS1, List.getElem?_set_ne (Ne.symm ab)]; exact A.st
  have b1 : S1[b]? = some (.lst (el ++ [dH H])) := by rw [hS1, List.getElem?_set_self (A.lt).2.2]
  obtain ⟨S2, hS2⟩ : ∃ S2, S2 = S1.set a (.lst (st ++ [d])) := ⟨_, rfl⟩
  have ap2 := app_h (x := d) a1 ls
  rw [← hS2] at ap2
  have lt2 : h < S2.length := by rw [hS2, hS1, List.length_set, List.length_set]; exact A.lt.1
  have i2 : S2[h]? = some (.ins "House" (hfl H a b t u)) := by rw [hS2, List.getElem?_set_ne (Ne.symm ha)]; exact i1
  have a2 : S2[a]? = some (.lst (st ++ [d])) := by rw [hS2, List.getElem?_set_self (by rw [hS1, List.length_set]; exact A.lt.2.1)]
  have b2 : S2[b]? = some (.lst (el ++ [dH H])) := by rw [hS2, List.getElem?_set_ne ab]; exact b1
  have n0 : D.isNon .non = true := rfl
  have nd : ∀ ks, D.isNon (.dic ks) = false := fun _ => rfl
  have nl : ∀ ks, D.isNon (.lst ks) = false := fun _ => rfl
  have stp : ∀ (H' : Hm) (S3 : Store), S3[h]? = some (.ins "House" (hfl H a b t u)) → True := fun _ _ _ => trivial
  -- the three fields
  obtain ⟨H3, hH3⟩ : ∃ H3 : Hm, H3 = ⟨n.getD H.nm, H.th, H.wa⟩ := ⟨_, rfl⟩
  obtain ⟨H4, hH4⟩ : ∃ H4 : Hm, H4 = ⟨n.getD H.nm, th.getD H.th, H.wa⟩ := ⟨_, rfl⟩
  have p1 : ∀ nm', putFD "named" (.dic (nmD nm')) (hfl H a b t u) = hfl ⟨nm', H.th, H.wa⟩ a b t u := fun nm' => by simp [hfl, putFD]
  have p2 : ∀ (H : Hm) th', putFD "things" (.lst (th'.map dC)) (hfl H a b t u) = hfl ⟨H.nm, th', H.wa⟩ a b t u := fun H th' => by simp [hfl, putFD]
  have p3 : ∀ (H : Hm) w', putFD "waits" (.lst (ntD w')) (hfl H a b t u) = hfl ⟨H.nm, H.th, w'⟩ a b t u := fun H w' => by simp [hfl, putFD]
  have fl : ∀ H : Hm, (hfl H a b t u).length = 7 := fun _ => rfl
  have v3 : ∀ x2 x3 : Option D, (gIf (toB (fBin gIsNot (fVar 2) (fC .non))) (gFld ["House"] "named" (fVar 0) (fVar 2)) gNil) [some (.oid h), some d, some (dN? n), x2, x3] S2 = .nx [some (.oid h), some d, some (dN? n), x2, x3] (S2.set h (.ins "House" (hfl H3 a b t u))) := fun x2 x3 => by
    cases n with
    | none =>
      have : S2.set h (.ins "House" (hfl H3 a b t u)) = S2 := by rw [hH3]; exact set_selfH i2
      rw [this]
      unfold dN?
      simp [gIsNot, n0]
    | some nm' =>
      unfold dN?
      simp [gIsNot, nd, i2, fl, p1, hH3]
  have i3 : (S2.set h (.ins "House" (hfl H3 a b t u)))[h]? = some (.ins "House" (hfl H3 a b t u)) := List.getElem?_set_self lt2
  have v4 : ∀ x2 x3 : Option D, (gIf (toB (fBin gIsNot (fVar 3) (fC .non))) (gFld ["House"] "things" (fVar 0) (fVar 3)) gNil) [some (.oid h), some d, x2, some (dT? th), x3] (S2.set h (.ins "House" (hfl H3 a b t u))) = .nx [some (.oid h), some d, x2, some (dT? th), x3] (S2.set h (.ins "House" (hfl H4 a b t u))) := fun x2 x3 => by
    cases th with
    | none =>
      have : H4 = H3 := by rw [hH4, hH3]; rfl
      rw [this]
      unfold dT?
      simp [gIsNot, n0]
    | some th' =>
      unfold dT?
      rw [hH3] at i3
      simp [gIsNot, nl, i3, fl, p2, hH4, hH3, List.set_set]
  have i4 : (S2.set h (.ins "House" (hfl H4 a b t u)))[h]? = some (.ins "House" (hfl H4 a b t u)) := List.getElem?_set_self lt2
  have v5 : ∀ x2 x3 : Option D, (gIf (toB (fBin gIsNot (fVar 4) (fC .non))) (gFld ["House"] "waits" (fVar 0) (fVar 4)) gNil) [some (.oid h), some d, x2, x3, some (dW? w)] (S2.set h (.ins "House" (hfl H4 a b t u))) = .nx [some (.oid h), some d, x2, x3, some (dW? w)] (S2.set h (.ins "House" (hfl (H.upd n th w) a b t u))) := fun x2 x3 => by
    cases w with
    | none =>
      have : H.upd n th none = H4 := by rw [hH4]; rfl
      rw [this]
      unfold dW?
      simp [gIsNot, n0]
    | some w' =>
      unfold dW?
      rw [hH4] at i4
      simp [gIsNot, nl, i4, fl, p3, hH4, Hm.upd, List.set_set]
  refine ⟨S2.set h (.ins "House" (hfl (H.upd n th w) a b t u)), ?_, ⟨List.getElem?_set_self lt2, by rw [List.getElem?_set_ne ha]; exact a2, by rw [List.getElem?_set_ne hb]; exact b2, ha, hb, ab⟩, by rw [List.length_set, hS2, List.length_set, hS1, List.length_set], fun i h1 h2 h3 => ?_⟩
  · have as0 := A.asI
    have as1 : DL.asI S1 (.oid h) = some (("House" : Str), hfl H a b t u) := by simp [DL.asI, i1]
    have ty1 : tyS S (.oid b) = some "list" := by simp [tyS, A.el]
    have ty2 : tyS S1 (.oid a) = some "list" := by simp [tyS, a1]
    have w1 : (gExpr (fBM "list" gApp (fFld ["House"] "elder" (fVar 0)) (fCons (fTup (fCons (fFld ["House"] "named" (fVar 0)) (fCons (fFld ["House"] "things" (fVar 0)) (fCons (fFld ["House"] "waits" (fVar 0)) (fun _ S => .ok [] S))))) (fun _ S => .ok [] S)))) [some (.oid h), some d, some (dN? n), some (dT? th), some (dW? w)] S = .nx [some (.oid h), some d, some (dN? n), some (dT? th), some (dW? w)] S1 := by
      have ap1' : gApp (.oid b) [.tup [.dic (nmD H.nm), .lst (H.th.map dC), .lst (ntD H.wa)]] S = .ok .non S1 := ap1
      simp [as0, lh_elder, lh_named, lh_things, lh_waits, ty1, s3, ap1']
    have w2 : (gExpr (fBM "list" gApp (fFld ["House"] "stands" (fVar 0)) (fCons (fVar 1) (fun _ S => .ok [] S)))) [some (.oid h), some d, some (dN? n), some (dT? th), some (dW? w)] S1 = .nx [some (.oid h), some d, some (dN? n), some (dT? th), some (dW? w)] S2 := by
      simp [as1, lh_stands, ty2, ap2]
    unfold S_House_keep m_House_keep
    rw [e_semOf, e_startD]
    simp only [List.map_cons, List.map_nil, List.length_cons, List.length_nil, Nat.zero_add, Nat.reduceAdd, Nat.sub_self, List.replicate_zero, List.append_nil]
    rw [e_gSeq, w1, Out.seq_nx, e_gSeq, w2, Out.seq_nx, e_gSeq, v3, Out.seq_nx, e_gSeq, v4, Out.seq_nx, v5]
    rfl
  · rw [List.getElem?_set_ne (Ne.symm h1), hS2, List.getElem?_set_ne (Ne.symm h2), hS1, List.getElem?_set_ne (Ne.symm h3)]
/-- a name with a value -/
theorem wn_ok (A : HAt S h a b st el t u H) (hl : H.nm.length ≤ 1000) (x : Str) (v : Vl) : S_House_with_name [.oid h, .str x, dV v] S = .ok (.dic (nmD (putN H.nm x v))) (S ++ [.frz (.dic (nmD (putN H.nm x v)))]) := by
  have big : (1000 : Nat) < sizeLine := by decide
  have dc : gDictC [.dic (nmD H.nm)] S = .ok (.oid S.length) (S ++ [.dic (nmD H.nm)]) := by simp [gDictC, asD]
  have g : (S ++ [SO.dic (nmD H.nm)])[S.length]? = some (.dic (nmD H.nm)) := by simp
  have sa : storeAt (.oid S.length) (.str x) (dV v) (S ++ [.dic (nmD H.nm)]) = some (S ++ [.dic (nmD (putN H.nm x v))]) := by
    have l1 : (nmD H.nm).length < sizeLine := by unfold nmD; rw [List.length_map]; omega
    simp only [storeAt, g, keyD, put_nm]
    rw [if_pos l1]
    simp
  have g2 : (S ++ [SO.dic (nmD (putN H.nm x v))])[S.length]? = some (.dic (nmD (putN H.nm x v))) := by simp
  unfold S_House_with_name m_House_with_name
  simp [List.replicate, A.asI, lh_named, dc, sa, fFrz, g2]
end
end K03

/-! Houses: things asked; deeds. -/
namespace K03
open PySem L2 DL
def srt : Ce → Str
  | .flds l _ => sortOf l
  | .tie _ => "tie"
def isHold : Ce → Bool
  | .flds _ _ => true
  | .tie _ => false
def isTieC : Ce → Bool
  | .flds _ _ => false
  | .tie _ => true
def anyC : Ce → Bool := fun _ => true
structure Hm.ok (H : Hm) : Prop where
  nm : ∀ q ∈ H.nm, okV H.th.length q.2
  th : ∀ c ∈ H.th, okC' H.th.length c
  wa : ∀ n ∈ H.wa, n < H.th.length
def Hm.thing (H : Hm) (P : Ce → Bool) (x : Str) : Option Nat := match vOf H.nm x with
  | some (.at_ n) => (match H.th[n]? with
    | some c => if P c then some n else none
    | none => none)
  | _ => none
theorem inF_hold (c : Ce) : inF (.str (srt c)) [.str "cell", .str "last"] = isHold c := by
  cases c with
  | flds l vs =>
    cases l
    · show inF (.str "cell") [.str "cell", .str "last"] = true
      decide +kernel
    · show inF (.str "last") [.str "cell", .str "last"] = true
      decide +kernel
  | tie t =>
    show inF (.str "tie") [.str "cell", .str "last"] = false
    decide +kernel
theorem inF_tie (c : Ce) : inF (.str (srt c)) [.str "tie"] = isTieC c := by
  cases c with
  | flds l vs =>
    cases l
    · show inF (.str "cell") [.str "tie"] = false
      decide +kernel
    · show inF (.str "last") [.str "tie"] = false
      decide +kernel
  | tie t =>
    show inF (.str "tie") [.str "tie"] = true
    decide +kernel
theorem inF_any (c : Ce) : inF (.str (srt c)) [.str "cell", .str "last", .str "tie"] = anyC c := by
  cases c with
  | flds l vs =>
    cases l
    · show inF (.str "cell") [.str "cell", .str "last", .str "tie"] = true
      decide +kernel
    · show inF (.str "last") [.str "cell", .str "last", .str "tie"] = true
      decide +kernel
  | tie t =>
    show inF (.str "tie") [.str "cell", .str "last", .str "tie"] = true
    decide +kernel
theorem dC_head (c : Ce) : ∃ e, dC c = .tup [.str (srt c), e] := by
  cases c with
  | flds l vs => exact ⟨_, rfl⟩
  | tie t => exact ⟨_, rfl⟩
section
variable {S : Store} {h a b : Nat} {st el : List D} {t u : Int} {H : Hm}
theorem ix_th {n : Nat} {c : Ce} (hc : H.th[n]? = some c) : gIx (.lst (H.th.map dC)) (.int n) S = .ok (dC c) S := by
  have hl := (List.getElem?_eq_some_iff.mp hc).1
  rw [e_ix_l, at_nat _ _ (by simpa using hl), List.getElem?_map, hc]
  rfl
theorem thing_ok (A : HAt S h a b st el t u H) (ok : H.ok) {x : Str} {v : Vl} (hv : vOf H.nm x = some v) {P : Ce → Bool} {zs : List D} (hP : ∀ c, inF (.str (srt c)) zs = P c) (hz : zs.all D.flat = true) :
    S_House_thing_in [.oid h, .str x, .tup zs] S = match H.thing P x with
      | some n => .ok (.int n) S
      | none => .ex "NoCell" [] S := by
  have ix := ix_nm (S := S) hv
  unfold S_House_thing_in m_House_thing_in Hm.thing
  rw [hv]
  cases v with
  | non => simp [List.replicate, A.asI, lh_named, ix, dV, tyS, isiT]
  | num i => simp [List.replicate, A.asI, lh_named, ix, dV, tyS, isiT]
  | at_ n =>
    have hn : n < H.th.length := ok.nm _ (vOf_mem hv)
    obtain ⟨c, hc⟩ : ∃ c, H.th[n]? = some c := ⟨_, List.getElem?_eq_getElem hn⟩
    have it := ix_th (S := S) hc
    obtain ⟨e, he⟩ := dC_head c
    rw [he] at it
    have q : gInQ true (.str (srt c)) (.tup zs) S = .ok (.bl (!P c)) S := by
      simp [gInQ, asQ, hz, hP, D.flat]
    simp only [hc]
    by_cases hp : P c = true
    · rw [hp] at q
      simp [List.replicate, A.asI, lh_named, lh_things, ix, dV, tyS, isiT, it, q, hp]
    · have hp' : P c = false := by simpa using hp
      rw [hp'] at q
      simp [List.replicate, A.asI, lh_named, lh_things, ix, dV, tyS, isiT, it, q, hp']
theorem thing_hold (A : HAt S h a b st el t u H) (ok : H.ok) {x : Str} {v : Vl} (hv : vOf H.nm x = some v) : S_House_thing_in [.oid h, .str x, .tup [.str "cell", .str "last"]] S = match H.thing isHold x with
      | some n => .ok (.int n) S
      | none => .ex "NoCell" [] S := thing_ok A ok hv inF_hold rfl
theorem thing_tie (A : HAt S h a b st el t u H) (ok : H.ok) {x : Str} {v : Vl} (hv : vOf H.nm x = some v) : S_House_thing_in [.oid h, .str x, .tup [.str "tie"]] S = match H.thing isTieC x with
      | some n => .ok (.int n) S
      | none => .ex "NoCell" [] S := thing_ok A ok hv inF_tie rfl
theorem thing_any (A : HAt S h a b st el t u H) (ok : H.ok) {x : Str} {v : Vl} (hv : vOf H.nm x = some v) : S_House_thing_in [.oid h, .str x, .tup [.str "cell", .str "last", .str "tie"]] S = match H.thing anyC x with
      | some n => .ok (.int n) S
      | none => .ex "NoCell" [] S := thing_ok A ok hv inF_any rfl
theorem thing_some {P : Ce → Bool} {x : Str} {n : Nat} (h : H.thing P x = some n) : vOf H.nm x = some (.at_ n) ∧ ∃ c, H.th[n]? = some c ∧ P c = true := by
  unfold Hm.thing at h
  split at h
  · rename_i m hv
    split at h
    · rename_i c hc
      split at h
      · rename_i hp
        cases h
        exact ⟨hv, c, hc, hp⟩
      · cases h
    · cases h
  · cases h
/-- the number of the cell that a name has, with that field; else the word of the refusal -/
def Hm.field (H : Hm) (x : Str) (k : Int) : Nat ⊕ Str := match H.thing isHold x with
  | none => .inr "NoCell"
  | some n => match H.th[n]? with
    | some (.flds _ vs) => if 0 ≤ k ∧ k < vs.length then .inl n else .inr "NoField"
    | _ => .inr "NoCell"
theorem whole_q (i a b : Int) (S : Store) : callSub S_is_whole [.int i, .int a, .int b] S = .ok (.bl (decide (a ≤ i) && decide (i ≤ b))) S := callSub_ok (S' := []) (by rfl) (whole_int i a b []) (by rfl)
theorem number_q (i : Int) (S : Store) : callSub S_is_number [.int i] S = .ok (.bl (decide (-1000000000 ≤ i) && decide (i ≤ 1000000000))) S := callSub_ok (S' := []) (by rfl) (number_int i []) (by rfl)
theorem field_ok (A : HAt S h a b st el t u H) (ok : H.ok) {x : Str} {v : Vl} (hv : vOf H.nm x = some v) (k : Int) :
    S_House_field_in [.oid h, .str x, .int k] S = match H.field x k with
      | .inl n => .ok (.int n) S
      | .inr w => .ex w [] S := by
  have th := thing_hold A ok hv
  unfold S_House_field_in m_House_field_in Hm.field
  cases ht : H.thing isHold x with
  | none =>
    rw [ht] at th
    simp [List.replicate, A.asI, hm_ti, th]
  | some n =>
    rw [ht] at th
    obtain ⟨_, c, hc, hp⟩ := thing_some ht
    simp only [hc]
    cases c with
    | tie q => cases hp
    | flds l vs =>
      have it := ix_th (S := S) hc
      have it : gIx (.lst (H.th.map dC)) (.int n) S = .ok (.tup [.str (sortOf l), .tup (vs.map dV)]) S := it
      have wq := whole_q k 0 ((vs.length : Int) - 1) S
      by_cases hk : 0 ≤ k ∧ k < vs.length
      · have e : (decide (0 ≤ k) && decide (k ≤ (vs.length : Int) - 1)) = true := by
          rw [Bool.and_eq_true, decide_eq_true_eq, decide_eq_true_eq]
          omega
        rw [e] at wq
        simp [List.replicate, A.asI, hm_ti, th, lh_things, it, wq, hk]
      · have e : (decide (0 ≤ k) && decide (k ≤ (vs.length : Int) - 1)) = false := by
          rw [Bool.and_eq_false_iff, decide_eq_false_iff_not, decide_eq_false_iff_not]
          omega
        rw [e] at wq
        simp only [hk, if_false]
        simp [List.replicate, A.asI, hm_ti, th, lh_things, it, wq]
theorem field_some {x : Str} {k : Int} {n : Nat} (h : H.field x k = .inl n) : vOf H.nm x = some (.at_ n) ∧ ∃ l vs, H.th[n]? = some (.flds l vs) ∧ 0 ≤ k ∧ k < vs.length := by
  unfold Hm.field at h
  split at h
  · cases h
  · rename_i m ht
    obtain ⟨hv, _⟩ := thing_some ht
    split at h
    · rename_i l vs hc
      split at h
      · rename_i hk
        cases h
        exact ⟨hv, l, vs, hc, hk.1, hk.2⟩
      · cases h
    · cases h
end
end K03

/-! Houses: deeds. -/
namespace K03
open PySem L2 DL
/-- deeds -/
inductive Dd where
  | number (x : Str) (i : Int) | nothing (x : Str) | hold (x y : Str) | cell (x : Str) (m : Nat) (l : Bool) | tie (x y : Str) | get (x y : Str) (k : Nat) | put (y : Str) (k : Nat) (x : Str) | follow (x y : Str) | drop (x : Str)
def dDd : Dd → D
  | .number x i => .tup [.str "number", .str x, .int i]
  | .nothing x => .tup [.str "nothing", .str x]
  | .hold x y => .tup [.str "hold", .str x, .str y]
  | .cell x m l => .tup [.str "cell", .str x, .int m, .bl l]
  | .tie x y => .tup [.str "tie", .str x, .str y]
  | .get x y k => .tup [.str "get", .str x, .str y, .int k]
  | .put y k x => .tup [.str "put", .str y, .int k, .str x]
  | .follow x y => .tup [.str "follow", .str x, .str y]
  | .drop x => .tup [.str "drop", .str x]
def goalV (H : Hm) (n : Nat) : Vl := match H.th[n]? with
  | some (.tie (some g)) => .at_ g
  | _ => .non
def fldV (H : Hm) (n k : Nat) : Vl := match H.th[n]? with
  | some (.flds _ vs) => vs.getD k .non
  | _ => .non
def putC (H : Hm) (n k : Nat) (v : Vl) : List Ce := match H.th[n]? with
  | some (.flds l vs) => H.th.set n (.flds l (vs.set k v))
  | _ => H.th
abbrev RX := Option (Str × List (Str × D))
/-- the refusal that is due -/
def Hm.no (H : Hm) : Dd → RX
  | .number x i => (needX H [] (some x)).or (if -1000000000 ≤ i ∧ i ≤ 1000000000 then none else some ("BadNumber", []))
  | .nothing x => needX H [] (some x)
  | .hold x y => needX H [y] (some x)
  | .cell x m _ => (needX H [] (some x)).or (if m ≤ 6 then none else some ("NoField", []))
  | .tie x y => (needX H [y] (some x)).or (match H.thing anyC y with | some _ => none | none => some ("NoCell", []))
  | .get x y k => (needX H [y] (some x)).or (match H.field y k with | .inl _ => none | .inr w => some (w, []))
  | .put y k x => (needX H [y, x] none).or (match H.field y k with | .inl _ => none | .inr w => some (w, []))
  | .follow x y => (needX H [y] (some x)).or (match H.thing isTieC y with | some _ => none | none => some ("NoCell", []))
  | .drop x => needX H [x] none
/-- what is made of it -/
def Hm.act (H : Hm) : Dd → Hm
  | .number x i => H.upd (some (putN H.nm x (.num i))) none none
  | .nothing x => H.upd (some (putN H.nm x .non)) none none
  | .hold x y => H.upd (some (putN H.nm x ((vOf H.nm y).getD .non))) none none
  | .cell x m l => H.upd (some (putN H.nm x (.at_ H.th.length))) (some (H.th ++ [.flds l (List.replicate m .non)])) none
  | .tie x y => H.upd (some (putN H.nm x (.at_ H.th.length))) (some (H.th ++ [.tie (H.thing anyC y)])) none
  | .get x y k => H.upd (some (putN H.nm x (match H.field y k with | .inl n => fldV H n k | .inr _ => .non))) none none
  | .put y k x => H.upd none (some (match H.field y k with | .inl n => putC H n k ((vOf H.nm x).getD .non) | .inr _ => H.th)) none
  | .follow x y => H.upd (some (putN H.nm x (match H.thing isTieC y with | some n => goalV H n | none => .non))) none none
  | .drop x => H.upd (some (dropN H.nm x)) none none
/-- a house goes on: its own places changed, all else as it was -/
structure HGo (S : Store) (h a b : Nat) (st el : List D) (t u : Int) (H : Hm) (d : D) (S' : Store) (H' : Hm) : Prop where
  at_ : HAt S' h a b (st ++ [d]) (el ++ [dH H]) t u H'
  len : S.length ≤ S'.length
  keep : ∀ i, i < S.length → i ≠ h → i ≠ a → i ≠ b → S'[i]? = S[i]?
structure Bnd (st el : List D) (H : Hm) : Prop where
  st : st.length ≤ 1000
  el : el.length ≤ 1000
  nm : H.nm.length ≤ 60
  th : H.th.length ≤ 1000
section
variable {S : Store} {h a b : Nat} {st el : List D} {t u : Int} {H : Hm}
theorem kept_n (A : HAt S h a b st el t u H) (B : Bnd st el H) (d : D) (x : Str) (v : Vl) (th : Option (List Ce)) :
    ∃ S', S_House_with_name [.oid h, .str x, dV v] S = .ok (.dic (nmD (putN H.nm x v))) (S ++ [.frz (.dic (nmD (putN H.nm x v)))]) ∧ S_House_keep [.oid h, d, .dic (nmD (putN H.nm x v)), dT? th, .non] (S ++ [.frz (.dic (nmD (putN H.nm x v)))]) = .ok .non S' ∧ HGo S h a b st el t u H d S' (H.upd (some (putN H.nm x v)) th none) := by
  have w := wn_ok A (by have := B.nm; omega) x v
  have A1 := A.ext [.frz (.dic (nmD (putN H.nm x v)))]
  obtain ⟨S', e, A', l, k⟩ := keep_ok A1 (by have := B.st; omega) (by have := B.el; omega) d (some (putN H.nm x v)) th none
  refine ⟨S', w, e, A', by rw [l]; simp, fun i hi h1 h2 h3 => ?_⟩
  rw [k i h1 h2 h3, List.getElem?_append_left hi]
theorem kept_o (A : HAt S h a b st el t u H) (B : Bnd st el H) (d : D) (n : Option (List (Str × Vl))) (th : Option (List Ce)) :
    ∃ S', S_House_keep [.oid h, d, dN? n, dT? th, .non] S = .ok .non S' ∧ HGo S h a b st el t u H d S' (H.upd n th none) := by
  obtain ⟨S', e, A', l, k⟩ := keep_ok A (by have := B.st; omega) (by have := B.el; omega) d n th none
  exact ⟨S', e, A', by rw [l]; exact Nat.le_refl _, fun i hi h1 h2 h3 => k i h1 h2 h3⟩
/-- what a deed is to do -/
def DoneX (sem : Res D) (S : Store) (h a b : Nat) (st el : List D) (t u : Int) (H : Hm) (d : D) (no : RX) (H' : Hm) : Prop := match no with
  | some (w, fs) => sem = .ex w fs S
  | none => ∃ S', sem = .ok .non S' ∧ HGo S h a b st el t u H d S' H'
theorem doneX_ex {h' : Nat} {sem : Res D} {d : D} {no : RX} {H' : Hm} {w : Str} {fs : List (Str × D)} (e : sem = .ex w fs S) (h : no = some (w, fs)) : DoneX sem S h' a b st el t u H d no H' := by
  unfold DoneX
  rw [h]
  exact e
theorem doneX_ok {h' : Nat} {sem : Res D} {d : D} {no : RX} {H' : Hm} (h : no = none) (e : ∃ S', sem = .ok .non S' ∧ HGo S h' a b st el t u H d S' H') : DoneX sem S h' a b st el t u H d no H' := by
  unfold DoneX
  rw [h]
  exact e
theorem need_new (A : HAt S h a b st el t u H) {x : Str} (hx : Nm x) : S_House_need [.oid h, .lst [.str x], .tup [], .str x] S = match needX H [] (some x) with
    | some (w, fs) => .ex w fs S
    | none => .ok .non S := need_ok A (xs := [x]) (ys := []) (by simpa using hx) (.inr rfl) (some x)
theorem need_two (A : HAt S h a b st el t u H) {x y : Str} (hx : Nm x) (hy : Nm y) : S_House_need [.oid h, .lst [.str x, .str y], .lst [.str y], .str x] S = match needX H [y] (some x) with
    | some (w, fs) => .ex w fs S
    | none => .ok .non S := need_ok A (xs := [x, y]) (ys := [y]) (by intro z hz; simp only [List.mem_cons, List.not_mem_nil, or_false] at hz; rcases hz with rfl | rfl <;> assumption) (.inl rfl) (some x)
theorem need_put (A : HAt S h a b st el t u H) {x y : Str} (hx : Nm x) (hy : Nm y) : S_House_need [.oid h, .lst [.str y, .str x], .lst [.str y, .str x], .non] S = match needX H [y, x] none with
    | some (w, fs) => .ex w fs S
    | none => .ok .non S := need_ok A (xs := [y, x]) (ys := [y, x]) (by intro z hz; simp only [List.mem_cons, List.not_mem_nil, or_false] at hz; rcases hz with rfl | rfl <;> assumption) (.inl rfl) none
theorem need_there (A : HAt S h a b st el t u H) {x : Str} (hx : Nm x) : S_House_need [.oid h, .lst [.str x], .lst [.str x], .non] S = match needX H [x] none with
    | some (w, fs) => .ex w fs S
    | none => .ok .non S := need_ok A (xs := [x]) (ys := [x]) (by simpa using hx) (.inl rfl) none
/-- what is there by then -/
theorem there_of {ys : List Str} {nw : Option Str} (h : needX H ys nw = none) : ∀ y ∈ ys, ∃ v, vOf H.nm y = some v := by
  unfold needX at h
  split at h
  · cases h
  · rename_i hn
    have gen : ∀ ys : List Str, need1 H ys = none → ∀ y ∈ ys, ∃ v, vOf H.nm y = some v := by
      intro ys
      induction ys with
      | nil => intro _ y hy; cases hy
      | cons z r ih =>
        intro hn y hy
        unfold need1 at hn
        split at hn
        · rename_i hz
          rcases List.mem_cons.mp hy with rfl | hy
          · exact Option.isSome_iff_exists.mp hz
          · exact ih hn y hy
        · cases hn
    exact gen ys hn
theorem number_d (A : HAt S h a b st el t u H) (B : Bnd st el H) {x : Str} (hx : Nm x) (i : Int) : DoneX (S_House_number [.oid h, .str x, .int i] S) S h a b st el t u H (dDd (.number x i)) (H.no (.number x i)) (H.act (.number x i)) := by
  have s3 : short 3 = true := short_le (by omega)
  have s1 : short 1 = true := short_le (by omega)
  have n1 := need_new A hx
  have nq := number_q i S
  cases hn : needX H [] (some x) with
  | some q =>
    obtain ⟨w, fs⟩ := q
    rw [hn] at n1
    refine doneX_ex (w := w) (fs := fs) ?_ (by simp [Hm.no, hn])
    unfold S_House_number m_House_number
    simp [List.replicate, A.asI, hm_need, s1, n1]
  | none =>
    rw [hn] at n1
    by_cases hi : -1000000000 ≤ i ∧ i ≤ 1000000000
    · obtain ⟨S', w, e, G⟩ := kept_n A B (dDd (.number x i)) x (.num i) none
      have w : S_House_with_name [.oid h, .str x, .int i] S = _ := w
      have e : S_House_keep [.oid h, .tup [.str "number", .str x, .int i], .dic (nmD (putN H.nm x (.num i))), .non, .non] _ = _ := e
      refine doneX_ok (by simp [Hm.no, hn, hi]) ⟨S', ?_, G⟩
      unfold S_House_number m_House_number
      simp [List.replicate, A.asI, hm_need, s1, n1, nq, hi, hm_keep, hm_wn, s3, w, e]
    · have e0 : (decide (-1000000000 ≤ i) && decide (i ≤ 1000000000)) = false := by
        rw [Bool.and_eq_false_iff, decide_eq_false_iff_not, decide_eq_false_iff_not]
        omega
      rw [e0] at nq
      refine doneX_ex (w := "BadNumber") (fs := []) ?_ (by simp [Hm.no, hn, hi])
      unfold S_House_number m_House_number
      simp [List.replicate, A.asI, hm_need, s1, n1, nq]
theorem nothing_d (A : HAt S h a b st el t u H) (B : Bnd st el H) {x : Str} (hx : Nm x) : DoneX (S_House_nothing [.oid h, .str x] S) S h a b st el t u H (dDd (.nothing x)) (H.no (.nothing x)) (H.act (.nothing x)) := by
  have s2 : short 2 = true := short_le (by omega)
  have s1 : short 1 = true := short_le (by omega)
  have n1 := need_new A hx
  cases hn : needX H [] (some x) with
  | some q =>
    obtain ⟨w, fs⟩ := q
    rw [hn] at n1
    refine doneX_ex (w := w) (fs := fs) ?_ (by simp [Hm.no, hn])
    unfold S_House_nothing m_House_nothing
    simp [List.replicate, A.asI, hm_need, s1, n1]
  | none =>
    rw [hn] at n1
    obtain ⟨S', w, e, G⟩ := kept_n A B (dDd (.nothing x)) x .non none
    have w : S_House_with_name [.oid h, .str x, .non] S = _ := w
    have e : S_House_keep [.oid h, .tup [.str "nothing", .str x], .dic (nmD (putN H.nm x .non)), .non, .non] _ = _ := e
    refine doneX_ok (by simp [Hm.no, hn]) ⟨S', ?_, G⟩
    unfold S_House_nothing m_House_nothing
    simp [List.replicate, A.asI, hm_need, s1, n1, hm_keep, hm_wn, s2, w, e]
theorem hold_d (A : HAt S h a b st el t u H) (B : Bnd st el H) {x y : Str} (hx : Nm x) (hy : Nm y) : DoneX (S_House_hold [.oid h, .str x, .str y] S) S h a b st el t u H (dDd (.hold x y)) (H.no (.hold x y)) (H.act (.hold x y)) := by
  have s3 : short 3 = true := short_le (by omega)
  have s2 : short 2 = true := short_le (by omega)
  have s1 : short 1 = true := short_le (by omega)
  have n1 := need_two A hx hy
  cases hn : needX H [y] (some x) with
  | some q =>
    obtain ⟨w, fs⟩ := q
    rw [hn] at n1
    refine doneX_ex (w := w) (fs := fs) ?_ (by simp [Hm.no, hn])
    unfold S_House_hold m_House_hold
    simp [List.replicate, A.asI, hm_need, s1, s2, n1]
  | none =>
    rw [hn] at n1
    obtain ⟨v, hv⟩ := there_of hn y List.mem_cons_self
    have ix := ix_nm (S := S) hv
    obtain ⟨S', w, e, G⟩ := kept_n A B (dDd (.hold x y)) x v none
    have e : S_House_keep [.oid h, .tup [.str "hold", .str x, .str y], .dic (nmD (putN H.nm x v)), .non, .non] _ = _ := e
    refine doneX_ok (by simp [Hm.no, hn]) ⟨S', ?_, ?_⟩
    · unfold S_House_hold m_House_hold
      simp [List.replicate, A.asI, hm_need, s1, s2, n1, hm_keep, hm_wn, s3, lh_named, ix, w, e]
    · have ea : H.act (.hold x y) = H.upd (some (putN H.nm x v)) none none := by simp [Hm.act, hv]
      rw [ea]
      exact G
theorem cell_d (A : HAt S h a b st el t u H) (B : Bnd st el H) {x : Str} (hx : Nm x) (m : Nat) (hm : m ≤ 100) (l : Bool) : DoneX (S_House_cell [.oid h, .str x, .int m, .bl l] S) S h a b st el t u H (dDd (.cell x m l)) (H.no (.cell x m l)) (H.act (.cell x m l)) := by
  have s4 : short 4 = true := short_le (by omega)
  have s2 : short 2 = true := short_le (by omega)
  have s1 : short 1 = true := short_le (by omega)
  have n1 := need_new A hx
  have wq := whole_q m 0 6 S
  cases hn : needX H [] (some x) with
  | some q =>
    obtain ⟨w, fs⟩ := q
    rw [hn] at n1
    refine doneX_ex (w := w) (fs := fs) ?_ (by simp [Hm.no, hn])
    unfold S_House_cell m_House_cell
    simp [List.replicate, A.asI, hm_need, s1, n1]
  | none =>
    rw [hn] at n1
    by_cases h6 : m ≤ 6
    · have e1 : (decide ((0 : Int) ≤ m) && decide ((m : Int) ≤ 6)) = true := by
        rw [Bool.and_eq_true, decide_eq_true_eq, decide_eq_true_eq]
        omega
      rw [e1] at wq
      have rp : gRepT (.tup [.non]) (.int m) S = .ok (.tup ((List.replicate m Vl.non).map dV)) S := by
        have q : repD [D.non] (m : Int) = (List.replicate m Vl.non).map dV := by simp [repD, dV]
        have b1 : (0 : Int) ≤ m := by omega
        have b2 : (m : Int) ≤ 1000 := by omega
        simp only [gRepT, b1, b2, q]
        rw [if_pos (by simp)]
      have bb : gBoolB [.bl l] S = .ok (.bl l) S := rfl
      have ad : gAdd (.lst (H.th.map dC)) (.lst [.tup [.str (sortOf l), .tup ((List.replicate m Vl.non).map dV)]]) S = .ok (.lst ((H.th ++ [Ce.flds l (List.replicate m .non)]).map dC)) S := by
        rw [e_addl _ _ _ (short_le (by have := B.th; simp; omega)), List.map_append]
        rfl
      obtain ⟨S', w, e, G⟩ := kept_n A B (dDd (.cell x m l)) x (.at_ H.th.length) (some (H.th ++ [.flds l (List.replicate m .non)]))
      have w : S_House_with_name [.oid h, .str x, .tup [.str "at", .int H.th.length]] S = _ := w
      have e : S_House_keep [.oid h, .tup [.str "cell", .str x, .int m, .bl l], .dic (nmD (putN H.nm x (.at_ H.th.length))), .lst ((H.th ++ [Ce.flds l (List.replicate m .non)]).map dC), .non] _ = _ := e
      have hl : (H.th.map dC).length = H.th.length := by simp
      have lt := lh_things H a b t u
      refine doneX_ok (by simp [Hm.no, hn, h6]) ⟨S', ?_, G⟩
      generalize (List.replicate m Vl.non).map dV = vs at *
      generalize (H.th ++ [Ce.flds l (List.replicate m .non)]).map dC = ths at *
      generalize H.th.map dC = th0 at *
      unfold S_House_cell m_House_cell
      cases l with
      | true =>
        have ad : gAdd (.lst th0) (.lst [.tup [.str "last", .tup vs]]) S = .ok (.lst ths) S := ad
        simp [List.replicate, A.asI, hm_need, s1, n1, wq, hm_keep, hm_wn, s4, s2, bb, rp, lt, ad, hl, w, e]
      | false =>
        have ad : gAdd (.lst th0) (.lst [.tup [.str "cell", .tup vs]]) S = .ok (.lst ths) S := ad
        simp [List.replicate, A.asI, hm_need, s1, n1, wq, hm_keep, hm_wn, s4, s2, bb, rp, lt, ad, hl, w, e]
    · have e1 : (decide ((0 : Int) ≤ m) && decide ((m : Int) ≤ 6)) = false := by
        rw [Bool.and_eq_false_iff, decide_eq_false_iff_not, decide_eq_false_iff_not]
        omega
      rw [e1] at wq
      refine doneX_ex (w := "NoField") (fs := []) ?_ (by simp [Hm.no, hn, h6])
      unfold S_House_cell m_House_cell
      simp [List.replicate, A.asI, hm_need, s1, n1, wq]
end
end K03

/-! Houses: deeds, the rest. -/
namespace K03
open PySem L2 DL
section
variable {S : Store} {h a b : Nat} {st el : List D} {t u : Int} {H : Hm}
theorem tie_d (A : HAt S h a b st el t u H) (ok : H.ok) (B : Bnd st el H) {x y : Str} (hx : Nm x) (hy : Nm y) : DoneX (S_House_tie [.oid h, .str x, .str y] S) S h a b st el t u H (dDd (.tie x y)) (H.no (.tie x y)) (H.act (.tie x y)) := by
  have s3 : short 3 = true := short_le (by omega)
  have s2 : short 2 = true := short_le (by omega)
  have s1 : short 1 = true := short_le (by omega)
  have n1 := need_two A hx hy
  cases hn : needX H [y] (some x) with
  | some q =>
    obtain ⟨w, fs⟩ := q
    rw [hn] at n1
    refine doneX_ex (w := w) (fs := fs) ?_ (by simp [Hm.no, hn])
    unfold S_House_tie m_House_tie
    simp [List.replicate, A.asI, hm_need, s1, s2, n1]
  | none =>
    rw [hn] at n1
    obtain ⟨v, hv⟩ := there_of hn y List.mem_cons_self
    have th := thing_any A ok hv
    cases ht : H.thing anyC y with
    | none =>
      rw [ht] at th
      refine doneX_ex (w := "NoCell") (fs := []) ?_ (by simp [Hm.no, hn, ht])
      unfold S_House_tie m_House_tie
      simp [List.replicate, A.asI, hm_need, hm_ti, lh_things, s1, s2, s3, n1, th]
    | some n =>
      rw [ht] at th
      have lt := lh_things H a b t u
      have hl : (H.th.map dC).length = H.th.length := by simp
      have ad : gAdd (.lst (H.th.map dC)) (.lst [.tup [.str "tie", .int n]]) S = .ok (.lst ((H.th ++ [Ce.tie (some n)]).map dC)) S := by
        rw [e_addl _ _ _ (short_le (by have := B.th; simp; omega)), List.map_append]
        rfl
      obtain ⟨S', w, e, G⟩ := kept_n A B (dDd (.tie x y)) x (.at_ H.th.length) (some (H.th ++ [.tie (some n)]))
      have w : S_House_with_name [.oid h, .str x, .tup [.str "at", .int H.th.length]] S = _ := w
      have e : S_House_keep [.oid h, .tup [.str "tie", .str x, .str y], .dic (nmD (putN H.nm x (.at_ H.th.length))), .lst ((H.th ++ [Ce.tie (some n)]).map dC), .non] _ = _ := e
      refine doneX_ok (by simp [Hm.no, hn, ht]) ⟨S', ?_, ?_⟩
      · generalize (H.th ++ [Ce.tie (some n)]).map dC = ths at *
        generalize H.th.map dC = th0 at *
        unfold S_House_tie m_House_tie
        simp [List.replicate, A.asI, hm_need, hm_ti, hm_keep, hm_wn, s1, s2, s3, n1, th, lt, ad, hl, w, e]
      · have ea : H.act (.tie x y) = H.upd (some (putN H.nm x (.at_ H.th.length))) (some (H.th ++ [.tie (some n)])) none := by simp [Hm.act, ht]
        rw [ea]
        exact G
theorem get_d (A : HAt S h a b st el t u H) (ok : H.ok) (B : Bnd st el H) {x y : Str} (hx : Nm x) (hy : Nm y) (k : Nat) : DoneX (S_House_get [.oid h, .str x, .str y, .int k] S) S h a b st el t u H (dDd (.get x y k)) (H.no (.get x y k)) (H.act (.get x y k)) := by
  have s4 : short 4 = true := short_le (by omega)
  have s2 : short 2 = true := short_le (by omega)
  have s1 : short 1 = true := short_le (by omega)
  have n1 := need_two A hx hy
  cases hn : needX H [y] (some x) with
  | some q =>
    obtain ⟨w, fs⟩ := q
    rw [hn] at n1
    refine doneX_ex (w := w) (fs := fs) ?_ (by simp [Hm.no, hn])
    unfold S_House_get m_House_get
    simp [List.replicate, A.asI, hm_need, s1, s2, n1]
  | none =>
    rw [hn] at n1
    obtain ⟨v, hv⟩ := there_of hn y List.mem_cons_self
    have fi := field_ok A ok hv k
    cases hf : H.field y k with
    | inr w =>
      rw [hf] at fi
      refine doneX_ex (w := w) (fs := []) ?_ (by simp [Hm.no, hn, hf])
      unfold S_House_get m_House_get
      simp [List.replicate, A.asI, hm_need, hm_fi, lh_things, s1, s2, n1, fi]
    | inl n =>
      rw [hf] at fi
      obtain ⟨_, l, vs, hc, k0, kl⟩ := field_some hf
      have it := ix_th (S := S) hc
      have it : gIx (.lst (H.th.map dC)) (.int n) S = .ok (.tup [.str (sortOf l), .tup (vs.map dV)]) S := it
      have hk : k < vs.length := by omega
      have ik : gIx (.tup (vs.map dV)) (.int k) S = .ok (dV (vs.getD k .non)) S := by
        rw [e_ix_t, at_nat _ _ (by simpa using hk), List.getElem?_map, List.getD_eq_getElem?_getD, List.getElem?_eq_getElem hk]
        rfl
      obtain ⟨S', w, e, G⟩ := kept_n A B (dDd (.get x y k)) x (vs.getD k .non) none
      have e : S_House_keep [.oid h, .tup [.str "get", .str x, .str y, .int k], .dic (nmD (putN H.nm x (vs.getD k .non))), .non, .non] _ = _ := e
      refine doneX_ok (by simp [Hm.no, hn, hf]) ⟨S', ?_, ?_⟩
      · generalize vs.getD k .non = vk at *
        unfold S_House_get m_House_get
        simp [List.replicate, A.asI, hm_need, hm_fi, hm_keep, hm_wn, s1, s2, s4, n1, fi, lh_things, it, ik, w, e]
      · have ea : H.act (.get x y k) = H.upd (some (putN H.nm x (vs.getD k .non))) none none := by simp [Hm.act, hf, fldV, hc]
        rw [ea]
        exact G
theorem follow_d (A : HAt S h a b st el t u H) (ok : H.ok) (B : Bnd st el H) {x y : Str} (hx : Nm x) (hy : Nm y) : DoneX (S_House_follow [.oid h, .str x, .str y] S) S h a b st el t u H (dDd (.follow x y)) (H.no (.follow x y)) (H.act (.follow x y)) := by
  have s3 : short 3 = true := short_le (by omega)
  have s2 : short 2 = true := short_le (by omega)
  have s1 : short 1 = true := short_le (by omega)
  have n1 := need_two A hx hy
  have n0 : D.isNon .non = true := rfl
  have ni : ∀ i, D.isNon (.int i) = false := fun _ => rfl
  cases hn : needX H [y] (some x) with
  | some q =>
    obtain ⟨w, fs⟩ := q
    rw [hn] at n1
    refine doneX_ex (w := w) (fs := fs) ?_ (by simp [Hm.no, hn])
    unfold S_House_follow m_House_follow
    simp [List.replicate, A.asI, hm_need, s1, s2, n1]
  | none =>
    rw [hn] at n1
    obtain ⟨v, hv⟩ := there_of hn y List.mem_cons_self
    have th := thing_tie A ok hv
    cases ht : H.thing isTieC y with
    | none =>
      rw [ht] at th
      refine doneX_ex (w := "NoCell") (fs := []) ?_ (by simp [Hm.no, hn, ht])
      unfold S_House_follow m_House_follow
      simp [List.replicate, A.asI, hm_need, hm_ti, lh_things, s1, s2, n1, th]
    | some n =>
      rw [ht] at th
      obtain ⟨_, c, hc, hp⟩ := thing_some ht
      cases c with
      | flds l vs => cases hp
      | tie g =>
        have it := ix_th (S := S) hc
        have it : gIx (.lst (H.th.map dC)) (.int n) S = .ok (.tup [.str "tie", dT g]) S := it
        obtain ⟨S', w, e, G⟩ := kept_n A B (dDd (.follow x y)) x (goalV H n) none
        have e : S_House_keep [.oid h, .tup [.str "follow", .str x, .str y], .dic (nmD (putN H.nm x (goalV H n))), .non, .non] _ = _ := e
        refine doneX_ok (by simp [Hm.no, hn, ht]) ⟨S', ?_, ?_⟩
        · unfold S_House_follow m_House_follow
          cases g with
          | none =>
            have gv : goalV H n = .non := by simp [goalV, hc]
            rw [gv] at w e
            have w : S_House_with_name [.oid h, .str x, .non] S = _ := w
            have it : gIx (.lst (H.th.map dC)) (.int n) S = .ok (.tup [.str "tie", .non]) S := it
            simp [List.replicate, A.asI, hm_need, hm_ti, hm_keep, hm_wn, s1, s2, s3, n1, th, lh_things, it, gIs, n0, w, e]
          | some g =>
            have gv : goalV H n = .at_ g := by simp [goalV, hc]
            rw [gv] at w e
            have w : S_House_with_name [.oid h, .str x, .tup [.str "at", .int g]] S = _ := w
            have it : gIx (.lst (H.th.map dC)) (.int n) S = .ok (.tup [.str "tie", .int g]) S := it
            simp [List.replicate, A.asI, hm_need, hm_ti, hm_keep, hm_wn, s1, s2, s3, n1, th, lh_things, it, gIs, ni, w, e]
        · have ea : H.act (.follow x y) = H.upd (some (putN H.nm x (goalV H n))) none none := by simp [Hm.act, ht]
          rw [ea]
          exact G
theorem drop_d (A : HAt S h a b st el t u H) (B : Bnd st el H) {x : Str} (hx : Nm x) : DoneX (S_House_drop [.oid h, .str x] S) S h a b st el t u H (dDd (.drop x)) (H.no (.drop x)) (H.act (.drop x)) := by
  have s2 : short 2 = true := short_le (by omega)
  have s1 : short 1 = true := short_le (by omega)
  have n1 := need_there A hx
  cases hn : needX H [x] none with
  | some q =>
    obtain ⟨w, fs⟩ := q
    rw [hn] at n1
    refine doneX_ex (w := w) (fs := fs) ?_ (by simp [Hm.no, hn])
    unfold S_House_drop m_House_drop
    simp [List.replicate, A.asI, hm_need, s1, s2, n1]
  | none =>
    rw [hn] at n1
    have dr : gDropC x (.dic (nmD H.nm)) S = .ok (.dic (nmD (dropN H.nm x))) S := by
      simp [gDropC, asD, strk_nm, drop_nm]
    obtain ⟨S', e, G⟩ := kept_o A B (dDd (.drop x)) (some (dropN H.nm x)) none
    have e : S_House_keep [.oid h, .tup [.str "drop", .str x], .dic (nmD (dropN H.nm x)), .non, .non] _ = _ := e
    refine doneX_ok (by simp [Hm.no, hn]) ⟨S', ?_, G⟩
    unfold S_House_drop m_House_drop
    simp [List.replicate, A.asI, hm_need, hm_keep, s1, s2, n1, fDropC, lh_named, dr, e]
theorem cut_take {xs : List D} {p : Nat} (h : p ≤ xs.length) : cutD xs none (some (p : Int)) = xs.take p := by
  unfold cutD
  rw [HT.sIx_none, HT.sIx_nat, List.drop_zero, Nat.sub_zero, Nat.min_eq_left h]
theorem cut_drop {xs : List D} {p : Nat} (h : p ≤ xs.length) : cutD xs (some (p : Int)) none = xs.drop p := by
  unfold cutD
  rw [HT.sIx_none, HT.sIx_nat, Nat.min_eq_left h, List.take_of_length_le]
  rw [List.length_drop]
  omega
theorem set_lastH {S : Store} {o o' : SO} : (S ++ [o]).set S.length o' = S ++ [o'] := by simp
theorem put_d (A : HAt S h a b st el t u H) (ok : H.ok) (B : Bnd st el H) {x y : Str} (hx : Nm x) (hy : Nm y) (k : Nat) : DoneX (S_House_put [.oid h, .str y, .int k, .str x] S) S h a b st el t u H (dDd (.put y k x)) (H.no (.put y k x)) (H.act (.put y k x)) := by
  have s4 : short 4 = true := short_le (by omega)
  have s2 : short 2 = true := short_le (by omega)
  have s1 : short 1 = true := short_le (by omega)
  have n1 := need_put A hx hy
  cases hn : needX H [y, x] none with
  | some q =>
    obtain ⟨w, fs⟩ := q
    rw [hn] at n1
    refine doneX_ex (w := w) (fs := fs) ?_ (by simp [Hm.no, hn])
    unfold S_House_put m_House_put
    simp [List.replicate, A.asI, hm_need, s1, s2, n1]
  | none =>
    rw [hn] at n1
    obtain ⟨v, hv⟩ := there_of hn y List.mem_cons_self
    obtain ⟨v2, hv2⟩ := there_of hn x (List.mem_cons_of_mem _ List.mem_cons_self)
    have ix := fun S => ix_nm (S := S) hv2
    have fi := field_ok A ok hv k
    cases hf : H.field y k with
    | inr w =>
      rw [hf] at fi
      refine doneX_ex (w := w) (fs := []) ?_ (by simp [Hm.no, hn, hf])
      unfold S_House_put m_House_put
      simp [List.replicate, A.asI, hm_need, hm_fi, s1, s2, n1, fi]
    | inl n =>
      rw [hf] at fi
      obtain ⟨_, l, vs, hc, k0, kl⟩ := field_some hf
      have it := ix_th (S := S) hc
      have it : gIx (.lst (H.th.map dC)) (.int n) S = .ok (.tup [.str (sortOf l), .tup (vs.map dV)]) S := it
      have hk : k < vs.length := by omega
      have hnl := (List.getElem?_eq_some_iff.mp hc).1
      have v6 := (ok.th _ (List.mem_of_getElem? hc)).1
      obtain ⟨ths, hths⟩ : ∃ ths, ths = H.th.set n (.flds l (vs.set k v2)) := ⟨_, rfl⟩
      obtain ⟨S1, hS1⟩ : ∃ S1, S1 = S ++ [SO.lst (H.th.map dC)] := ⟨_, rfl⟩
      have A1 : HAt S1 h a b st el t u H := by rw [hS1]; exact A.ext _
      have lo : gListO [.lst (H.th.map dC)] S = .ok (.oid S.length) S1 := by
        have q : isDic1 [D.lst (H.th.map dC)] S = false := rfl
        rw [hS1]
        simp [gListO, q, gToO, asQ]
      have g1 : S1[S.length]? = some (.lst (H.th.map dC)) := by rw [hS1]; simp
      have lk : (vs.map dV).length = vs.length := by simp
      have sl1 : gSl (.tup (vs.map dV)) none (some (k : Int)) S1 = .ok (.tup ((vs.map dV).take k)) S1 := by
        unfold gSl
        simp only
        rw [if_neg (fun z => by have := z.2; rw [HT.sIx_nat, lk] at this; omega), cut_take (by rw [lk]; omega)]
      have sl2 : gSl (.tup (vs.map dV)) (some ((k : Int) + 1)) none S1 = .ok (.tup ((vs.map dV).drop (k + 1))) S1 := by
        have ek : (k : Int) + 1 = ((k + 1 : Nat) : Int) := by omega
        unfold gSl
        simp only
        rw [ek, if_neg (fun z => by have := z.1; rw [HT.sIx_nat, lk] at this; omega), cut_drop (by rw [lk]; omega)]
      have a0 : gAdd0 (.int (k : Int)) (.int 1) S1 = .ok (.int ((k : Int) + 1)) S1 := rfl
      have sh1 : short (((vs.map dV).take k).length + 1) = true := short_le (by simp; omega)
      have ad1 : gAdd0 (.tup ((vs.map dV).take k)) (.tup [dV v2]) S1 = .ok (.tup ((vs.map dV).take k ++ [dV v2])) S1 := by
        unfold gAdd0
        cases hh : (vs.map dV).take k with
        | nil => rfl
        | cons d ds =>
          rw [hh] at sh1
          simp only [isE0]
          simp [gAdd, isI, isS, isT, gAddT, List.length_cons] at sh1 ⊢
          exact sh1
      have sh2 : short (((vs.map dV).take k ++ [dV v2]).length + ((vs.map dV).drop (k + 1)).length) = true := short_le (by simp; omega)
      have e3 : (vs.map dV).take k ++ [dV v2] ++ (vs.map dV).drop (k + 1) = (vs.set k v2).map dV := by
        rw [List.map_set, List.set_eq_take_append_cons_drop, if_pos (by rw [lk]; exact hk)]
        simp
      have ad2 : gAdd0 (.tup ((vs.map dV).take k ++ [dV v2])) (.tup ((vs.map dV).drop (k + 1))) S1 = .ok (.tup ((vs.set k v2).map dV)) S1 := by
        rw [← e3]
        obtain ⟨d, ds, hd⟩ : ∃ d ds, (vs.map dV).take k ++ [dV v2] = d :: ds := List.exists_cons_of_ne_nil (by simp)
        rw [hd] at sh2 ⊢
        unfold gAdd0
        simp only [isE0]
        simp [gAdd, isI, isS, isT, gAddT, List.length_cons] at sh2 ⊢
        exact sh2
      have sa : storeAt (.oid S.length) (.int n) (.tup [.str (sortOf l), .tup ((vs.set k v2).map dV)]) S1 = some (S ++ [.lst (ths.map dC)]) := by
        have e : ixN (H.th.map dC).length (n : Int) = some n := by simp [ixN, hnl]
        have e2 : (H.th.map dC).set n (.tup [.str (sortOf l), .tup ((vs.set k v2).map dV)]) = ths.map dC := by
          rw [hths]
          exact (List.map_set (f := dC) (l := H.th) (i := n) (a := .flds l (vs.set k v2))).symm
        simp only [storeAt, g1, e, Option.map_some]
        rw [e2, hS1, set_lastH]
      have g2 : (S ++ [SO.lst (ths.map dC)])[S.length]? = some (.lst (ths.map dC)) := by simp
      have as2 : DL.asI (S ++ [SO.lst (ths.map dC)]) (.oid h) = some (("House" : Str), hfl H a b t u) := (A.ext _).asI
      have stf : (S ++ [SO.lst (ths.map dC)]).set S.length (.frz (.lst (ths.map dC))) = S ++ [.frz (.lst (ths.map dC))] := by simp
      obtain ⟨S', e, G⟩ := kept_o (A.ext [.frz (.lst (ths.map dC))]) B (dDd (.put y k x)) none (some ths)
      have e : S_House_keep [.oid h, .tup [.str "put", .str y, .int k, .str x], .non, .lst (ths.map dC), .non] (S ++ [.frz (.lst (ths.map dC))]) = .ok .non S' := e
      refine doneX_ok (by simp [Hm.no, hn, hf]) ⟨S', ?_, ?_⟩
      · have lt := lh_things H a b t u
        unfold S_House_put m_House_put
        have as0 := A.asI
        have as1 := A1.asI
        generalize ths.map dC = td at *
        generalize H.th.map dC = th0 at *
        generalize (vs.map dV).take k ++ [dV v2] = m1 at *
        generalize (vs.map dV).take k = m2 at *
        generalize (vs.map dV).drop (k + 1) = m3 at *
        generalize (vs.set k v2).map dV = m4 at *
        generalize vs.map dV = m5 at *
        simp [List.replicate, as0, as1, as2, hm_need, hm_fi, hm_keep, s1, s2, s4, n1, fi, lt, it, lo, fSl, fPart, fPartN, sl1, sl2, lh_named, ix, ad1, ad2, sa, fFrz, g2, stf, e, a0]
      · have ea : H.act (.put y k x) = H.upd none (some ths) none := by simp [Hm.act, hf, hv2, putC, hc, hths]
        rw [ea]
        refine ⟨G.at_, by have := G.len; simp at this; omega, fun i hi h1 h2 h3 => ?_⟩
        rw [G.keep i (by simp; omega) h1 h2 h3, List.getElem?_append_left hi]
end
end K03

/-! The law's own house: what it refuses. -/
namespace K03
open PySem L2 DL
noncomputable def zrf0 : FS := (gSet 2 (fBin gIx (fVar 1) (fC (.int 0))))
noncomputable def zrf1 : FS := (gIf (toB (fBin gEq (fVar 2) (fC (.str "tidy")))) (gRet (fC .non)) gNil)
noncomputable def zrf2b0 : FS := (gSet 4 (fBin gIx (fVar 1) (fVar 3)))
noncomputable def zrf2b1 : FS := (gSet 5 (fAndV (fCB gIsi (fCons (fVar 4) (fCons (fC (.ty "str")) (fun _ S => .ok [] S)))) (fBin gEq (fComp (fSigns (fVar 4)) (mName 6) (fOrT (toB (fBin gLtS (fVar 6) (fC (.str "a")))) (toB (fBin gGtS (fVar 6) (fC (.str "z"))))) (fVar 6) ([("_law_sign", 6)].map (·.2)) finL) (fLst (fun _ S => .ok [] S)))))
noncomputable def zrf2b2 : FS := (gIf (fOrT (fNotT (toB (fVar 5))) (fNotT (toB (fChain gLe gLe (fC (.int 1)) (fCB gLen (fCons (fVar 4) (fun _ S => .ok [] S))) (fC (.int 8)))))) (gRet (fTup (fCons (fC (.str "BadName")) (fCons (fVar 4) (fun _ S => .ok [] S))))) gNil)
noncomputable def zrf2b : FS := (gSeq zrf2b0 (gSeq zrf2b1 zrf2b2))
noncomputable def zrf2 : FS := (gFor (fSeq (fBin gIx (fCall (callSub S_p_law_needs) (fun ds es => pick [(0, 0)] ds es []) 1 0 1 (fCons (fVar 2) (fun _ S => .ok [] S)) (fun _ S => .ok [] S)) (fC (.int 0)))) (mName 3) zrf2b)
noncomputable def zrf3b0 : FS := (gIf (toB (fBin gNotIn (fBin gIx (fVar 1) (fVar 3)) (fBin gIx (fVar 0) (fC (.str "names"))))) (gRet (fTup (fCons (fC (.str "NoName")) (fCons (fBin gIx (fVar 1) (fVar 3)) (fun _ S => .ok [] S))))) gNil)
noncomputable def zrf3 : FS := (gFor (fSeq (fBin gIx (fCall (callSub S_p_law_needs) (fun ds es => pick [(0, 0)] ds es []) 1 0 1 (fCons (fVar 2) (fun _ S => .ok [] S)) (fun _ S => .ok [] S)) (fC (.int 1)))) (mName 3) zrf3b0)
noncomputable def zrf4b0 : FS := (gIf (fAndT (toB (fBin gNotIn (fBin gIx (fVar 1) (fVar 3)) (fBin gIx (fVar 0) (fC (.str "names"))))) (toB (fBin gGt (fCB gLen (fCons (fBin gIx (fVar 0) (fC (.str "names"))) (fun _ S => .ok [] S))) (fC (.int 39))))) (gRet (fTup (fCons (fC (.str "TooMany")) (fCons (fC .non) (fun _ S => .ok [] S))))) gNil)
noncomputable def zrf4 : FS := (gFor (fSeq (fBin gIx (fCall (callSub S_p_law_needs) (fun ds es => pick [(0, 0)] ds es []) 1 0 1 (fCons (fVar 2) (fun _ S => .ok [] S)) (fun _ S => .ok [] S)) (fC (.int 2)))) (mName 3) zrf4b0)
noncomputable def zrf5 : FS := (gRet (fCall S_p_law_refused_thing (fun ds es => pick [(0, 0), (0, 1)] ds es []) 2 0 2 (fCons (fVar 0) (fCons (fVar 1) (fun _ S => .ok [] S))) (fun _ S => .ok [] S)))
noncomputable def zrf : FS := (gSeq zrf0 (gSeq zrf1 (gSeq zrf2 (gSeq zrf3 (gSeq zrf4 zrf5)))))
theorem zrf_eq : m_p_law_refusal = zrf := rfl
abbrev hrK (n1 n2 n3 : Nat) : List (Key × D) := [(.inr "names", .oid n1), (.inr "things", .oid n2), (.inr "queue", .oid n3)]
/-- the law's house lies at w -/
structure LAt (S : Store) (w n1 n2 n3 : Nat) (H : Hm) : Prop where
  iw : S[w]? = some (.dic (hrK n1 n2 n3))
  inm : S[n1]? = some (.dic (nmD H.nm))
  ith : S[n2]? = some (.lst (H.th.map dC))
  iwa : S[n3]? = some (.lst (ntD H.wa))
  d1 : w ≠ n1
  d2 : w ≠ n2
  d3 : w ≠ n3
  d4 : n1 ≠ n2
  d5 : n1 ≠ n3
  d6 : n2 ≠ n3
theorem lk1 : ¬ (("things" : Str) = "names") := by decide +kernel
theorem lk2 : ¬ (("queue" : Str) = "names") := by decide +kernel
theorem lk3 : ¬ (("queue" : Str) = "things") := by decide +kernel
theorem lk4 : ¬ (("names" : Str) = "things") := by decide +kernel
section
variable {S : Store} {w n1 n2 n3 : Nat} {H : Hm}
theorem LAt.frame {S' : Store} (L : LAt S w n1 n2 n3 H) (k : ∀ i, i = w ∨ i = n1 ∨ i = n2 ∨ i = n3 → S'[i]? = S[i]?) : LAt S' w n1 n2 n3 H := ⟨by rw [k _ (.inl rfl)]; exact L.iw, by rw [k _ (.inr (.inl rfl))]; exact L.inm, by rw [k _ (.inr (.inr (.inl rfl)))]; exact L.ith, by rw [k _ (.inr (.inr (.inr rfl)))]; exact L.iwa, L.d1, L.d2, L.d3, L.d4, L.d5, L.d6⟩
theorem LAt.ix1 (L : LAt S w n1 n2 n3 H) : gIx (.oid w) (.str "names") S = .ok (.oid n1) S := by
  have e : valD (hrK n1 n2 n3) (.inr "names") = some (.oid n1) := by simp [valD]
  simp [gIx, pDic1, asD, gIxD, keyD, L.iw, e]
theorem LAt.ix2 (L : LAt S w n1 n2 n3 H) : gIx (.oid w) (.str "things") S = .ok (.oid n2) S := by
  have e : valD (hrK n1 n2 n3) (.inr "things") = some (.oid n2) := by simp [valD, lk4]
  simp [gIx, pDic1, asD, gIxD, keyD, L.iw, e]
theorem LAt.ixn (L : LAt S w n1 n2 n3 H) {x : Str} {v : Vl} (hv : vOf H.nm x = some v) : gIx (.oid n1) (.str x) S = .ok (dV v) S := by
  have e : valD (nmD H.nm) (.inr x) = some (dV v) := by rw [val_nm, hv]; rfl
  simp [gIx, pDic1, asD, gIxD, keyD, L.inm, e]
theorem LAt.ixt (L : LAt S w n1 n2 n3 H) {n : Nat} {c : Ce} (hc : H.th[n]? = some c) : gIx (.oid n2) (.int n) S = .ok (dC c) S := by
  have hl := (List.getElem?_eq_some_iff.mp hc).1
  have q' : atI (H.th.map dC) (n : Int) = some (dC c) := by
    rw [at_nat _ _ (by simpa using hl), List.getElem?_map, hc]
    rfl
  have a1 : asD S (.oid n2) = none := by simp [asD, L.ith]
  have a2 : isS (.oid n2) (.int n) S = false := rfl
  have a3 : asQ S (.oid n2) = some (H.th.map dC) := by simp [asQ, asL, L.ith]
  simp [gIx, pDic1, a1, a2, gIxQ, a3, q']
theorem LAt.notin (L : LAt S w n1 n2 n3 H) (x : Str) : gNotIn (.str x) (.oid n1) S = .ok (.bl (!inN H.nm x)) S := by
  simp [gNotIn, pDic, asD, gInD, keyD, L.inm, val_nm, inN]
theorem LAt.len (L : LAt S w n1 n2 n3 H) : gLen [.oid n1] S = .ok (.int H.nm.length) S := by
  simp [gLen, isDic1, gLenD, asD, L.inm, nmD]
def sortX (H : Hm) (x : Str) : Str := match vOf H.nm x with
  | some (.at_ n) => (match H.th[n]? with
    | some c => srt c
    | none => "none")
  | _ => "none"
theorem sort_l (L : LAt S w n1 n2 n3 H) (ok : H.ok) {x : Str} {v : Vl} (hv : vOf H.nm x = some v) : S_p_law_sort [.oid w, .str x] S = .ok (.str (sortX H x)) S := by
  have i1 := L.ixn hv
  unfold S_p_law_sort m_p_law_sort sortX
  rw [hv]
  cases v with
  | non => simp [List.replicate, L.ix1, i1, dV, tyS, isiT]
  | num i => simp [List.replicate, L.ix1, i1, dV, tyS, isiT]
  | at_ n =>
    have hn : n < H.th.length := ok.nm _ (vOf_mem hv)
    obtain ⟨c, hc⟩ : ∃ c, H.th[n]? = some c := ⟨_, List.getElem?_eq_getElem hn⟩
    have i2 := L.ixt hc
    obtain ⟨e, he⟩ := dC_head c
    rw [he] at i2
    simp only [hc]
    simp [List.replicate, L.ix1, L.ix2, i1, i2, dV, tyS, isiT]
theorem srt_none (c : Ce) : ¬ (srt c = "none") := by
  cases c with
  | flds l vs => cases l <;> simp [srt, sortOf]
  | tie t => simp [srt]
theorem sort_none (ok : H.ok) {x : Str} {v : Vl} (hv : vOf H.nm x = some v) : (sortX H x = "none") ↔ H.thing anyC x = none := by
  unfold sortX Hm.thing
  rw [hv]
  cases v with
  | non => simp
  | num i => simp
  | at_ n =>
    have hn : n < H.th.length := ok.nm _ (vOf_mem hv)
    obtain ⟨c, hc⟩ : ∃ c, H.th[n]? = some c := ⟨_, List.getElem?_eq_getElem hn⟩
    simp [hc, anyC, srt_none]
theorem srt_tie (c : Ce) : (srt c = "tie") ↔ isTieC c = true := by
  cases c with
  | flds l vs => cases l <;> simp [srt, sortOf, isTieC]
  | tie t => simp [srt, isTieC]
theorem none_tie : ¬ (("none" : Str) = "tie") := by decide +kernel
theorem sort_tie (ok : H.ok) {x : Str} {v : Vl} (hv : vOf H.nm x = some v) : (sortX H x = "tie") ↔ (H.thing isTieC x).isSome = true := by
  unfold sortX Hm.thing
  rw [hv]
  cases v with
  | non => simp [none_tie]
  | num i => simp [none_tie]
  | at_ n =>
    have hn : n < H.th.length := ok.nm _ (vOf_mem hv)
    obtain ⟨c, hc⟩ : ∃ c, H.th[n]? = some c := ⟨_, List.getElem?_eq_getElem hn⟩
    simp only [hc]
    rw [srt_tie]
    cases isTieC c <;> simp
theorem none_hold : inF (.str "none") [.str "cell", .str "last"] = false := by decide +kernel
theorem sort_hold (ok : H.ok) {x : Str} {v : Vl} (hv : vOf H.nm x = some v) : inF (.str (sortX H x)) [.str "cell", .str "last"] = (H.thing isHold x).isSome := by
  unfold sortX Hm.thing
  rw [hv]
  cases v with
  | non => simp [none_hold]
  | num i => simp [none_hold]
  | at_ n =>
    have hn : n < H.th.length := ok.nm _ (vOf_mem hv)
    obtain ⟨c, hc⟩ : ∃ c, H.th[n]? = some c := ⟨_, List.getElem?_eq_getElem hn⟩
    simp only [hc]
    rw [inF_hold]
    cases isHold c <;> simp
end
end K03

/-! The law's own house: the refusal that is due. -/
namespace K03
open PySem L2 DL
theorem cps1 (c : Nat) : (⟨#[c]⟩ : Str).cps.toList = [c] := rfl
theorem cps_a : ("a" : Str).cps.toList = [97] := by decide +kernel
theorem cps_z : ("z" : Str).cps.toList = [122] := by decide +kernel
theorem lt_a {c : Nat} (h : 97 ≤ c) (S : Store) : gLtS (.str ⟨#[c]⟩) (.str "a") S = .ok (.bl false) S := by
  have e : decide (([c] : List Nat) < [97]) = false := by
    rw [decide_eq_false_iff_not]
    intro h
    have := (List.cons_lt_cons_iff.mp h)
    rcases this with h | ⟨_, h⟩
    · omega
    · exact absurd h (List.not_lt_nil _)
  unfold gLtS
  simp only [cps1, cps_a, e]
theorem gt_z {c : Nat} (h : c ≤ 122) (S : Store) : gGtS (.str ⟨#[c]⟩) (.str "z") S = .ok (.bl false) S := by
  have e : decide (([122] : List Nat) < [c]) = false := by
    rw [decide_eq_false_iff_not]
    intro h
    have := (List.cons_lt_cons_iff.mp h)
    rcases this with h | ⟨_, h⟩
    · omega
    · exact absurd h (List.not_lt_nil _)
  unfold gGtS
  simp only [cps1, cps_z, e]
/-- a refusal, told -/
def dRX : RX → D
  | none => .non
  | some (w, fs) => .tup [.str w, (fs.head?.map (·.2)).getD .non]
section
variable {S : Store} {w n1 n2 n3 : Nat} {H : Hm}
theorem small_ok {x : Str} (h : Nm x) (x0 x1 x2 x3 x4 x5 : Option D) (S : Store) : fComp (fSigns (fVar 4)) (mName 6) (fOrT (toB (fBin gLtS (fVar 6) (fC (.str "a")))) (toB (fBin gGtS (fVar 6) (fC (.str "z"))))) (fVar 6) ([("_law_sign", 6)].map (·.2)) finL [x0, x1, x2, x3, some (.str x), x4, x5] S = .ok (.lst []) S := by
  have cf : ∀ y6, compF none (mName 6) (fOrT (toB (fBin gLtS (fVar 6) (fC (.str "a")))) (toB (fBin gGtS (fVar 6) (fC (.str "z"))))) (fVar 6) (signs x) [x0, x1, x2, x3, some (.str x), x4, y6] S = .ok [] S := fun y6 => by
    rw [comp_filter (f := fun d => d) (p := fun _ => false)]
    · simp
    · intro d hd
      obtain ⟨c, hc, rfl⟩ := List.mem_map.mp hd
      obtain ⟨c1, c2⟩ := h.2.2 c hc
      exact ⟨_, rfl, by simp [lt_a c1, gt_z c2], fun z => by cases z⟩
  simp only [e_fComp, fSigns, e_fVar, List.getElem?_cons_succ, List.getElem?_cons_zero, Res.bind_ok, signC, wipeD, List.map_cons, List.map_nil, List.set_cons_succ, List.set_cons_zero]
  rw [cf]
  simp [finL, short0]
theorem rf1 (d : D) : ∀ (ps : List Nat) (x0 x2 x3 x4 x5 x6 : Option D), (∀ p ∈ ps, ∃ x, Nm x ∧ gIx d (.int p) S = .ok (.str x) S) → ∃ y3 y4 y5 y6, loopF none (mName 3) zrf2b (ntD ps) [x0, some d, x2, x3, x4, x5, x6] S = .nx [x0, some d, x2, y3, y4, y5, y6] S
  | [], x0, x2, x3, x4, x5, x6, _ => ⟨x3, x4, x5, x6, by unfold ntD loopF; simp [okC]⟩
  | p :: ps, x0, x2, x3, x4, x5, x6, h => by
    obtain ⟨x, hx, ix⟩ := h p List.mem_cons_self
    obtain ⟨y3, y4, y5, y6, e⟩ := rf1 d ps x0 x2 (some (.int p)) (some (.str x)) (some (.bl true)) x6 fun q hq => h q (List.mem_cons_of_mem _ hq)
    refine ⟨y3, y4, y5, y6, ?_⟩
    have sm := small_ok hx x0 (some d) x2 (some (.int p)) x5 x6 S
    have ln := len_str (x := x) (by have := hx.2.1; omega) S
    have c1 : (1 : Int) ≤ (x.length : Int) := by have := hx.1; omega
    have c2 : (x.length : Int) ≤ 8 := by have := hx.2.1; omega
    have b0 : zrf2b0 [x0, some d, x2, some (.int p), x4, x5, x6] S = .nx [x0, some d, x2, some (.int p), some (.str x), x5, x6] S := by
      unfold zrf2b0
      simp [ix]
    have b1 : zrf2b1 [x0, some d, x2, some (.int p), some (.str x), x5, x6] S = .nx [x0, some d, x2, some (.int p), some (.str x), some (.bl true), x6] S := by
      have i0 : (fCB gIsi (fCons (fVar 4) (fCons (fC (.ty "str")) (fun _ S => .ok [] S)))) [x0, some d, x2, some (.int p), some (.str x), x5, x6] S = .ok (.bl true) S := by simp [tyS, isiT]
      unfold zrf2b1
      rw [e_gSet, e_fAndV, i0]
      simp only [Res.bind_ok, e_fBin]
      rw [sm]
      have q : gEq (.lst []) (.lst []) S = .ok (.bl true) S := eq_self (by decide +kernel) (by decide +kernel) S
      simp [short0, q]
    have b2 : zrf2b2 [x0, some d, x2, some (.int p), some (.str x), some (.bl true), x6] S = .nx [x0, some d, x2, some (.int p), some (.str x), some (.bl true), x6] S := by
      unfold zrf2b2
      simp [ln, c1, c2]
    have bb : zrf2b [x0, some d, x2, some (.int p), x4, x5, x6] S = .nx [x0, some d, x2, some (.int p), some (.str x), some (.bl true), x6] S := by
      unfold zrf2b
      rw [e_gSeq, b0, Out.seq_nx, e_gSeq, b1, Out.seq_nx, b2]
    have m : mName 3 (.int p) [x0, some d, x2, x3, x4, x5, x6] S = some [x0, some d, x2, some (.int p), x4, x5, x6] := rfl
    unfold ntD at e ⊢
    rw [List.map_cons]
    unfold loopF
    simp only [okC, if_true, m, bb]
    exact e
theorem rf2 (L : LAt S w n1 n2 n3 H) (d : D) (f : Nat → Str) : ∀ (ps : List Nat) (x2 x3 x4 x5 x6 : Option D), (∀ p ∈ ps, gIx d (.int p) S = .ok (.str (f p)) S) → match need1 H (ps.map f) with
    | some y => loopF none (mName 3) zrf3b0 (ntD ps) [some (.oid w), some d, x2, x3, x4, x5, x6] S = .rt (.tup [.str "NoName", .str y]) S
    | none => ∃ y3, loopF none (mName 3) zrf3b0 (ntD ps) [some (.oid w), some d, x2, x3, x4, x5, x6] S = .nx [some (.oid w), some d, x2, y3, x4, x5, x6] S
  | [], x2, x3, x4, x5, x6, _ => ⟨x3, by unfold ntD loopF; simp [okC]⟩
  | p :: ps, x2, x3, x4, x5, x6, h => by
    have s2 : short 2 = true := short_le (by omega)
    have ix := h p List.mem_cons_self
    have ih := rf2 L d f ps x2 (some (.int p)) x4 x5 x6 fun q hq => h q (List.mem_cons_of_mem _ hq)
    have ni := L.notin (f p)
    have m : mName 3 (.int p) [some (.oid w), some d, x2, x3, x4, x5, x6] S = some [some (.oid w), some d, x2, some (.int p), x4, x5, x6] := rfl
    rw [List.map_cons]
    unfold need1
    by_cases e : inN H.nm (f p) = true
    · rw [if_pos e]
      rw [e] at ni
      have bb : zrf3b0 [some (.oid w), some d, x2, some (.int p), x4, x5, x6] S = .nx [some (.oid w), some d, x2, some (.int p), x4, x5, x6] S := by
        unfold zrf3b0
        simp [ix, L.ix1, ni]
      have step : loopF none (mName 3) zrf3b0 (ntD (p :: ps)) [some (.oid w), some d, x2, x3, x4, x5, x6] S = loopF none (mName 3) zrf3b0 (ntD ps) [some (.oid w), some d, x2, some (.int p), x4, x5, x6] S := by
        unfold ntD
        rw [List.map_cons]
        conv => lhs; unfold loopF
        simp only [okC, if_true, m, bb]
      rw [step]
      exact ih
    · rw [if_neg e]
      have e' : inN H.nm (f p) = false := by simpa using e
      rw [e'] at ni
      have bb : zrf3b0 [some (.oid w), some d, x2, some (.int p), x4, x5, x6] S = .rt (.tup [.str "NoName", .str (f p)]) S := by
        unfold zrf3b0
        simp [ix, L.ix1, ni, s2]
      show loopF none (mName 3) zrf3b0 (ntD (p :: ps)) [some (.oid w), some d, x2, x3, x4, x5, x6] S = _
      unfold ntD
      rw [List.map_cons]
      unfold loopF
      simp only [okC, if_true, m, bb]
/-- nobody new, or one that may be -/
theorem rf3 (L : LAt S w n1 n2 n3 H) (d : D) (hl : H.nm.length ≤ 40) (p : Nat) (x : Str) (x2 x3 x4 x5 x6 : Option D) (ix : gIx d (.int p) S = .ok (.str x) S) :
    loopF none (mName 3) zrf4b0 [.int p] [some (.oid w), some d, x2, x3, x4, x5, x6] S = if (!inN H.nm x && decide (H.nm.length = 40)) = true then .rt (.tup [.str "TooMany", .non]) S else .nx [some (.oid w), some d, x2, some (.int p), x4, x5, x6] S := by
  have s2 : short 2 = true := short_le (by omega)
  have ni := L.notin x
  have m : mName 3 (.int p) [some (.oid w), some d, x2, x3, x4, x5, x6] S = some [some (.oid w), some d, x2, some (.int p), x4, x5, x6] := rfl
  have g39 : ∀ n : Nat, n ≤ 40 → gGt (.int (n : Int)) (.int 39) S = .ok (.bl (decide (n = 40))) S := fun n hn => by
    have : decide ((39 : Int) < (n : Int)) = decide (n = 40) := decide_eq_decide.mpr (by omega)
    simp [this]
  have g := g39 H.nm.length hl
  unfold loopF
  simp only [okC, if_true, m]
  by_cases e : inN H.nm x = true
  · rw [e] at ni
    have bb : zrf4b0 [some (.oid w), some d, x2, some (.int p), x4, x5, x6] S = .nx [some (.oid w), some d, x2, some (.int p), x4, x5, x6] S := by
      unfold zrf4b0
      simp [ix, L.ix1, ni]
    simp only [bb, e]
    unfold loopF
    simp [okC]
  · have e' : inN H.nm x = false := by simpa using e
    rw [e'] at ni
    by_cases e4 : H.nm.length = 40
    · have bb : zrf4b0 [some (.oid w), some d, x2, some (.int p), x4, x5, x6] S = .rt (.tup [.str "TooMany", .non]) S := by
        unfold zrf4b0
        simp only [e4, decide_true] at g
        simp [ix, L.ix1, ni, L.len, g, s2, e4]
      simp only [bb, e', e4]
      simp
    · have bb : zrf4b0 [some (.oid w), some d, x2, some (.int p), x4, x5, x6] S = .nx [some (.oid w), some d, x2, some (.int p), x4, x5, x6] S := by
        unfold zrf4b0
        simp only [e4, decide_false] at g
        simp [ix, L.ix1, ni, L.len, g]
      simp only [bb, e', e4]
      unfold loopF
      simp [okC]
end
end K03

/-! The law's own house: the refusal that is due, deed by deed. -/
namespace K03
open PySem L2 DL
section
variable {S : Store} {w n1 n2 n3 : Nat} {H : Hm}
@[simp] theorem atI_2 (a b c : D) (r : List D) : atI (a :: b :: c :: r) 2 = some c := by
  have := at_nat (a :: b :: c :: r) 2 (by simp)
  simpa using this
@[simp] theorem atI_3 (a b c e : D) (r : List D) : atI (a :: b :: c :: e :: r) 3 = some e := by
  have := at_nat (a :: b :: c :: e :: r) 3 (by simp)
  simpa using this
theorem ref_gen (L : LAt S w n1 n2 n3 H) (hl : H.nm.length ≤ 40) (d : D) (wd : Str) (ps1 ps2 ps3 : List Nat) (f : Nat → Str) (nw : Option Str) (r2 : RX)
    (h0 : gIx d (.int 0) S = .ok (.str wd) S) (hw : wd ≠ "tidy") (hn : callSub S_p_law_needs [.str wd] S = .ok (.tup [.tup (ntD ps1), .tup (ntD ps2), .tup (ntD ps3)]) S)
    (h1 : ∀ p ∈ ps1, Nm (f p) ∧ gIx d (.int p) S = .ok (.str (f p)) S) (h2 : ∀ p ∈ ps2, gIx d (.int p) S = .ok (.str (f p)) S)
    (h3 : (ps3 = [] ∧ nw = none) ∨ ∃ p, ps3 = [p] ∧ nw = some (f p) ∧ gIx d (.int p) S = .ok (.str (f p)) S)
    (hr : needX H (ps2.map f) nw = none → S_p_law_refused_thing [.oid w, d] S = .ok (dRX r2) S) :
    S_p_law_refusal [.oid w, d] S = .ok (dRX ((needX H (ps2.map f) nw).or r2)) S := by
  obtain ⟨y3, y4, y5, y6, l1⟩ := rf1 (S := S) d ps1 (some (.oid w)) (some (.str wd)) none none none none fun p hp => ⟨f p, h1 p hp⟩
  have l2 := rf2 L d f ps2 (some (.str wd)) y3 y4 y5 y6 h2
  have v0 : zrf0 [some (.oid w), some d, none, none, none, none, none] S = .nx [some (.oid w), some d, some (.str wd), none, none, none, none] S := by
    unfold zrf0
    simp [h0]
  have v1 : zrf1 [some (.oid w), some d, some (.str wd), none, none, none, none] S = .nx [some (.oid w), some d, some (.str wd), none, none, none, none] S := by
    unfold zrf1
    simp [hw]
  have nd : ∀ (k : Nat) (ps : List Nat) (x3 x4 x5 x6 : Option D), gIx (.tup [.tup (ntD ps1), .tup (ntD ps2), .tup (ntD ps3)]) (.int k) S = .ok (.tup (ntD ps)) S → ∀ b : FS, gFor (fSeq (fBin gIx (fCall (callSub S_p_law_needs) (fun ds es => pick [(0, 0)] ds es []) 1 0 1 (fCons (fVar 2) (fun _ S => .ok [] S)) (fun _ S => .ok [] S)) (fC (.int k)))) (mName 3) b [some (.oid w), some d, some (.str wd), x3, x4, x5, x6] S = loopF none (mName 3) b (ntD ps) [some (.oid w), some d, some (.str wd), x3, x4, x5, x6] S := fun k ps x3 x4 x5 x6 hk b => by
    rw [e_gFor, e_fSeq]
    simp [hn, hk]
  have v2 : zrf2 [some (.oid w), some d, some (.str wd), none, none, none, none] S = .nx [some (.oid w), some d, some (.str wd), y3, y4, y5, y6] S := by
    have := nd 0 ps1 none none none none rfl zrf2b
    unfold zrf2
    rw [← l1]
    exact this
  have st : ∀ {o : Out}, (gSeq zrf3 (gSeq zrf4 zrf5)) [some (.oid w), some d, some (.str wd), y3, y4, y5, y6] S = o → S_p_law_refusal [.oid w, d] S = o.res := fun {o} e => by
    unfold S_p_law_refusal
    rw [zrf_eq, e_semOf, e_startD]
    simp only [List.map_cons, List.map_nil, List.length_cons, List.length_nil, List.replicate, List.cons_append, List.nil_append]
    unfold zrf
    rw [e_gSeq, v0, Out.seq_nx, e_gSeq, v1, Out.seq_nx, e_gSeq, v2, Out.seq_nx, e]
  have v3 : zrf3 [some (.oid w), some d, some (.str wd), y3, y4, y5, y6] S = loopF none (mName 3) zrf3b0 (ntD ps2) [some (.oid w), some d, some (.str wd), y3, y4, y5, y6] S := nd 1 ps2 y3 y4 y5 y6 rfl zrf3b0
  cases hn1 : need1 H (ps2.map f) with
  | some y =>
    rw [hn1] at l2
    have l2 : loopF none (mName 3) zrf3b0 (ntD ps2) [some (.oid w), some d, some (.str wd), y3, y4, y5, y6] S = .rt (.tup [.str "NoName", .str y]) S := l2
    have e : needX H (ps2.map f) nw = (some ("NoName", [("name", .str y)]) : RX) := by simp [needX, hn1]
    rw [st (o := .rt (.tup [.str "NoName", .str y]) S) (by rw [e_gSeq, v3, l2]; rfl), e]
    rfl
  | none =>
    rw [hn1] at l2
    obtain ⟨z3, l2⟩ : ∃ z3, loopF none (mName 3) zrf3b0 (ntD ps2) [some (.oid w), some d, some (.str wd), y3, y4, y5, y6] S = .nx [some (.oid w), some d, some (.str wd), z3, y4, y5, y6] S := l2
    have v4 : zrf4 [some (.oid w), some d, some (.str wd), z3, y4, y5, y6] S = loopF none (mName 3) zrf4b0 (ntD ps3) [some (.oid w), some d, some (.str wd), z3, y4, y5, y6] S := nd 2 ps3 z3 y4 y5 y6 rfl zrf4b0
    have fin : ∀ x3, needX H (ps2.map f) nw = none → zrf5 [some (.oid w), some d, some (.str wd), x3, y4, y5, y6] S = .rt (dRX r2) S := fun x3 e => by
      unfold zrf5
      simp [hr e]
    rcases h3 with ⟨rfl, rfl⟩ | ⟨p, rfl, rfl, ix⟩
    · have e : needX H (ps2.map f) none = none := by simp [needX, hn1]
      have l3 : loopF none (mName 3) zrf4b0 (ntD []) [some (.oid w), some d, some (.str wd), z3, y4, y5, y6] S = .nx [some (.oid w), some d, some (.str wd), z3, y4, y5, y6] S := by
        unfold ntD loopF
        simp [okC]
      rw [st (o := .rt (dRX r2) S) (by rw [e_gSeq, v3, l2, Out.seq_nx, e_gSeq, v4, l3, Out.seq_nx, fin _ e]), e]
      rfl
    · have l3 := rf3 L d hl p (f p) (some (.str wd)) z3 y4 y5 y6 ix
      by_cases hc : (!inN H.nm (f p) && decide (H.nm.length = 40)) = true
      · rw [if_pos hc] at l3
        have l3 : loopF none (mName 3) zrf4b0 (ntD [p]) [some (.oid w), some d, some (.str wd), z3, y4, y5, y6] S = .rt (.tup [.str "TooMany", .non]) S := l3
        have e : needX H (ps2.map f) (some (f p)) = (some ("TooMany", []) : RX) := by
          unfold needX
          rw [hn1]
          simp only [hc, if_true]
        rw [st (o := .rt (.tup [.str "TooMany", .non]) S) (by rw [e_gSeq, v3, l2, Out.seq_nx, e_gSeq, v4, l3]; rfl), e]
        rfl
      · rw [if_neg hc] at l3
        have l3 : loopF none (mName 3) zrf4b0 (ntD [p]) [some (.oid w), some d, some (.str wd), z3, y4, y5, y6] S = .nx [some (.oid w), some d, some (.str wd), some (.int p), y4, y5, y6] S := l3
        have e : needX H (ps2.map f) (some (f p)) = none := by
          unfold needX
          rw [hn1]
          simp only [hc]
          rfl
        rw [st (o := .rt (dRX r2) S) (by rw [e_gSeq, v3, l2, Out.seq_nx, e_gSeq, v4, l3, Out.seq_nx, fin _ e]), e]
        rfl
/-! ### what is refused behind the names -/
def Hm.no2 (H : Hm) : Dd → RX
  | .number _ i => if -1000000000 ≤ i ∧ i ≤ 1000000000 then none else some ("BadNumber", [])
  | .cell _ m _ => if m ≤ 6 then none else some ("NoField", [])
  | .tie _ y => match H.thing anyC y with | some _ => none | none => some ("NoCell", [])
  | .get _ y k => match H.field y k with | .inl _ => none | .inr w => some (w, [])
  | .put y k _ => match H.field y k with | .inl _ => none | .inr w => some (w, [])
  | .follow _ y => match H.thing isTieC y with | some _ => none | none => some ("NoCell", [])
  | _ => none
theorem inq2 (w a b : Str) (S : Store) : gInQ false (.str w) (.tup [.str a, .str b]) S = .ok (.bl (decide (a = w) || decide (b = w))) S := by
  simp only [gInQ, asQ, inF, eqF, D.flat, List.all_cons, List.all_nil, List.any_cons, List.any_nil, Bool.and_true, if_true, Bool.or_false, if_false, Bool.false_eq_true]
  rfl
theorem lwhole (i a b : Int) (S : Store) : callSub S_p_law_whole [.int i, .int a, .int b] S = .ok (.bl (decide (a ≤ i) && decide (i ≤ b))) S := by
  refine callSub_ok (S' := []) (by rfl) ?_ rfl
  unfold S_p_law_whole m_p_law_whole
  by_cases h1 : a ≤ i <;> by_cases h2 : i ≤ b <;> simp [List.replicate, tyS, isiT, h1, h2]
theorem pow9 (S : Store) : gPow (.int 10) (.int 9) S = .ok (.int 1000000000) S := by
  have : cPow 10 9 = true := by simp [cPow]
  simp [gPow, gI, this]
theorem rt_number (x : Str) (i : Int) : S_p_law_refused_thing [.oid w, dDd (.number x i)] S = .ok (dRX (H.no2 (.number x i))) S := by
  have s2 : short 2 = true := short_le (by omega)
  have q := lwhole i (-1000000000) 1000000000 S
  unfold S_p_law_refused_thing m_p_law_refused_thing dDd Hm.no2
  by_cases h : -1000000000 ≤ i ∧ i ≤ 1000000000
  · have e : (decide (-1000000000 ≤ i) && decide (i ≤ 1000000000)) = true := by
      rw [Bool.and_eq_true, decide_eq_true_eq, decide_eq_true_eq]; exact h
    rw [e] at q
    simp [List.replicate, inq2, pow9, q, h, dRX, s2]
  · have e : (decide (-1000000000 ≤ i) && decide (i ≤ 1000000000)) = false := by
      rw [Bool.and_eq_false_iff, decide_eq_false_iff_not, decide_eq_false_iff_not]
      omega
    rw [e] at q
    simp [List.replicate, inq2, pow9, q, h, dRX, s2]
theorem rt_cell (x : Str) (m : Nat) (l : Bool) : S_p_law_refused_thing [.oid w, dDd (.cell x m l)] S = .ok (dRX (H.no2 (.cell x m l))) S := by
  have s2 : short 2 = true := short_le (by omega)
  have q := lwhole m 0 6 S
  unfold S_p_law_refused_thing m_p_law_refused_thing dDd Hm.no2
  by_cases h : m ≤ 6
  · have e : (decide ((0 : Int) ≤ m) && decide ((m : Int) ≤ 6)) = true := by
      rw [Bool.and_eq_true, decide_eq_true_eq, decide_eq_true_eq]; omega
    rw [e] at q
    simp [List.replicate, inq2, q, h, dRX, s2]
  · have e : (decide ((0 : Int) ≤ m) && decide ((m : Int) ≤ 6)) = false := by
      rw [Bool.and_eq_false_iff, decide_eq_false_iff_not, decide_eq_false_iff_not]
      omega
    rw [e] at q
    simp [List.replicate, inq2, q, h, dRX, s2]
theorem no2_some {d : Dd} {w : Str} (h : H.no2 d = some (w, [])) : dRX (H.no2 d) = .tup [.str w, .non] := by rw [h]; rfl
theorem no2_none {d : Dd} (h : H.no2 d = none) : dRX (H.no2 d) = .non := by rw [h]; rfl
theorem rt_tie (L : LAt S w n1 n2 n3 H) (ok : H.ok) (x y : Str) {v : Vl} (hv : vOf H.nm y = some v) : S_p_law_refused_thing [.oid w, dDd (.tie x y)] S = .ok (dRX (H.no2 (.tie x y))) S := by
  have s2 : short 2 = true := short_le (by omega)
  have so := sort_l L ok hv
  have sn := sort_none ok hv
  cases h : H.thing anyC y with
  | none =>
    have e := sn.mpr h
    rw [no2_some (w := "NoCell") (by simp [Hm.no2, h])]
    unfold S_p_law_refused_thing m_p_law_refused_thing dDd
    simp [List.replicate, inq2, so, e, s2]
  | some n =>
    have e : ¬ sortX H y = "none" := fun z => by rw [sn.mp z] at h; cases h
    rw [no2_none (by simp [Hm.no2, h])]
    unfold S_p_law_refused_thing m_p_law_refused_thing dDd
    simp [List.replicate, inq2, so, e, s2]
theorem rt_follow (L : LAt S w n1 n2 n3 H) (ok : H.ok) (x y : Str) {v : Vl} (hv : vOf H.nm y = some v) : S_p_law_refused_thing [.oid w, dDd (.follow x y)] S = .ok (dRX (H.no2 (.follow x y))) S := by
  have s2 : short 2 = true := short_le (by omega)
  have so := sort_l L ok hv
  have sn := sort_tie ok hv
  cases h : H.thing isTieC y with
  | none =>
    have e : ¬ sortX H y = "tie" := fun z => by rw [sn] at z; rw [h] at z; cases z
    rw [no2_some (w := "NoCell") (by simp [Hm.no2, h])]
    unfold S_p_law_refused_thing m_p_law_refused_thing dDd
    simp [List.replicate, inq2, so, e, s2]
  | some n =>
    have e : sortX H y = "tie" := sn.mpr (by rw [h]; rfl)
    rw [no2_none (by simp [Hm.no2, h])]
    unfold S_p_law_refused_thing m_p_law_refused_thing dDd
    simp [List.replicate, inq2, so, e, s2]
theorem inq_hold (w : Str) {b : Bool} (h : inF (.str w) [.str "cell", .str "last"] = b) (S : Store) : gInQ true (.str w) (.tup [.str "cell", .str "last"]) S = .ok (.bl (!b)) S := by
  simp only [gInQ, asQ, D.flat, List.all_cons, List.all_nil, Bool.and_true, if_true, h]
theorem rt_get (L : LAt S w n1 n2 n3 H) (ok : H.ok) (x y : Str) (k : Nat) {v : Vl} (hv : vOf H.nm y = some v) : S_p_law_refused_thing [.oid w, dDd (.get x y k)] S = .ok (dRX (H.no2 (.get x y k))) S := by
  have s2 : short 2 = true := short_le (by omega)
  have so := sort_l L ok hv
  have sh := sort_hold ok hv
  cases h : H.thing isHold y with
  | none =>
    rw [h] at sh
    have iq := inq_hold _ sh S
    rw [no2_some (w := "NoCell") (by simp [Hm.no2, Hm.field, h])]
    unfold S_p_law_refused_thing m_p_law_refused_thing dDd
    simp [List.replicate, inq2, so, iq, s2]
  | some n =>
    rw [h] at sh
    have iq := inq_hold _ sh S
    obtain ⟨hv', c, hc, hp⟩ := thing_some h
    cases c with
    | tie q => cases hp
    | flds l vs =>
      have i1 := L.ixn hv'
      have i1 : gIx (.oid n1) (.str y) S = .ok (.tup [.str "at", .int n]) S := i1
      have i2 := L.ixt hc
      have i2 : gIx (.oid n2) (.int n) S = .ok (.tup [.str (sortOf l), .tup (vs.map dV)]) S := i2
      have v6 := (ok.th _ (List.mem_of_getElem? hc)).1
      have sv : short (vs.map dV).length = true := short_le (by simp; omega)
      have ln : gLen [.tup (vs.map dV)] S = .ok (.int vs.length) S := by simp
      have wq := lwhole k 0 ((vs.length : Int) - 1) S
      by_cases hk : k < vs.length
      · have e : (decide (0 ≤ (k : Int)) && decide ((k : Int) ≤ (vs.length : Int) - 1)) = true := by
          rw [Bool.and_eq_true, decide_eq_true_eq, decide_eq_true_eq]
          omega
        rw [e] at wq
        rw [no2_none (by simp [Hm.no2, Hm.field, h, hc, hk])]
        unfold S_p_law_refused_thing m_p_law_refused_thing dDd
        simp [List.replicate, inq2, so, iq, s2, L.ix1, L.ix2, i1, i2, ln, wq]
      · have e : (decide (0 ≤ (k : Int)) && decide ((k : Int) ≤ (vs.length : Int) - 1)) = false := by
          rw [Bool.and_eq_false_iff, decide_eq_false_iff_not, decide_eq_false_iff_not]
          omega
        rw [e] at wq
        rw [no2_some (w := "NoField") (by simp [Hm.no2, Hm.field, h, hc, hk])]
        unfold S_p_law_refused_thing m_p_law_refused_thing dDd
        simp [List.replicate, inq2, so, iq, s2, L.ix1, L.ix2, i1, i2, ln, wq]
theorem rt_put (L : LAt S w n1 n2 n3 H) (ok : H.ok) (x y : Str) (k : Nat) {v : Vl} (hv : vOf H.nm y = some v) : S_p_law_refused_thing [.oid w, dDd (.put y k x)] S = .ok (dRX (H.no2 (.put y k x))) S := by
  have s2 : short 2 = true := short_le (by omega)
  have so := sort_l L ok hv
  have sh := sort_hold ok hv
  cases h : H.thing isHold y with
  | none =>
    rw [h] at sh
    have iq := inq_hold _ sh S
    rw [no2_some (w := "NoCell") (by simp [Hm.no2, Hm.field, h])]
    unfold S_p_law_refused_thing m_p_law_refused_thing dDd
    simp [List.replicate, inq2, so, iq, s2]
  | some n =>
    rw [h] at sh
    have iq := inq_hold _ sh S
    obtain ⟨hv', c, hc, hp⟩ := thing_some h
    cases c with
    | tie q => cases hp
    | flds l vs =>
      have i1 := L.ixn hv'
      have i1 : gIx (.oid n1) (.str y) S = .ok (.tup [.str "at", .int n]) S := i1
      have i2 := L.ixt hc
      have i2 : gIx (.oid n2) (.int n) S = .ok (.tup [.str (sortOf l), .tup (vs.map dV)]) S := i2
      have v6 := (ok.th _ (List.mem_of_getElem? hc)).1
      have sv : short (vs.map dV).length = true := short_le (by simp; omega)
      have ln : gLen [.tup (vs.map dV)] S = .ok (.int vs.length) S := by simp
      have wq := lwhole k 0 ((vs.length : Int) - 1) S
      by_cases hk : k < vs.length
      · have e : (decide (0 ≤ (k : Int)) && decide ((k : Int) ≤ (vs.length : Int) - 1)) = true := by
          rw [Bool.and_eq_true, decide_eq_true_eq, decide_eq_true_eq]
          omega
        rw [e] at wq
        rw [no2_none (by simp [Hm.no2, Hm.field, h, hc, hk])]
        unfold S_p_law_refused_thing m_p_law_refused_thing dDd
        simp [List.replicate, inq2, so, iq, s2, L.ix1, L.ix2, i1, i2, ln, wq]
      · have e : (decide (0 ≤ (k : Int)) && decide ((k : Int) ≤ (vs.length : Int) - 1)) = false := by
          rw [Bool.and_eq_false_iff, decide_eq_false_iff_not, decide_eq_false_iff_not]
          omega
        rw [e] at wq
        rw [no2_some (w := "NoField") (by simp [Hm.no2, Hm.field, h, hc, hk])]
        unfold S_p_law_refused_thing m_p_law_refused_thing dDd
        simp [List.replicate, inq2, so, iq, s2, L.ix1, L.ix2, i1, i2, ln, wq]
theorem rt_none (d : Dd) (h : H.no2 d = none) (hd : (∃ x, d = .nothing x) ∨ (∃ x y, d = .hold x y) ∨ ∃ x, d = .drop x) : S_p_law_refused_thing [.oid w, dDd d] S = .ok (dRX (H.no2 d)) S := by
  rw [h]
  unfold S_p_law_refused_thing m_p_law_refused_thing
  rcases hd with ⟨x, rfl⟩ | ⟨x, y, rfl⟩ | ⟨x, rfl⟩ <;> simp [List.replicate, inq2, dDd, dRX]
/-- the names that a deed has -/
def Dd.ok : Dd → Prop
  | .number x _ | .nothing x | .cell x _ _ | .drop x => Nm x
  | .hold x y | .tie x y | .get x y _ | .follow x y => Nm x ∧ Nm y
  | .put y _ x => Nm x ∧ Nm y
theorem inq4 (w a b c d : Str) (S : Store) : gInQ false (.str w) (.tup [.str a, .str b, .str c, .str d]) S = .ok (.bl (decide (a = w) || (decide (b = w) || (decide (c = w) || decide (d = w))))) S := by
  simp only [gInQ, asQ, inF, eqF, D.flat, List.all_cons, List.all_nil, List.any_cons, List.any_nil, Bool.and_true, if_true, Bool.or_false, if_false, Bool.false_eq_true]
  rfl
theorem need_eq (w : Str) (S : Store) : callSub S_p_law_needs [.str w] S = .ok (if w = "hold" ∨ w = "tie" ∨ w = "get" ∨ w = "follow" then .tup [.tup (ntD [1, 2]), .tup (ntD [2]), .tup (ntD [1])] else if w = "put" then .tup [.tup (ntD [1, 3]), .tup (ntD [1, 3]), .tup (ntD [])] else if w = "drop" then .tup [.tup (ntD [1]), .tup (ntD [1]), .tup (ntD [])] else .tup [.tup (ntD [1]), .tup (ntD []), .tup (ntD [1])]) S := by
  have s1 : short 1 = true := short_le (by omega)
  have s2 : short 2 = true := short_le (by omega)
  have s3 : short 3 = true := short_le (by omega)
  refine callSub_ok (S' := []) (by rfl) ?_ (by split; rfl; split; rfl; split <;> rfl)
  unfold S_p_law_needs m_p_law_needs
  by_cases h1 : w = "hold" ∨ w = "tie" ∨ w = "get" ∨ w = "follow"
  · rw [if_pos h1]
    have e : (decide (("hold" : Str) = w) || (decide (("tie" : Str) = w) || (decide (("get" : Str) = w) || decide (("follow" : Str) = w)))) = true := by
      rcases h1 with rfl | rfl | rfl | rfl <;> simp
    simp [List.replicate, inq4, e, s1, s2, s3, ntD]
  · rw [if_neg h1]
    have e : (decide (("hold" : Str) = w) || (decide (("tie" : Str) = w) || (decide (("get" : Str) = w) || decide (("follow" : Str) = w)))) = false := by
      simp only [not_or] at h1
      simp [Ne.symm h1.1, Ne.symm h1.2.1, Ne.symm h1.2.2.1, Ne.symm h1.2.2.2]
    by_cases h2 : w = "put"
    · subst h2
      simp [List.replicate, inq4, e, s1, s2, s3, ntD, short0]
    · by_cases h3 : w = "drop"
      · subst h3
        simp [List.replicate, inq4, e, s1, s2, s3, ntD, short0]
      · simp [List.replicate, inq4, e, h2, h3, s1, s2, s3, ntD, short0]
theorem or_noneX (r : RX) : r.or none = r := by cases r <;> rfl
/-- the refusal that is due, told -/
theorem refusal_ok (L : LAt S w n1 n2 n3 H) (ok : H.ok) (hl : H.nm.length ≤ 40) (d : Dd) (hd : d.ok) : S_p_law_refusal [.oid w, dDd d] S = .ok (dRX (H.no d)) S := by
  cases d with
  | number x i =>
    exact ref_gen L hl _ "number" [1] [] [1] (fun _ => x) (some x) (H.no2 (.number x i)) rfl (by simp) (by rw [need_eq]; simp) (fun p hp => by simp at hp; subst hp; exact ⟨hd, rfl⟩) (fun p hp => by simp at hp) (.inr ⟨1, rfl, rfl, rfl⟩) fun _ => rt_number x i
  | nothing x =>
    have := ref_gen L hl "nothing" [1] [] [1] (fun _ => x) (some x) (H.no2 (.nothing x)) (d := dDd (.nothing x)) rfl (by simp) (by rw [need_eq]; simp) (fun p hp => by simp at hp; subst hp; exact ⟨hd, rfl⟩) (fun p hp => by simp at hp) (.inr ⟨1, rfl, rfl, rfl⟩) fun _ => rt_none (.nothing x) rfl (.inl ⟨x, rfl⟩)
    rw [this]
    exact congrArg (fun r => Res.ok (dRX r) S) (or_noneX _)
  | cell x m l =>
    exact ref_gen L hl _ "cell" [1] [] [1] (fun _ => x) (some x) (H.no2 (.cell x m l)) rfl (by simp) (by rw [need_eq]; simp) (fun p hp => by simp at hp; subst hp; exact ⟨hd, rfl⟩) (fun p hp => by simp at hp) (.inr ⟨1, rfl, rfl, rfl⟩) fun _ => rt_cell x m l
  | drop x =>
    have := ref_gen L hl "drop" [1] [1] [] (fun _ => x) none (H.no2 (.drop x)) (d := dDd (.drop x)) rfl (by simp) (by rw [need_eq]; simp) (fun p hp => by simp at hp; subst hp; exact ⟨hd, rfl⟩) (fun p hp => by simp at hp; subst hp; rfl) (.inl ⟨rfl, rfl⟩) fun _ => rt_none (.drop x) rfl (.inr (.inr ⟨x, rfl⟩))
    rw [this]
    exact congrArg (fun r => Res.ok (dRX r) S) (or_noneX _)
  | hold x y =>
    have := ref_gen L hl "hold" [1, 2] [2] [1] (fun p => if p = 1 then x else y) (some x) (H.no2 (.hold x y)) (d := dDd (.hold x y)) rfl (by simp) (by rw [need_eq]; simp) (fun p hp => by simp at hp; rcases hp with rfl | rfl; exact ⟨hd.1, rfl⟩; exact ⟨hd.2, rfl⟩) (fun p hp => by simp at hp; subst hp; rfl) (.inr ⟨1, rfl, rfl, rfl⟩) fun _ => rt_none (.hold x y) rfl (.inr (.inl ⟨x, y, rfl⟩))
    rw [this]
    exact congrArg (fun r => Res.ok (dRX r) S) (or_noneX _)
  | tie x y =>
    exact ref_gen L hl "tie" [1, 2] [2] [1] (fun p => if p = 1 then x else y) (some x) (H.no2 (.tie x y)) (d := dDd (.tie x y)) rfl (by simp) (by rw [need_eq]; simp) (fun p hp => by simp at hp; rcases hp with rfl | rfl; exact ⟨hd.1, rfl⟩; exact ⟨hd.2, rfl⟩) (fun p hp => by simp at hp; subst hp; rfl) (.inr ⟨1, rfl, rfl, rfl⟩) fun e => by
      obtain ⟨v, hv⟩ := there_of e y (by simp)
      exact rt_tie L ok x y hv
  | follow x y =>
    exact ref_gen L hl "follow" [1, 2] [2] [1] (fun p => if p = 1 then x else y) (some x) (H.no2 (.follow x y)) (d := dDd (.follow x y)) rfl (by simp) (by rw [need_eq]; simp) (fun p hp => by simp at hp; rcases hp with rfl | rfl; exact ⟨hd.1, rfl⟩; exact ⟨hd.2, rfl⟩) (fun p hp => by simp at hp; subst hp; rfl) (.inr ⟨1, rfl, rfl, rfl⟩) fun e => by
      obtain ⟨v, hv⟩ := there_of e y (by simp)
      exact rt_follow L ok x y hv
  | get x y k =>
    exact ref_gen L hl "get" [1, 2] [2] [1] (fun p => if p = 1 then x else y) (some x) (H.no2 (.get x y k)) (d := dDd (.get x y k)) rfl (by simp) (by rw [need_eq]; simp) (fun p hp => by simp at hp; rcases hp with rfl | rfl; exact ⟨hd.1, rfl⟩; exact ⟨hd.2, rfl⟩) (fun p hp => by simp at hp; subst hp; rfl) (.inr ⟨1, rfl, rfl, rfl⟩) fun e => by
      obtain ⟨v, hv⟩ := there_of e y (by simp)
      exact rt_get L ok x y k hv
  | put y k x =>
    exact ref_gen L hl "put" [1, 3] [1, 3] [] (fun p => if p = 1 then y else x) none (H.no2 (.put y k x)) (d := dDd (.put y k x)) rfl (by simp) (by rw [need_eq]; simp) (fun p hp => by simp at hp; rcases hp with rfl | rfl; exact ⟨hd.2, rfl⟩; exact ⟨hd.1, rfl⟩) (fun p hp => by simp at hp; rcases hp with rfl | rfl <;> rfl) (.inl ⟨rfl, rfl⟩) fun e => by
      obtain ⟨v, hv⟩ := there_of e y (by simp)
      exact rt_put L ok x y k hv
end
end K03

/-! The law's own house: a deed done. -/
namespace K03
open PySem L2 DL
def lput (S : Store) (n2 : Nat) : Option (List Ce) → Store
  | none => S
  | some th => S.set n2 (.lst (th.map dC))
section
variable {S : Store} {w n1 n2 n3 : Nat} {H : Hm}
theorem LAt.lt (L : LAt S w n1 n2 n3 H) : w < S.length ∧ n1 < S.length ∧ n2 < S.length ∧ n3 < S.length := ⟨(List.getElem?_eq_some_iff.mp L.iw).1, (List.getElem?_eq_some_iff.mp L.inm).1, (List.getElem?_eq_some_iff.mp L.ith).1, (List.getElem?_eq_some_iff.mp L.iwa).1⟩
theorem LAt.setn (L : LAt S w n1 n2 n3 H) (nm : List (Str × Vl)) : LAt (S.set n1 (.dic (nmD nm))) w n1 n2 n3 ⟨nm, H.th, H.wa⟩ := ⟨by rw [List.getElem?_set_ne (Ne.symm L.d1)]; exact L.iw, by rw [List.getElem?_set_self L.lt.2.1], by rw [List.getElem?_set_ne L.d4]; exact L.ith, by rw [List.getElem?_set_ne L.d5]; exact L.iwa, L.d1, L.d2, L.d3, L.d4, L.d5, L.d6⟩
theorem LAt.sett (L : LAt S w n1 n2 n3 H) (th : List Ce) : LAt (S.set n2 (.lst (th.map dC))) w n1 n2 n3 ⟨H.nm, th, H.wa⟩ := ⟨by rw [List.getElem?_set_ne (Ne.symm L.d2)]; exact L.iw, by rw [List.getElem?_set_ne (Ne.symm L.d4)]; exact L.inm, by rw [List.getElem?_set_self L.lt.2.2.1], by rw [List.getElem?_set_ne L.d6]; exact L.iwa, L.d1, L.d2, L.d3, L.d4, L.d5, L.d6⟩
theorem LAt.lpt (L : LAt S w n1 n2 n3 H) (th : Option (List Ce)) : LAt (lput S n2 th) w n1 n2 n3 (H.upd none th none) := by
  cases th with
  | none => exact L
  | some th => exact L.sett th
theorem lput_len (S : Store) (n2 : Nat) (th : Option (List Ce)) : (lput S n2 th).length = S.length := by cases th <;> simp [lput]
theorem lput_keep (S : Store) (n2 : Nat) (th : Option (List Ce)) (i : Nat) (h : i ≠ n2) : (lput S n2 th)[i]? = S[i]? := by
  cases th with
  | none => rfl
  | some th => exact List.getElem?_set_ne (Ne.symm h)
/-- the law's house goes on -/
structure LGo (S : Store) (w n1 n2 n3 : Nat) (S' : Store) (H' : Hm) : Prop where
  at_ : LAt S' w n1 n2 n3 H'
  len : S'.length = S.length
  keep : ∀ i, i ≠ n1 → i ≠ n2 → S'[i]? = S[i]?
theorem LAt.sat1 (L : LAt S w n1 n2 n3 H) (hl : H.nm.length ≤ 1000) (x : Str) (v : Vl) : storeAt (.oid n1) (.str x) (dV v) S = some (S.set n1 (.dic (nmD (putN H.nm x v)))) := by
  have : (1000 : Nat) < sizeLine := by decide
  have h : (nmD H.nm).length < sizeLine := by simp [nmD]; omega
  simp [storeAt, L.inm, keyD, h, put_nm]
theorem done_gen (L : LAt S w n1 n2 n3 H) (hl : H.nm.length ≤ 1000) (wd x : Str) (r : List D) (v : Vl) (th : Option (List Ce)) (hw : wd ≠ "tidy" ∧ wd ≠ "put" ∧ wd ≠ "drop" ∧ wd ≠ "wish")
    (g : S_p_law_gotten [.oid w, .tup (.str wd :: .str x :: r)] S = .ok (dV v) (lput S n2 th)) :
    ∃ S', S_p_law_done [.oid w, .tup (.str wd :: .str x :: r)] S = .ok .non S' ∧ LGo S w n1 n2 n3 S' (H.upd (some (putN H.nm x v)) th none) := by
  have L1 := L.lpt th
  refine ⟨(lput S n2 th).set n1 (.dic (nmD (putN H.nm x v))), ?_, ?_⟩
  · have sa := L1.sat1 (H := H.upd none th none) hl x v
    have sa : storeAt (.oid n1) (.str x) (dV v) (lput S n2 th) = some ((lput S n2 th).set n1 (.dic (nmD (putN H.nm x v)))) := sa
    unfold S_p_law_done m_p_law_done
    simp [List.replicate, gPar, hw, L.ix1, L.ix2, g, sa]
  · refine ⟨L1.setn _, by rw [List.length_set, lput_len], fun i h1 h2 => ?_⟩
    rw [List.getElem?_set_ne (Ne.symm h1), lput_keep _ _ _ _ h2]
theorem got_number (L : LAt S w n1 n2 n3 H) (x : Str) (i : Int) : S_p_law_gotten [.oid w, dDd (.number x i)] S = .ok (.int i) S := by
  unfold S_p_law_gotten m_p_law_gotten dDd
  simp [List.replicate, gPar, L.ix1, L.ix2]
theorem got_hold (L : LAt S w n1 n2 n3 H) (x y : Str) {v : Vl} (hv : vOf H.nm y = some v) : S_p_law_gotten [.oid w, dDd (.hold x y)] S = .ok (dV v) S := by
  have i1 := L.ixn hv
  unfold S_p_law_gotten m_p_law_gotten dDd
  simp [List.replicate, gPar, L.ix1, L.ix2, i1]
theorem got_nothing (L : LAt S w n1 n2 n3 H) (x : Str) : S_p_law_gotten [.oid w, dDd (.nothing x)] S = .ok .non S := by
  unfold S_p_law_gotten m_p_law_gotten dDd
  simp [List.replicate, gPar, L.ix1, L.ix2]
theorem got_get (L : LAt S w n1 n2 n3 H) (ok : H.ok) (x y : Str) (k : Nat) {n : Nat} {l : Bool} {vs : List Vl} (hv : vOf H.nm y = some (.at_ n)) (hc : H.th[n]? = some (.flds l vs)) (hk : k < vs.length) : S_p_law_gotten [.oid w, dDd (.get x y k)] S = .ok (dV (vs.getD k .non)) S := by
  have i1 := L.ixn hv
  have i1 : gIx (.oid n1) (.str y) S = .ok (.tup [.str "at", .int n]) S := i1
  have i2 := L.ixt hc
  have i2 : gIx (.oid n2) (.int n) S = .ok (.tup [.str (sortOf l), .tup (vs.map dV)]) S := i2
  have ik : gIx (.tup (vs.map dV)) (.int k) S = .ok (dV (vs.getD k .non)) S := by
    rw [e_ix_t, at_nat _ _ (by simpa using hk), List.getElem?_map, List.getD_eq_getElem?_getD, List.getElem?_eq_getElem hk]
    rfl
  unfold S_p_law_gotten m_p_law_gotten dDd
  simp [List.replicate, gPar, L.ix1, L.ix2, i1, i2, ik]
theorem got_follow (L : LAt S w n1 n2 n3 H) (x y : Str) {n : Nat} {g : Option Nat} (hv : vOf H.nm y = some (.at_ n)) (hc : H.th[n]? = some (.tie g)) : S_p_law_gotten [.oid w, dDd (.follow x y)] S = .ok (dV (goalV H n)) S := by
  have s2 : short 2 = true := short_le (by omega)
  have n0 : D.isNon .non = true := rfl
  have ni : ∀ i, D.isNon (.int i) = false := fun _ => rfl
  have i1 := L.ixn hv
  have i1 : gIx (.oid n1) (.str y) S = .ok (.tup [.str "at", .int n]) S := i1
  have i2 := L.ixt hc
  unfold S_p_law_gotten m_p_law_gotten dDd
  cases g with
  | none =>
    have i2 : gIx (.oid n2) (.int n) S = .ok (.tup [.str "tie", .non]) S := i2
    have gv : goalV H n = .non := by simp [goalV, hc]
    rw [gv]
    simp [List.replicate, gPar, L.ix1, L.ix2, i1, i2, gIs, n0, dV]
  | some g =>
    have i2 : gIx (.oid n2) (.int n) S = .ok (.tup [.str "tie", .int g]) S := i2
    have gv : goalV H n = .at_ g := by simp [goalV, hc]
    rw [gv]
    simp [List.replicate, gPar, L.ix1, L.ix2, i1, i2, gIs, ni, s2, dV]
theorem LAt.app (L : LAt S w n1 n2 n3 H) (hl : H.th.length ≤ 1000) (c : Ce) : gApp (.oid n2) [dC c] S = .ok .non (lput S n2 (some (H.th ++ [c]))) := by
  rw [app_h L.ith (by simp; omega)]
  simp [lput]
theorem LAt.lent (L : LAt S w n1 n2 n3 H) : gLen [.oid n2] S = .ok (.int H.th.length) S := by
  simp [gLen, isDic1, asD, isStr1, gLenQ, asQ, asL, L.ith]
theorem got_cell (L : LAt S w n1 n2 n3 H) (hl : H.th.length ≤ 1000) (x : Str) (m : Nat) (hm : m ≤ 100) (l : Bool) : S_p_law_gotten [.oid w, dDd (.cell x m l)] S = .ok (dV (.at_ H.th.length)) (lput S n2 (some (H.th ++ [.flds l (List.replicate m .non)]))) := by
  have s2 : short 2 = true := short_le (by omega)
  have s1 : short 1 = true := short_le (by omega)
  have rp : gRepT (.tup [.non]) (.int m) S = .ok (.tup ((List.replicate m Vl.non).map dV)) S := by
    have q : repD [D.non] (m : Int) = (List.replicate m Vl.non).map dV := by simp [repD, dV]
    have b1 : (0 : Int) ≤ m := by omega
    have b2 : (m : Int) ≤ 1000 := by omega
    simp only [gRepT, b1, b2, q]
    rw [if_pos (by simp)]
  have ap := L.app hl (.flds l (List.replicate m .non))
  have ap : gApp (.oid n2) [.tup [.str (sortOf l), .tup ((List.replicate m Vl.non).map dV)]] S = _ := ap
  have ln := (L.lpt (some (H.th ++ [Ce.flds l (List.replicate m .non)]))).lent
  have e1 : ((H.th ++ [Ce.flds l (List.replicate m .non)]).length : Int) - 1 = (H.th.length : Int) := by simp
  have ln : gLen [.oid n2] (lput S n2 (some (H.th ++ [Ce.flds l (List.replicate m .non)]))) = .ok (.int ((H.th ++ [Ce.flds l (List.replicate m .non)]).length : Nat)) _ := ln
  have ib : gIntB [.bl l] S = .ok (.int (if l then 1 else 0)) S := rfl
  have isort : atI [D.str "cell", D.str "last"] (if l = true then 1 else 0) = some (D.str (sortOf l)) := by cases l <;> rfl
  have ty : tyS S (.oid n2) = some "list" := by simp [tyS, L.ith]
  generalize lput S n2 (some (H.th ++ [Ce.flds l (List.replicate m .non)])) = S1 at *
  generalize (H.th ++ [Ce.flds l (List.replicate m .non)]).length = k1 at *
  generalize (List.replicate m Vl.non).map dV = vs at *
  unfold S_p_law_gotten m_p_law_gotten dDd
  simp [List.replicate, gPar, L.ix1, L.ix2, rp, ap, ln, ib, isort, ty, s1, s2, e1, dV]
theorem got_tie (L : LAt S w n1 n2 n3 H) (hl : H.th.length ≤ 1000) (x y : Str) {n : Nat} (hv : vOf H.nm y = some (.at_ n)) : S_p_law_gotten [.oid w, dDd (.tie x y)] S = .ok (dV (.at_ H.th.length)) (lput S n2 (some (H.th ++ [.tie (some n)]))) := by
  have s2 : short 2 = true := short_le (by omega)
  have i1 := L.ixn hv
  have i1 : gIx (.oid n1) (.str y) S = .ok (.tup [.str "at", .int n]) S := i1
  have ap := L.app hl (.tie (some n))
  have ap : gApp (.oid n2) [.tup [.str "tie", .int n]] S = _ := ap
  have ty : tyS S (.oid n2) = some "list" := by simp [tyS, L.ith]
  have ln := (L.lpt (some (H.th ++ [Ce.tie (some n)]))).lent
  have e1 : ((H.th ++ [Ce.tie (some n)]).length : Int) - 1 = (H.th.length : Int) := by simp
  have ln : gLen [.oid n2] (lput S n2 (some (H.th ++ [Ce.tie (some n)]))) = .ok (.int ((H.th ++ [Ce.tie (some n)]).length : Nat)) _ := ln
  generalize lput S n2 (some (H.th ++ [Ce.tie (some n)])) = S1 at *
  generalize (H.th ++ [Ce.tie (some n)]).length = k1 at *
  unfold S_p_law_gotten m_p_law_gotten dDd
  simp [List.replicate, gPar, L.ix1, L.ix2, i1, ap, ln, ty, s2, e1, dV]
theorem done_drop (L : LAt S w n1 n2 n3 H) (x : Str) {v : Vl} (hv : vOf H.nm x = some v) : ∃ S', S_p_law_done [.oid w, dDd (.drop x)] S = .ok .non S' ∧ LGo S w n1 n2 n3 S' (H.act (.drop x)) := by
  refine ⟨S.set n1 (.dic (nmD (dropN H.nm x))), ?_, L.setn _, by simp, fun i h1 _ => List.getElem?_set_ne (Ne.symm h1)⟩
  have e : valD0 (nmD H.nm) (.inr x) = some (dV v) := by rw [val_nm0, hv]; rfl
  have po : gPopK (.oid n1) (.str x) S = .ok (dV v) (S.set n1 (.dic (nmD (dropN H.nm x)))) := by
    simp [gPopK, L.inm, keyD, e, drop_nm]
  have ia : (asD S (.oid n1)).isSome = true := by simp [asD, L.inm]
  unfold S_p_law_done m_p_law_done dDd
  simp [List.replicate, gPar, L.ix1, L.ix2, fPopK, ia, po]
theorem done_put (L : LAt S w n1 n2 n3 H) (x y : Str) (k : Nat) {n : Nat} {l : Bool} {vs : List Vl} {v : Vl} (v6 : vs.length ≤ 6) (hv : vOf H.nm y = some (.at_ n)) (hv2 : vOf H.nm x = some v) (hc : H.th[n]? = some (.flds l vs)) (hk : k < vs.length) :
    ∃ S', S_p_law_done [.oid w, dDd (.put y k x)] S = .ok .non S' ∧ LGo S w n1 n2 n3 S' (H.upd none (some (H.th.set n (.flds l (vs.set k v)))) none) := by
  have hnl := (List.getElem?_eq_some_iff.mp hc).1
  have i1 := L.ixn hv
  have i1 : gIx (.oid n1) (.str y) S = .ok (.tup [.str "at", .int n]) S := i1
  have i3 := L.ixn hv2
  have i2 := L.ixt hc
  have i2 : gIx (.oid n2) (.int n) S = .ok (.tup [.str (sortOf l), .tup (vs.map dV)]) S := i2
  obtain ⟨ths, hths⟩ : ∃ ths, ths = H.th.set n (.flds l (vs.set k v)) := ⟨_, rfl⟩
  refine ⟨S.set n2 (.lst (ths.map dC)), ?_, by rw [← hths]; exact L.sett ths, by simp, fun i _ h2 => List.getElem?_set_ne (Ne.symm h2)⟩
  have s2 : short 2 = true := short_le (by omega)
  have s1 : short 1 = true := short_le (by omega)
  have lk : (vs.map dV).length = vs.length := by simp
  have sl1 : gSl (.tup (vs.map dV)) none (some (k : Int)) S = .ok (.tup ((vs.map dV).take k)) S := by
    unfold gSl
    simp only
    rw [if_neg (fun z => by have := z.2; rw [HT.sIx_nat, lk] at this; omega), cut_take (by rw [lk]; omega)]
  have sl2 : gSl (.tup (vs.map dV)) (some ((k : Int) + 1)) none S = .ok (.tup ((vs.map dV).drop (k + 1))) S := by
    have ek : (k : Int) + 1 = ((k + 1 : Nat) : Int) := by omega
    unfold gSl
    simp only
    rw [ek, if_neg (fun z => by have := z.1; rw [HT.sIx_nat, lk] at this; omega), cut_drop (by rw [lk]; omega)]
  have a0 : gAdd0 (.int (k : Int)) (.int 1) S = .ok (.int ((k : Int) + 1)) S := rfl
  have sh1 : short (((vs.map dV).take k).length + 1) = true := short_le (by simp; omega)
  have ad1 : gAdd0 (.tup ((vs.map dV).take k)) (.tup [dV v]) S = .ok (.tup ((vs.map dV).take k ++ [dV v])) S := by
    unfold gAdd0
    cases hh : (vs.map dV).take k with
    | nil => rfl
    | cons d ds =>
      rw [hh] at sh1
      simp only [isE0]
      simp [gAdd, isI, isS, isT, gAddT, List.length_cons] at sh1 ⊢
      exact sh1
  have sh2 : short (((vs.map dV).take k ++ [dV v]).length + ((vs.map dV).drop (k + 1)).length) = true := short_le (by simp; omega)
  have e3 : (vs.map dV).take k ++ [dV v] ++ (vs.map dV).drop (k + 1) = (vs.set k v).map dV := by
    rw [List.map_set, List.set_eq_take_append_cons_drop, if_pos (by rw [lk]; exact hk)]
    simp
  have ad2 : gAdd0 (.tup ((vs.map dV).take k ++ [dV v])) (.tup ((vs.map dV).drop (k + 1))) S = .ok (.tup ((vs.set k v).map dV)) S := by
    rw [← e3]
    obtain ⟨d, ds, hd⟩ : ∃ d ds, (vs.map dV).take k ++ [dV v] = d :: ds := List.exists_cons_of_ne_nil (by simp)
    rw [hd] at sh2 ⊢
    unfold gAdd0
    simp only [isE0]
    simp [gAdd, isI, isS, isT, gAddT, List.length_cons] at sh2 ⊢
    exact sh2
  have sa : storeAt (.oid n2) (.int n) (.tup [.str (sortOf l), .tup ((vs.set k v).map dV)]) S = some (S.set n2 (.lst (ths.map dC))) := by
    have e : ixN (H.th.map dC).length (n : Int) = some n := by simp [ixN, hnl]
    have e2 : (H.th.map dC).set n (.tup [.str (sortOf l), .tup ((vs.set k v).map dV)]) = ths.map dC := by
      rw [hths]
      exact (List.map_set (f := dC) (l := H.th) (i := n) (a := .flds l (vs.set k v))).symm
    simp only [storeAt, L.ith, e, Option.map_some]
    rw [e2]
  generalize ths.map dC = td at *
  generalize (vs.map dV).take k ++ [dV v] = m1 at *
  generalize (vs.map dV).take k = m2 at *
  generalize (vs.map dV).drop (k + 1) = m3 at *
  generalize (vs.set k v).map dV = m4 at *
  generalize vs.map dV = m5 at *
  unfold S_p_law_done m_p_law_done dDd
  simp [List.replicate, gPar, L.ix1, L.ix2, i1, i2, i3, fSl, fPart, fPartN, sl1, sl2, a0, ad1, ad2, sa, s1, s2]
/-- what is due is done -/
theorem done_ok (L : LAt S w n1 n2 n3 H) (ok : H.ok) (hl : H.nm.length ≤ 1000) (ht : H.th.length ≤ 1000) (d : Dd) (hm : ∀ x m l, d = .cell x m l → m ≤ 100) (h : H.no d = none) : ∃ S', S_p_law_done [.oid w, dDd d] S = .ok .non S' ∧ LGo S w n1 n2 n3 S' (H.act d) := by
  have orn : ∀ a b : RX, a.or b = none → a = none ∧ b = none := fun a b h => by cases a <;> simp_all
  cases d with
  | number x i => exact done_gen L hl "number" x [.int i] (.num i) none (by simp) (got_number L x i)
  | nothing x => exact done_gen L hl "nothing" x [] .non none (by simp) (got_nothing L x)
  | hold x y =>
    have h0 : needX H [y] (some x) = none := h
    obtain ⟨v, hv⟩ := there_of h0 y (by simp)
    have e : H.act (.hold x y) = H.upd (some (putN H.nm x v)) none none := by simp [Hm.act, hv]
    rw [e]
    exact done_gen L hl "hold" x [.str y] v none (by simp) (got_hold L x y hv)
  | cell x m l => exact done_gen L hl "cell" x [.int m, .bl l] (.at_ H.th.length) (some (H.th ++ [Ce.flds l (List.replicate m .non)])) (by simp) (got_cell L ht x m (hm x m l rfl) l)
  | drop x =>
    have h0 : needX H [x] none = none := h
    obtain ⟨v, hv⟩ := there_of h0 x (by simp)
    exact done_drop L x hv
  | tie x y =>
    obtain ⟨h1, h2⟩ := orn _ _ h
    split at h2
    · rename_i n hn
      obtain ⟨hv, _⟩ := thing_some hn
      have e : H.act (.tie x y) = H.upd (some (putN H.nm x (.at_ H.th.length))) (some (H.th ++ [.tie (some n)])) none := by simp [Hm.act, hn]
      rw [e]
      exact done_gen L hl "tie" x [.str y] (.at_ H.th.length) (some (H.th ++ [Ce.tie (some n)])) (by simp) (got_tie L ht x y hv)
    · cases h2
  | follow x y =>
    obtain ⟨h1, h2⟩ := orn _ _ h
    split at h2
    · rename_i n hn
      obtain ⟨hv, c, hc, hp⟩ := thing_some hn
      have e : H.act (.follow x y) = H.upd (some (putN H.nm x (goalV H n))) none none := by simp [Hm.act, hn]
      rw [e]
      cases c with
      | flds l vs => cases hp
      | tie g => exact done_gen L hl "follow" x [.str y] (goalV H n) none (by simp) (got_follow L x y hv hc)
    · cases h2
  | get x y k =>
    obtain ⟨h1, h2⟩ := orn _ _ h
    split at h2
    · rename_i n hn
      obtain ⟨hv, l, vs, hc, k0, k1⟩ := field_some hn
      have e : H.act (.get x y k) = H.upd (some (putN H.nm x (vs.getD k .non))) none none := by simp [Hm.act, hn, fldV, hc]
      rw [e]
      exact done_gen L hl "get" x [.str y, .int k] (vs.getD k .non) none (by simp) (got_get L ok x y k hv hc (by omega))
    · cases h2
  | put y k x =>
    obtain ⟨h1, h2⟩ := orn _ _ h
    obtain ⟨v, hv2⟩ := there_of h1 x (by simp)
    split at h2
    · rename_i n hn
      obtain ⟨hv, l, vs, hc, k0, k1⟩ := field_some hn
      have e : H.act (.put y k x) = H.upd none (some (H.th.set n (.flds l (vs.set k v)))) none := by simp [Hm.act, hn, putC, hc, hv2]
      rw [e]
      exact done_put L x y k (ok.th _ (List.mem_of_getElem? hc)).1 hv hv2 hc (by omega)
    · cases h2
end
end K03

/-! Houses: what is called, and heard. -/
namespace K03
open PySem L2 DL
section
variable {S : Store} {h a b : Nat} {st el : List D} {t u : Int} {H : Hm}
theorem into_rt {ρ : EnvD} (r : Res D) (g : FS) : ((r.into ρ fun d S => Out.rt d S).seq g).res = r := by cases r <;> rfl
theorem doneX_call {r r' : Res D} {d : D} {no : RX} {H' : Hm} (e : r' = r) (h' : DoneX r S h a b st el t u H d no H') : DoneX r' S h a b st el t u H d no H' := by rw [e]; exact h'
theorem call_ok (A : HAt S h a b st el t u H) (ok : H.ok) (B : Bnd st el H) (d : Dd) (hd : d.ok) (hm : ∀ x m l, d = .cell x m l → m ≤ 100) : DoneX (S_p_law_call [.oid h, dDd d] S) S h a b st el t u H (dDd d) (H.no d) (H.act d) := by
  cases d with
  | number x i =>
    refine doneX_call ?_ (number_d A B hd i)
    unfold S_p_law_call m_p_law_call dDd
    simp [List.replicate, A.asI, hm_number, into_rt]
  | nothing x =>
    refine doneX_call ?_ (nothing_d A B hd)
    unfold S_p_law_call m_p_law_call dDd
    simp [List.replicate, A.asI, hm_nothing, into_rt]
  | hold x y =>
    refine doneX_call ?_ (hold_d A B hd.1 hd.2)
    unfold S_p_law_call m_p_law_call dDd
    simp [List.replicate, A.asI, hm_hold, into_rt]
  | cell x m l =>
    refine doneX_call ?_ (cell_d A B hd m (hm x m l rfl) l)
    unfold S_p_law_call m_p_law_call dDd
    simp [List.replicate, A.asI, hm_cell, into_rt]
  | tie x y =>
    refine doneX_call ?_ (tie_d A ok B hd.1 hd.2)
    unfold S_p_law_call m_p_law_call dDd
    simp [List.replicate, A.asI, hm_tie, into_rt]
  | get x y k =>
    refine doneX_call ?_ (get_d A ok B hd.1 hd.2 k)
    unfold S_p_law_call m_p_law_call dDd
    simp [List.replicate, A.asI, hm_get, into_rt]
  | put y k x =>
    refine doneX_call ?_ (put_d A ok B hd.1 hd.2 k)
    unfold S_p_law_call m_p_law_call dDd
    simp [List.replicate, A.asI, hm_put, into_rt]
  | follow x y =>
    refine doneX_call ?_ (follow_d A ok B hd.1 hd.2)
    unfold S_p_law_call m_p_law_call dDd
    simp [List.replicate, A.asI, hm_follow, into_rt]
  | drop x =>
    refine doneX_call ?_ (drop_d A B hd)
    unfold S_p_law_call m_p_law_call dDd
    simp [List.replicate, A.asI, hm_drop, into_rt]
end
/-! ### what is heard -/
abbrev pL : He.Defn := ("law", none)
abbrev qL : Str := (("law" : Str) ++ ".<locals>.") ++ "<lambda>"
theorem isf_ok {tb : List (Str × Bool)} {c w : Str} {fs : List (Str × D)} {b : Bool} (h : tb.lookup w = some b) (S : Store) : gIsF tb (.cls c) [.exc w fs, .cls c] S = .ok (.bl b) S := by
  unfold gIsF
  simp only [h]
  simp [isArg]
section
variable {S S' : Store} {fb : FE} {ρ : EnvD}
theorem heard_told (ht : S.any (isTab pL qL) = true) {d : D} (h : fb ρ S = .ok d S') : fTold pL qL 7 m_p_law_heard fb ρ S = .ok (.tup [.str "told", d]) S' := by
  have s2 : short 2 = true := short_le (by omega)
  have n0 : D.isNon .non = true := rfl
  unfold fTold
  rw [if_pos ht]
  unfold m_p_law_heard
  simp [List.replicate, gTry, gActSet, h, gIs, n0, s2]
theorem heard_name (ht : S.any (isTab pL qL) = true) {x : Str} (h : fb ρ S = .ex "NoName" [("name", .str x)] S') : fTold pL qL 7 m_p_law_heard fb ρ S = .ok (.tup [.str "NoName", .str x]) S' := by
  have s2 : short 2 = true := short_le (by omega)
  have ty : tb_YardError.lookup ("NoName" : Str) = some true := by decide +kernel
  have g1 : ∀ fs S, gIsF tb_BadName (.cls "BadName") [.exc "NoName" fs, .cls "BadName"] S = .ok (.bl false) S := fun fs S => isf_ok (by decide +kernel) S
  have g2 : ∀ fs S, gIsF tb_NoName (.cls "NoName") [.exc "NoName" fs, .cls "NoName"] S = .ok (.bl true) S := fun fs S => isf_ok (by decide +kernel) S
  obtain ⟨fs, hfs⟩ : ∃ fs : List (Str × D), fs = [(("name" : Str), .str x)] := ⟨_, rfl⟩
  have l1 : fs.lookup ("name" : Str) = some (.str x) := by rw [hfs]; simp [List.lookup]
  have h : fb ρ S = .ex "NoName" fs S' := by rw [hfs]; exact h
  unfold fTold
  rw [if_pos ht]
  unfold m_p_law_heard
  simp [List.replicate, gTry, gActSet, h, hdM, ty, Out.undo, g1, g2, s2, D.isNon, fFldX, asX, l1]
theorem join1 (x : Str) (hx : x.length ≤ 100) (S : Store) : gJoin (.str " ") [.lst [.str x]] S = .ok (.str x) S := by
  have e1 : asQ S (.lst [.str x]) = some [.str x] := rfl
  have e2 : strsOf [.str x] = some [x] := rfl
  have e3 : (" " : Str).length = 1 := by decide +kernel
  have e4 : Txt.join " " [x] = x := rfl
  unfold gJoin
  simp only [e1, e2, Option.bind_some, e4]
  rw [if_pos]
  simp [e3]
  omega
theorem heard_word (ht : S.any (isTab pL qL) = true) {w : Str} (hw : w = "BadNumber" ∨ w = "NoCell" ∨ w = "NoField" ∨ w = "TooMany") (h : fb ρ S = .ex w [] S') : fTold pL qL 7 m_p_law_heard fb ρ S = .ok (.tup [.str w, .non]) S' := by
  have s2 : short 2 = true := short_le (by omega)
  have s1 : short 1 = true := short_le (by omega)
  have s5 : short 5 = true := short_le (by omega)
  have ty : tb_YardError.lookup w = some true := by rcases hw with rfl | rfl | rfl | rfl <;> decide +kernel
  have g1 : ∀ S, gIsF tb_BadName (.cls "BadName") [.exc w [], .cls "BadName"] S = .ok (.bl false) S := fun S => isf_ok (by rcases hw with rfl | rfl | rfl | rfl <;> decide +kernel) S
  have g2 : ∀ S, gIsF tb_NoName (.cls "NoName") [.exc w [], .cls "NoName"] S = .ok (.bl false) S := fun S => isf_ok (by rcases hw with rfl | rfl | rfl | rfl <;> decide +kernel) S
  have g3 : ∀ S, gIsF tb_BadNumber (.cls "BadNumber") [.exc w [], .cls "BadNumber"] S = .ok (.bl (decide (w = "BadNumber"))) S := fun S => isf_ok (by rcases hw with rfl | rfl | rfl | rfl <;> decide +kernel) S
  have g4 : ∀ S, gIsF tb_NoCell (.cls "NoCell") [.exc w [], .cls "NoCell"] S = .ok (.bl (decide (w = "NoCell"))) S := fun S => isf_ok (by rcases hw with rfl | rfl | rfl | rfl <;> decide +kernel) S
  have g5 : ∀ S, gIsF tb_NoField (.cls "NoField") [.exc w [], .cls "NoField"] S = .ok (.bl (decide (w = "NoField"))) S := fun S => isf_ok (by rcases hw with rfl | rfl | rfl | rfl <;> decide +kernel) S
  have g6 : ∀ S, gIsF tb_NoDeed (.cls "NoDeed") [.exc w [], .cls "NoDeed"] S = .ok (.bl false) S := fun S => isf_ok (by rcases hw with rfl | rfl | rfl | rfl <;> decide +kernel) S
  have g7 : ∀ S, gIsF tb_TooMany (.cls "TooMany") [.exc w [], .cls "TooMany"] S = .ok (.bl (decide (w = "TooMany"))) S := fun S => isf_ok (by rcases hw with rfl | rfl | rfl | rfl <;> decide +kernel) S
  have jn := join1 w (by rcases hw with rfl | rfl | rfl | rfl <;> decide +kernel) S'
  unfold fTold
  rw [if_pos ht]
  unfold m_p_law_heard
  rcases hw with rfl | rfl | rfl | rfl <;> simp [List.replicate, gTry, gActSet, h, hdM, ty, Out.undo, g1, g2, g3, g4, g5, g6, g7, s1, s2, s5, D.isNon, compF, okC, mTup, mCons, jn, finL]
end
end K03

/-! Houses: what stays; a deed asked of both. -/
namespace K03
open PySem L2 DL
theorem okV_mono {m n : Nat} (h : m ≤ n) {v : Vl} (hv : okV m v) : okV n v := by
  cases v with
  | non => trivial
  | num i => exact hv
  | at_ k => exact Nat.lt_of_lt_of_le hv h
theorem okC_mono {m n : Nat} (h : m ≤ n) {c : Ce} (hc : okC' m c) : okC' n c := by
  cases c with
  | flds l vs => exact ⟨hc.1, fun v hv => okV_mono h (hc.2 v hv)⟩
  | tie g =>
    cases g with
    | none => trivial
    | some g => exact Nat.lt_of_lt_of_le hc h
section
variable {H : Hm}
theorem vOf_ok (ok : H.ok) {x : Str} {v : Vl} (h : vOf H.nm x = some v) : okV H.th.length v := ok.nm _ (vOf_mem h)
theorem ok_putn (ok : H.ok) (x : Str) {v : Vl} (hv : okV H.th.length v) : (H.upd (some (putN H.nm x v)) none none).ok := ⟨fun q hq => by
    rcases vOf_put _ _ _ hq with h | rfl
    · exact ok.nm q h
    · exact hv, ok.th, ok.wa⟩
theorem ok_grow (ok : H.ok) (x : Str) {c : Ce} (hc : okC' (H.th.length + 1) c) : (H.upd (some (putN H.nm x (.at_ H.th.length))) (some (H.th ++ [c])) none).ok := by
  have e : (H.upd (some (putN H.nm x (.at_ H.th.length))) (some (H.th ++ [c])) none).th.length = H.th.length + 1 := by simp [Hm.upd]
  refine ⟨fun q hq => ?_, fun d hd => ?_, fun n hn => ?_⟩
  · rw [e]
    rcases vOf_put _ _ _ hq with h | rfl
    · exact okV_mono (by omega) (ok.nm q h)
    · exact Nat.lt_succ_self _
  · rw [e]
    rcases List.mem_append.mp hd with h | h
    · exact okC_mono (by omega) (ok.th d h)
    · rw [List.mem_singleton.mp h]
      exact hc
  · rw [e]
    have := ok.wa n hn
    omega
theorem orX {a b : RX} (h : a.or b = none) : a = none ∧ b = none := by cases a <;> simp_all
theorem act_ok (ok : H.ok) (d : Dd) (h : H.no d = none) : (H.act d).ok := by
  cases d with
  | number x i =>
    obtain ⟨_, h2⟩ := orX h
    split at h2
    · rename_i hi
      exact ok_putn ok x hi
    · cases h2
  | nothing x => exact ok_putn ok x trivial
  | hold x y =>
    have h0 : needX H [y] (some x) = none := h
    obtain ⟨v, hv⟩ := there_of h0 y (by simp)
    have e : H.act (.hold x y) = H.upd (some (putN H.nm x v)) none none := by simp [Hm.act, hv]
    rw [e]
    exact ok_putn ok x (vOf_ok ok hv)
  | cell x m l =>
    obtain ⟨_, h2⟩ := orX h
    split at h2
    · rename_i hm
      exact ok_grow ok x ⟨by simpa using hm, fun v hv => by rw [List.eq_of_mem_replicate hv]; trivial⟩
    · cases h2
  | drop x => exact ⟨fun q hq => ok.nm q (List.mem_filter.mp hq).1, ok.th, ok.wa⟩
  | tie x y =>
    obtain ⟨_, h2⟩ := orX h
    split at h2
    · rename_i n hn
      obtain ⟨hv, c, hc, _⟩ := thing_some hn
      have e : H.act (.tie x y) = H.upd (some (putN H.nm x (.at_ H.th.length))) (some (H.th ++ [Ce.tie (some n)])) none := by simp [Hm.act, hn]
      rw [e]
      refine ok_grow ok x ?_
      have := (List.getElem?_eq_some_iff.mp hc).1
      show n < H.th.length + 1
      omega
    · cases h2
  | follow x y =>
    obtain ⟨_, h2⟩ := orX h
    split at h2
    · rename_i n hn
      obtain ⟨hv, c, hc, hp⟩ := thing_some hn
      have e : H.act (.follow x y) = H.upd (some (putN H.nm x (goalV H n))) none none := by simp [Hm.act, hn]
      rw [e]
      refine ok_putn ok x ?_
      cases c with
      | flds l vs => cases hp
      | tie g =>
        cases g with
        | none => simp [goalV, hc, okV]
        | some g =>
          have := ok.th _ (List.mem_of_getElem? hc)
          simp only [goalV, hc]
          exact this
    · cases h2
  | get x y k =>
    obtain ⟨_, h2⟩ := orX h
    split at h2
    · rename_i n hn
      obtain ⟨hv, l, vs, hc, k0, k1⟩ := field_some hn
      have e : H.act (.get x y k) = H.upd (some (putN H.nm x (vs.getD k .non))) none none := by simp [Hm.act, hn, fldV, hc]
      rw [e]
      refine ok_putn ok x ?_
      have hk : k < vs.length := by omega
      have := (ok.th _ (List.mem_of_getElem? hc)).2 (vs.getD k .non) (by rw [List.getD_eq_getElem?_getD, List.getElem?_eq_getElem hk]; exact List.getElem_mem hk)
      exact this
    · cases h2
  | put y k x =>
    obtain ⟨h1, h2⟩ := orX h
    obtain ⟨v, hv2⟩ := there_of h1 x (by simp)
    split at h2
    · rename_i n hn
      obtain ⟨hv, l, vs, hc, k0, k1⟩ := field_some hn
      have e : H.act (.put y k x) = H.upd none (some (H.th.set n (.flds l (vs.set k v)))) none := by simp [Hm.act, hn, putC, hc, hv2]
      have o := ok.th _ (List.mem_of_getElem? hc)
      rw [e]
      have el : (H.upd none (some (H.th.set n (.flds l (vs.set k v)))) none).th.length = H.th.length := by simp [Hm.upd]
      refine ⟨fun q hq => by rw [el]; exact ok.nm q hq, fun c hc => ?_, fun n hn => by rw [el]; exact ok.wa n hn⟩
      rw [el]
      rcases List.mem_or_eq_of_mem_set hc with h | rfl
      · exact ok.th c h
      · refine ⟨by rw [List.length_set]; exact o.1, fun z hz => ?_⟩
        rcases List.mem_or_eq_of_mem_set hz with h | rfl
        · exact o.2 z h
        · exact vOf_ok ok hv2
    · cases h2
/-- how much a house grows -/
theorem act_len (d : Dd) : (H.act d).nm.length ≤ H.nm.length + 1 ∧ (H.act d).th.length ≤ H.th.length + 1 := by
  have p := fun x v => putN_len H.nm x v
  cases d with
  | number x i => exact ⟨(p x _).1, Nat.le_succ _⟩
  | nothing x => exact ⟨(p x _).1, Nat.le_succ _⟩
  | hold x y => exact ⟨(p x _).1, Nat.le_succ _⟩
  | cell x m l => exact ⟨(p x _).1, by simp [Hm.act, Hm.upd]⟩
  | drop x => exact ⟨Nat.le_succ_of_le (dropN_len _ _), Nat.le_succ _⟩
  | tie x y => exact ⟨(p x _).1, by simp [Hm.act, Hm.upd]⟩
  | follow x y => exact ⟨(p x _).1, Nat.le_succ _⟩
  | get x y k => exact ⟨(p x _).1, Nat.le_succ _⟩
  | put y k x =>
    refine ⟨Nat.le_succ _, ?_⟩
    simp only [Hm.act, Hm.upd, Option.getD_some]
    split
    · unfold putC
      split <;> simp
    · simp
/-- the names of a deed -/
def Hm.nms (H : Hm) : Prop := ∀ q ∈ H.nm, Nm q.1
theorem act_nms (h : H.nms) (d : Dd) (hd : d.ok) : (H.act d).nms := by
  have p : ∀ x v, Nm x → ∀ q ∈ putN H.nm x v, Nm q.1 := fun x v hx q hq => by
    rcases vOf_put _ _ _ hq with h' | rfl
    · exact h q h'
    · exact hx
  cases d with
  | number x i => exact p x _ hd
  | nothing x => exact p x _ hd
  | hold x y => exact p x _ hd.1
  | cell x m l => exact p x _ hd
  | drop x => exact fun q hq => h q (List.mem_filter.mp hq).1
  | tie x y => exact p x _ hd.1
  | follow x y => exact p x _ hd.1
  | get x y k => exact p x _ hd.1
  | put y k x => exact h
end
/-- which refusals there are -/
def RXok : RX → Prop
  | none => True
  | some (w, fs) => (∃ x, Nm x ∧ w = "NoName" ∧ fs = ([("name", .str x)] : List (Str × D))) ∨ ((w = "BadNumber" ∨ w = "NoCell" ∨ w = "NoField" ∨ w = "TooMany") ∧ fs = [])
section
variable {H : Hm}
theorem need1_mem : ∀ {ys : List Str} {y : Str}, need1 H ys = some y → y ∈ ys
  | z :: r, y, h => by
    unfold need1 at h
    split at h
    · exact List.mem_cons_of_mem _ (need1_mem h)
    · cases h
      exact List.mem_cons_self
theorem needX_rx {ys : List Str} (hy : ∀ y ∈ ys, Nm y) (nw : Option Str) : RXok (needX H ys nw) := by
  unfold needX
  split
  · rename_i y e
    exact .inl ⟨y, hy y (need1_mem e), rfl, rfl⟩
  · split
    · split
      · exact .inr ⟨.inr (.inr (.inr rfl)), rfl⟩
      · trivial
    · trivial
theorem or_rx {a b : RX} (h1 : RXok a) (h2 : RXok b) : RXok (a.or b) := by cases a <;> assumption
theorem field_rx {x : Str} {k : Int} {w : Str} (h : H.field x k = .inr w) : w = "NoCell" ∨ w = "NoField" := by
  unfold Hm.field at h
  split at h
  · cases h; exact .inl rfl
  · split at h
    · split at h
      · cases h
      · cases h; exact .inr rfl
    · cases h; exact .inl rfl
theorem no_rx (d : Dd) (hd : d.ok) : RXok (H.no d) := by
  cases d with
  | number x i => exact or_rx (needX_rx (by simp) _) (by split; trivial; exact .inr ⟨.inl rfl, rfl⟩)
  | nothing x => exact needX_rx (H := H) (ys := []) (by simp) (some x)
  | hold x y => exact needX_rx (H := H) (ys := [y]) (by intro z hz; rw [List.mem_singleton.mp hz]; exact hd.2) (some x)
  | cell x m l => exact or_rx (needX_rx (by simp) _) (by split; trivial; exact .inr ⟨.inr (.inr (.inl rfl)), rfl⟩)
  | drop x => exact needX_rx (H := H) (ys := [x]) (by intro z hz; rw [List.mem_singleton.mp hz]; exact hd) none
  | tie x y => exact or_rx (needX_rx (by intro z hz; rw [List.mem_singleton.mp hz]; exact hd.2) _) (by split; trivial; exact .inr ⟨.inr (.inl rfl), rfl⟩)
  | follow x y => exact or_rx (needX_rx (by intro z hz; rw [List.mem_singleton.mp hz]; exact hd.2) _) (by split; trivial; exact .inr ⟨.inr (.inl rfl), rfl⟩)
  | get x y k =>
    refine or_rx (needX_rx (by intro z hz; rw [List.mem_singleton.mp hz]; exact hd.2) _) ?_
    split
    · trivial
    · rename_i w hw
      rcases field_rx hw with rfl | rfl
      · exact .inr ⟨.inr (.inl rfl), rfl⟩
      · exact .inr ⟨.inr (.inr (.inl rfl)), rfl⟩
  | put y k x =>
    refine or_rx (needX_rx (by intro z hz; simp only [List.mem_cons, List.not_mem_nil, or_false] at hz; rcases hz with rfl | rfl; exact hd.2; exact hd.1) _) ?_
    split
    · trivial
    · rename_i w hw
      rcases field_rx hw with rfl | rfl
      · exact .inr ⟨.inr (.inl rfl), rfl⟩
      · exact .inr ⟨.inr (.inr (.inl rfl)), rfl⟩
end
section
variable {S : Store} {h a b : Nat} {st el : List D} {t u : Int} {H : Hm}
/-- what is heard of a deed -/
theorem ask_ok (A : HAt S h a b st el t u H) (ok : H.ok) (B : Bnd st el H) (d : Dd) (hd : d.ok) (hm : ∀ x m l, d = .cell x m l → m ≤ 100) (ht : S.any (isTab pL qL) = true) {fb : FE} {ρ : EnvD} (hf : fb ρ S = S_p_law_call [.oid h, dDd d] S) :
    match H.no d with
    | some q => fTold pL qL 7 m_p_law_heard fb ρ S = .ok (dRX (some q)) S
    | none => ∃ S', fTold pL qL 7 m_p_law_heard fb ρ S = .ok (.tup [.str "told", .non]) S' ∧ HGo S h a b st el t u H (dDd d) S' (H.act d) := by
  have c := call_ok A ok B d hd hm
  have r := no_rx (H := H) d hd
  unfold DoneX at c
  cases hn : H.no d with
  | none =>
    rw [hn] at c
    obtain ⟨S', e, G⟩ := c
    exact ⟨S', heard_told ht (hf.trans e), G⟩
  | some q =>
    obtain ⟨w, fs⟩ := q
    rw [hn] at c r
    have c : S_p_law_call [.oid h, dDd d] S = .ex w fs S := c
    have c := hf.trans c
    rcases r with ⟨x, _, rfl, rfl⟩ | ⟨hw, rfl⟩
    · exact heard_name ht c
    · exact heard_word ht hw c
end
end K03

/-! Houses: how they stand. -/
namespace K03
open PySem L2 DL
noncomputable def zst0 : FS := (gSet 2 (fCB gSortD (fCons (fBin gIx (fVar 1) (fC (.str "names"))) (fun _ S => .ok [] S))))
noncomputable def zst1 : FS := (gIf (fOrT (toB (fBin gNe (fCB gRepr (fCons (fMeth S_House_names (fun ds es => pick [(0, 0)] ds es []) "House" "names" 1 0 1 (fVar 0) (fun _ S => .ok [] S) (fun _ S => .ok [] S)) (fun _ S => .ok [] S))) (fCB gRepr (fCons (fVar 2) (fun _ S => .ok [] S))))) (toB (fBin gNe (fCB gRepr (fCons (fCB (gLenP "House" S_House_len) (fCons (fVar 0) (fun _ S => .ok [] S))) (fun _ S => .ok [] S))) (fCB gRepr (fCons (fCB gLen (fCons (fVar 2) (fun _ S => .ok [] S))) (fun _ S => .ok [] S)))))) (gRet (fC (.bl false))) gNil)
noncomputable def zst2 : FS := (gIf (toB (fBin gNe (fCB gRepr (fCons (fComp (fSeq (fVar 2)) (mName 5) fYes (fMeth S_House_value (fun ds es => pick [(0, 0), (0, 1)] ds es []) "House" "value" 2 0 2 (fVar 0) (fCons (fVar 5) (fun _ S => .ok [] S)) (fun _ S => .ok [] S)) ([("_law_name_here", 5)].map (·.2)) finL) (fun _ S => .ok [] S))) (fCB gRepr (fCons (fComp (fSeq (fVar 2)) (mName 5) fYes (fCall S_p_law_value (fun ds es => pick [(0, 0), (0, 1)] ds es []) 2 0 2 (fCons (fVar 1) (fCons (fVar 5) (fun _ S => .ok [] S))) (fun _ S => .ok [] S)) ([("_law_name_here", 5)].map (·.2)) finL) (fun _ S => .ok [] S))))) (gRet (fC (.bl false))) gNil)
noncomputable def zst3b0 : FS := (gSet 4 (fComp (fSeq (fSl (fVar 2) fPartN (fPart (fC (.int 3))))) (mName 6) fYes (fBin gEq (fBin gIx (fBin gIx (fVar 1) (fC (.str "names"))) (fVar 3)) (fBin gIx (fBin gIx (fVar 1) (fC (.str "names"))) (fVar 6))) ([("_law_other", 6)].map (·.2)) finL))
noncomputable def zst3b1 : FS := (gIf (toB (fBin gNe (fCB gRepr (fCons (fComp (fSeq (fSl (fVar 2) fPartN (fPart (fC (.int 3))))) (mName 6) fYes (fMeth S_House_same (fun ds es => pick [(0, 0), (0, 1), (0, 2)] ds es []) "House" "same" 3 0 3 (fVar 0) (fCons (fVar 3) (fCons (fVar 6) (fun _ S => .ok [] S))) (fun _ S => .ok [] S)) ([("_law_other", 6)].map (·.2)) finL) (fun _ S => .ok [] S))) (fCB gRepr (fCons (fVar 4) (fun _ S => .ok [] S))))) (gRet (fC (.bl false))) gNil)
noncomputable def zst3b : FS := (gSeq zst3b0 zst3b1)
noncomputable def zst3 : FS := (gFor (fSeq (fSl (fVar 2) fPartN (fPart (fC (.int 3))))) (mName 3) zst3b)
noncomputable def zst4 : FS := (gRet (fC (.bl true)))
noncomputable def zst : FS := (gSeq zst0 (gSeq zst1 (gSeq zst2 (gSeq zst3 zst4))))
theorem zst_eq : m_p_law_stands = zst := rfl
/-- what a value is told as -/
def toldV (H : Hm) : Vl → D
  | .at_ n => (match H.th[n]? with
    | some c => if isTieC c = true then .str "tie" else .str "cell"
    | none => .non)
  | v => dV v
def vT (H : Hm) (x : Str) : D := toldV H ((vOf H.nm x).getD .non)
def eqT (H : Hm) (x y : Str) : Bool := (dV ((vOf H.nm x).getD .non)).py.eqv (dV ((vOf H.nm y).getD .non)).py
theorem needX_there {H : Hm} {ys : List Str} (h : ∀ y ∈ ys, inN H.nm y = true) : needX H ys none = none := by
  have gen : ∀ ys : List Str, (∀ y ∈ ys, inN H.nm y = true) → need1 H ys = none := by
    intro ys
    induction ys with
    | nil => intro _; rfl
    | cons z r ih =>
      intro h
      unfold need1
      rw [if_pos (h z List.mem_cons_self)]
      exact ih fun y hy => h y (List.mem_cons_of_mem _ hy)
  unfold needX
  rw [gen ys h]
theorem tie_str (c : Ce) (e : D) (S : Store) : gEq (.str (srt c)) (.str "tie") S = .ok (.bl (isTieC c)) S := by
  cases c with
  | flds l vs => cases l <;> simp [srt, sortOf, isTieC]
  | tie g => simp [srt, isTieC]
theorem simV {n : Nat} (hn : n ≤ 100000) {v : Vl} (h : okV n v) : (dV v).sim = true := by
  cases v with
  | non => rfl
  | num i =>
    have h : -1000000000 ≤ i ∧ i ≤ 1000000000 := h
    simp only [dV, D.sim]
    exact decide_eq_true (by omega)
  | at_ k =>
    have h : k < n := h
    have e : PyData.strOk "at" = true := by decide +kernel
    simp only [dV, D.sim, simL, e, Bool.true_and, Bool.and_true]
    exact decide_eq_true (by omega)
theorem depV (v : Vl) : (dV v).dep ≤ 1 := by cases v <;> simp [dV, D.dep, depL]
section
variable {S : Store} {h a b w n1 n2 n3 : Nat} {st el : List D} {t u : Int} {H : Hm}
theorem eq_vals (ok : H.ok) (l2 : H.th.length ≤ 1000) {x y : Str} {v1 v2 : Vl} (h1 : vOf H.nm x = some v1) (h2 : vOf H.nm y = some v2) (S : Store) : gEq (dV v1) (dV v2) S = .ok (.bl (eqT H x y)) S := by
  have s1 := simV (n := H.th.length) (by omega) (vOf_ok ok h1)
  have s2 := simV (n := H.th.length) (by omega) (vOf_ok ok h2)
  have d1 := depV v1
  have d2 := depV v2
  rw [eq_D s1 s2 (by omega) (by omega)]
  unfold eqT
  rw [h1, h2]
  rfl
theorem value_ok (A : HAt S h a b st el t u H) (ok : H.ok) {x : Str} (hx : Nm x) {v : Vl} (hv : vOf H.nm x = some v) : S_House_value [.oid h, .str x] S = .ok (vT H x) S := by
  have s1 : short 1 = true := short_le (by omega)
  have n1 := need_there A hx
  rw [needX_there (by intro y hy; rw [List.mem_singleton.mp hy, inN, hv]; rfl)] at n1
  have n1 : S_House_need [.oid h, .lst [.str x], .lst [.str x], .non] S = .ok .non S := n1
  have ix := ix_nm (S := S) hv
  unfold S_House_value m_House_value vT
  rw [hv]
  cases v with
  | non => simp [List.replicate, A.asI, hm_need, s1, n1, lh_named, ix, dV, tyS, isiT, toldV]
  | num i => simp [List.replicate, A.asI, hm_need, s1, n1, lh_named, ix, dV, tyS, isiT, toldV]
  | at_ n =>
    have hn : n < H.th.length := ok.nm _ (vOf_mem hv)
    obtain ⟨c, hc⟩ : ∃ c, H.th[n]? = some c := ⟨_, List.getElem?_eq_getElem hn⟩
    have it := ix_th (S := S) hc
    obtain ⟨e, he⟩ := dC_head c
    rw [he] at it
    have q := tie_str c e S
    simp only [Option.getD_some, toldV, hc]
    cases hc2 : isTieC c with
    | true =>
      rw [hc2] at q
      simp [List.replicate, A.asI, hm_need, s1, n1, lh_named, lh_things, ix, dV, tyS, isiT, it, q]
    | false =>
      rw [hc2] at q
      simp [List.replicate, A.asI, hm_need, s1, n1, lh_named, lh_things, ix, dV, tyS, isiT, it, q]
theorem lvalue_ok (L : LAt S w n1 n2 n3 H) (ok : H.ok) {x : Str} {v : Vl} (hv : vOf H.nm x = some v) : S_p_law_value [.oid w, .str x] S = .ok (vT H x) S := by
  have ix := L.ixn hv
  unfold S_p_law_value m_p_law_value vT
  rw [hv]
  cases v with
  | non => simp [List.replicate, L.ix1, ix, dV, tyS, isiT, toldV]
  | num i => simp [List.replicate, L.ix1, ix, dV, tyS, isiT, toldV]
  | at_ n =>
    have hn : n < H.th.length := ok.nm _ (vOf_mem hv)
    obtain ⟨c, hc⟩ : ∃ c, H.th[n]? = some c := ⟨_, List.getElem?_eq_getElem hn⟩
    have it := L.ixt hc
    obtain ⟨e, he⟩ := dC_head c
    rw [he] at it
    have q := tie_str c e S
    simp only [Option.getD_some, toldV, hc]
    cases hc2 : isTieC c with
    | true =>
      rw [hc2] at q
      simp [List.replicate, L.ix1, L.ix2, ix, dV, tyS, isiT, it, q]
    | false =>
      rw [hc2] at q
      simp [List.replicate, L.ix1, L.ix2, ix, dV, tyS, isiT, it, q]
theorem same_okH (A : HAt S h a b st el t u H) (ok : H.ok) (l2 : H.th.length ≤ 1000) {x y : Str} (hx : Nm x) (hy : Nm y) {v1 v2 : Vl} (h1 : vOf H.nm x = some v1) (h2 : vOf H.nm y = some v2) : S_House_same [.oid h, .str x, .str y] S = .ok (.bl (eqT H x y)) S := by
  have s2 : short 2 = true := short_le (by omega)
  have n1 : S_House_need [.oid h, .lst [.str x, .str y], .lst [.str x, .str y], .non] S = .ok .non S := by
    have n1 := need_put A hy hx
    rw [needX_there (by intro z hz; simp only [List.mem_cons, List.not_mem_nil, or_false] at hz; rcases hz with rfl | rfl; rw [inN, h1]; rfl; rw [inN, h2]; rfl)] at n1
    exact n1
  have i1 := ix_nm (S := S) h1
  have i2 := ix_nm (S := S) h2
  have q := eq_vals ok l2 h1 h2 S
  unfold S_House_same m_House_same
  simp [List.replicate, A.asI, hm_need, s2, n1, lh_named, i1, i2, q]
/-- the names, sorted -/
def srtN (H : Hm) : List Str := srtS (H.nm.map (·.1))
theorem srtN_mem {x : Str} (hx : x ∈ srtN H) : ∃ v, vOf H.nm x = some v := by
  have h0 : x ∈ H.nm.map (·.1) := by
    unfold srtN srtS at hx
    exact List.mem_mergeSort.mp hx
  obtain ⟨q, hq, rfl⟩ := List.mem_map.mp h0
  unfold vOf
  cases e : H.nm.find? fun r => decide (r.1 = q.1) with
  | some r => exact ⟨_, rfl⟩
  | none =>
    have := List.find?_eq_none.mp e q hq
    simp at this
theorem srtN_nm (hn : H.nms) {x : Str} (hx : x ∈ srtN H) : Nm x := by
  have h0 : x ∈ H.nm.map (·.1) := by
    unfold srtN srtS at hx
    exact List.mem_mergeSort.mp hx
  obtain ⟨q, hq, rfl⟩ := List.mem_map.mp h0
  exact hn q hq
theorem srtN_len : (srtN H).length = H.nm.length := by
  unfold srtN srtS
  rw [List.length_mergeSort, List.length_map]
theorem nm_strOk {x : Str} (h : Nm x) : PyData.strOk x = true := by
  unfold PyData.strOk
  rw [Array.all_eq_true']
  intro c hc
  have := h.2.2 c (by simpa using hc)
  exact decide_eq_true (by omega)
theorem names_h (A : HAt S h a b st el t u H) (l1 : H.nm.length ≤ 60) : S_House_names [.oid h] S = .ok (.lst ((srtN H).map D.str)) S := by
  have q : gSortD [.dic (nmD H.nm)] S = .ok (.lst ((srtN H).map D.str)) S := by
    have : (H.nm.map (·.1)).length < 64 := by simp; omega
    simp [gSortD, asD, keys_nm, srtN]
    omega
  unfold S_House_names m_House_names
  simp [List.replicate, A.asI, lh_named, q]
theorem names_l (L : LAt S w n1 n2 n3 H) (l1 : H.nm.length ≤ 60) : gSortD [.oid n1] S = .ok (.lst ((srtN H).map D.str)) S := by
  simp [gSortD, asD, L.inm, keys_nm, srtN]
  omega
theorem len_h (A : HAt S h a b st el t u H) (l1 : H.nm.length ≤ 60) : gLenP "House" S_House_len [.oid h] S = .ok (.int H.nm.length) S := by
  have q : S_House_len [.oid h] S = .ok (.int H.nm.length) S := by
    unfold S_House_len m_House_len
    simp [List.replicate, A.asI, lh_named, len_nm]
  unfold gLenP
  simp only [A.asI, if_true, q]
  rw [if_pos (by omega)]
theorem cut_take' (xs : List D) (p : Nat) : cutD xs none (some (p : Int)) = xs.take p := by
  unfold cutD
  rw [HT.sIx_none, HT.sIx_nat, List.drop_zero, Nat.sub_zero]
  rcases Nat.le_total p xs.length with h | h
  · rw [Nat.min_eq_left h]
  · rw [Nat.min_eq_right h, List.take_of_length_le (Nat.le_refl _), List.take_of_length_le h]
theorem take3 (xs : List D) (S : Store) : gSl (.lst xs) none (some 3) S = .ok (.lst (xs.take 3)) S := by
  have := cut_take' xs 3
  have e : ((3 : Nat) : Int) = 3 := rfl
  rw [e] at this
  simp [gSl, asL, this]
def vTd (H : Hm) : D → D
  | .str x => vT H x
  | _ => .non
theorem vT_sim (ok : H.ok) (l2 : H.th.length ≤ 1000) (x : Str) : (vT H x).sim = true ∧ (vT H x).dep ≤ 1 ∧ (vT H x).wt ≤ 200 := by
  have e1 : PyData.strOk "tie" = true := by decide +kernel
  have e2 : PyData.strOk "cell" = true := by decide +kernel
  have z1 : ("tie" : Str).cps.size ≤ 200 := by decide +kernel
  have z2 : ("cell" : Str).cps.size ≤ 200 := by decide +kernel
  unfold vT
  cases hv : vOf H.nm x with
  | none => exact ⟨rfl, by simp [toldV, dV, D.dep], by simp [toldV, dV, D.wt]⟩
  | some v =>
    have o := vOf_ok ok hv
    cases v with
    | non => exact ⟨rfl, by simp [toldV, dV, D.dep], by simp [toldV, dV, D.wt]⟩
    | num i => exact ⟨simV (n := H.th.length) (by omega) o, by simp [toldV, dV, D.dep], by simp [toldV, dV, D.wt]⟩
    | at_ n =>
      simp only [Option.getD_some, toldV]
      split
      · split
        · exact ⟨e1, by decide, z1⟩
        · exact ⟨e2, by decide, z2⟩
      · exact ⟨rfl, by decide, by decide⟩
theorem repr_any {ds : List D} (h1 : ∀ d ∈ ds, d.sim = true) (h2 : ∀ d ∈ ds, d.dep ≤ 1) (h3 : ∀ d ∈ ds, d.wt ≤ 200) (hl : ds.length ≤ 1000) (S : Store) : gRepr [.lst ds] S = .ok (.str (D.lst ds).py.shown) S := by
  refine repr_D ?_ ?_ ?_ S
  · simp only [D.sim]
    exact simL_all.mpr h1
  · have := depL_le.mpr h2
    simp only [D.dep]
    omega
  · have := wtL_le h3
    simp only [D.wt]
    have : (200 + 1) * ds.length ≤ 201 * 1000 := Nat.mul_le_mul_left _ hl
    omega
/-- both stand alike -/
theorem stands_ok (A : HAt S h a b st el t u H) (L : LAt S w n1 n2 n3 H) (ok : H.ok) (hn : H.nms) (l1 : H.nm.length ≤ 60) (l2 : H.th.length ≤ 1000) : S_p_law_stands [.oid h, .oid w] S = .ok (.bl true) S := by
  obtain ⟨xs, hxs⟩ : ∃ xs, xs = srtN H := ⟨_, rfl⟩
  have xl : xs.length = H.nm.length := by rw [hxs]; exact srtN_len
  have xv : ∀ x ∈ xs, ∃ v, vOf H.nm x = some v := fun x hx => srtN_mem (by rw [← hxs]; exact hx)
  have xn : ∀ x ∈ xs, Nm x := fun x hx => srtN_nm hn (by rw [← hxs]; exact hx)
  have sx : short xs.length = true := short_le (by omega)
  have nh := names_h A l1
  have nl := names_l L l1
  have lh := len_h A l1
  rw [← hxs] at nh nl
  have lx : gLen [.lst (xs.map D.str)] S = .ok (.int H.nm.length) S := by rw [← xl]; simp
  have r1 : gRepr [.lst (xs.map D.str)] S = .ok (.str (D.lst (xs.map D.str)).py.shown) S := by
    refine repr_any ?_ ?_ ?_ (by simp; omega) S
    · intro d hd
      obtain ⟨x, hx, rfl⟩ := List.mem_map.mp hd
      exact nm_strOk (xn x hx)
    · intro d hd
      obtain ⟨x, hx, rfl⟩ := List.mem_map.mp hd
      exact Nat.zero_le _
    · intro d hd
      obtain ⟨x, hx, rfl⟩ := List.mem_map.mp hd
      have := (xn x hx).2.1
      show x.cps.size ≤ 200
      have e : x.length = x.cps.size := rfl
      omega
  have ri : ∀ i : Int, -1000000000000 < i → i < 1000000000000 → gRepr [.int i] S = .ok (.str (D.int i).py.shown) S := fun i h1 h2 => repr_D (by simp only [D.sim]; exact decide_eq_true ⟨h1, h2⟩) (by simp [D.dep]) (by simp [D.wt]) S
  have ri := ri H.nm.length (by omega) (by omega)
  have v0 : zst0 [some (.oid h), some (.oid w), none, none, none, none, none] S = .nx [some (.oid h), some (.oid w), some (.lst (xs.map D.str)), none, none, none, none] S := by
    unfold zst0
    simp [L.ix1, nl]
  have v1 : zst1 [some (.oid h), some (.oid w), some (.lst (xs.map D.str)), none, none, none, none] S = .nx [some (.oid h), some (.oid w), some (.lst (xs.map D.str)), none, none, none, none] S := by
    unfold zst1
    simp [A.asI, hm_names, nh, r1, lh, lx, xl, ri]
  obtain ⟨ws, hws⟩ : ∃ ws, ws = (xs.map D.str).map (vTd H) := ⟨_, rfl⟩
  have wl : ws.length = xs.length := by rw [hws]; simp
  have sw : short ws.length = true := by rw [wl]; exact sx
  have r2 : gRepr [.lst ws] S = .ok (.str (D.lst ws).py.shown) S := by
    have q : ∀ d ∈ ws, ∃ x, d = vT H x := fun d hd => by
      rw [hws] at hd
      obtain ⟨e, he, rfl⟩ := List.mem_map.mp hd
      obtain ⟨x, _, rfl⟩ := List.mem_map.mp he
      exact ⟨x, rfl⟩
    refine repr_any ?_ ?_ ?_ (by omega) S
    · intro d hd
      obtain ⟨x, rfl⟩ := q d hd
      exact (vT_sim ok l2 x).1
    · intro d hd
      obtain ⟨x, rfl⟩ := q d hd
      exact (vT_sim ok l2 x).2.1
    · intro d hd
      obtain ⟨x, rfl⟩ := q d hd
      exact (vT_sim ok l2 x).2.2
  have c1 : ∀ x3 x4 x5 x6, compF none (mName 5) fYes (fMeth S_House_value (fun ds es => pick [(0, 0), (0, 1)] ds es []) "House" "value" 2 0 2 (fVar 0) (fCons (fVar 5) (fun _ S => .ok [] S)) (fun _ S => .ok [] S)) (xs.map D.str) [some (.oid h), some (.oid w), some (.lst (xs.map D.str)), x3, x4, x5, x6] S = .ok ws S := fun x3 x4 x5 x6 => by
    rw [hws, comp_map (f := vTd H)]
    intro d hd
    obtain ⟨x, hx, rfl⟩ := List.mem_map.mp hd
    obtain ⟨v, hv⟩ := xv x hx
    have q := value_ok A ok (xn x hx) hv
    exact ⟨_, rfl, by simp [A.asI, hm_value, q, vTd]⟩
  have c2 : ∀ x3 x4 x5 x6, compF none (mName 5) fYes (fCall S_p_law_value (fun ds es => pick [(0, 0), (0, 1)] ds es []) 2 0 2 (fCons (fVar 1) (fCons (fVar 5) (fun _ S => .ok [] S))) (fun _ S => .ok [] S)) (xs.map D.str) [some (.oid h), some (.oid w), some (.lst (xs.map D.str)), x3, x4, x5, x6] S = .ok ws S := fun x3 x4 x5 x6 => by
    rw [hws, comp_map (f := vTd H)]
    intro d hd
    obtain ⟨x, hx, rfl⟩ := List.mem_map.mp hd
    obtain ⟨v, hv⟩ := xv x hx
    have q := lvalue_ok L ok hv
    exact ⟨_, rfl, by simp [q, vTd]⟩
  have v2 : zst2 [some (.oid h), some (.oid w), some (.lst (xs.map D.str)), none, none, none, none] S = .nx [some (.oid h), some (.oid w), some (.lst (xs.map D.str)), none, none, none, none] S := by
    unfold zst2
    simp only [e_gIf, e_toB, e_fBin, e_fCB, e_fCons, e_fComp, e_fSeq, e_fVar, List.getElem?_cons_succ, List.getElem?_cons_zero, Res.bind_ok, e_seqD_l, wipeD, List.map_cons, List.map_nil, List.set_cons_succ, List.set_cons_zero, List.foldl_cons, List.foldl_nil]
    rw [c1]
    simp only [Res.bind_ok, e_finL, sw, if_true, r2]
    rw [c2]
    simp [finL, sw, r2]
  have ys : ∀ x3 x4 x5 x6 : Option D, ∀ x ∈ xs, zst3b0 [some (.oid h), some (.oid w), some (.lst (xs.map D.str)), some (.str x), x4, x5, x6] S = .nx [some (.oid h), some (.oid w), some (.lst (xs.map D.str)), some (.str x), some (.lst (((xs.map D.str).take 3).map fun d => match d with | .str y => .bl (eqT H x y) | _ => .non)), x5, x6] S := fun x3 x4 x5 x6 x hx => by
    obtain ⟨v, hv⟩ := xv x hx
    have i1 := L.ixn hv
    have sh3 : short (((xs.map D.str).take 3).map fun d => match d with | .str y => D.bl (eqT H x y) | _ => .non).length = true := short_le (by simp; omega)
    have c3 : ∀ y6, compF none (mName 6) fYes (fBin gEq (fBin gIx (fBin gIx (fVar 1) (fC (.str "names"))) (fVar 3)) (fBin gIx (fBin gIx (fVar 1) (fC (.str "names"))) (fVar 6))) ((xs.map D.str).take 3) [some (.oid h), some (.oid w), some (.lst (xs.map D.str)), some (.str x), x4, x5, y6] S = .ok (((xs.map D.str).take 3).map fun d => match d with | .str y => D.bl (eqT H x y) | _ => .non) S := fun y6 => by
      rw [comp_map (f := fun d => match d with | .str y => D.bl (eqT H x y) | _ => .non)]
      intro d hd
      obtain ⟨y, hy, rfl⟩ := List.mem_map.mp (List.mem_of_mem_take hd)
      obtain ⟨v2, hv2⟩ := xv y hy
      have i2 := L.ixn hv2
      have q := eq_vals ok l2 hv hv2 S
      exact ⟨_, rfl, by simp [L.ix1, i1, i2, q]⟩
    unfold zst3b0
    simp only [e_gSet, e_fComp, e_fSeq, fSl, fPart, fPartN, e_fVar, e_fC, List.getElem?_cons_succ, List.getElem?_cons_zero, Res.bind_ok, take3, e_seqD_l, wipeD, List.map_cons, List.map_nil, List.set_cons_succ, List.set_cons_zero, List.foldl_cons, List.foldl_nil]
    rw [c3]
    simp only [Res.bind_ok, e_finL, sh3, if_true]
    rfl
  have b1 : ∀ x5 x6 : Option D, ∀ x ∈ xs, zst3b1 [some (.oid h), some (.oid w), some (.lst (xs.map D.str)), some (.str x), some (.lst (((xs.map D.str).take 3).map fun d => match d with | .str y => .bl (eqT H x y) | _ => .non)), x5, x6] S = .nx [some (.oid h), some (.oid w), some (.lst (xs.map D.str)), some (.str x), some (.lst (((xs.map D.str).take 3).map fun d => match d with | .str y => .bl (eqT H x y) | _ => .non)), x5, x6] S := fun x5 x6 x hx => by
    obtain ⟨v, hv⟩ := xv x hx
    obtain ⟨ds, hds⟩ : ∃ ds, ds = ((xs.map D.str).take 3).map fun d => match d with | .str y => D.bl (eqT H x y) | _ => .non := ⟨_, rfl⟩
    have dl : ds.length ≤ 3 := by rw [hds]; simp; omega
    have sh3 : short ds.length = true := short_le (by omega)
    have q : ∀ d ∈ ds, ∃ b, d = D.bl b := fun d hd => by
      rw [hds] at hd
      obtain ⟨e, he, rfl⟩ := List.mem_map.mp hd
      obtain ⟨y, _, rfl⟩ := List.mem_map.mp (List.mem_of_mem_take he)
      exact ⟨_, rfl⟩
    have r3 : gRepr [.lst ds] S = .ok (.str (D.lst ds).py.shown) S := repr_any (fun d hd => by obtain ⟨b, rfl⟩ := q d hd; rfl) (fun d hd => by obtain ⟨b, rfl⟩ := q d hd; simp [D.dep]) (fun d hd => by obtain ⟨b, rfl⟩ := q d hd; simp [D.wt]) (by omega) S
    have c4 : ∀ y6, compF none (mName 6) fYes (fMeth S_House_same (fun ds es => pick [(0, 0), (0, 1), (0, 2)] ds es []) "House" "same" 3 0 3 (fVar 0) (fCons (fVar 3) (fCons (fVar 6) (fun _ S => .ok [] S))) (fun _ S => .ok [] S)) ((xs.map D.str).take 3) [some (.oid h), some (.oid w), some (.lst (xs.map D.str)), some (.str x), some (.lst ds), x5, y6] S = .ok ds S := fun y6 => by
      rw [hds, comp_map (f := fun d => match d with | .str y => D.bl (eqT H x y) | _ => .non)]
      intro d hd
      obtain ⟨y, hy, rfl⟩ := List.mem_map.mp (List.mem_of_mem_take hd)
      obtain ⟨v2, hv2⟩ := xv y hy
      have q := same_okH A ok l2 (xn x hx) (xn y hy) hv hv2
      exact ⟨_, rfl, by simp [A.asI, hm_same, q]⟩
    rw [← hds]
    unfold zst3b1
    simp only [e_gIf, e_toB, e_fBin, e_fCB, e_fCons, e_fComp, e_fSeq, fSl, fPart, fPartN, e_fVar, e_fC, List.getElem?_cons_succ, List.getElem?_cons_zero, Res.bind_ok, take3, e_seqD_l, wipeD, List.map_cons, List.map_nil, List.set_cons_succ, List.set_cons_zero, List.foldl_cons, List.foldl_nil]
    rw [c4]
    simp [finL, sh3, r3]
  have lp : ∀ (zs : List Str), (∀ z ∈ zs, z ∈ xs) → ∀ x3 x4 x5 x6 : Option D, ∃ y3 y4, loopF none (mName 3) zst3b (zs.map D.str) [some (.oid h), some (.oid w), some (.lst (xs.map D.str)), x3, x4, x5, x6] S = .nx [some (.oid h), some (.oid w), some (.lst (xs.map D.str)), y3, y4, x5, x6] S := by
    intro zs
    induction zs with
    | nil => intro _ x3 x4 x5 x6; exact ⟨x3, x4, by unfold loopF; simp [okC]⟩
    | cons z r ih =>
      intro hz x3 x4 x5 x6
      have zx := hz z List.mem_cons_self
      have e0 := ys x3 x4 x5 x6 z zx
      have e1 := b1 x5 x6 z zx
      obtain ⟨y3, y4, e⟩ := ih (fun q hq => hz q (List.mem_cons_of_mem _ hq)) (some (.str z)) (some (.lst (((xs.map D.str).take 3).map fun d => match d with | .str y => .bl (eqT H z y) | _ => .non))) x5 x6
      refine ⟨y3, y4, ?_⟩
      have m : mName 3 (.str z) [some (.oid h), some (.oid w), some (.lst (xs.map D.str)), x3, x4, x5, x6] S = some [some (.oid h), some (.oid w), some (.lst (xs.map D.str)), some (.str z), x4, x5, x6] := rfl
      have bb : zst3b [some (.oid h), some (.oid w), some (.lst (xs.map D.str)), some (.str z), x4, x5, x6] S = .nx [some (.oid h), some (.oid w), some (.lst (xs.map D.str)), some (.str z), some (.lst (((xs.map D.str).take 3).map fun d => match d with | .str y => .bl (eqT H z y) | _ => .non)), x5, x6] S := by
        unfold zst3b
        rw [e_gSeq, e0, Out.seq_nx, e1]
      rw [List.map_cons]
      unfold loopF
      simp only [okC, if_true, m, bb]
      exact e
  obtain ⟨y3, y4, e3⟩ := lp (xs.take 3) (fun z hz => List.mem_of_mem_take hz) none none none none
  have v3 : zst3 [some (.oid h), some (.oid w), some (.lst (xs.map D.str)), none, none, none, none] S = .nx [some (.oid h), some (.oid w), some (.lst (xs.map D.str)), y3, y4, none, none] S := by
    rw [List.map_take] at e3
    unfold zst3
    simp only [e_gFor, e_fSeq, fSl, fPart, fPartN, e_fVar, e_fC, List.getElem?_cons_succ, List.getElem?_cons_zero, Res.bind_ok, take3, e_seqD_l]
    exact e3
  unfold S_p_law_stands
  rw [zst_eq, e_semOf, e_startD]
  simp only [List.map_cons, List.map_nil, List.length_cons, List.length_nil, List.replicate, List.cons_append, List.nil_append]
  unfold zst
  rw [e_gSeq, v0, Out.seq_nx, e_gSeq, v1, Out.seq_nx, e_gSeq, v2, Out.seq_nx, e_gSeq, v3, Out.seq_nx]
  rfl
end
end K03

/-! Texts: the parts of a join. -/
namespace TX
open PySem
def jn (c : Nat) : List (List Nat) → List Nat
  | [] => []
  | [p] => p
  | p :: q :: r => p ++ c :: jn c (q :: r)
theorem str_inj {a b : Str} (h : a.cps.toList = b.cps.toList) : a = b := by
  cases a
  cases b
  simp only at h
  rw [Array.toList_inj] at h
  rw [h]
end TX

/-! Texts as lists of signs. -/
namespace TY
open PySem DL
def tx (l : List Nat) : Str := ⟨l.toArray⟩
theorem tx_cps (l : List Nat) : (tx l).cps.toList = l := by simp [tx]
theorem tx_len (l : List Nat) : (tx l).length = l.length := by
  show (l.toArray).size = _
  simp
theorem tx_app (a b : List Nat) : tx a ++ tx b = tx (a ++ b) := by
  apply TX.str_inj
  show (a.toArray ++ b.toArray).toList = _
  simp [tx]
/-! ### parting at a sign -/
theorem join_tx0 : ∀ (ps : List (List Nat)), Txt.join (tx []) (ps.map tx) = tx ps.flatten := fun ps => by
  have : ∀ ps : List (List Nat), Str.join (tx []) (ps.map tx) = tx ps.flatten := by
    intro ps
    induction ps with
    | nil => rfl
    | cons p ps ih =>
      cases ps with
      | nil => simp [Str.join]
      | cons q r =>
        have e : Str.join (tx []) ((p :: q :: r).map tx) = tx p ++ tx [] ++ Str.join (tx []) ((q :: r).map tx) := rfl
        rw [e, ih, tx_app, tx_app]
        simp
  rw [← this]
  exact StrLaws.glued_eq_join _ _
/-! ### words -/
/-! ### numbers -/
end TY

/-! Houses: what is drawn. -/
namespace K03
open PySem L2 DL TY
noncomputable def zss0 : FS := (gSet 2 (fC (.int 0)))
noncomputable def zss1 : FS := (gIf (toB (fBin gGt (fCB gLen (fCons (fVar 0) (fun _ S => .ok [] S))) (fC (.int 0)))) (gSet 2 (fCB gAbs (fCons (fBin gIx (fVar 0) (fBin gMod (fVar 1) (fCB gLen (fCons (fVar 0) (fun _ S => .ok [] S))))) (fun _ S => .ok [] S)))) gNil)
noncomputable def zss2 : FS := (gIf (toB (fBin gGe (fVar 2) (fBin gPow (fC (.int 10)) (fC (.int 18))))) (gRet (fLstO (fCons (fBin gSub (fVar 2) (fBin gPow (fC (.int 10)) (fC (.int 18)))) (fun _ S => .ok [] S)))) gNil)
noncomputable def zss3 : FS := (gSet 3 (fC (.int 0)))
noncomputable def zss4b0 : FS := (gSet 5 (fBin gMod (fBin gMul (fBin gAdd (fBin gMod (fVar 2) (fVar 4)) (fBin gMul (fC (.int 7919)) (fBin gAdd (fVar 1) (fC (.int 1))))) (fC (.int 48271))) (fVar 4)))
noncomputable def zss4b1 : FS := (gSet 5 (fBin gMod (fBin gAdd (fBin gMul (fVar 5) (fVar 5)) (fC (.int 104729))) (fVar 4)))
noncomputable def zss4b2 : FS := (gSet 3 (fBin gAdd (fBin gMul (fVar 3) (fC (.int 2147483647))) (fBin gMod (fBin gMul (fVar 5) (fVar 5)) (fVar 4))))
noncomputable def zss4b : FS := (gSeq zss4b0 (gSeq zss4b1 zss4b2))
noncomputable def zss4 : FS := (gFor (fSeq (fTup (fCons (fC (.int 2147483629)) (fCons (fC (.int 2147483587)) (fCons (fC (.int 2147483579)) (fCons (fC (.int 2147483563)) (fCons (fC (.int 2147483549)) (fCons (fC (.int 2147483543)) (fCons (fC (.int 2147483497)) (fCons (fC (.int 2147483489)) (fCons (fC (.int 2147483477)) (fCons (fC (.int 2147483423)) (fCons (fC (.int 2147483399)) (fCons (fC (.int 2147483353)) (fun _ S => .ok [] S))))))))))))))) (mName 4) zss4b)
noncomputable def zss5 : FS := (gRet (fLstO (fCons (fVar 3) (fun _ S => .ok [] S))))
noncomputable def zss : FS := (gSeq zss0 (gSeq zss1 (gSeq zss2 (gSeq zss3 (gSeq zss4 zss5)))))
theorem zss_eq : m_p_law_state = zss := rfl
noncomputable def zna0 : FS := (gSet 2 (fC (.str "abcdefghijklmnopqrstuvwxyz")))
noncomputable def zna1 : FS := (gSet 3 (fBM "str" gJoin (fC (.str "")) (fCons (fComp (fRng1 (fCons (fBin gAdd (fC (.int 1)) (fCall S_p_law_next (fun ds es => pick [(0, 0), (0, 1)] ds es []) 2 0 2 (fCons (fVar 0) (fCons (fC (.int 8)) (fun _ S => .ok [] S))) (fun _ S => .ok [] S))) (fun _ S => .ok [] S))) (mName 6) fYes (fBin gIx (fVar 2) (fCall S_p_law_next (fun ds es => pick [(0, 0), (0, 1)] ds es []) 2 0 2 (fCons (fVar 0) (fCons (fC (.int 26)) (fun _ S => .ok [] S))) (fun _ S => .ok [] S))) ([("_law_place", 6)].map (·.2)) finL) (fun _ S => .ok [] S))))
noncomputable def zna2 : FS := (gIf (toB (fBin gNotIn (fVar 3) (fVar 1))) (gRet (fVar 3)) gNil)
noncomputable def zna3b0b0 : FS := (gIf (toB (fBin gNotIn (fBin gAdd (fBin gAdd (fSlS (fVar 3) fPartN (fPart (fC (.int 6)))) (fVar 4)) (fVar 5)) (fVar 1))) (gRet (fBin gAdd (fBin gAdd (fSlS (fVar 3) fPartN (fPart (fC (.int 6)))) (fVar 4)) (fVar 5))) gNil)
noncomputable def zna3b0 : FS := (gFor (fSigns (fVar 2)) (mName 5) zna3b0b0)
noncomputable def zna3 : FS := (gFor (fSigns (fVar 2)) (mName 4) zna3b0)
noncomputable def zna4 : FS := (gRet (fVar 3))
noncomputable def zna : FS := (gSeq zna0 (gSeq zna1 (gSeq zna2 (gSeq zna3 zna4))))
theorem zna_eq : m_p_law_name = zna := rfl
theorem cMul_l {i j : Int} (h1 : -18446744073709551616 < i) (h2 : i < 18446744073709551616) : cMul i j = true := @decide_eq_true _ (Classical.propDecidable _) (.inl ⟨h1, h2⟩)
theorem cMul_r {i j : Int} (h1 : -18446744073709551616 < j) (h2 : j < 18446744073709551616) : cMul i j = true := @decide_eq_true _ (Classical.propDecidable _) (.inr ⟨h1, h2⟩)
theorem p1018 (S : Store) : gPow (.int 10) (.int 18) S = .ok (.int 1000000000000000000) S := by
  have : cPow 10 18 = true := by simp [cPow]
  simp [gPow, gI, this]
/-! ### the state -/
theorem sbod_ok (x0 : Option D) (k : Nat) (hk : k < 1000000) (cell f p : Int) (hp : 0 < p ∧ p < 2147483648) (z5 : Option D) (S : Store) : ∃ f' z', zss4b [x0, some (.int k), some (.int cell), some (.int f), some (.int p), z5] S = .nx [x0, some (.int k), some (.int cell), some (.int f'), some (.int p), z'] S := by
  obtain ⟨p1, p2⟩ := hp
  generalize ho : (cell % p + 7919 * ((k : Int) + 1)) * 48271 % p = one
  have b1 : 0 ≤ one := by rw [← ho]; exact Int.emod_nonneg _ (by omega)
  have b2 : one < p := by rw [← ho]; exact Int.emod_lt_of_pos _ p1
  generalize ht : (one * one + 104729) % p = two
  have c1 : 0 ≤ two := by rw [← ht]; exact Int.emod_nonneg _ (by omega)
  have c2 : two < p := by rw [← ht]; exact Int.emod_lt_of_pos _ p1
  have m1 : cMul 7919 ((k : Int) + 1) = true := cMul_l (by decide) (by decide)
  have m2 : ∀ x, cMul x 48271 = true := fun x => cMul_r (by decide) (by decide)
  have m3 : cMul one one = true := cMul_l (by omega) (by omega)
  have m4 : cMul two two = true := cMul_l (by omega) (by omega)
  have m5 : cMul f 2147483647 = true := cMul_r (by decide) (by decide)
  refine ⟨f * 2147483647 + two * two % p, some (.int two), ?_⟩
  unfold zss4b zss4b0 zss4b1 zss4b2
  simp [m1, m2, m3, m4, m5, p1, ho, ht]
theorem sloop (x0 : Option D) (k : Nat) (hk : k < 1000000) (cell : Int) (S : Store) : ∀ (ps : List Int), (∀ p ∈ ps, 0 < p ∧ p < 2147483648) → ∀ (f : Int) (y4 y5 : Option D), ∃ f' z4 z5, loopF none (mName 4) zss4b (ps.map D.int) [x0, some (.int k), some (.int cell), some (.int f), y4, y5] S = .nx [x0, some (.int k), some (.int cell), some (.int f'), z4, z5] S
  | [], _, f, y4, y5 => ⟨f, y4, y5, by unfold loopF; simp [okC]⟩
  | p :: ps, hp, f, y4, y5 => by
    obtain ⟨f1, z1, e1⟩ := sbod_ok x0 k hk cell f p (hp p List.mem_cons_self) y5 S
    obtain ⟨f', z4, z5, e⟩ := sloop x0 k hk cell S ps (fun q hq => hp q (List.mem_cons_of_mem _ hq)) f1 (some (.int p)) z1
    refine ⟨f', z4, z5, ?_⟩
    have m : mName 4 (.int p) [x0, some (.int k), some (.int cell), some (.int f), y4, y5] S = some [x0, some (.int k), some (.int cell), some (.int f), some (.int p), y5] := rfl
    rw [List.map_cons]
    unfold loopF
    simp only [okC, if_true, m, e1]
    exact e
theorem state_ok (ns : List Int) (k : Nat) (hk : k < 1000000) (S : Store) : ∃ v : Int, S_p_law_state [.scr (ns.map D.int), .int k] S = .ok (.oid S.length) (S ++ [.lst [.int v]]) := by
  have v0 : zss0 [some (.scr (ns.map D.int)), some (.int k), none, none, none, none] S = .nx [some (.scr (ns.map D.int)), some (.int k), some (.int 0), none, none, none] S := by
    unfold zss0
    simp
  obtain ⟨cell, v1⟩ : ∃ cell : Int, zss1 [some (.scr (ns.map D.int)), some (.int k), some (.int 0), none, none, none] S = .nx [some (.scr (ns.map D.int)), some (.int k), some (.int cell), none, none, none] S := by
    cases ns with
    | nil =>
      refine ⟨0, ?_⟩
      unfold zss1
      simp
    | cons n ns =>
      have lp : (0 : Int) < ((n :: ns).length : Int) := by simp only [List.length_cons]; omega
      have g1 := Int.emod_nonneg (k : Int) (b := ((n :: ns).length : Int)) (by omega)
      have g2 := Int.emod_lt_of_pos (k : Int) lp
      obtain ⟨i, hi⟩ : ∃ i : Nat, (k : Int) % ((n :: ns).length : Int) = (i : Int) := ⟨((k : Int) % ((n :: ns).length : Int)).toNat, by omega⟩
      have hil : i < (n :: ns).length := by omega
      have ea : atI ((n :: ns).map D.int) (i : Int) = some (.int ((n :: ns)[i])) := by
        rw [at_nat _ _ (by simpa using hil), List.getElem?_map, List.getElem?_eq_getElem hil]
        rfl
      refine ⟨if (n :: ns)[i] < 0 then -(n :: ns)[i] else (n :: ns)[i], ?_⟩
      have md : gMod (.int k) (.int (((n :: ns).map D.int).length : Nat)) S = .ok (.int i) S := by
        rw [List.length_map, e_gMod _ _ _ lp, hi]
      have gg : gGt (.int (((n :: ns).map D.int).length : Nat)) (.int 0) S = .ok (.bl true) S := by
        rw [List.length_map]
        simp [lp]
      generalize (n :: ns)[i] = z at *
      unfold zss1
      simp only [e_gIf, e_toB, e_fBin, e_fVar, e_fC, e_gSet, List.getElem?_cons_succ, List.getElem?_cons_zero, Res.bind_ok, e_fCB, e_fCons, e_len_s, gg, md, e_ix_s, ea, e_abs, Res.into_ok, if_true, List.set_cons_succ, List.set_cons_zero]
  unfold S_p_law_state
  rw [zss_eq, e_semOf, e_startD]
  simp only [List.map_cons, List.map_nil, List.length_cons, List.length_nil, List.replicate, List.cons_append, List.nil_append]
  unfold zss
  rw [e_gSeq, v0, Out.seq_nx, e_gSeq, v1, Out.seq_nx, e_gSeq]
  by_cases hc : (1000000000000000000 : Int) ≤ cell
  · refine ⟨cell - 1000000000000000000, ?_⟩
    have v2 : zss2 [some (.scr (ns.map D.int)), some (.int k), some (.int cell), none, none, none] S = .rt (.oid S.length) (S ++ [.lst [.int (cell - 1000000000000000000)]]) := by
      unfold zss2
      simp [p1018, hc]
    rw [v2]
    rfl
  · have v2 : zss2 [some (.scr (ns.map D.int)), some (.int k), some (.int cell), none, none, none] S = .nx [some (.scr (ns.map D.int)), some (.int k), some (.int cell), none, none, none] S := by
      unfold zss2
      simp [p1018, hc]
    have v3 : zss3 [some (.scr (ns.map D.int)), some (.int k), some (.int cell), none, none, none] S = .nx [some (.scr (ns.map D.int)), some (.int k), some (.int cell), some (.int 0), none, none] S := by
      unfold zss3
      simp
    have s12 : short 12 = true := short_le (by omega)
    obtain ⟨f', z4, z5, e4⟩ := sloop (some (.scr (ns.map D.int))) k hk cell S [2147483629, 2147483587, 2147483579, 2147483563, 2147483549, 2147483543, 2147483497, 2147483489, 2147483477, 2147483423, 2147483399, 2147483353] (by decide) 0 none none
    have v4 : zss4 [some (.scr (ns.map D.int)), some (.int k), some (.int cell), some (.int 0), none, none] S = .nx [some (.scr (ns.map D.int)), some (.int k), some (.int cell), some (.int f'), z4, z5] S := by
      unfold zss4
      rw [e_gFor, e_fSeq, e_fTup]
      simp only [e_fCons, e_fC, Res.bind_ok, List.length_cons, List.length_nil, Nat.zero_add, Nat.reduceAdd, s12, if_true, e_seqD_t, Res.into_ok]
      exact e4
    refine ⟨f', ?_⟩
    rw [v2, Out.seq_nx, e_gSeq, v3, Out.seq_nx, e_gSeq, v4, Out.seq_nx]
    unfold zss5
    simp
/-! ### the next number -/
theorem e_gAugLH {g : G2} {fo fi fe : FE} {ρ : EnvD} {S : Store} : gAugL g fo fi fe ρ S = (fo ρ S).into ρ fun x S => (fi ρ S).into ρ fun y S => (gAtL x y S).into ρ fun d S => (fe ρ S).into ρ fun c S => (g d c S).into ρ fun z S => match storeAt x y z S with
  | some S => .nx ρ S
  | none => .stuck := rfl
theorem next_st {S : Store} {s : Nat} {v : Int} (hS : S[s]? = some (.lst [.int v])) (m : Int) (h1 : 0 < m) (h2 : m < 10000000000) : S_p_law_next [.oid s, .int m] S = .ok (.int (v % m)) (S.set s (.lst [.int (v / m)])) := by
  have a1 : asD S (.oid s) = none := by simp [asD, hS]
  have a2 : isS (.oid s) (.int 0) S = false := rfl
  have a3 : asQ S (.oid s) = some [.int v] := by simp [asQ, asL, hS]
  have i0 : gIx (.oid s) (.int 0) S = .ok (.int v) S := by
    have q : atI [D.int v] 0 = some (.int v) := rfl
    simp [gIx, pDic1, a1, a2, gIxQ, a3, q]
  have i1 : gAtL (.oid s) (.int 0) S = .ok (.int v) S := by
    have q : atI [D.int v] 0 = some (.int v) := rfl
    simp [gAtL, asL, hS, q]
  have dv : gDivW (.int v) (.int m) S = .ok (.int (v / m)) S := by
    have c : cDivW v m = true := @decide_eq_true _ (Classical.propDecidable _) ⟨h1, by omega⟩
    simp [gDivW, gI, c]
  have st : storeAt (.oid s) (.int 0) (.int (v / m)) S = some (S.set s (.lst [.int (v / m)])) := by
    simp [storeAt, hS, ixN]
  unfold S_p_law_next m_p_law_next
  simp [List.replicate, i0, h1, e_gAugLH, i1, dv, st]
theorem lt_of {S : Store} {s : Nat} {o : SO} (h : S[s]? = some o) : s < S.length := (List.getElem?_eq_some_iff.mp h).1
theorem set_at {S : Store} {s : Nat} {o o' : SO} (h : S[s]? = some o) : (S.set s o')[s]? = some o' := List.getElem?_set_self (lt_of h)
theorem set_set' {S : Store} {s : Nat} {o o' : SO} : (S.set s o).set s o' = S.set s o' := List.set_set ..
theorem number_dr {S : Store} {s : Nat} {v : Int} (hS : S[s]? = some (.lst [.int v])) : ∃ i v', S_p_law_number [.oid s] S = .ok (.int i) (S.set s (.lst [.int v'])) := by
  have n1 := next_st hS 6 (by omega) (by omega)
  have n2 := next_st (set_at (o' := .lst [.int (v / 6)]) hS) 2000000001 (by omega) (by omega)
  rw [set_set'] at n2
  obtain ⟨S2, hS2⟩ : ∃ S2, S2 = S.set s (.lst [.int (v / 6 / 2000000001)]) := ⟨_, rfl⟩
  rw [← hS2] at n2
  have m2 : ∀ S, gMul (.int 2) (.int 1000000000) S = .ok (.int 2000000000) S := fun S => by
    have c : cMul 2 1000000000 = true := cMul_l (by decide) (by decide)
    simp [c]
  have s6 : short 6 = true := short_le (by omega)
  have h1 := Int.emod_nonneg v (b := 6) (by decide)
  have h2 := Int.emod_lt_of_pos v (b := 6) (by decide)
  generalize v / 6 % 2000000001 - 1000000000 = some_ at *
  have key : ∀ L : List D, (∃ a b c d e f, L = [.int a, .int b, .int c, .int d, .int e, .int f]) → ∃ i, atI L (v % 6) = some (.int i) := by
    rintro L ⟨a, b, c, d, e, f, rfl⟩
    have h : v % 6 = 0 ∨ v % 6 = 1 ∨ v % 6 = 2 ∨ v % 6 = 3 ∨ v % 6 = 4 ∨ v % 6 = 5 := by omega
    rcases h with h | h | h | h | h | h <;> rw [h] <;> exact ⟨_, rfl⟩
  obtain ⟨i, hi⟩ := key [.int (v / 6 % 2000000001 - 1000000000), .int ((v / 6 % 2000000001 - 1000000000) % 7), .int ((v / 6 % 2000000001 - 1000000000) % 7), .int 1000000000, .int (-1000000000), .int 0] ⟨_, _, _, _, _, _, rfl⟩
  refine ⟨i, v / 6 / 2000000001, ?_⟩
  rw [← hS2]
  unfold S_p_law_number m_p_law_number
  simp [List.replicate, n1, n2, pow9, m2, s6, hi]
end K03

/-! Houses: names drawn. -/
namespace K03
open PySem L2 DL TY
noncomputable def znn0 : FS := (gSet 2 (fLstO (fun _ S => .ok [] S)))
noncomputable def znn1b0 : FS := (gExpr (fBM "list" gApp (fVar 2) (fCons (fCall S_p_law_name (fun ds es => pick [(0, 0), (0, 1)] ds es []) 2 0 2 (fCons (fVar 0) (fCons (fVar 2) (fun _ S => .ok [] S))) (fun _ S => .ok [] S)) (fun _ S => .ok [] S))))
noncomputable def znn1 : FS := (gFor (fRng1 (fCons (fVar 1) (fun _ S => .ok [] S))) (mName 3) znn1b0)
noncomputable def znn2 : FS := (gRet (fFrz (fVar 2)))
noncomputable def znn : FS := (gSeq znn0 (gSeq znn1 znn2))
theorem znn_eq : m_p_law_names = znn := rfl
theorem pick_listH {α : Type} {f : α → D} {p : α → Prop} : ∀ (ys : List D), (∀ y ∈ ys, ∃ x, y = f x ∧ p x) → ∃ xs : List α, ys = xs.map f ∧ ∀ x ∈ xs, p x
  | [], _ => ⟨[], rfl, fun x hx => by simp at hx⟩
  | y :: ys, h => by
    obtain ⟨x, e, hx⟩ := h y List.mem_cons_self
    obtain ⟨xs, e2, h2⟩ := pick_listH (f := f) (p := p) ys fun z hz => h z (List.mem_cons_of_mem _ hz)
    refine ⟨x :: xs, by rw [e, e2]; rfl, fun z hz => ?_⟩
    rcases List.mem_cons.mp hz with q | q
    · rw [q]; exact hx
    · exact h2 z q
theorem cRng_natH {n : Nat} (h : n < 1000000) : cRng (n : Int) = true := by
  unfold cRng
  exact @decide_eq_true _ (Classical.propDecidable _) ⟨by omega, by omega⟩
abbrev abc : Str := "abcdefghijklmnopqrstuvwxyz"
theorem abc_cps : abc.cps.toList = [97, 98, 99, 100, 101, 102, 103, 104, 105, 106, 107, 108, 109, 110, 111, 112, 113, 114, 115, 116, 117, 118, 119, 120, 121, 122] := by decide +kernel
theorem abc_mem {c : Nat} (h : c ∈ abc.cps.toList) : 97 ≤ c ∧ c ≤ 122 := by
  rw [abc_cps] at h
  simp only [List.mem_cons, List.not_mem_nil, or_false] at h
  omega
/-- a small letter as a text -/
def let1 (c : Nat) : D := .str (tx [c])
theorem abc_ix (i : Int) (h1 : 0 ≤ i) (h2 : i < 26) (S : Store) : ∃ c, gIx (.str abc) (.int i) S = .ok (let1 c) S ∧ 97 ≤ c ∧ c ≤ 122 := by
  obtain ⟨n, rfl⟩ : ∃ n : Nat, i = (n : Int) := ⟨i.toNat, by omega⟩
  have hl : n < abc.cps.toList.length := by rw [abc_cps]; simp; omega
  have e : (abc.cps.toList)[n]? = some (abc.cps.toList)[n] := List.getElem?_eq_getElem hl
  have m := abc_mem (List.getElem_mem hl)
  generalize (abc.cps.toList)[n] = c at *
  have a : atI abc.cps.toList (n : Int) = some c := by rw [at_nat _ _ hl, e]
  have sl : short abc.length = true := by decide +kernel
  refine ⟨c, ?_, m⟩
  unfold gIx
  have p : pDic1 (.str abc) (.int (n : Int)) S = false := rfl
  have q : isS (.str abc) (.int (n : Int)) S = true := rfl
  simp only [p, q, Bool.false_eq_true, if_false, if_true, gIxS, sl, a]
  rfl
theorem strs_let : ∀ cs : List Nat, strsOf (cs.map let1) = some (cs.map fun c => tx [c])
  | [] => rfl
  | c :: cs => by
    show (strsOf (cs.map let1)).map (tx [c] :: ·) = _
    rw [strs_let cs]
    rfl
theorem flat1 : ∀ cs : List Nat, (cs.map fun c => [c]).flatten = cs
  | [] => rfl
  | c :: cs => by rw [List.map_cons, List.flatten_cons, flat1 cs]; rfl
theorem join_let (cs : List Nat) (h : cs.length ≤ 100) (S : Store) : gJoin (.str "") [.lst (cs.map let1)] S = .ok (.str (tx cs)) S := by
  have e1 : asQ S (.lst (cs.map let1)) = some (cs.map let1) := rfl
  have e2 := strs_let cs
  have t0 : tx [] = ("" : Str) := by decide +kernel
  have e4 : Txt.join "" (cs.map fun c => tx [c]) = tx cs := by
    have := join_tx0 (cs.map fun c => [c])
    rw [flat1, List.map_map, t0] at this
    exact this
  have e3 : ("" : Str).length = 0 := by decide +kernel
  have e5 : ∀ cs : List Nat, ((cs.map fun c => tx [c]).map (fun x => x.length)).sum = cs.length := by
    intro cs
    induction cs with
    | nil => rfl
    | cons c cs ih => simp only [List.map_cons, List.sum_cons, ih, tx_len, List.length_cons, List.length_nil]; omega
  unfold gJoin
  simp only [e1, e2, Option.bind_some, e4]
  rw [if_pos]
  rw [e3, e5]
  omega
def Sm (cs : List Nat) : Prop := ∀ c ∈ cs, 97 ≤ c ∧ c ≤ 122
theorem nm_tx {cs : List Nat} (h1 : 1 ≤ cs.length) (h2 : cs.length ≤ 8) (h : Sm cs) : Nm (tx cs) := by
  refine ⟨by rw [tx_len]; exact h1, by rw [tx_len]; exact h2, ?_⟩
  rw [tx_cps]
  exact h
theorem cut6 (l : List Nat) : L2.cutS (tx l) none (some 6) = tx (l.take 6) := by
  unfold L2.cutS
  have e1 : HT.sIx (tx l).length (tx l).length (some 6) = min 6 (tx l).length := HT.sIx_nat _ _ 6
  rw [HT.sIx_none, e1, tx_cps, tx_len, List.drop_zero, Nat.sub_zero]
  have e2 : l.take (min 6 l.length) = l.take 6 := by
    rcases Nat.le_total 6 l.length with h | h
    · rw [Nat.min_eq_left h]
    · rw [Nat.min_eq_right h, List.take_of_length_le (Nat.le_refl _), List.take_of_length_le h]
  rw [e2]
  rfl
section
variable {S : Store} {s t : Nat} {v : Int} {tk : List Str}
theorem not_in (ht : S[t]? = some (.lst (tk.map D.str))) (x : Str) : ∃ b, gNotIn (.str x) (.oid t) S = .ok (.bl b) S := by
  have a0 : pDic (.str x) (.oid t) S = false := by simp [pDic, asD, ht]
  have a1 : asQ S (.oid t) = some (tk.map D.str) := by simp [asQ, asL, ht]
  have a2 : (tk.map D.str).all D.flat = true := by
    rw [List.all_map]
    exact List.all_eq_true.mpr fun _ _ => rfl
  refine ⟨!inF (.str x) (tk.map D.str), ?_⟩
  have a3 : D.flat (.str x) = true := rfl
  unfold gNotIn
  simp only [a0, Bool.false_eq_true, if_false, gInQ, a1, a2, a3, Bool.and_true, if_true]
theorem letters_dr (hS : S[s]? = some (.lst [.int v])) (n : Nat) (x1 x3 x4 x5 x6 : Option D) : ∃ cs v', compF none (mName 6) fYes (fBin gIx (fVar 2) (fCall S_p_law_next (fun ds es => pick [(0, 0), (0, 1)] ds es []) 2 0 2 (fCons (fVar 0) (fCons (fC (.int 26)) (fun _ S => .ok [] S))) (fun _ S => .ok [] S))) (rng 0 n) [some (.oid s), x1, some (.str abc), x3, x4, x5, x6] S = .ok (cs.map let1) (S.set s (.lst [.int v'])) ∧ cs.length = n ∧ Sm cs := by
  obtain ⟨ys, S', q1, q2, q3, v', hv'⟩ := comp_inv (m := mName 6) (fe := fBin gIx (fVar 2) (fCall S_p_law_next (fun ds es => pick [(0, 0), (0, 1)] ds es []) 2 0 2 (fCons (fVar 0) (fCons (fC (.int 26)) (fun _ S => .ok [] S))) (fun _ S => .ok [] S))) (ρ := [some (.oid s), x1, some (.str abc), x3, x4, x5, x6])
    (fun S' => ∃ v', S' = S.set s (.lst [.int v'])) (fun y => ∃ c, y = let1 c ∧ (97 ≤ c ∧ c ≤ 122)) (rng 0 n) S ⟨v, (set_selfH hS).symm⟩ fun d hd S1 ⟨u, hu⟩ => by
    have h1 : S1[s]? = some (.lst [.int u]) := by rw [hu]; exact set_at hS
    have nx := next_st h1 26 (by omega) (by omega)
    obtain ⟨c, hc, c1⟩ := abc_ix (u % 26) (Int.emod_nonneg _ (by decide)) (Int.emod_lt_of_pos _ (by decide)) (S1.set s (.lst [.int (u / 26)]))
    refine ⟨_, let1 c, S1.set s (.lst [.int (u / 26)]), rfl, ?_, ⟨c, rfl, c1⟩, u / 26, by rw [hu, set_set']⟩
    simp [nx, hc]
  obtain ⟨cs, rfl, hc⟩ := pick_listH ys q3
  refine ⟨cs, v', by rw [q1, hv'], ?_, hc⟩
  rw [List.length_map, rng_length] at q2
  omega
theorem name_loop2 (ht : S[t]? = some (.lst (tk.map D.str))) {l : List Nat} (hl : 1 ≤ l.length ∧ l.length ≤ 8) (hm : Sm l) {c : Nat} (hc : 97 ≤ c ∧ c ≤ 122) : ∀ (cs : List Nat), Sm cs → ∀ (x0 x5 x6 : Option D),
    (∃ x, Nm x ∧ loopF none (mName 5) zna3b0b0 (cs.map let1) [x0, some (.oid t), some (.str abc), some (.str (tx l)), some (let1 c), x5, x6] S = .rt (.str x) S) ∨ ∃ y5, loopF none (mName 5) zna3b0b0 (cs.map let1) [x0, some (.oid t), some (.str abc), some (.str (tx l)), some (let1 c), x5, x6] S = .nx [x0, some (.oid t), some (.str abc), some (.str (tx l)), some (let1 c), y5, x6] S
  | [], _, x0, x5, x6 => .inr ⟨x5, by unfold loopF; simp [okC]⟩
  | d :: cs, hcs, x0, x5, x6 => by
    have hd := hcs d List.mem_cons_self
    have ih := name_loop2 ht hl hm hc cs (fun z hz => hcs z (List.mem_cons_of_mem _ hz)) x0 (some (let1 d)) x6
    have tl : (l.take 6).length ≤ 6 := by rw [List.length_take]; omega
    have nmx : Nm (tx (l.take 6 ++ [c] ++ [d])) := by
      refine nm_tx (by simp) (by simp; omega) ?_
      intro z hz
      simp only [List.mem_append, List.mem_singleton] at hz
      rcases hz with (hz | rfl) | rfl
      · exact hm z (List.mem_of_mem_take hz)
      · exact hc
      · exact hd
    have sl : fSlS (fVar 3) fPartN (fPart (fC (.int 6))) [x0, some (.oid t), some (.str abc), some (.str (tx l)), some (let1 c), some (let1 d), x6] S = .ok (.str (tx (l.take 6))) S := by
      have : (1000 : Nat) ≤ sizeLine := by decide
      have hz : (tx l).length ≤ sizeLine := by rw [tx_len]; omega
      simp only [fSlS, fPartN, fPart, e_fVar, e_fC, List.getElem?_cons_succ, List.getElem?_cons_zero, Res.bind_ok, gSlS, cut6]
      rw [if_pos hz]
    have a1 : gAdd (.str (tx (l.take 6))) (let1 c) S = .ok (.str (tx (l.take 6 ++ [c]))) S := by
      have : short ((tx (l.take 6)).length + (tx [c]).length) = true := short_le (by rw [tx_len, tx_len]; simp; omega)
      simp [gAdd, isI, isS, gAddS, let1, this, tx_app]
    have a2 : gAdd (.str (tx (l.take 6 ++ [c]))) (let1 d) S = .ok (.str (tx (l.take 6 ++ [c] ++ [d]))) S := by
      have : short ((tx (l.take 6 ++ [c])).length + (tx [d]).length) = true := short_le (by rw [tx_len, tx_len]; simp; omega)
      simp [gAdd, isI, isS, gAddS, let1, this, tx_app]
    obtain ⟨b, ni⟩ := not_in ht (tx (l.take 6 ++ [c] ++ [d]))
    have m : mName 5 (let1 d) [x0, some (.oid t), some (.str abc), some (.str (tx l)), some (let1 c), x5, x6] S = some [x0, some (.oid t), some (.str abc), some (.str (tx l)), some (let1 c), some (let1 d), x6] := rfl
    generalize tx (l.take 6 ++ [c] ++ [d]) = nx at *
    generalize tx (l.take 6 ++ [c]) = n2 at *
    generalize tx (l.take 6) = n3 at *
    have el : (fBin gAdd (fBin gAdd (fSlS (fVar 3) fPartN (fPart (fC (.int 6)))) (fVar 4)) (fVar 5)) [x0, some (.oid t), some (.str abc), some (.str (tx l)), some (let1 c), some (let1 d), x6] S = .ok (.str nx) S := by
      rw [e_fBin, e_fBin, sl]
      simp only [Res.bind_ok, e_fVar, List.getElem?_cons_succ, List.getElem?_cons_zero, a1, a2]
    have bb : zna3b0b0 [x0, some (.oid t), some (.str abc), some (.str (tx l)), some (let1 c), some (let1 d), x6] S = if b = true then .rt (.str nx) S else .nx [x0, some (.oid t), some (.str abc), some (.str (tx l)), some (let1 c), some (let1 d), x6] S := by
      have g1 : gNotIn (.str nx) (.oid t) S = .ok (.bl b) S := ni
      unfold zna3b0b0
      rw [e_gIf, e_toB, e_fBin, el]
      simp only [Res.bind_ok, e_fVar, List.getElem?_cons_succ, List.getElem?_cons_zero, g1, Res.into_ok]
      cases b with
      | true =>
        simp only [if_true]
        rw [e_gRet, el]
        rfl
      | false => rfl
    rw [List.map_cons]
    unfold loopF
    simp only [okC, if_true, m, bb]
    cases b with
    | true => exact .inl ⟨nx, nmx, rfl⟩
    | false => exact ih
theorem name_loop1 (ht : S[t]? = some (.lst (tk.map D.str))) {l : List Nat} (hl : 1 ≤ l.length ∧ l.length ≤ 8) (hm : Sm l) : ∀ (cs : List Nat), Sm cs → ∀ (x0 x4 x5 x6 : Option D),
    (∃ x, Nm x ∧ loopF none (mName 4) zna3b0 (cs.map let1) [x0, some (.oid t), some (.str abc), some (.str (tx l)), x4, x5, x6] S = .rt (.str x) S) ∨ ∃ y4 y5, loopF none (mName 4) zna3b0 (cs.map let1) [x0, some (.oid t), some (.str abc), some (.str (tx l)), x4, x5, x6] S = .nx [x0, some (.oid t), some (.str abc), some (.str (tx l)), y4, y5, x6] S
  | [], _, x0, x4, x5, x6 => .inr ⟨x4, x5, by unfold loopF; simp [okC]⟩
  | c :: cs, hcs, x0, x4, x5, x6 => by
    have hc := hcs c List.mem_cons_self
    have m : mName 4 (let1 c) [x0, some (.oid t), some (.str abc), some (.str (tx l)), x4, x5, x6] S = some [x0, some (.oid t), some (.str abc), some (.str (tx l)), some (let1 c), x5, x6] := rfl
    have sg : signs abc = abc.cps.toList.map let1 := rfl
    have bb : zna3b0 [x0, some (.oid t), some (.str abc), some (.str (tx l)), some (let1 c), x5, x6] S = loopF none (mName 5) zna3b0b0 (abc.cps.toList.map let1) [x0, some (.oid t), some (.str abc), some (.str (tx l)), some (let1 c), x5, x6] S := by
      unfold zna3b0
      rw [e_gFor]
      rfl
    rw [List.map_cons]
    unfold loopF
    simp only [okC, if_true, m, bb]
    rcases name_loop2 ht hl hm hc abc.cps.toList (fun z hz => abc_mem hz) x0 x5 x6 with ⟨x, hx, e⟩ | ⟨y5, e⟩
    · exact .inl ⟨x, hx, by rw [e]⟩
    · rw [e]
      exact name_loop1 ht hl hm cs (fun z hz => hcs z (List.mem_cons_of_mem _ hz)) x0 (some (let1 c)) y5 x6
theorem name_dr (hS : S[s]? = some (.lst [.int v])) (ht : S[t]? = some (.lst (tk.map D.str))) (hst : t ≠ s) : ∃ x v', S_p_law_name [.oid s, .oid t] S = .ok (.str x) (S.set s (.lst [.int v'])) ∧ Nm x := by
  have n1 := next_st hS 8 (by omega) (by omega)
  have h1 := Int.emod_nonneg v (b := 8) (by decide)
  have h2 := Int.emod_lt_of_pos v (b := 8) (by decide)
  obtain ⟨n, hn⟩ : ∃ n : Nat, 1 + v % 8 = (n : Int) := ⟨(1 + v % 8).toNat, by omega⟩
  have cr := cRng_natH (n := n) (by omega)
  obtain ⟨cs, v', e, hl, hm⟩ := letters_dr (set_at (o' := .lst [.int (v / 8)]) hS) n (some (.oid t)) none none none none
  rw [set_set'] at e
  have sh : short (cs.map let1).length = true := short_le (by simp; omega)
  have jn := join_let cs (by omega)
  obtain ⟨S2, hS2⟩ : ∃ S2, S2 = S.set s (.lst [.int v']) := ⟨_, rfl⟩
  rw [← hS2] at e
  have ht2 : S2[t]? = some (.lst (tk.map D.str)) := by rw [hS2, List.getElem?_set_ne (Ne.symm hst)]; exact ht
  have v0 : zna0 [some (.oid s), some (.oid t), none, none, none, none, none] S = .nx [some (.oid s), some (.oid t), some (.str abc), none, none, none, none] S := by
    unfold zna0
    simp
  have v1 : zna1 [some (.oid s), some (.oid t), some (.str abc), none, none, none, none] S = .nx [some (.oid s), some (.oid t), some (.str abc), some (.str (tx cs)), none, none, none] S2 := by
    have rg : fRng1 (fCons (fBin gAdd (fC (.int 1)) (fCall S_p_law_next (fun ds es => pick [(0, 0), (0, 1)] ds es []) 2 0 2 (fCons (fVar 0) (fCons (fC (.int 8)) (fun _ S => .ok [] S))) (fun _ S => .ok [] S))) (fun _ S => .ok [] S)) [some (.oid s), some (.oid t), some (.str abc), none, none, none, none] S = .ok ⟨rng 0 n, none⟩ (S.set s (.lst [.int (v / 8)])) := by
      have ad : gAdd (.int 1) (.int (v % 8)) (S.set s (.lst [.int (v / 8)])) = .ok (.int n) (S.set s (.lst [.int (v / 8)])) := by
        rw [← hn]
        rfl
      rw [e_fRng1, e_fCons, e_fBin]
      simp [n1, ad, cr]
    have e : compF none (mName 6) fYes (fBin gIx (fVar 2) (fCall S_p_law_next (fun ds es => pick [(0, 0), (0, 1)] ds es []) 2 0 2 (fCons (fVar 0) (fCons (fC (.int 26)) (fun _ S => .ok [] S))) (fun _ S => .ok [] S))) (rng 0 n) [some (.oid s), some (.oid t), some (.str abc), none, none, none, none] (S.set s (.lst [.int (v / 8)])) = .ok (cs.map let1) S2 := e
    unfold zna1
    rw [e_gSet, e_fBM]
    simp only [e_fC, Res.bind_ok, e_fCons, e_fComp]
    rw [rg]
    simp only [Res.bind_ok, wipeD, List.map_cons, List.map_nil, List.set_cons_succ, List.set_cons_zero, List.foldl_cons, List.foldl_nil]
    rw [e]
    simp only [Res.bind_ok, e_finL, sh, if_true, tyS, jn, Res.into_ok]
    rw [if_pos ⟨trivial, by decide⟩]
    rfl
  obtain ⟨b, ni⟩ := not_in ht2 (tx cs)
  have v2 : zna2 [some (.oid s), some (.oid t), some (.str abc), some (.str (tx cs)), none, none, none] S2 = if b = true then .rt (.str (tx cs)) S2 else .nx [some (.oid s), some (.oid t), some (.str abc), some (.str (tx cs)), none, none, none] S2 := by
    unfold zna2
    cases b <;> simp [ni]
  have v3 : zna3 [some (.oid s), some (.oid t), some (.str abc), some (.str (tx cs)), none, none, none] S2 = loopF none (mName 4) zna3b0 (abc.cps.toList.map let1) [some (.oid s), some (.oid t), some (.str abc), some (.str (tx cs)), none, none, none] S2 := by
    unfold zna3
    rw [e_gFor]
    rfl
  have nm0 : Nm (tx cs) := nm_tx (by omega) (by omega) hm
  unfold S_p_law_name
  rw [zna_eq, e_semOf, e_startD]
  simp only [List.map_cons, List.map_nil, List.length_cons, List.length_nil, List.replicate, List.cons_append, List.nil_append]
  unfold zna
  rw [e_gSeq, v0, Out.seq_nx, e_gSeq, v1, Out.seq_nx, e_gSeq, v2]
  cases b with
  | true => exact ⟨tx cs, v', by rw [hS2]; rfl, nm0⟩
  | false =>
    simp only [Bool.false_eq_true, if_false, Out.seq_nx]
    rw [e_gSeq, v3]
    rcases name_loop1 ht2 (l := cs) (by omega) hm abc.cps.toList (fun z hz => abc_mem hz) (some (.oid s)) none none none with ⟨x, hx, e⟩ | ⟨y4, y5, e⟩
    · exact ⟨x, v', by rw [e, ← hS2]; rfl, hx⟩
    · refine ⟨tx cs, v', ?_, nm0⟩
      rw [e, ← hS2, Out.seq_nx]
      unfold zna4
      simp
/-- names, one by one -/
theorem names_loop (hs0 : t ≠ s) : ∀ (ks : List D) (S : Store) (tk : List Str) (v : Int) (x1 x3 : Option D), S[s]? = some (.lst [.int v]) → S[t]? = some (.lst (tk.map D.str)) → tk.length + ks.length ≤ 100 →
    ∃ (S' : Store) (xs : List Str) (v' : Int) (y3 : Option D), loopF none (mName 3) znn1b0 ks [some (.oid s), x1, some (.oid t), x3] S = .nx [some (.oid s), x1, some (.oid t), y3] S' ∧ S'[s]? = some (.lst [.int v']) ∧ S'[t]? = some (.lst ((tk ++ xs).map D.str)) ∧ S'.length = S.length ∧ (∀ i, i ≠ s → i ≠ t → S'[i]? = S[i]?) ∧ xs.length = ks.length ∧ ∀ x ∈ xs, Nm x
  | [], S, tk, v, x1, x3, hS, ht, _ => ⟨S, [], v, x3, by unfold loopF; simp [okC], hS, by rw [List.append_nil]; exact ht, rfl, fun _ _ _ => rfl, rfl, fun x hx => by cases hx⟩
  | d :: ks, S, tk, v, x1, x3, hS, ht, hl => by
    obtain ⟨x, v1, e1, nx⟩ := name_dr hS ht hs0
    obtain ⟨S1, hS1⟩ : ∃ S1, S1 = S.set s (.lst [.int v1]) := ⟨_, rfl⟩
    have s1 : S1[s]? = some (.lst [.int v1]) := by rw [hS1]; exact set_at hS
    have t1 : S1[t]? = some (.lst (tk.map D.str)) := by rw [hS1, List.getElem?_set_ne (Ne.symm hs0)]; exact ht
    rw [← hS1] at e1
    have ap := app_h (x := D.str x) t1 (by simp; simp at hl; omega)
    obtain ⟨S2, hS2⟩ : ∃ S2, S2 = S1.set t (.lst (tk.map D.str ++ [D.str x])) := ⟨_, rfl⟩
    rw [← hS2] at ap
    have s2 : S2[s]? = some (.lst [.int v1]) := by rw [hS2, List.getElem?_set_ne hs0]; exact s1
    have t2 : S2[t]? = some (.lst ((tk ++ [x]).map D.str)) := by rw [hS2, set_at t1]; simp
    have ty : ∀ S : Store, S[t]? = some (.lst (tk.map D.str)) → tyS S (.oid t) = some "list" := fun S h => by simp [tyS, h]
    have ty1 := ty S1 t1
    have ty0 := ty S ht
    have m : mName 3 d [some (.oid s), x1, some (.oid t), x3] S = some [some (.oid s), x1, some (.oid t), some d] := rfl
    have bb : znn1b0 [some (.oid s), x1, some (.oid t), some d] S = .nx [some (.oid s), x1, some (.oid t), some d] S2 := by
      unfold znn1b0
      simp [e1, ap, ty1, ty0]
    obtain ⟨S', xs, v', y3, q1, q2, q3, q4, q5, q6, q7⟩ := names_loop hs0 ks S2 (tk ++ [x]) v1 x1 (some d) s2 t2 (by simp at hl ⊢; omega)
    refine ⟨S', x :: xs, v', y3, ?_, q2, by rw [q3]; simp, by rw [q4, hS2, hS1]; simp, fun i h1 h2 => ?_, by simp [q6], fun z hz => ?_⟩
    · unfold loopF
      simp only [okC, if_true, m, bb]
      exact q1
    · rw [q5 i h1 h2, hS2, List.getElem?_set_ne (Ne.symm h2), hS1, List.getElem?_set_ne (Ne.symm h1)]
    · rcases List.mem_cons.mp hz with rfl | hz
      · exact nx
      · exact q7 z hz
theorem names_dr (hS : S[s]? = some (.lst [.int v])) (n : Nat) (hn : n ≤ 100) : ∃ (S' : Store) (xs : List Str) (v' : Int), S_p_law_names [.oid s, .int n] S = .ok (.lst (xs.map D.str)) S' ∧ S'[s]? = some (.lst [.int v']) ∧ S.length ≤ S'.length ∧ (∀ i, i < S.length → i ≠ s → S'[i]? = S[i]?) ∧ xs.length = n ∧ ∀ x ∈ xs, Nm x := by
  have hl := lt_of hS
  obtain ⟨S0, hS0⟩ : ∃ S0, S0 = S ++ [SO.lst []] := ⟨_, rfl⟩
  have s0 : S0[s]? = some (.lst [.int v]) := by rw [hS0, List.getElem?_append_left hl]; exact hS
  have t0 : S0[S.length]? = some (.lst (([] : List Str).map D.str)) := by rw [hS0]; simp
  have cr := cRng_natH (n := n) (by omega)
  have rl : (rng 0 (n : Int)).length = n := by rw [rng_length]; omega
  obtain ⟨S', xs, v', y3, q1, q2, q3, q4, q5, q6, q7⟩ := names_loop (s := s) (t := S.length) (by omega) (rng 0 n) S0 [] v (some (.int n)) none s0 t0 (by rw [rl]; simp; omega)
  have v0 : znn0 [some (.oid s), some (.int n), none, none] S = .nx [some (.oid s), some (.int n), some (.oid S.length), none] S0 := by
    unfold znn0
    rw [hS0]
    simp
  have v1 : znn1 [some (.oid s), some (.int n), some (.oid S.length), none] S0 = .nx [some (.oid s), some (.int n), some (.oid S.length), y3] S' := by
    unfold znn1
    rw [← q1]
    simp [cr]
  have l0 : S0.length = S.length + 1 := by rw [hS0]; simp
  refine ⟨S'.set S.length (.frz (.lst (xs.map D.str))), xs, v', ?_, ?_, by rw [List.length_set, q4, l0]; omega, fun i h1 h2 => ?_, by rw [q6, rl], q7⟩
  · unfold S_p_law_names
    rw [znn_eq, e_semOf, e_startD]
    simp only [List.map_cons, List.map_nil, List.length_cons, List.length_nil, List.replicate, List.cons_append, List.nil_append]
    unfold znn
    rw [e_gSeq, v0, Out.seq_nx, e_gSeq, v1, Out.seq_nx]
    have q3 : S'[S.length]? = some (.lst (xs.map D.str)) := q3
    unfold znn2
    simp [fFrz, q3]
  · rw [List.getElem?_set_ne (by omega)]
    exact q2
  · rw [List.getElem?_set_ne (by omega), q5 i h2 (by omega), hS0, List.getElem?_append_left h1]
end
end K03

/-! Houses: deeds drawn. -/
namespace K03
open PySem L2 DL TY
noncomputable def zde0 : FS := (gSet 3 (fBin gIx (fVar 1) (fCall S_p_law_next (fun ds es => pick [(0, 0), (0, 1)] ds es []) 2 0 2 (fCons (fVar 0) (fCons (fCB gLen (fCons (fVar 1) (fun _ S => .ok [] S))) (fun _ S => .ok [] S))) (fun _ S => .ok [] S))))
noncomputable def zde1 : FS := (gSet 4 (fBin gIx (fVar 2) (fCall S_p_law_next (fun ds es => pick [(0, 0), (0, 1)] ds es []) 2 0 2 (fCons (fVar 0) (fCons (fCB gLen (fCons (fVar 2) (fun _ S => .ok [] S))) (fun _ S => .ok [] S))) (fun _ S => .ok [] S))))
noncomputable def zde2 : FS := (gSet 5 (fBin gIx (fVar 2) (fCall S_p_law_next (fun ds es => pick [(0, 0), (0, 1)] ds es []) 2 0 2 (fCons (fVar 0) (fCons (fCB gLen (fCons (fVar 2) (fun _ S => .ok [] S))) (fun _ S => .ok [] S))) (fun _ S => .ok [] S))))
noncomputable def zde3 : FS := (gSet 6 (fCall S_p_law_next (fun ds es => pick [(0, 0), (0, 1)] ds es []) 2 0 2 (fCons (fVar 0) (fCons (fC (.int 4)) (fun _ S => .ok [] S))) (fun _ S => .ok [] S)))
noncomputable def zde4 : FS := (gIf (toB (fBin gIn (fVar 3) (fTup (fCons (fC (.str "number")) (fCons (fC (.str "cell")) (fun _ S => .ok [] S)))))) (gSeq (gIf (toB (fBin gEq (fVar 3) (fC (.str "number")))) (gRet (fTup (fCons (fVar 3) (fCons (fVar 4) (fCons (fCall S_p_law_number (fun ds es => pick [(0, 0)] ds es []) 1 0 1 (fCons (fVar 0) (fun _ S => .ok [] S)) (fun _ S => .ok [] S)) (fun _ S => .ok [] S)))))) gNil) (gRet (fTup (fCons (fVar 3) (fCons (fVar 4) (fCons (fCall S_p_law_next (fun ds es => pick [(0, 0), (0, 1)] ds es []) 2 0 2 (fCons (fVar 0) (fCons (fC (.int 4)) (fun _ S => .ok [] S))) (fun _ S => .ok [] S)) (fCons (fBin gEq (fCall S_p_law_next (fun ds es => pick [(0, 0), (0, 1)] ds es []) 2 0 2 (fCons (fVar 0) (fCons (fC (.int 2)) (fun _ S => .ok [] S))) (fun _ S => .ok [] S)) (fC (.int 1))) (fun _ S => .ok [] S)))))))) gNil)
noncomputable def zde5 : FS := (gIf (toB (fBin gIn (fVar 3) (fTup (fCons (fC (.str "hold")) (fCons (fC (.str "tie")) (fCons (fC (.str "follow")) (fun _ S => .ok [] S))))))) (gRet (fTup (fCons (fVar 3) (fCons (fVar 4) (fCons (fVar 5) (fun _ S => .ok [] S)))))) gNil)
noncomputable def zde6 : FS := (gIf (toB (fBin gEq (fVar 3) (fC (.str "get")))) (gRet (fTup (fCons (fVar 3) (fCons (fVar 4) (fCons (fVar 5) (fCons (fVar 6) (fun _ S => .ok [] S))))))) gNil)
noncomputable def zde7 : FS := (gIf (toB (fBin gEq (fVar 3) (fC (.str "put")))) (gRet (fTup (fCons (fVar 3) (fCons (fVar 4) (fCons (fVar 6) (fCons (fVar 5) (fun _ S => .ok [] S))))))) gNil)
noncomputable def zde8 : FS := (gIf (toB (fBin gEq (fVar 3) (fC (.str "tidy")))) (fun _ _ => .stuck) gNil)
noncomputable def zde9 : FS := (gRet (fTup (fCons (fVar 3) (fCons (fVar 4) (fun _ S => .ok [] S)))))
noncomputable def zde : FS := (gSeq zde0 (gSeq zde1 (gSeq zde2 (gSeq zde3 (gSeq zde4 (gSeq zde5 (gSeq zde6 (gSeq zde7 (gSeq zde8 zde9)))))))))
theorem zde_eq : m_p_law_deed = zde := rfl
abbrev menu : D := .lst [.str "number", .str "cell", .str "cell", .str "put", .str "get", .str "tie", .str "hold", .str "follow", .str "nothing", .str "drop", .str "put", .str "get"]
def Wd (w : Str) : Prop := w = "number" ∨ w = "cell" ∨ w = "put" ∨ w = "get" ∨ w = "tie" ∨ w = "hold" ∨ w = "follow" ∨ w = "nothing" ∨ w = "drop"
theorem ix_nat {ds : List D} {d : D} {n : Nat} (h : ds[n]? = some d) (S : Store) : gIx (.lst ds) (.int n) S = .ok d S := by
  have hl := (List.getElem?_eq_some_iff.mp h).1
  rw [e_ix_l, at_nat _ _ hl, h]
theorem menu_ix (v : Int) : ∃ w, Wd w ∧ ∀ S, gIx menu (.int (v % 12)) S = .ok (.str w) S := by
  have h1 := Int.emod_nonneg v (b := 12) (by decide)
  have h2 := Int.emod_lt_of_pos v (b := 12) (by decide)
  have h : v % 12 = 0 ∨ v % 12 = 1 ∨ v % 12 = 2 ∨ v % 12 = 3 ∨ v % 12 = 4 ∨ v % 12 = 5 ∨ v % 12 = 6 ∨ v % 12 = 7 ∨ v % 12 = 8 ∨ v % 12 = 9 ∨ v % 12 = 10 ∨ v % 12 = 11 := by omega
  rcases h with h | h | h | h | h | h | h | h | h | h | h | h <;> rw [h]
  · exact ⟨"number", by simp [Wd], fun S => ix_nat (n := 0) rfl S⟩
  · exact ⟨"cell", by simp [Wd], fun S => ix_nat (n := 1) rfl S⟩
  · exact ⟨"cell", by simp [Wd], fun S => ix_nat (n := 2) rfl S⟩
  · exact ⟨"put", by simp [Wd], fun S => ix_nat (n := 3) rfl S⟩
  · exact ⟨"get", by simp [Wd], fun S => ix_nat (n := 4) rfl S⟩
  · exact ⟨"tie", by simp [Wd], fun S => ix_nat (n := 5) rfl S⟩
  · exact ⟨"hold", by simp [Wd], fun S => ix_nat (n := 6) rfl S⟩
  · exact ⟨"follow", by simp [Wd], fun S => ix_nat (n := 7) rfl S⟩
  · exact ⟨"nothing", by simp [Wd], fun S => ix_nat (n := 8) rfl S⟩
  · exact ⟨"drop", by simp [Wd], fun S => ix_nat (n := 9) rfl S⟩
  · exact ⟨"put", by simp [Wd], fun S => ix_nat (n := 10) rfl S⟩
  · exact ⟨"get", by simp [Wd], fun S => ix_nat (n := 11) rfl S⟩
theorem hint_ix {hs : List Str} (h0 : 0 < hs.length) (v : Int) : ∃ x ∈ hs, ∀ S, gIx (.lst (hs.map D.str)) (.int (v % (hs.length : Int))) S = .ok (.str x) S := by
  have h1 := Int.emod_nonneg v (b := (hs.length : Int)) (by omega)
  have h2 := Int.emod_lt_of_pos v (b := (hs.length : Int)) (by omega)
  obtain ⟨n, hn⟩ : ∃ n : Nat, v % (hs.length : Int) = (n : Int) := ⟨(v % (hs.length : Int)).toNat, by omega⟩
  have hl : n < hs.length := by omega
  refine ⟨hs[n], List.getElem_mem hl, fun S => ?_⟩
  rw [hn]
  exact ix_nat (by rw [List.getElem?_map, List.getElem?_eq_getElem hl]; rfl) S
theorem inq3 (w a b c : Str) (S : Store) : gInQ false (.str w) (.tup [.str a, .str b, .str c]) S = .ok (.bl (decide (a = w) || (decide (b = w) || decide (c = w)))) S := by
  simp only [gInQ, asQ, inF, eqF, D.flat, List.all_cons, List.all_nil, List.any_cons, List.any_nil, Bool.and_true, if_true, Bool.or_false, if_false, Bool.false_eq_true]
  rfl
section
variable {S : Store} {s : Nat} {v : Int} {hs : List Str}
theorem deed_dr (hS : S[s]? = some (.lst [.int v])) (h0 : 0 < hs.length) (h9 : hs.length ≤ 100) (hn : ∀ x ∈ hs, Nm x) : ∃ d v', S_p_law_deed [.oid s, menu, .lst (hs.map D.str)] S = .ok (dDd d) (S.set s (.lst [.int v'])) ∧ d.ok ∧ ∀ x m l, d = .cell x m l → m ≤ 100 := by
  have s2 : short 2 = true := short_le (by omega)
  have s3 : short 3 = true := short_le (by omega)
  have s4 : short 4 = true := short_le (by omega)
  have n1 := next_st hS 12 (by omega) (by omega)
  obtain ⟨S1, hS1⟩ : ∃ S1, S1 = S.set s (.lst [.int (v / 12)]) := ⟨_, rfl⟩
  have g1 : S1[s]? = some (.lst [.int (v / 12)]) := by rw [hS1]; exact set_at hS
  obtain ⟨w, hw, i1⟩ := menu_ix v
  have n2 := next_st g1 (hs.length : Int) (by omega) (by omega)
  obtain ⟨x, hx, i2⟩ := hint_ix h0 (v / 12)
  generalize v / 12 / (hs.length : Int) = v2 at *
  obtain ⟨S2, hS2⟩ : ∃ S2, S2 = S1.set s (.lst [.int v2]) := ⟨_, rfl⟩
  have g2 : S2[s]? = some (.lst [.int v2]) := by rw [hS2]; exact set_at g1
  have n3 := next_st g2 (hs.length : Int) (by omega) (by omega)
  obtain ⟨y, hy, i3⟩ := hint_ix h0 v2
  generalize v2 / (hs.length : Int) = v3 at *
  obtain ⟨S3, hS3⟩ : ∃ S3, S3 = S2.set s (.lst [.int v3]) := ⟨_, rfl⟩
  have g3 : S3[s]? = some (.lst [.int v3]) := by rw [hS3]; exact set_at g2
  have n4 := next_st g3 4 (by omega) (by omega)
  obtain ⟨k, hk⟩ : ∃ k : Nat, v3 % 4 = (k : Int) := ⟨(v3 % 4).toNat, by have := Int.emod_nonneg v3 (b := 4) (by decide); omega⟩
  rw [hk] at n4
  obtain ⟨S4, hS4⟩ : ∃ S4, S4 = S3.set s (.lst [.int (v3 / 4)]) := ⟨_, rfl⟩
  have g4 : S4[s]? = some (.lst [.int (v3 / 4)]) := by rw [hS4]; exact set_at g3
  rw [← hS1] at n1
  rw [← hS2] at n2
  rw [← hS3] at n3
  rw [← hS4] at n4
  have e4 : ∀ u, S4.set s (.lst [.int u]) = S.set s (.lst [.int u]) := fun u => by rw [hS4, hS3, hS2, hS1, set_set', set_set', set_set', set_set']
  have lm : ∀ S, gLen [menu] S = .ok (.int 12) S := fun S => by simp
  have lh : ∀ S, gLen [.lst (hs.map D.str)] S = .ok (.int hs.length) S := fun S => by simp
  obtain ⟨hd, hhd⟩ : ∃ hd, hd = hs.map D.str := ⟨_, rfl⟩
  rw [← hhd] at i2 i3 lh
  obtain ⟨md, hmd⟩ : ∃ md, md = menu := ⟨_, rfl⟩
  rw [← hmd] at i1 lm
  have p0 : zde0 [some (.oid s), some md, some (.lst hd), none, none, none, none] S = .nx [some (.oid s), some md, some (.lst hd), some (.str w), none, none, none] S1 := by
    unfold zde0
    simp only [e_gSet, e_fBin, e_fVar, e_fCall, e_fCons, e_fCB, List.getElem?_cons_succ, List.getElem?_cons_zero, Res.bind_ok, lm]
    simp [n1, i1]
  have p1 : zde1 [some (.oid s), some md, some (.lst hd), some (.str w), none, none, none] S1 = .nx [some (.oid s), some md, some (.lst hd), some (.str w), some (.str x), none, none] S2 := by
    unfold zde1
    simp only [e_gSet, e_fBin, e_fVar, e_fCall, e_fCons, e_fCB, List.getElem?_cons_succ, List.getElem?_cons_zero, Res.bind_ok, lh]
    simp [n2, i2]
  have p2 : zde2 [some (.oid s), some md, some (.lst hd), some (.str w), some (.str x), none, none] S2 = .nx [some (.oid s), some md, some (.lst hd), some (.str w), some (.str x), some (.str y), none] S3 := by
    unfold zde2
    simp only [e_gSet, e_fBin, e_fVar, e_fCall, e_fCons, e_fCB, List.getElem?_cons_succ, List.getElem?_cons_zero, Res.bind_ok, lh]
    simp [n3, i3]
  have p3 : zde3 [some (.oid s), some md, some (.lst hd), some (.str w), some (.str x), some (.str y), none] S3 = .nx [some (.oid s), some md, some (.lst hd), some (.str w), some (.str x), some (.str y), some (.int k)] S4 := by
    unfold zde3
    simp [n4]
  have st : ∀ {o : Out}, (gSeq zde4 (gSeq zde5 (gSeq zde6 (gSeq zde7 (gSeq zde8 zde9))))) [some (.oid s), some md, some (.lst hd), some (.str w), some (.str x), some (.str y), some (.int k)] S4 = o → S_p_law_deed [.oid s, menu, .lst (hs.map D.str)] S = o.res := fun {o} e => by
    unfold S_p_law_deed
    rw [zde_eq, e_semOf, e_startD, ← hmd, ← hhd]
    simp only [List.map_cons, List.map_nil, List.length_cons, List.length_nil, List.replicate, List.cons_append, List.nil_append]
    unfold zde
    rw [e_gSeq, p0, Out.seq_nx, e_gSeq, p1, Out.seq_nx, e_gSeq, p2, Out.seq_nx, e_gSeq, p3, Out.seq_nx, e]
  have nx := hn x hx
  have ny := hn y hy
  have e40 : S4 = S.set s (.lst [.int (v3 / 4)]) := by rw [← e4, hS4, set_set']
  unfold zde4 zde5 zde6 zde7 zde8 zde9 at st
  rcases hw with rfl | rfl | rfl | rfl | rfl | rfl | rfl | rfl | rfl
  · obtain ⟨i, v', q⟩ := number_dr g4
    rw [e4] at q
    refine ⟨.number x i, v', st (o := .rt (dDd (.number x i)) (S.set s (.lst [.int v']))) ?_, nx, fun _ _ _ z => by cases z⟩
    simp [inq2, q, s3, dDd]
  · have q1 := next_st g4 4 (by omega) (by omega)
    obtain ⟨m, hm⟩ : ∃ m : Nat, v3 / 4 % 4 = (m : Int) := ⟨(v3 / 4 % 4).toNat, by have := Int.emod_nonneg (v3 / 4) (b := 4) (by decide); omega⟩
    have m4 : (m : Int) < 4 := by rw [← hm]; exact Int.emod_lt_of_pos _ (by decide)
    rw [hm] at q1
    obtain ⟨S5, hS5⟩ : ∃ S5, S5 = S4.set s (.lst [.int (v3 / 4 / 4)]) := ⟨_, rfl⟩
    have g5 : S5[s]? = some (.lst [.int (v3 / 4 / 4)]) := by rw [hS5]; exact set_at g4
    rw [← hS5] at q1
    have q2 := next_st g5 2 (by omega) (by omega)
    have e5 : ∀ u, S5.set s (.lst [.int u]) = S.set s (.lst [.int u]) := fun u => by rw [hS5, set_set', e4]
    rw [e5] at q2
    refine ⟨.cell x m (decide (v3 / 4 / 4 % 2 = 1)), v3 / 4 / 4 / 2, st (o := .rt (dDd (.cell x m (decide (v3 / 4 / 4 % 2 = 1)))) (S.set s (.lst [.int (v3 / 4 / 4 / 2)]))) ?_, nx, fun _ m' _ z => by cases z; omega⟩
    simp [inq2, q1, q2, s4, dDd]
  · refine ⟨.put x k y, v3 / 4, st (o := .rt (dDd (.put x k y)) (S.set s (.lst [.int (v3 / 4)]))) ?_, ⟨ny, nx⟩, fun _ _ _ z => by cases z⟩
    rw [← e40]
    simp [inq2, inq3, s4, dDd]
  · refine ⟨.get x y k, v3 / 4, st (o := .rt (dDd (.get x y k)) (S.set s (.lst [.int (v3 / 4)]))) ?_, ⟨nx, ny⟩, fun _ _ _ z => by cases z⟩
    rw [← e40]
    simp [inq2, inq3, s4, dDd]
  · refine ⟨.tie x y, v3 / 4, st (o := .rt (dDd (.tie x y)) (S.set s (.lst [.int (v3 / 4)]))) ?_, ⟨nx, ny⟩, fun _ _ _ z => by cases z⟩
    rw [← e40]
    simp [inq2, inq3, s3, dDd]
  · refine ⟨.hold x y, v3 / 4, st (o := .rt (dDd (.hold x y)) (S.set s (.lst [.int (v3 / 4)]))) ?_, ⟨nx, ny⟩, fun _ _ _ z => by cases z⟩
    rw [← e40]
    simp [inq2, inq3, s3, dDd]
  · refine ⟨.follow x y, v3 / 4, st (o := .rt (dDd (.follow x y)) (S.set s (.lst [.int (v3 / 4)]))) ?_, ⟨nx, ny⟩, fun _ _ _ z => by cases z⟩
    rw [← e40]
    simp [inq2, inq3, s3, dDd]
  · refine ⟨.nothing x, v3 / 4, st (o := .rt (dDd (.nothing x)) (S.set s (.lst [.int (v3 / 4)]))) ?_, nx, fun _ _ _ z => by cases z⟩
    rw [← e40]
    simp [inq2, inq3, s2, dDd]
  · refine ⟨.drop x, v3 / 4, st (o := .rt (dDd (.drop x)) (S.set s (.lst [.int (v3 / 4)]))) ?_, nx, fun _ _ _ z => by cases z⟩
    rw [← e40]
    simp [inq2, inq3, s2, dDd]
end
end K03

/-! Houses: the law. -/
namespace K03
open PySem L2 DL TY
noncomputable def zlw0 : FS := (gSet 1 (fCall S_p_law_state (fun ds es => pick [(0, 0), (0, 1)] ds es []) 2 0 2 (fCons (fVar 0) (fCons (fC (.int 0)) (fun _ S => .ok [] S))) (fun _ S => .ok [] S)))
noncomputable def zlw1 : FS := (gSet 2 (fCall S_p_law_names (fun ds es => pick [(0, 0), (0, 1)] ds es []) 2 0 2 (fCons (fVar 1) (fCons (fBin gAdd (fC (.int 2)) (fCall S_p_law_next (fun ds es => pick [(0, 0), (0, 1)] ds es []) 2 0 2 (fCons (fVar 1) (fCons (fC (.int 4)) (fun _ S => .ok [] S))) (fun _ S => .ok [] S))) (fun _ S => .ok [] S))) (fun _ S => .ok [] S)))
noncomputable def zlw2 : FS := (gSet 3 (fLst (fCons (fC (.str "number")) (fCons (fC (.str "cell")) (fCons (fC (.str "cell")) (fCons (fC (.str "put")) (fCons (fC (.str "get")) (fCons (fC (.str "tie")) (fCons (fC (.str "hold")) (fCons (fC (.str "follow")) (fCons (fC (.str "nothing")) (fCons (fC (.str "drop")) (fCons (fC (.str "put")) (fCons (fC (.str "get")) (fun _ S => .ok [] S)))))))))))))))
noncomputable def zlw3 : FS := (gSet 4 (fMake (makeO S_House_init (fun ds es => pick [(0, 0)] ds es []) "House" 1) 0 0 (fun _ S => .ok [] S) (fun _ S => .ok [] S)))
noncomputable def zlw4 : FS := (gSet 5 (fDisp (fPs (fC (.str "names")) fDict0 (fPs (fC (.str "things")) (fLstO (fun _ S => .ok [] S)) (fPs (fC (.str "queue")) (fLstO (fun _ S => .ok [] S)) fPs0)))))
noncomputable def zlw5b0 : FS := (gSet 7 (fCall S_p_law_deed (fun ds es => pick [(0, 0), (0, 1), (0, 2)] ds es []) 3 0 3 (fCons (fCall S_p_law_state (fun ds es => pick [(0, 0), (0, 1)] ds es []) 2 0 2 (fCons (fVar 0) (fCons (fVar 6) (fun _ S => .ok [] S))) (fun _ S => .ok [] S)) (fCons (fVar 3) (fCons (fVar 2) (fun _ S => .ok [] S)))) (fun _ S => .ok [] S)))
noncomputable def zlw5b1 : FS := (gSet 8 (fCall S_p_law_refusal (fun ds es => pick [(0, 0), (0, 1)] ds es []) 2 0 2 (fCons (fVar 5) (fCons (fVar 7) (fun _ S => .ok [] S))) (fun _ S => .ok [] S)))
noncomputable def zlw5b2 : FS := (gIf (toB (fBin gIs (fVar 8) (fC .non))) (gSet 8 (fTup (fCons (fC (.str "told")) (fCons (fCall S_p_law_done (fun ds es => pick [(0, 0), (0, 1)] ds es []) 2 0 2 (fCons (fVar 5) (fCons (fVar 7) (fun _ S => .ok [] S))) (fun _ S => .ok [] S)) (fun _ S => .ok [] S))))) gNil)
noncomputable def zlw5b3 : FS := (gIf (fOrT (toB (fBin gNe (fCB gRepr (fCons (fTold ("law", none) ((("law" : Str) ++ ".<locals>.") ++ "<lambda>") 7 m_p_law_heard (fCall S_p_law_call (fun ds es => pick [(0, 0), (0, 1)] ds es []) 2 0 2 (fCons (fVar 4) (fCons (fVar 7) (fun _ S => .ok [] S))) (fun _ S => .ok [] S))) (fun _ S => .ok [] S))) (fCB gRepr (fCons (fVar 8) (fun _ S => .ok [] S))))) (fNotT (toB (fCall S_p_law_stands (fun ds es => pick [(0, 0), (0, 1)] ds es []) 2 0 2 (fCons (fVar 4) (fCons (fVar 5) (fun _ S => .ok [] S))) (fun _ S => .ok [] S))))) (gRet (fC (.bl false))) gNil)
noncomputable def zlw5b : FS := (gSeq zlw5b0 (gSeq zlw5b1 (gSeq zlw5b2 zlw5b3)))
noncomputable def zlw5 : FS := (gFor (fRng1 (fCons (fCB gMin (fCons (fCB gLen (fCons (fVar 0) (fun _ S => .ok [] S))) (fCons (fC (.int 40)) (fun _ S => .ok [] S)))) (fun _ S => .ok [] S))) (mName 6) zlw5b)
noncomputable def zlw6 : FS := (gExpr (fBM "list" gApp (fMeth S_House_names_o (fun ds es => pick [(0, 0)] ds es []) "House" "names" 1 0 1 (fVar 4) (fun _ S => .ok [] S) (fun _ S => .ok [] S)) (fCons (fC (.str "more")) (fun _ S => .ok [] S))))
noncomputable def zlw7 : FS := (gRet (fAndV (fCall S_p_law_stands (fun ds es => pick [(0, 0), (0, 1)] ds es []) 2 0 2 (fCons (fVar 4) (fCons (fVar 5) (fun _ S => .ok [] S))) (fun _ S => .ok [] S)) (fBin gEq (fCB (gLenP "House" S_House_len) (fCons (fMake (makeO S_House_init (fun ds es => pick [(0, 0)] ds es []) "House" 1) 0 0 (fun _ S => .ok [] S) (fun _ S => .ok [] S)) (fun _ S => .ok [] S))) (fC (.int 0)))))
noncomputable def zlw : FS := (gSeq zlw0 (gSeq zlw1 (gSeq zlw2 (gSeq zlw3 (gSeq zlw4 (gSeq zlw5 (gSeq zlw6 zlw7)))))))
theorem zlw_eq : m_law = zlw := rfl
theorem hsat (S : Store) (x y : SO) (xs : List SO) : (S ++ x :: xs).set S.length y = S ++ y :: xs := by simp
theorem hgat (S : Store) (x : SO) (xs : List SO) : (S ++ x :: xs)[S.length]? = some x := by simp
abbrev H0 : Hm := ⟨[], [], []⟩
/-- an empty house -/
theorem house_new (S : Store) : makeO S_House_init (fun ds es => pick [(0, 0)] ds es []) "House" 1 [] [] S = .ok (.oid S.length) (S ++ [.ins "House" (hfl H0 (S.length + 1) (S.length + 2) 0 0), .lst [], .lst []]) := by
  unfold makeO S_House_init m_House_init
  simp [List.replicate, short0, fDictE, putFD]
  have l1 : (S ++ [SO.ins "House" []]).length = S.length + 1 := by simp
  simp [gFldC, stFld, putFD, hfl, D.isNon, hgat, hsat, ntD, nmD]
theorem here_new (S : Store) (ρ : EnvD) : fDisp (fPs (fC (.str "names")) fDict0 (fPs (fC (.str "things")) (fLstO (fun _ S => .ok [] S)) (fPs (fC (.str "queue")) (fLstO (fun _ S => .ok [] S)) fPs0))) ρ S = .ok (.oid S.length) (S ++ [.dic (hrK (S.length + 1) (S.length + 2) (S.length + 3)), .dic [], .lst [], .lst []]) := by
  have kd : keysK [(D.str "names", D.oid (S.length + 1)), (D.str "things", D.oid (S.length + 2)), (D.str "queue", D.oid (S.length + 3))] = some (hrK (S.length + 1) (S.length + 2) (S.length + 3)) := rfl
  have e : mergeD [] (hrK (S.length + 1) (S.length + 2) (S.length + 3)) = hrK (S.length + 1) (S.length + 2) (S.length + 3) := by simp [mergeD, putKD, lk1, lk2, lk3]
  simp [short0]
  simp only [hrK] at kd e ⊢
  simp [dispAt, kd, e]
/-- both houses -/
structure Inv (S : Store) (q j : Nat) (H : Hm) (st el : List D) : Prop where
  A : HAt S q (q + 1) (q + 2) st el 0 0 H
  L : LAt S (q + 3) (q + 4) (q + 5) (q + 6) H
  ok : H.ok
  nms : H.nms
  nl : H.nm.length ≤ j
  tl : H.th.length ≤ j
  sl : st.length ≤ j
  ell : el.length ≤ j
  tb : S[0]? = some (.tbl pL qL)
  q0 : 0 < q
theorem tb_ofH {S : Store} {j : Nat} {p : He.Defn} {q : Str} (h : S[j]? = some (SO.tbl p q)) : S.any (isTab p q) = true := List.any_eq_true.mpr ⟨_, List.mem_of_getElem? h, by simp [isTab]⟩
theorem repr_told (S : Store) : gRepr [.tup [.str "told", .non]] S = .ok (.str (D.tup [.str "told", .non]).py.shown) S := repr_D (by decide +kernel) (by decide +kernel) (by decide +kernel) S
theorem repr_rx {r : RX} (h : RXok r) (S : Store) : gRepr [dRX r] S = .ok (.str (dRX r).py.shown) S := by
  cases r with
  | none => exact repr_D (by decide +kernel) (by decide +kernel) (by decide +kernel) S
  | some p =>
    obtain ⟨w, fs⟩ := p
    rcases h with ⟨x, hx, rfl, rfl⟩ | ⟨hw, rfl⟩
    · have e1 : PyData.strOk "NoName" = true := by decide +kernel
      have e2 := nm_strOk hx
      have z1 : ("NoName" : Str).cps.size ≤ 200 := by decide +kernel
      have z2 : x.cps.size ≤ 8 := hx.2.1
      refine repr_D ?_ ?_ ?_ S
      · simp [dRX, D.sim, simL, e1, e2]
      · simp [dRX, D.dep, depL]
      · simp only [dRX, D.wt, wtL, List.head?_cons, Option.map_some, Option.getD_some]
        omega
    · rcases hw with rfl | rfl | rfl | rfl <;> exact repr_D (by decide +kernel) (by decide +kernel) (by decide +kernel) S
section
variable {S : Store} {q j : Nat} {H : Hm} {st el : List D} {ns : List Int} {hs : List Str}
theorem turn (I : Inv S q j H st el) (hj : j < 40) (h0 : 0 < hs.length) (h9 : hs.length ≤ 100) (hn : ∀ x ∈ hs, Nm x) (x1 x7 x8 : Option D) :
    ∃ S' H' st' el' y7 y8, zlw5b [some (.scr (ns.map D.int)), x1, some (.lst (hs.map D.str)), some menu, some (.oid q), some (.oid (q + 3)), some (.int j), x7, x8] S = .nx [some (.scr (ns.map D.int)), x1, some (.lst (hs.map D.str)), some menu, some (.oid q), some (.oid (q + 3)), some (.int j), y7, y8] S' ∧ Inv S' q (j + 1) H' st' el' := by
  obtain ⟨u, e1⟩ := state_ok ns j (by omega) S
  have gs : (S ++ [SO.lst [.int u]])[S.length]? = some (.lst [.int u]) := by simp
  obtain ⟨d, u', e2, dok, dm⟩ := deed_dr gs h0 h9 hn
  obtain ⟨Sa, hSa⟩ : ∃ Sa, Sa = S ++ [SO.lst [.int u]] := ⟨_, rfl⟩
  rw [← hSa] at e1 e2
  obtain ⟨Sb, hSb⟩ : ∃ Sb, Sb = Sa.set S.length (.lst [.int u']) := ⟨_, rfl⟩
  rw [← hSb] at e2
  have lt := I.A.lt
  have ltL := I.L.lt
  have kb : ∀ i, i < S.length → Sb[i]? = S[i]? := fun i hi => by rw [hSb, List.getElem?_set_ne (by omega), hSa, List.getElem?_append_left hi]
  have lb : Sb.length = S.length + 1 := by rw [hSb, hSa]; simp
  have A1 : HAt Sb q (q + 1) (q + 2) st el 0 0 H := I.A.frame fun i hi => kb i (by omega)
  have L1 : LAt Sb (q + 3) (q + 4) (q + 5) (q + 6) H := I.L.frame fun i hi => kb i (by omega)
  have t1 : Sb[0]? = some (.tbl pL qL) := by rw [kb 0 (by omega)]; exact I.tb
  have e3 := refusal_ok L1 I.ok (by have := I.nl; omega) d dok
  have B : Bnd st el H := ⟨by have := I.sl; omega, by have := I.ell; omega, by have := I.nl; omega, by have := I.tl; omega⟩
  have v0 : zlw5b0 [some (.scr (ns.map D.int)), x1, some (.lst (hs.map D.str)), some menu, some (.oid q), some (.oid (q + 3)), some (.int j), x7, x8] S = .nx [some (.scr (ns.map D.int)), x1, some (.lst (hs.map D.str)), some menu, some (.oid q), some (.oid (q + 3)), some (.int j), some (dDd d), x8] Sb := by
    unfold zlw5b0
    simp [e1, e2]
  have v1 : zlw5b1 [some (.scr (ns.map D.int)), x1, some (.lst (hs.map D.str)), some menu, some (.oid q), some (.oid (q + 3)), some (.int j), some (dDd d), x8] Sb = .nx [some (.scr (ns.map D.int)), x1, some (.lst (hs.map D.str)), some menu, some (.oid q), some (.oid (q + 3)), some (.int j), some (dDd d), some (dRX (H.no d))] Sb := by
    unfold zlw5b1
    simp [e3]
  have s2 : short 2 = true := short_le (by omega)
  cases hno : H.no d with
  | none =>
    rw [hno] at v1
    obtain ⟨Sc, e4, G⟩ := done_ok L1 I.ok (by have := I.nl; omega) (by have := I.tl; omega) d dm hno
    have v2 : zlw5b2 [some (.scr (ns.map D.int)), x1, some (.lst (hs.map D.str)), some menu, some (.oid q), some (.oid (q + 3)), some (.int j), some (dDd d), some (dRX none)] Sb = .nx [some (.scr (ns.map D.int)), x1, some (.lst (hs.map D.str)), some menu, some (.oid q), some (.oid (q + 3)), some (.int j), some (dDd d), some (.tup [.str "told", .non])] Sc := by
      have n0 : D.isNon .non = true := rfl
      unfold zlw5b2
      simp [dRX, gIs, n0, e4, s2]
    have A2 : HAt Sc q (q + 1) (q + 2) st el 0 0 H := A1.frame fun i hi => G.keep i (by omega) (by omega)
    have t2 : Sc[0]? = some (.tbl pL qL) := by rw [G.keep 0 (by omega) (by omega)]; exact t1
    have ak := ask_ok A2 I.ok B d dok dm (tb_ofH t2) (fb := fCall S_p_law_call (fun ds es => pick [(0, 0), (0, 1)] ds es []) 2 0 2 (fCons (fVar 4) (fCons (fVar 7) (fun _ S => .ok [] S))) (fun _ S => .ok [] S)) (ρ := [some (.scr (ns.map D.int)), x1, some (.lst (hs.map D.str)), some menu, some (.oid q), some (.oid (q + 3)), some (.int j), some (dDd d), some (.tup [.str "told", .non])]) (by simp)
    rw [hno] at ak
    obtain ⟨Sd, e5, Gd⟩ := ak
    have ltc := G.at_.lt
    have L3 : LAt Sd (q + 3) (q + 4) (q + 5) (q + 6) (H.act d) := G.at_.frame fun i hi => Gd.keep i (by omega) (by omega) (by omega) (by omega)
    have al := act_len (H := H) d
    have nl := I.nl
    have tl := I.tl
    have e6 := stands_ok Gd.at_ L3 (act_ok I.ok d hno) (act_nms I.nms d dok) (by omega) (by omega)
    have r := repr_told Sd
    refine ⟨Sd, H.act d, st ++ [dDd d], el ++ [dH H], some (dDd d), some (.tup [.str "told", .non]), ?_, ⟨Gd.at_, L3, act_ok I.ok d hno, act_nms I.nms d dok, by omega, by omega, by have := I.sl; simp; omega, by have := I.ell; simp; omega, ?_, I.q0⟩⟩
    · unfold zlw5b
      rw [e_gSeq, v0, Out.seq_nx, e_gSeq, v1, Out.seq_nx, e_gSeq, v2, Out.seq_nx]
      unfold zlw5b3
      simp only [e_gIf, e_fOrT, e_toB, e_fBin, e_fCB, e_fCons]
      rw [e5]
      simp [r, e6]
    · have := I.q0
      rw [Gd.keep 0 (by omega) (by omega) (by omega) (by omega)]
      exact t2
  | some p =>
    rw [hno] at v1
    obtain ⟨w, fs⟩ := p
    have rx := no_rx (H := H) d dok
    rw [hno] at rx
    have v2 : zlw5b2 [some (.scr (ns.map D.int)), x1, some (.lst (hs.map D.str)), some menu, some (.oid q), some (.oid (q + 3)), some (.int j), some (dDd d), some (dRX (some (w, fs)))] Sb = .nx [some (.scr (ns.map D.int)), x1, some (.lst (hs.map D.str)), some menu, some (.oid q), some (.oid (q + 3)), some (.int j), some (dDd d), some (dRX (some (w, fs)))] Sb := by
      have n0 : ∀ ds, D.isNon (.tup ds) = false := fun _ => rfl
      have n1 : D.isNon .non = true := rfl
      unfold zlw5b2
      simp [dRX, gIs, n0, n1]
    have ak := ask_ok A1 I.ok B d dok dm (tb_ofH t1) (fb := fCall S_p_law_call (fun ds es => pick [(0, 0), (0, 1)] ds es []) 2 0 2 (fCons (fVar 4) (fCons (fVar 7) (fun _ S => .ok [] S))) (fun _ S => .ok [] S)) (ρ := [some (.scr (ns.map D.int)), x1, some (.lst (hs.map D.str)), some menu, some (.oid q), some (.oid (q + 3)), some (.int j), some (dDd d), some (dRX (some (w, fs)))]) (by simp)
    rw [hno] at ak
    have e5 : fTold pL qL 7 m_p_law_heard _ _ Sb = .ok (dRX (some (w, fs))) Sb := ak
    have nl := I.nl
    have tl := I.tl
    have e6 := stands_ok A1 L1 I.ok I.nms (by omega) (by omega)
    have r := repr_rx rx Sb
    refine ⟨Sb, H, st, el, some (dDd d), some (dRX (some (w, fs))), ?_, ⟨A1, L1, I.ok, I.nms, by omega, by omega, by have := I.sl; omega, by have := I.ell; omega, t1, I.q0⟩⟩
    unfold zlw5b
    rw [e_gSeq, v0, Out.seq_nx, e_gSeq, v1, Out.seq_nx, e_gSeq, v2, Out.seq_nx]
    unfold zlw5b3
    simp only [e_gIf, e_fOrT, e_toB, e_fBin, e_fCB, e_fCons]
    rw [e5]
    simp [r, e6]
end
end K03

/-! Houses: the law (k75). -/
namespace K03
open PySem L2 DL TY
theorem len_new (S : Store) : gLenP "House" S_House_len [.oid S.length] (S ++ [.ins "House" (hfl H0 (S.length + 1) (S.length + 2) 0 0), .lst [], .lst []]) = .ok (.int 0) (S ++ [.ins "House" (hfl H0 (S.length + 1) (S.length + 2) 0 0), .lst [], .lst []]) := by
  have A : HAt (S ++ [.ins "House" (hfl H0 (S.length + 1) (S.length + 2) 0 0), .lst [], .lst []]) S.length (S.length + 1) (S.length + 2) [] [] 0 0 H0 := ⟨by simp, by simp, by simp, by omega, by omega, by omega⟩
  exact len_h A (by simp [H0])
theorem good (ns : List Int) (hn : ns.length ≤ 63) : ∃ S, S_law [.scr (ns.map D.int)] (tabS tq) = .ok (.bl true) S := by
  have hT : (tabS tq)[0]? = some (.tbl pL qL) := rfl
  have hT1 : (tabS tq).length = 1 := rfl
  obtain ⟨T0, hT0⟩ : ∃ T0, T0 = tabS tq := ⟨_, rfl⟩
  rw [← hT0] at hT hT1 ⊢
  obtain ⟨v, e0⟩ := state_ok ns 0 (by omega) T0
  obtain ⟨S1, hS1⟩ : ∃ S1, S1 = T0 ++ [SO.lst [.int v]] := ⟨_, rfl⟩
  rw [← hS1] at e0
  have g1 : S1[1]? = some (.lst [.int v]) := by rw [hS1, ← hT1]; simp
  have l1 : S1.length = 2 := by rw [hS1]; simp [hT1]
  rw [hT1] at e0
  have e1 := next_st g1 4 (by omega) (by omega)
  obtain ⟨S2, hS2⟩ : ∃ S2, S2 = S1.set 1 (.lst [.int (v / 4)]) := ⟨_, rfl⟩
  rw [← hS2] at e1
  have g2 : S2[1]? = some (.lst [.int (v / 4)]) := by rw [hS2]; exact set_at g1
  have l2 : S2.length = 2 := by rw [hS2]; simp [l1]
  have b1 := Int.emod_nonneg v (b := 4) (by decide)
  have b2 := Int.emod_lt_of_pos v (b := 4) (by decide)
  obtain ⟨n, hnn⟩ : ∃ n : Nat, 2 + v % 4 = (n : Int) := ⟨(2 + v % 4).toNat, by omega⟩
  obtain ⟨S3, hs, v3, e2, g3, l3, k3, hl, hnm⟩ := names_dr g2 n (by omega)
  have t3 : S3[0]? = some (.tbl pL qL) := by
    rw [k3 0 (by omega) (by omega), hS2, List.getElem?_set_ne (by omega), hS1, List.getElem?_append_left (by omega)]
    exact hT
  have v0 : zlw0 [some (.scr (ns.map D.int)), none, none, none, none, none, none, none, none] T0 = .nx [some (.scr (ns.map D.int)), some (.oid 1), none, none, none, none, none, none, none] S1 := by
    have e0 : S_p_law_state [.scr (ns.map D.int), .int 0] T0 = .ok (.oid 1) S1 := e0
    unfold zlw0
    simp [e0]
  have v1 : zlw1 [some (.scr (ns.map D.int)), some (.oid 1), none, none, none, none, none, none, none] S1 = .nx [some (.scr (ns.map D.int)), some (.oid 1), some (.lst (hs.map D.str)), none, none, none, none, none, none] S3 := by
    have ad : ∀ S, gAdd (.int 2) (.int (v % 4)) S = .ok (.int n) S := fun S => by
      rw [← hnn]
      rfl
    unfold zlw1
    rw [e_gSet, e_fCall]
    simp only [e_fCons, e_fVar, e_fBin, e_fC, List.getElem?_cons_succ, List.getElem?_cons_zero, Res.bind_ok]
    rw [e_fCall]
    simp [e1, ad, e2]
  have v2 : zlw2 [some (.scr (ns.map D.int)), some (.oid 1), some (.lst (hs.map D.str)), none, none, none, none, none, none] S3 = .nx [some (.scr (ns.map D.int)), some (.oid 1), some (.lst (hs.map D.str)), some menu, none, none, none, none, none] S3 := by
    have s12 : short 12 = true := short_le (by omega)
    unfold zlw2
    simp [s12]
  obtain ⟨q, hq⟩ : ∃ q, q = S3.length := ⟨_, rfl⟩
  have q0 : 0 < q := by omega
  obtain ⟨S4, hS4⟩ : ∃ S4, S4 = S3 ++ [SO.ins "House" (hfl H0 (S3.length + 1) (S3.length + 2) 0 0), .lst [], .lst []] := ⟨_, rfl⟩
  have hw := house_new S3
  rw [← hS4, ← hq] at hw
  have l4 : S4.length = q + 3 := by rw [hS4]; simp [hq]
  have v3 : zlw3 [some (.scr (ns.map D.int)), some (.oid 1), some (.lst (hs.map D.str)), some menu, none, none, none, none, none] S3 = .nx [some (.scr (ns.map D.int)), some (.oid 1), some (.lst (hs.map D.str)), some menu, some (.oid q), none, none, none, none] S4 := by
    unfold zlw3
    simp only [e_gSet, e_fMake, Res.bind_ok, List.length_nil, and_self, if_true, hw, Res.into_ok, List.set_cons_succ, List.set_cons_zero]
  have ew := here_new S4 [some (.scr (ns.map D.int)), some (.oid 1), some (.lst (hs.map D.str)), some menu, some (.oid q), none, none, none, none]
  obtain ⟨S5, hS5⟩ : ∃ S5, S5 = S4 ++ [SO.dic (hrK (S4.length + 1) (S4.length + 2) (S4.length + 3)), .dic [], .lst [], .lst []] := ⟨_, rfl⟩
  rw [← hS5, l4] at ew
  have v4 : zlw4 [some (.scr (ns.map D.int)), some (.oid 1), some (.lst (hs.map D.str)), some menu, some (.oid q), none, none, none, none] S4 = .nx [some (.scr (ns.map D.int)), some (.oid 1), some (.lst (hs.map D.str)), some menu, some (.oid q), some (.oid (q + 3)), none, none, none] S5 := by
    unfold zlw4
    rw [e_gSet, ew]
    rfl
  have k5 : ∀ i, i < q → S5[i]? = S3[i]? := fun i hi => by rw [hS5, List.getElem?_append_left (by omega), hS4, List.getElem?_append_left (by omega)]
  have k5b : ∀ i, i < q + 3 → S5[i]? = S4[i]? := fun i hi => by rw [hS5, List.getElem?_append_left (by omega)]
  have I0 : Inv S5 q 0 H0 [] [] := by
    refine ⟨⟨?_, ?_, ?_, by omega, by omega, by omega⟩, ⟨?_, ?_, ?_, ?_, by omega, by omega, by omega, by omega, by omega, by omega⟩, ⟨fun _ z => by simp [H0] at z, fun _ z => by simp [H0] at z, fun _ z => by simp [H0] at z⟩, fun _ z => by simp [H0] at z, by simp [H0], by simp [H0], by simp, by simp, ?_, q0⟩
    · rw [k5b _ (by omega), hS4, hq]; simp
    · rw [k5b _ (by omega), hS4, hq]; simp
    · rw [k5b _ (by omega), hS4, hq]; simp
    · rw [hS5, ← l4]; simp; exact l4
    · have : q + 4 = S4.length + 1 := by omega
      rw [hS5, this]; simp [nmD]
    · have : q + 5 = S4.length + 2 := by omega
      rw [hS5, this]; simp
    · have : q + 6 = S4.length + 3 := by omega
      rw [hS5, this]; simp [ntD]
    · rw [k5 0 q0]; exact t3
  obtain ⟨m, hm, hm40⟩ : ∃ m : Nat, (if (40 : Int) < (ns.length : Int) then (40 : Int) else (ns.length : Int)) = (m : Int) ∧ m ≤ 40 := by
    by_cases h : (40 : Int) < (ns.length : Int)
    · exact ⟨40, by rw [if_pos h]; rfl, by omega⟩
    · exact ⟨ns.length, by rw [if_neg h], by omega⟩
  obtain ⟨ρ', S', lp, H', st', el', y6, y7, y8, rfl, I'⟩ := loop_inv (m := mName 6) (b := zlw5b) (fun j ρ S => ∃ H st el y6 y7 y8, ρ = [some (.scr (ns.map D.int)), some (.oid 1), some (.lst (hs.map D.str)), some menu, some (.oid q), some (.oid (q + 3)), y6, y7, y8] ∧ Inv S q j H st el)
    (rng 0 (m : Int)) 0 [some (.scr (ns.map D.int)), some (.oid 1), some (.lst (hs.map D.str)), some menu, some (.oid q), some (.oid (q + 3)), none, none, none] S5 ⟨H0, [], [], none, none, none, rfl, I0⟩ (by
    rintro j d ρ T hd ⟨H, st, el, y6, y7, y8, rfl, I⟩
    obtain ⟨rfl, hj⟩ := rng_get hd
    rw [show 0 + j = j by omega] at I
    obtain ⟨S', H', st', el', z7, z8, hb, I'⟩ := turn (ns := ns) (hs := hs) I (by omega) (by omega) (by omega) hnm (some (.oid 1)) y7 y8
    have e : (0 : Int) + (j : Int) = (j : Int) := by omega
    exact ⟨_, _, S', rfl, .inl (by rw [e]; exact hb), H', st', el', _, _, _, rfl, by rw [show 0 + j + 1 = j + 1 by omega]; exact I'⟩)
  have ml : 0 + (rng 0 (m : Int)).length = m := by rw [rng_length]; omega
  rw [ml] at I'
  have v5 : zlw5 [some (.scr (ns.map D.int)), some (.oid 1), some (.lst (hs.map D.str)), some menu, some (.oid q), some (.oid (q + 3)), none, none, none] S5 = .nx [some (.scr (ns.map D.int)), some (.oid 1), some (.lst (hs.map D.str)), some menu, some (.oid q), some (.oid (q + 3)), y6, y7, y8] S' := by
    have cr := cRng_natH (n := m) (by omega)
    have gm : gMin [.int ns.length, .int 40] S5 = .ok (.int m) S5 := by
      rw [← hm]
      simp [gMin, two, gMin2]
    unfold zlw5
    rw [← lp]
    simp [gm, cr]
  have nl := I'.nl
  have tl := I'.tl
  have lt := I'.A.lt
  have ltL := I'.L.lt
  have nh := names_h I'.A (by omega)
  have no : S_House_names_o [.oid q] S' = .ok (.oid S'.length) (S' ++ [.lst ((srtN H').map D.str)]) := by
    have q : gSortDO [.dic (nmD H'.nm)] S' = .ok (.oid S'.length) (S' ++ [.lst ((srtN H').map D.str)]) := by
      simp [gSortDO, asD, keys_nm, srtN]
      omega
    unfold S_House_names_o m_House_names_o
    simp [List.replicate, I'.A.asI, lh_named, q]
  have ap := app_h (S := S' ++ [SO.lst ((srtN H').map D.str)]) (n := S'.length) (xs := (srtN H').map D.str) (x := D.str "more") (by simp) (by rw [List.length_map, srtN_len]; omega)
  obtain ⟨S6, hS6⟩ : ∃ S6, S6 = (S' ++ [SO.lst ((srtN H').map D.str)]).set S'.length (.lst ((srtN H').map D.str ++ [D.str "more"])) := ⟨_, rfl⟩
  rw [← hS6] at ap
  have k6 : ∀ i, i < S'.length → S6[i]? = S'[i]? := fun i hi => by rw [hS6, List.getElem?_set_ne (by omega), List.getElem?_append_left hi]
  have A6 : HAt S6 q (q + 1) (q + 2) st' el' 0 0 H' := I'.A.frame fun i hi => k6 i (by omega)
  have L6 : LAt S6 (q + 3) (q + 4) (q + 5) (q + 6) H' := I'.L.frame fun i hi => k6 i (by omega)
  have e6 := stands_ok A6 L6 I'.ok I'.nms (by omega) (by omega)
  have v6 : zlw6 [some (.scr (ns.map D.int)), some (.oid 1), some (.lst (hs.map D.str)), some menu, some (.oid q), some (.oid (q + 3)), y6, y7, y8] S' = .nx [some (.scr (ns.map D.int)), some (.oid 1), some (.lst (hs.map D.str)), some menu, some (.oid q), some (.oid (q + 3)), y6, y7, y8] S6 := by
    have ty : tyS (S' ++ [SO.lst ((srtN H').map D.str)]) (.oid S'.length) = some "list" := by simp [tyS]
    unfold zlw6
    simp [I'.A.asI, hm_names, no, ty, ap]
  have hw6 := house_new S6
  have ln6 := len_new S6
  have v7 : ∃ S7, zlw7 [some (.scr (ns.map D.int)), some (.oid 1), some (.lst (hs.map D.str)), some menu, some (.oid q), some (.oid (q + 3)), y6, y7, y8] S6 = .rt (.bl true) S7 := by
    refine ⟨S6 ++ [.ins "House" (hfl H0 (S6.length + 1) (S6.length + 2) 0 0), .lst [], .lst []], ?_⟩
    obtain ⟨ρ, hρ⟩ : ∃ ρ : EnvD, ρ = [some (.scr (ns.map D.int)), some (.oid 1), some (.lst (hs.map D.str)), some menu, some (.oid q), some (.oid (q + 3)), y6, y7, y8] := ⟨_, rfl⟩
    have e7 : (fCall S_p_law_stands (fun ds es => pick [(0, 0), (0, 1)] ds es []) 2 0 2 (fCons (fVar 4) (fCons (fVar 5) (fun _ S => .ok [] S))) (fun _ S => .ok [] S)) ρ S6 = .ok (.bl true) S6 := by
      rw [hρ]
      simp [e6]
    have e8 : (fBin gEq (fCB (gLenP "House" S_House_len) (fCons (fMake (makeO S_House_init (fun ds es => pick [(0, 0)] ds es []) "House" 1) 0 0 (fun _ S => .ok [] S) (fun _ S => .ok [] S)) (fun _ S => .ok [] S))) (fC (.int 0))) ρ S6 = .ok (.bl true) (S6 ++ [.ins "House" (hfl H0 (S6.length + 1) (S6.length + 2) 0 0), .lst [], .lst []]) := by
      simp only [e_fBin, e_fCB, e_fCons, e_fMake, e_fC, Res.bind_ok, List.length_nil, and_self, if_true, hw6, ln6]
      simp
    unfold zlw7
    rw [← hρ, e_gRet, e_fAndV, e7]
    simp only [Res.bind_ok]
    rw [e8]
    rfl
  obtain ⟨S7, v7⟩ := v7
  refine ⟨S7, ?_⟩
  unfold S_law
  rw [zlw_eq, e_semOf, e_startD]
  simp only [List.map_cons, List.map_nil, List.length_cons, List.length_nil, List.replicate, List.cons_append, List.nil_append]
  unfold zlw
  rw [e_gSeq, v0, Out.seq_nx, e_gSeq, v1, Out.seq_nx, e_gSeq, v2, Out.seq_nx, e_gSeq, v3, Out.seq_nx, e_gSeq, v4, Out.seq_nx, e_gSeq, v5, Out.seq_nx, e_gSeq, v6, Out.seq_nx, v7]
  rfl
end K03

open PySem PySem.W PySem.Calls PyProof.Rows
theorem PySem.Challenge.cw_reachyard_k75_names_and_values_holds : PySem.Challenge.rw_reachyard_k75_names_and_values.Holds := by
  w_on; o_law
  refine HandSHeadRun.head_any (r := OpenLaw.row PySem.Challenge.rw_reachyard_k75_names_and_values) (q := view (OpenLaw.row PySem.Challenge.rw_reachyard_k75_names_and_values).prog [62]) (H := K03.hk) (ob := K03.ob) (M := 40000) (loose := K03.loose) (d := HandSHeadRun.topDef (OpenLaw.row PySem.Challenge.rw_reachyard_k75_names_and_values).prog 62) (kwd := []) K03.ob_eq
    (by kernel_rfl) (fun s => by kernel_rfl) K03.run (by kernel_rfl) (by kernel_rfl) (by kernel_rfl) (by rfl) (by first | assumption | decide +kernel) (by decide +kernel) ⟨rfl, rfl, rfl, rfl, rfl, by decide +kernel⟩ ?hw ?hc
  case hw => w_witness2
  case hc =>
    refine DL.walk_ofGT (l := PySem.Challenge.rw_reachyard_k75_names_and_values) (n := 63) (k := 33) (x := "_law_script") (sem := K03.S_law) (tq := K03.tq) rfl (by decide) (by kernel_rfl) ⟨rfl, by decide, by decide⟩ K03.good ?F
    intro w mg fa h Y G hmg0
    obtain ⟨K, KX, Sy⟩ := Y
    have hmg : mg ("law" : PySem.Str) = some (.ref fa) := by
      have e : (HandSHeadRun.topDef (OpenLaw.row PySem.Challenge.rw_reachyard_k75_names_and_values).prog 62).name = ("law" : PySem.Str) := by kernel_rfl
      rw [← e]
      exact hmg0
    have T := K03.txt_of KX G Sy.says Sy.ex
    have e := hmg.symm.trans (K03.glo_law T)
    cases e
    obtain ⟨fd, F⟩ := K03.fun_law T
    refine ⟨K, fd, KX, Sy.tabs, Sy.out, Sy.hd, Sy.nd, fun s v => L2.FunD.bindsA (ps := ["_law_script"]) F (fun _ _ _ _ _ _ us hl => match us, hl with | [_], _ => rfl) s [v] rfl, fun base kb gb TB => ?_⟩
    obtain ⟨fd2, F2, G2⟩ := K03.ok_law (P := (PySem.Challenge.rw_reachyard_k75_names_and_values).prog) (w := w) (base := base) T TB
    have ed : fd2 = fd := by
      obtain ⟨_, _, _, _, _, _, _, _, _, _, e1, l1, _⟩ := F.ex
      obtain ⟨_, _, _, _, _, _, _, _, _, _, e2, l2, _⟩ := F2.ex
      rw [l1] at l2
      cases l2
      rfl
    rw [ed] at G2
    exact G2

