import PyProof.Rows.All
import Wide.All
import OpenK.AllK
import Wide.FinOn
import HandS.ForMost
import HandS.ForExc
import HandS.Exc
import HandS.TryOnly
import HandS.ExcOwn
import HandS.Defaults
import HandS.IsInst
import HandS.Flow
import HandS.Wide
import HandS.Lambda
import HandS.HeadHook4
import HandS.ExcCtx
import HandS.MakeKwOnly
import HandS.Small
import HandS.SortInts
import HandS.Conv
import HandS.SetFor
import KE.GoesEnum
import KE.KDictZip
import KE.KDictItemsList
import KE.KUnpackStar
import HandS.Ends
import HandS.HeadEnd
import HandS.Head0
import HandS.Head1
import HandS.Head2
import HandS.HeadHook1
import HandS.HeadHook2
import HandS.DictComp
import HandS.Deep
import HandS.OwnEq
import HandS.Style
import HandS.Text
import HandS.FStr
import PyProof.StrOps2
import HandS.ExcIs
import HandS.TryMany
import HandS.EndTab
import KE.DataMinMax
import KE.SortData
import HandS.NoneIn
import HandS.ClsMeth
import KE.GoesSet
import KE.GoesMore
import PyProof.InstNe
import HandS.Zip
import HandS.TupMul
import HandS.More
import HandS.HeadHook3
import KE.KDictCopyH
import HandS.HotCalls
import KE.KDictKeyed
import HandS.ExcInit
import HandS.ExcField
import KE.KExcIs
import PyProof.Rows.StrMeet
import HandS.WideMore
import KE.KCallOwn
import HandS.RaiseMore
import HandS.WideBits
import PyProof.InstEq
import OpenK.KWalk
import PySem.Challenge.RW_reachyard_k01_webs_of_anything
import PyProof.Rows.StrDigitsNeg
set_option Elab.async false
set_option maxRecDepth 100000
set_option maxHeartbeats 0
set_option linter.all false
namespace DL
open PySem L2

/-- data: what a value is worth; oid: an object of the store -/
inductive D where
  | non | bl (b : Bool) | int (i : Int) | str (x : Str) | ty (n : String)
  | cls (c : Str) | tup (xs : List D) | lst (xs : List D) | scr (xs : List D) | dic (kvs : List (Key × D)) | ins (C : Str) (fs : List (Str × D)) | oid (n : Nat) | exc (C : Str) (fs : List (Str × D))
end DL

namespace DL
open PySem L2

end DL

namespace DL
open PySem L2

end DL

namespace DL
open PySem L2

end DL

namespace DL
open PySem L2

end DL

namespace DL
open PySem L2

end DL

namespace DL
open PySem L2

end DL

namespace DL
open PySem L2

end DL

namespace DL
open PySem L2

section
variable {X : Cx} {W : WX} {k : Nat} {a b c e : Expr} {es : List Expr} {fa fb fc fe : FE} {pos : Pos}
def valD (ks : List (Key × D)) (k : Key) : Option D := (ks.find? fun q => decide (q.1 = k)).map (·.2)
end
end DL

namespace DL
open PySem L2

end DL

namespace PySem
open PySem.Spec PyProof.Rows L2
end PySem
namespace DL
open PySem L2
end DL

namespace PySem
open PySem.Spec PySem.Calls PyProof.Rows PySem.W L2
namespace F
end F
end PySem

namespace DL
open PySem L2
end DL

namespace PySem
open PySem.Spec PySem.Calls PyProof.Rows PySem.W L2
end PySem
namespace DL
open PySem L2
end DL

namespace DL
open PySem PySem.Spec PyProof.Rows L2

end DL

namespace DL
open PySem PySem.Spec PyProof.Rows L2
end DL

namespace DL
open PySem PySem.Spec PyProof.Rows L2
end DL

namespace DL
open PySem PySem.Spec PyProof.Rows L2
def isiB (K : PySem.W.Frag) (c : Str) : Bool := He.eqO (PySem.W.findIn K (.ref (He.ga K c)) "__class__") (some (some (.builtin "object.__class__"))) &&
  (He.eqO (PySem.W.specialIn K (.builtin "object.__class__") "__get__") (some (some (.builtin "getset_descriptor.__get__"))) && (decide (PySem.W.takesIn K (.builtin "object.__class__") = some true) && decide (PySem.W.mroIn K (He.ga K c) (.type "object") = some true)))
end DL

namespace DL
open PySem PySem.Spec PyProof.Rows L2
end DL

namespace DL
open PySem PySem.Spec PyProof.Rows L2
end DL

namespace DL
open PySem PySem.Spec PyProof.Rows L2
end DL

namespace DL
open PySem PySem.Spec PyProof.Rows L2
end DL

namespace DL
open PySem PySem.Spec PyProof.Rows L2
end DL

namespace DL
open PySem PySem.Spec PyProof.Rows L2
end DL

namespace DL
open PySem PySem.Spec PyProof.Rows L2
end DL

namespace DL
open PySem PySem.Spec PyProof.Rows L2
end DL

namespace PySem
open PySem.Spec PySem.Calls PyProof.Rows PySem.W L2
namespace F
end F
end PySem

namespace DL
open PySem PySem.Spec PyProof.Rows L2
end DL

namespace HT
open PySem PySem.Spec PyProof.Rows
end HT
namespace L2
open PySem PySem.Spec PyProof.Rows
end L2
namespace DL
open PySem PySem.Spec PyProof.Rows L2
end DL

namespace DL
open PySem PySem.Spec PyProof.Rows L2
end DL

namespace DL
open PySem PySem.Spec PyProof.Rows L2
end DL

namespace DL
open PySem PySem.Spec PyProof.Rows L2
end DL

namespace DL
open PySem PySem.Spec PyProof.Rows L2
end DL

namespace DL
open PySem PySem.Spec PyProof.Rows L2
end DL

namespace DL
open PySem PySem.Spec PyProof.Rows L2

end DL

namespace DL
open PySem PySem.Spec PyProof.Rows L2

end DL

namespace DL
open PySem PySem.Spec PyProof.Rows L2

end DL

namespace DL
open PySem PySem.Spec PyProof.Rows L2

/-- the tables of the defs that make lambdas -/
def tabA (K : PySem.W.Frag) (tq : List (He.Defn × Str)) : List Addr := tq.map fun p => (He.cT K p.1).2
structure SaysO (fa : List He.Fa) (fn : List He.DefD) (tq : List (He.Defn × Str)) (ex : PySem.W.Frag → Bool) (h : Heap) (K : PySem.W.Frag) : Prop where
  says : He.SaysD fa fn K
  ex : ex K = true
  nd : (tabA K tq).Nodup
  hd : ∀ p ∈ tq, PySem.W.codeHdIn K (He.cT K p.1).1 (He.cT K p.1).2 = true
  out : ∀ p ∈ tq, K.lookup (He.cT K p.1).2 = none
  tabs : ∀ p ∈ tq, h.get? (He.cT K p.1).2 = some { cls := .none, data := .fields #[] }
abbrev bmV : List Value := [.type "ValueError", .type "Exception", .type "BaseException", .type "object"]
def raiB (K : PySem.W.Frag) (c : Str) : Bool := PySem.W.excIn K (He.ga K c) bmV "ValueError.__new__" && (PySem.W.keepIn K (.ref (He.ga K c)) && (decide (PySem.W.subIn K (.ref (He.ga K c)) (.type "BaseException") = some true) && (PySem.W.typeIn K (.ref (He.ga K c)) == some (Value.type "type"))))
/-- what isinstance asks of an exception's class -/
def iseB (K : PySem.W.Frag) (c : Str) : Bool := He.eqO (PySem.W.findIn K (.ref (He.ga K c)) "__getattribute__") (some (some (.builtin "BaseException.__getattribute__"))) && (He.eqO (PySem.W.findIn K (.ref (He.ga K c)) "__getattr__") (some none) && (decide (PySem.W.subIn K (.ref (He.ga K c)) (.type "BaseException") = some true) &&
  (PySem.W.hasDictIn K (He.ga K c) && (He.eqO (PySem.W.findIn K (.ref (He.ga K c)) "__class__") (some (some (.builtin "object.__class__"))) && (He.eqO (PySem.W.specialIn K (.builtin "object.__class__") "__get__") (some (some (.builtin "getset_descriptor.__get__"))) &&
    (decide (PySem.W.takesIn K (.builtin "object.__class__") = some true) && decide (PySem.W.mroIn K (He.ga K c) (.type "object") = some true)))))))
/-- a table: which classes an except clause, isinstance takes -/
def exmT (K : PySem.W.Frag) (c : Value) (t : List (Str × Bool)) : Bool := t.all fun q => decide (PySem.W.exmOne K (.ref (He.ga K q.1)) c = some q.2)
def kitT (K : PySem.W.Frag) (c : Value) (t : List (Str × Bool)) : Bool := t.all fun q => decide (PySem.W.kitOne K (.ref (He.ga K q.1)) c = some q.2)
end DL

namespace DL
open PySem L2
end DL

namespace DL
open PySem PySem.Spec PyProof.Rows L2
end DL

namespace DL
open PySem PySem.Spec PyProof.Rows L2
end DL

namespace PySem.W
open PySem PySem.SeqAt PyProof.Rows
end PySem.W
namespace DL
open PySem PySem.Spec PySem.W PySem.SeqAt PyProof.Rows L2
end DL

namespace DL
open PySem PySem.Spec PyProof.Rows L2
end DL

namespace DL
open PySem PySem.Spec PyProof.Rows L2
end DL

namespace DL
open PySem PySem.Spec PyProof.Rows L2
end DL

namespace DL
open PySem PySem.Spec PyProof.Rows L2
end DL

namespace DL
open PySem PySem.Spec PyProof.Rows L2
end DL

namespace DL
open PySem PySem.Spec PyProof.Rows L2
end DL

namespace DL
open PySem PySem.Spec PyProof.Rows L2
end DL

namespace DL
open PySem PySem.Spec PyProof.Rows L2
end DL

namespace DL
open PySem PySem.Spec PyProof.Rows L2
end DL

namespace DL
open PySem PySem.Spec PyProof.Rows L2
def hasBit (m a : Nat) : Bool := Nat.beq (Nat.land (Nat.shiftRight m a) 1) 1
/-- what is new of some: the bits of all seen, the new ones, the last one first -/
def newB : List Addr → Nat → List Addr → Nat × List Addr
  | [], m, acc => (m, acc)
  | a :: as, m, acc => match hasBit m a with
    | true => newB as m acc
    | false => newB as (Nat.lor m (Nat.shiftLeft 1 a)) (a :: acc)
def refsB (g : Addr → Option Obj) : List Addr → List Addr
  | [] => []
  | a :: as => (match g a with
    | some o => He.refsD o
    | none => []) ++ refsB g as
def asBn (g : Addr → Option Obj) : Nat → Nat → List Addr → List Addr → List Addr
  | 0, _, _, all => all
  | n + 1, m, fr, all => match newB (refsB g fr) m [] with
    | (m', new) => asBn g n m' new (all ++ new)
def asB (g : Addr → Option Obj) (n : Nat) : List Addr := PySem.cStatics :: asBn g n (Nat.lor (Nat.shiftLeft 1 mainGlobals) (Nat.shiftLeft 1 PySem.cStatics)) [mainGlobals] [mainGlobals]
def obsLb (n : Nat) (fa : List He.Fa) (fn : List He.DefD) (tq : List (He.Defn × Str)) (ex : PySem.W.Frag → Bool) (g : Addr → Option Obj) : He.AlD × Bool :=
  (He.obsD fa fn (He.frT g (asB g n)), ex (He.frT g (asB g n)) && (decide (tabA (He.frT g (asB g n)) tq).Nodup && He.tabsB g (tq.map (·.1)) (He.frT g (asB g n))))
theorem saysOb_of {n : Nat} {fa : List He.Fa} {fn : List He.DefD} {tq : List (He.Defn × Str)} {ex : PySem.W.Frag → Bool} {h : Heap} (e : obsLb n fa fn tq ex h.get? = (He.valD fn, true)) : SaysO fa fn tq ex h (He.frT h.get? (asB h.get? n)) := by
  have e1 := congrArg Prod.fst e
  have e2 : (ex (He.frT h.get? (asB h.get? n)) && (decide (tabA (He.frT h.get? (asB h.get? n)) tq).Nodup && He.tabsB h.get? (tq.map (·.1)) (He.frT h.get? (asB h.get? n)))) = true := congrArg Prod.snd e
  obtain ⟨q1, q2⟩ := He.ba e2
  obtain ⟨q3, q4⟩ := He.ba q2
  have each : ∀ p ∈ tq, PySem.W.codeHdIn (He.frT h.get? (asB h.get? n)) (He.cT (He.frT h.get? (asB h.get? n)) p.1).1 (He.cT (He.frT h.get? (asB h.get? n)) p.1).2 = true ∧ ∃ o, h.get? (He.cT (He.frT h.get? (asB h.get? n)) p.1).2 = some o ∧ He.emptyTab o = true := fun p hp => by
    obtain ⟨z1, z2⟩ := He.ba (List.all_eq_true.mp q4 p.1 (List.mem_map.mpr ⟨p, hp, rfl⟩))
    refine ⟨z1, ?_⟩
    cases q : h.get? (He.cT (He.frT h.get? (asB h.get? n)) p.1).2 with
    | none => rw [q] at z2; cases z2
    | some o =>
      rw [q] at z2
      exact ⟨o, rfl, z2⟩
  refine ⟨e1, q1, of_decide_eq_true q3, fun p hp => (each p hp).1, fun p hp => ?_, fun p hp => ?_⟩
  · obtain ⟨_, o, z1, z2⟩ := each p hp
    exact He.frT_none z1 z2
  · obtain ⟨_, o, z1, z2⟩ := each p hp
    rw [z1, He.emptyTab_eq z2]
def hookLb (n : Nat) (fa : List He.Fa) (fn : List He.DefD) (tq : List (He.Defn × Str)) (ex : PySem.W.Frag → Bool) : PySem.W.Hook where
  α := He.AlD × Bool
  obs := fun s => obsLb n fa fn tq ex s.heap.get?
  val := fun _ => (He.valD fn, true)
  says := fun _ h => ∃ K : PySem.W.Frag, K.In h ∧ SaysO fa fn tq ex h K
  of := fun _ _ e => ⟨_, He.frT_in, saysOb_of e⟩
  keeps := fun _ _ _ ⟨K, hK, c⟩ k => ⟨K, PySem.W.Frag.In.keeps hK k, ⟨c.says, c.ex, c.nd, c.hd, c.out, fun p hp => k _ _ (c.tabs p hp)⟩⟩
theorem obsLb_eq {n : Nat} {fa : List He.Fa} {fn : List He.DefD} {tq : List (He.Defn × Str)} {ex : PySem.W.Frag → Bool} {g : Addr → Option Obj} {s : Shared} (h : ∀ a, g a = s.heap.get? a) : obsLb n fa fn tq ex g = (hookLb n fa fn tq ex).obs s := by
  have e : g = s.heap.get? := funext h
  rw [e] <;> rfl
end DL

namespace DL
open PySem L2
end DL

namespace DL
open PySem L2
end DL

namespace DL
open PySem PySem.Spec PyProof.Rows L2
end DL
namespace SrtO
open PySem PyProof.Rows Srt
end SrtO
namespace DL
open PySem PySem.Spec PyProof.Rows L2
end DL

namespace DL
open PySem PySem.Spec PyProof.Rows L2
end DL

namespace L2
open PySem PySem.Spec PyProof.Rows
end L2
namespace DL
open PySem PySem.Spec PyProof.Rows L2
end DL

namespace DL
open PySem PySem.Spec PyProof.Rows L2
end DL

namespace DL
open PySem PySem.Spec PyProof.Rows L2
end DL

namespace DL
open PySem PySem.Spec PyProof.Rows L2
end DL

namespace L2
open PySem PySem.Spec PyProof.Rows
end L2
namespace DL
open PySem PySem.Spec PyProof.Rows L2
end DL

namespace L2
open PySem PySem.Spec PyProof.Rows
end L2
namespace DL
open PySem PySem.Spec PyProof.Rows L2
end DL

namespace L2
open PySem PySem.Spec PyProof.Rows
end L2
namespace DL
open PySem PySem.Spec PyProof.Rows L2
end DL

namespace DL
open PySem PySem.Spec PyProof.Rows L2
end DL

namespace PySem
open PySem.Spec PySem.Calls PyProof.Rows PySem.W L2
end PySem
namespace DL
open PySem L2
end DL

namespace DL
open PySem PySem.Spec PyProof.Rows L2
end DL

namespace DL
open PySem PySem.Spec PyProof.Rows L2
end DL

namespace DL
open PySem PySem.Spec PyProof.Rows L2
end DL

namespace DL
open PySem PySem.Spec PyProof.Rows L2
end DL

namespace DL
open PySem PySem.Spec PyProof.Rows L2
end DL

namespace DL
open PySem PySem.Spec PyProof.Rows L2
end DL

namespace DL
open PySem PySem.Spec PyProof.Rows L2
end DL

namespace DL
open PySem PySem.Spec PyProof.Rows L2
end DL

namespace DL
open PySem PySem.Spec PyProof.Rows L2
end DL

namespace DL
open PySem PySem.Spec PyProof.Rows L2
end DL

namespace DL
open PySem PySem.Spec PyProof.Rows L2
end DL

namespace DL
open PySem PySem.Spec PyProof.Rows L2
end DL

namespace DL
open PySem PySem.Spec PyProof.Rows L2
end DL

namespace DL
open PySem PySem.Spec PyProof.Rows L2
end DL

namespace DL
open PySem PySem.Spec PyProof.Rows L2
end DL

namespace DL
open PySem PySem.Spec PyProof.Rows L2
end DL

namespace DL
open PySem PySem.Spec PyProof.Rows L2
end DL

namespace DL
open PySem PySem.Spec PyProof.Rows L2
end DL

namespace DL
open PySem PySem.Spec PyProof.Rows L2
end DL

namespace DL
open PySem PySem.Spec PyProof.Rows L2
end DL

namespace DL
open PySem PySem.Spec PyProof.Rows L2
end DL

namespace L2
open PySem PySem.Spec PyProof.Rows
end L2
namespace DL
open PySem PySem.Spec PyProof.Rows L2
end DL

namespace DL
open PySem PySem.Spec PyProof.Rows L2
end DL

namespace DL
open PySem PySem.Spec PyProof.Rows L2
end DL

namespace DL
open PySem PySem.Spec PyProof.Rows L2
end DL

namespace DL
open PySem PySem.Spec PyProof.Rows L2
end DL

namespace DL
open PySem PySem.Spec PyProof.Rows L2
end DL

namespace DL
open PySem PySem.Spec PyProof.Rows L2
end DL

namespace DL
open PySem PySem.Spec PyProof.Rows L2
end DL

namespace DL
open PySem PySem.Spec PyProof.Rows L2
end DL

namespace DL96
open PySem PySem.Spec PyProof.Rows L2
end DL96

namespace DL96
open PySem PySem.Spec PyProof.Rows L2
end DL96

namespace L2
open PySem PySem.Spec PyProof.Rows
end L2

namespace DL
open PySem PySem.Spec PyProof.Rows L2
end DL

namespace DL
open PySem PySem.Spec PyProof.Rows L2
end DL

namespace L2
open PySem PySem.Spec PyProof.Rows
end L2
namespace DL
open PySem PySem.Spec PyProof.Rows L2
end DL

namespace DL
open PySem PySem.Spec PyProof.Rows L2
end DL

namespace L2
open PySem PySem.Spec PyProof.Rows
end L2
namespace DL
open PySem PySem.Spec PyProof.Rows L2
end DL

namespace L2
open PySem PySem.Spec PyProof.Rows
end L2
namespace DL
open PySem PySem.Spec PyProof.Rows L2
end DL

namespace L2
open PySem PySem.Spec PyProof.Rows
end L2
namespace DL
open PySem PySem.Spec PyProof.Rows L2
end DL

namespace DL
open PySem PySem.Spec PyProof.Rows L2
end DL

namespace DL
open PySem PySem.Spec PyProof.Rows L2
end DL

namespace DL
open PySem PySem.Spec PyProof.Rows L2
end DL

namespace DL
open PySem PySem.Spec PyProof.Rows L2
end DL

namespace DL
open PySem PySem.Spec PyProof.Rows L2
end DL

namespace DL
open PySem PySem.Spec PyProof.Rows L2
end DL

namespace DL
open PySem PySem.Spec PyProof.Rows L2
end DL

namespace DL
open PySem PySem.Spec PyProof.Rows L2
end DL

namespace L2
open PySem PySem.Spec PyProof.Rows
end L2
namespace DL
open PySem PySem.Spec PyProof.Rows L2
end DL

namespace DL
open PySem PySem.Spec PyProof.Rows L2
end DL

namespace DL
open PySem PySem.Spec PyProof.Rows L2
end DL

namespace DL
open PySem PySem.Spec PyProof.Rows L2
end DL

namespace DL
open PySem PySem.Spec PyProof.Rows L2
end DL

namespace PySem.W
open PySem PySem.Calls PyProof.Rows
end PySem.W

namespace DL
open PySem PySem.Spec PyProof.Rows L2
end DL

namespace DL
open PySem PySem.Spec PyProof.Rows L2
def tysO : List String := ["NoneType", "bool", "int", "str", "tuple", "list", "dict"]
def owB (K : PySem.W.Frag) (c : Str) : Bool := isiB K c && (tysO.all (fun T => decide (PySem.W.subIn K (.type T) (.ref (He.ga K c)) = some false)) && (He.eqO (PySem.W.findIn K (.ref (He.ga K c)) "__ne__") (some (some (.builtin "object.__ne__"))) && decide (PySem.W.subIn K (.ref (He.ga K c)) (.type "object") = some true)))
end DL

namespace DL
open PySem PySem.Spec PyProof.Rows L2
def iswB (K : PySem.W.Frag) (c : Str) : Bool := isiB K c && tysO.all (fun T => decide (PySem.W.kitOne K (.type T) (.ref (He.ga K c)) = some false))
end DL

namespace K03
open PySem PySem.Spec PyProof.Rows L2 DL
def top (i : Nat) : Stmt := PySem.Challenge.pw_reachyard_k01_webs_of_anything.main.body.getD i (.Pass ⟨0, 0, 0, 0⟩)
abbrev tb_BadGround : List (Str × Bool) := [("BadWeb", false)]
abbrev tb_BadName : List (Str × Bool) := [("BadWeb", false)]
abbrev tb_BadNumber : List (Str × Bool) := [("BadWeb", false)]
abbrev tb_BadPicture : List (Str × Bool) := [("BadWeb", false)]
abbrev tb_BadProgram : List (Str × Bool) := [("BadWeb", false)]
abbrev tb_BadText : List (Str × Bool) := [("BadWeb", false)]
abbrev tb_BadWeaving : List (Str × Bool) := [("BadWeb", false)]
abbrev tb_BadWeb : List (Str × Bool) := [("BadWeb", true)]
abbrev tb_NoCell : List (Str × Bool) := [("BadWeb", false)]
abbrev tb_NoDeed : List (Str × Bool) := [("BadWeb", false)]
abbrev tb_NoField : List (Str × Bool) := [("BadWeb", false)]
abbrev tb_NoHand : List (Str × Bool) := [("BadWeb", false)]
abbrev tb_NoName : List (Str × Bool) := [("BadWeb", false)]
abbrev tb_NoPeg : List (Str × Bool) := [("BadWeb", false)]
abbrev tb_NoRoom : List (Str × Bool) := [("BadWeb", false)]
abbrev tb_NoTurn : List (Str × Bool) := [("BadWeb", false)]
abbrev tb_TooMany : List (Str × Bool) := [("BadWeb", false)]
abbrev tb_Unlawful : List (Str × Bool) := [("BadWeb", false)]
abbrev tb_ValueError : List (Str × Bool) := [("BadWeb", true)]
abbrev tb_YardError : List (Str × Bool) := [("BadWeb", true)]
abbrev s_p_law_state : Stmt := top 33
def d_p_law_state : He.DefD := ⟨("_law_state", none), "_law_state", "_law_state", defArgs s_p_law_state, defBody s_p_law_state, defScope s_p_law_state, [], []⟩
abbrev s_p_law_next : Stmt := top 34
def d_p_law_next : He.DefD := ⟨("_law_next", none), "_law_next", "_law_next", defArgs s_p_law_next, defBody s_p_law_next, defScope s_p_law_next, [], []⟩
abbrev s_p_law_value : Stmt := top 38
def d_p_law_value : He.DefD := ⟨("_law_value", none), "_law_value", "_law_value", defArgs s_p_law_value, defBody s_p_law_value, defScope s_p_law_value, [], []⟩
abbrev s_p_law_cell : Stmt := top 39
def d_p_law_cell : He.DefD := ⟨("_law_cell", none), "_law_cell", "_law_cell", defArgs s_p_law_cell, defBody s_p_law_cell, defScope s_p_law_cell, [], []⟩
abbrev s_p_law_web : Stmt := top 40
def d_p_law_web : He.DefD := ⟨("_law_web", none), "_law_web", "_law_web", defArgs s_p_law_web, defBody s_p_law_web, defScope s_p_law_web, [], []⟩
abbrev s_p_law_odd : Stmt := top 35
def d_p_law_odd : He.DefD := ⟨("_law_odd", none), "_law_odd", "_law_odd", defArgs s_p_law_odd, defBody s_p_law_odd, defScope s_p_law_odd, [], []⟩
abbrev s_p_law_other : Stmt := top 45
def d_p_law_other : He.DefD := ⟨("_law_other", none), "_law_other", "_law_other", defArgs s_p_law_other, defBody s_p_law_other, defScope s_p_law_other, [], []⟩
abbrev s_p_law_bent_r5 : Stmt := top 46
def d_p_law_bent_r5 : He.DefD := ⟨("_law_bent", none), "_law_bent", "_law_bent", defArgs s_p_law_bent_r5, defBody s_p_law_bent_r5, defScope s_p_law_bent_r5, [], []⟩
abbrev s_p_law_bent_r4 : Stmt := top 46
def d_p_law_bent_r4 : He.DefD := ⟨("_law_bent", none), "_law_bent", "_law_bent", defArgs s_p_law_bent_r4, defBody s_p_law_bent_r4, defScope s_p_law_bent_r4, [], []⟩
abbrev s_p_law_bent_r3 : Stmt := top 46
def d_p_law_bent_r3 : He.DefD := ⟨("_law_bent", none), "_law_bent", "_law_bent", defArgs s_p_law_bent_r3, defBody s_p_law_bent_r3, defScope s_p_law_bent_r3, [], []⟩
abbrev s_p_law_bent_r2 : Stmt := top 46
def d_p_law_bent_r2 : He.DefD := ⟨("_law_bent", none), "_law_bent", "_law_bent", defArgs s_p_law_bent_r2, defBody s_p_law_bent_r2, defScope s_p_law_bent_r2, [], []⟩
abbrev s_p_law_bent_r1 : Stmt := top 46
def d_p_law_bent_r1 : He.DefD := ⟨("_law_bent", none), "_law_bent", "_law_bent", defArgs s_p_law_bent_r1, defBody s_p_law_bent_r1, defScope s_p_law_bent_r1, [], []⟩
abbrev s_p_law_odd_o : Stmt := top 35
def d_p_law_odd_o : He.DefD := ⟨("_law_odd", none), "_law_odd", "_law_odd", defArgs s_p_law_odd_o, defBody s_p_law_odd_o, defScope s_p_law_odd_o, [], []⟩
abbrev s_p_law_other_o : Stmt := top 45
def d_p_law_other_o : He.DefD := ⟨("_law_other", none), "_law_other", "_law_other", defArgs s_p_law_other_o, defBody s_p_law_other_o, defScope s_p_law_other_o, [], []⟩
abbrev s_p_law_bent : Stmt := top 46
def d_p_law_bent : He.DefD := ⟨("_law_bent", none), "_law_bent", "_law_bent", defArgs s_p_law_bent, defBody s_p_law_bent, defScope s_p_law_bent, [], []⟩
abbrev s_p_law_whole : Stmt := top 41
def d_p_law_whole : He.DefD := ⟨("_law_whole", none), "_law_whole", "_law_whole", defArgs s_p_law_whole, defBody s_p_law_whole, defScope s_p_law_whole, [], []⟩
abbrev s_p_law_is_value : Stmt := top 42
def d_p_law_is_value : He.DefD := ⟨("_law_is_value", none), "_law_is_value", "_law_is_value", defArgs s_p_law_is_value, defBody s_p_law_is_value, defScope s_p_law_is_value, [], []⟩
abbrev s_p_law_is_cell : Stmt := top 43
def d_p_law_is_cell : He.DefD := ⟨("_law_is_cell", none), "_law_is_cell", "_law_is_cell", defArgs s_p_law_is_cell, defBody s_p_law_is_cell, defScope s_p_law_is_cell, [], []⟩
abbrev s_p_law_is_web : Stmt := top 44
def d_p_law_is_web : He.DefD := ⟨("_law_is_web", none), "_law_is_web", "_law_is_web", defArgs s_p_law_is_web, defBody s_p_law_is_web, defScope s_p_law_is_web, [], []⟩
abbrev s_p_law_classes : Stmt := top 36
def d_p_law_classes : He.DefD := ⟨("_law_classes", none), "_law_classes", "_law_classes", defArgs s_p_law_classes, defBody s_p_law_classes, defScope s_p_law_classes, [], []⟩
abbrev s_p_law_told : Stmt := top 37
def d_p_law_told : He.DefD := ⟨("_law_told", none), "_law_told", "_law_told", defArgs s_p_law_told, defBody s_p_law_told, defScope s_p_law_told, [], []⟩
abbrev s_is_row : Stmt := top 25
def d_is_row : He.DefD := ⟨("is_row", none), "is_row", "is_row", defArgs s_is_row, defBody s_is_row, defScope s_is_row, [], []⟩
abbrev s_is_whole : Stmt := top 23
def d_is_whole : He.DefD := ⟨("is_whole", none), "is_whole", "is_whole", defArgs s_is_whole, defBody s_is_whole, defScope s_is_whole, [], []⟩
abbrev s_is_number : Stmt := top 24
def d_is_number : He.DefD := ⟨("is_number", none), "is_number", "is_number", defArgs s_is_number, defBody s_is_number, defScope s_is_number, [], []⟩
abbrev s_is_at : Stmt := top 27
def d_is_at : He.DefD := ⟨("is_at", none), "is_at", "is_at", defArgs s_is_at, defBody s_is_at, defScope s_is_at, [], []⟩
abbrev s_is_value : Stmt := top 28
def d_is_value : He.DefD := ⟨("is_value", none), "is_value", "is_value", defArgs s_is_value, defBody s_is_value, defScope s_is_value, [], []⟩
abbrev s_is_cell : Stmt := top 29
def d_is_cell : He.DefD := ⟨("is_cell", none), "is_cell", "is_cell", defArgs s_is_cell, defBody s_is_cell, defScope s_is_cell, [], []⟩
abbrev s_is_web : Stmt := top 30
def d_is_web : He.DefD := ⟨("is_web", none), "is_web", "is_web", defArgs s_is_web, defBody s_is_web, defScope s_is_web, [], []⟩
abbrev s_Web_init : Stmt := inClass (top 31) 0
def d_Web_init : He.DefD := ⟨("Web", some "__init__"), "__init__", "Web.__init__", defArgs s_Web_init, defBody s_Web_init, defScope s_Web_init, [], []⟩
abbrev s_p_law_near : Stmt := top 47
def d_p_law_near : He.DefD := ⟨("_law_near", none), "_law_near", "_law_near", defArgs s_p_law_near, defBody s_p_law_near, defScope s_p_law_near, [], []⟩
abbrev s_Web_eq : Stmt := inClass (top 31) 1
def d_Web_eq : He.DefD := ⟨("Web", some "__eq__"), "__eq__", "Web.__eq__", defArgs s_Web_eq, defBody s_Web_eq, defScope s_Web_eq, [], []⟩
abbrev s_p_law_equal_right : Stmt := top 48
def d_p_law_equal_right : He.DefD := ⟨("_law_equal_right", none), "_law_equal_right", "_law_equal_right", defArgs s_p_law_equal_right, defBody s_p_law_equal_right, defScope s_p_law_equal_right, [], []⟩
abbrev s_Web_cells_o : Stmt := inClass (top 31) 3
def d_Web_cells_o : He.DefD := ⟨("Web", some "cells"), "cells", "Web.cells", defArgs s_Web_cells_o, defBody s_Web_cells_o, defScope s_Web_cells_o, [], []⟩
abbrev s_Web_cells : Stmt := inClass (top 31) 3
def d_Web_cells : He.DefD := ⟨("Web", some "cells"), "cells", "Web.cells", defArgs s_Web_cells, defBody s_Web_cells, defScope s_Web_cells, [], []⟩
abbrev s_Web_pegs_o : Stmt := inClass (top 31) 4
def d_Web_pegs_o : He.DefD := ⟨("Web", some "pegs"), "pegs", "Web.pegs", defArgs s_Web_pegs_o, defBody s_Web_pegs_o, defScope s_Web_pegs_o, [], []⟩
abbrev s_Web_pegs : Stmt := inClass (top 31) 4
def d_Web_pegs : He.DefD := ⟨("Web", some "pegs"), "pegs", "Web.pegs", defArgs s_Web_pegs, defBody s_Web_pegs, defScope s_Web_pegs, [], []⟩
abbrev s_Web_len : Stmt := inClass (top 31) 2
def d_Web_len : He.DefD := ⟨("Web", some "__len__"), "__len__", "Web.__len__", defArgs s_Web_len, defBody s_Web_len, defScope s_Web_len, [], []⟩
abbrev s_law : Stmt := top 49
def d_law : He.DefD := ⟨("law", none), "law", "law", defArgs s_law, defBody s_law, defScope s_law, [], []⟩
def fn : List He.DefD := [d_p_law_state, d_p_law_next, d_p_law_value, d_p_law_cell, d_p_law_web, d_p_law_odd, d_p_law_other, d_p_law_bent_r5, d_p_law_bent_r4, d_p_law_bent_r3, d_p_law_bent_r2, d_p_law_bent_r1, d_p_law_odd_o, d_p_law_other_o, d_p_law_bent, d_p_law_whole, d_p_law_is_value, d_p_law_is_cell, d_p_law_is_web, d_p_law_classes, d_p_law_told, d_is_row, d_is_whole, d_is_number, d_is_at, d_is_value, d_is_cell, d_is_web, d_Web_init, d_p_law_near, d_Web_eq, d_p_law_equal_right, d_Web_cells_o, d_Web_cells, d_Web_pegs_o, d_Web_pegs, d_Web_len, d_law]
def fa : List He.Fa := [.glo "_law_state", .glo "_law_next", .glo "_law_value", .glo "_law_cell", .glo "_law_web", .glo "_law_odd", .glo "_law_other", .glo "_law_bent", .glo "_law_bent", .glo "_law_bent", .glo "_law_bent", .glo "_law_bent", .glo "_law_odd", .glo "_law_other", .glo "_law_bent", .glo "_law_whole", .glo "_law_is_value", .glo "_law_is_cell", .glo "_law_is_web", .glo "_law_classes", .glo "_law_told", .glo "is_row", .glo "is_whole", .glo "is_number", .glo "is_at", .glo "is_value", .glo "is_cell", .glo "is_web", .glo "_law_near", .glo "_law_equal_right", .glo "law", .free "ValueError", .free "abs", .free "all", .free "bool", .free "enumerate", .free "int", .free "isinstance", .free "len", .free "list", .free "max", .free "range", .free "repr", .free "str", .free "tuple", .int "GREATEST" (1000000000), .int "MOST_FIELDS" (6), .glo "BadGround", .glo "BadName", .glo "BadNumber", .glo "BadPicture", .glo "BadProgram", .glo "BadText", .glo "BadWeaving", .glo "BadWeb", .glo "NoCell", .glo "NoDeed", .glo "NoField", .glo "NoHand", .glo "NoName", .glo "NoPeg", .glo "NoRoom", .glo "NoTurn", .glo "TooMany", .glo "Unlawful", .glo "YardError", .glo "Web", .cls "Web", .mkr "Web", .meth "Web" "__eq__", .meth "Web" "__len__", .meth "Web" "cells", .meth "Web" "pegs", .noat "Web" "all_cells", .noat "Web" "all_pegs"]
def exB (K : PySem.W.Frag) : Bool := owB K "Web" && (iswB K "Web" && (raiB K "BadWeb" && (iseB K "BadWeb" && (exmT K (.ref (He.ga K "YardError")) tb_YardError && (kitT K (.ref (He.ga K "BadGround")) tb_BadGround && (kitT K (.ref (He.ga K "BadName")) tb_BadName && (kitT K (.ref (He.ga K "BadNumber")) tb_BadNumber && (kitT K (.ref (He.ga K "BadPicture")) tb_BadPicture && (kitT K (.ref (He.ga K "BadProgram")) tb_BadProgram && (kitT K (.ref (He.ga K "BadText")) tb_BadText && (kitT K (.ref (He.ga K "BadWeaving")) tb_BadWeaving && (kitT K (.ref (He.ga K "BadWeb")) tb_BadWeb && (kitT K (.ref (He.ga K "NoCell")) tb_NoCell && (kitT K (.ref (He.ga K "NoDeed")) tb_NoDeed && (kitT K (.ref (He.ga K "NoField")) tb_NoField && (kitT K (.ref (He.ga K "NoHand")) tb_NoHand && (kitT K (.ref (He.ga K "NoName")) tb_NoName && (kitT K (.ref (He.ga K "NoPeg")) tb_NoPeg && (kitT K (.ref (He.ga K "NoRoom")) tb_NoRoom && (kitT K (.ref (He.ga K "NoTurn")) tb_NoTurn && (kitT K (.ref (He.ga K "TooMany")) tb_TooMany && (kitT K (.ref (He.ga K "Unlawful")) tb_Unlawful && (kitT K (.type "ValueError") tb_ValueError && (true))))))))))))))))))))))))
def tq : List (He.Defn × Str) := [(("law", none), (("law" : Str) ++ ".<locals>.") ++ "<lambda>")]
end K03

namespace K03
open PySem PySem.Spec PyProof.Rows L2 DL
def loose0 : List Str := ["YardError", "BadWeb", "BadGround", "BadNumber", "NoPeg", "NoCell", "NoField", "NoHand", "NoTurn", "NoRoom", "NoDeed", "TooMany", "BadProgram", "BadWeaving", "BadPicture", "BadText"]
def loose1 : List Str := ["BadName", "NoName", "Unlawful", "MOST_FIELDS", "GREATEST", "is_whole", "is_number", "is_row", "is_at", "is_value", "is_cell", "is_web", "Web", "_law_state", "_law_next", "_law_odd"]
def loose2 : List Str := ["_law_classes", "_law_told", "_law_value", "_law_cell", "_law_web", "_law_whole", "_law_is_value", "_law_is_cell", "_law_is_web", "_law_other", "_law_bent", "_law_near", "_law_equal_right"]
def loose : List Str := loose0 ++ loose1 ++ loose2
abbrev R : PySem.W.OpenRow := PySem.W.OpenLaw.row PySem.Challenge.rw_reachyard_k01_webs_of_anything
abbrev hk : PySem.W.Hook := hookLb 6 fa fn tq exB
def ob (s : PySem.W.SharedT) : He.AlD × Bool := obsLb 6 fa fn tq exB (HandSHeadRun.getT s)
theorem ob_eq (s : PySem.W.SharedT) : ob s = hk.obs s.abs := obsLb_eq (HandSHeadRun.getT_eq s)
theorem runf (w : World) : HandSHeadRun.RunEq R (PySem.W.view R.prog [49]) hk ob 40000 loose (w.withFollow "special-get-raises" false) := by
  intro os
  kernel_rfl
theorem runt (w : World) : HandSHeadRun.RunEq R (PySem.W.view R.prog [49]) hk ob 40000 loose (w.withFollow "special-get-raises" true) := by
  intro os
  kernel_rfl
theorem run (w : World) : HandSHeadRun.RunEq R (PySem.W.view R.prog [49]) hk ob 40000 loose w :=
  PySem.W.byRow2 "special-get-raises" (P := fun w => HandSHeadRun.RunEq R (PySem.W.view R.prog [49]) hk ob 40000 loose w) runf runt w

end K03
set_option Elab.async false
set_option maxRecDepth 100000
set_option maxHeartbeats 0
set_option linter.all false
/-! The data layer, part 1: data, stores, the relation to the abstract heap, the judgements. -/
namespace DL
open PySem L2

/-- objects that may change; frz: one that changes no more -/
inductive SO where
  | lst (ds : List D) | dic (ks : List (Key × D)) | ins (C : Str) (fs : List (Str × D)) | frz (d : D) | tbl (p : Str × Option Str) (q : Str) | dkt (ks : List (List Int × D))
def SO.live : SO → Bool
  | .frz _ => false
  | _ => true
abbrev Store := List SO
/-- an entry of a dict whose keys are tuples of whole numbers (truths count as numbers) -/
def entN (x : List Int × Addr × Value) : DictEntry := { hash := reduceHash (Builtin.Tuple.tupleHashOf (x.1.map hashInt)), key := .ref x.2.1, val := x.2.2 }
/-- such a dict, by what lies at its address -/
def DktO (a : Addr) (xs : List (List Int × Addr × Value)) : HO := .ext fun hp => (a == sysModules) = false ∧ xs.length ≤ sizeLine ∧ ∃ (o : Obj) (es : Array DictEntry) (ep : Nat), hp.get? a = some o ∧ o.ExactDict ∧ o.data = .dict es ep ∧ es.toList = xs.map entN ∧ (xs.map (·.1)).Nodup
def numV : V → Option Int
  | .int i => some i
  | .bl b => some (if b = true then 1 else 0)
  | _ => none
def numsV : List V → Option (List Int)
  | [] => some []
  | v :: vs => (numV v).bind fun i => (numsV vs).map fun is => i :: is
/-- a caught exception: of the class cls, its dict dd -/
def ExcV (cls : Value) (dd : Option Addr) (a : Addr) : HO := .ext fun hp => ∃ (ob : Obj) (fs : Array Value), hp.get? a = some ob ∧ L2N.Zn cls dd ob ∧ ob.data = .fields fs

section
variable (K : PySem.W.Frag) (mg : Str → Option Value) (φ : List Addr) (G : Hp)
mutual
def Dat : D → V → Prop
  | .non, v => v = .non
  | .bl b, v => v = .bl b
  | .int i, v => v = .int i
  | .str x, v => v = .str x
  | .ty n, v => v = .ty n
  | .tup ds, v => ∃ a vs, v = .ref a ∧ SqT K G a vs ∧ DatL ds vs
  | .lst ds, v => ∃ a vs, v = .ref a ∧ G a = some (.lst vs) ∧ DatL ds vs
  | .scr ds, v => ∃ a vs, v = .ref a ∧ SqL K G a vs ∧ DatL ds vs
  | .cls c, v => ∃ A, v = .ref A ∧ mg c = some (.ref A)
  | .dic ks, v => ∃ a kvs, v = .ref a ∧ G a = some (.dK kvs) ∧ DatK ks kvs
  | .ins C fs, v => ∃ a A dx fvs, v = .ref a ∧ mg C = some (.ref A) ∧ G a = some (.ins A dx fvs) ∧ DatF fs fvs
  | .oid n, v => ∃ a, v = .ref a ∧ φ[n]? = some a
  | .exc C fs, v => ∃ a A dx, v = .ref a ∧ mg C = some (.ref A) ∧ G a = some (ExcV (.ref A) dx a) ∧ ((fs = [] ∧ dx = none) ∨ fs ≠ [] ∧ ∃ b fvs, dx = some b ∧ G b = some (.xd fvs) ∧ DatF fs fvs)
def DatL : List D → List V → Prop
  | [], vs => vs = []
  | d :: ds, vs => ∃ v r, vs = v :: r ∧ Dat d v ∧ DatL ds r
def DatK : List (Key × D) → List (Key × V) → Prop
  | [], vs => vs = []
  | (k, d) :: ds, vs => ∃ v r, vs = (k, v) :: r ∧ Dat d v ∧ DatK ds r
def DatF : List (Str × D) → List (Str × V) → Prop
  | [], vs => vs = []
  | (k, d) :: ds, vs => ∃ v r, vs = (k, v) :: r ∧ Dat d v ∧ DatF ds r
end
def DatT : List (List Int × D) → List (List Int × Addr × Value) → Prop
  | [], xs => xs = []
  | (k, d) :: ds, xs => ∃ b u r v vs, xs = (k, b, u) :: r ∧ SqT K G b vs ∧ numsV vs = some k ∧ Dat K mg φ G d v ∧ RelV v u ∧ DatT ds r
end

theorem sqt_mono {K : PySem.W.Frag} {G G' : Hp} (e : Same G G') {a : Addr} {xs : List V} (h : SqT K G a xs) : SqT K G' a xs :=
  h.imp (fun r => r.imp (e _ _) fun ⟨o, q⟩ => ⟨o, e _ _ q⟩) id
section
variable {K : PySem.W.Frag} {mg : Str → Option Value} {φ φ' : List Addr} {G G' : Hp}
theorem pre_get {φ φ' : List Addr} (p : φ <+: φ') {n : Nat} {a : Addr} (h : φ[n]? = some a) : φ'[n]? = some a := by
  obtain ⟨t, rfl⟩ := p
  rw [List.getElem?_append_left (List.getElem?_eq_some_iff.mp h).1]
  exact h
mutual
theorem Dat.mono (p : φ <+: φ') (e : Same G G') : ∀ (d : D) (v : V), Dat K mg φ G d v → Dat K mg φ' G' d v
  | .non, _, h => h
  | .bl _, _, h => h
  | .int _, _, h => h
  | .str _, _, h => h
  | .ty _, _, h => h
  | .tup ds, _, h => by
    unfold Dat at h ⊢
    obtain ⟨a, vs, rfl, h1, h2⟩ := h
    exact ⟨a, vs, rfl, sqt_mono e h1, DatL.mono p e ds vs h2⟩
  | .lst ds, _, h => by
    unfold Dat at h ⊢
    obtain ⟨a, vs, rfl, h1, h2⟩ := h
    exact ⟨a, vs, rfl, e _ _ h1, DatL.mono p e ds vs h2⟩
  | .scr ds, _, h => by
    unfold Dat at h ⊢
    obtain ⟨a, vs, rfl, h1, h2⟩ := h
    exact ⟨a, vs, rfl, Same.seq e h1, DatL.mono p e ds vs h2⟩
  | .cls c, _, h => by
    unfold Dat at h ⊢
    exact h
  | .dic ks, _, h => by
    unfold Dat at h ⊢
    obtain ⟨a, vs, rfl, h1, h2⟩ := h
    exact ⟨a, vs, rfl, e _ _ h1, DatK.mono p e ks vs h2⟩
  | .ins C fs, _, h => by
    unfold Dat at h ⊢
    obtain ⟨a, A, dx, fvs, rfl, h0, h1, h2⟩ := h
    exact ⟨a, A, dx, fvs, rfl, h0, e _ _ h1, DatF.mono p e fs fvs h2⟩
  | .oid n, _, h => by
    unfold Dat at h ⊢
    obtain ⟨a, rfl, h⟩ := h
    exact ⟨a, rfl, pre_get p h⟩
  | .exc C fs, _, h => by
    unfold Dat at h ⊢
    obtain ⟨a, A, dx, rfl, h0, h1, h2⟩ := h
    exact ⟨a, A, dx, rfl, h0, e _ _ h1, h2.imp id fun ⟨z, b, fvs, q0, q1, q2⟩ => ⟨z, b, fvs, q0, e _ _ q1, DatF.mono p e fs fvs q2⟩⟩
theorem DatL.mono (p : φ <+: φ') (e : Same G G') : ∀ (ds : List D) (vs : List V), DatL K mg φ G ds vs → DatL K mg φ' G' ds vs
  | [], _, h => by
    unfold DatL at h ⊢
    exact h
  | d :: ds, _, h => by
    unfold DatL at h ⊢
    obtain ⟨v, r, rfl, h1, h2⟩ := h
    exact ⟨v, r, rfl, Dat.mono p e d v h1, DatL.mono p e ds r h2⟩
theorem DatK.mono (p : φ <+: φ') (e : Same G G') : ∀ (ds : List (Key × D)) (vs : List (Key × V)), DatK K mg φ G ds vs → DatK K mg φ' G' ds vs
  | [], _, h => by
    unfold DatK at h ⊢
    exact h
  | (k, d) :: ds, _, h => by
    unfold DatK at h ⊢
    obtain ⟨v, r, rfl, h1, h2⟩ := h
    exact ⟨v, r, rfl, Dat.mono p e d v h1, DatK.mono p e ds r h2⟩
theorem DatF.mono (p : φ <+: φ') (e : Same G G') : ∀ (ds : List (Str × D)) (vs : List (Str × V)), DatF K mg φ G ds vs → DatF K mg φ' G' ds vs
  | [], _, h => by
    unfold DatF at h ⊢
    exact h
  | (k, d) :: ds, _, h => by
    unfold DatF at h ⊢
    obtain ⟨v, r, rfl, h1, h2⟩ := h
    exact ⟨v, r, rfl, Dat.mono p e d v h1, DatF.mono p e ds r h2⟩
end
theorem DatT.mono (p : φ <+: φ') (e : Same G G') : ∀ (ds : List (List Int × D)) (xs : List (List Int × Addr × Value)), DatT K mg φ G ds xs → DatT K mg φ' G' ds xs
  | [], _, h => by
    unfold DatT at h ⊢
    exact h
  | (k, d) :: ds, _, h => by
    unfold DatT at h ⊢
    obtain ⟨b, u, r, v, vs, rfl, h1, h2, h3, h4, h5⟩ := h
    exact ⟨b, u, r, v, vs, rfl, sqt_mono e h1, h2, Dat.mono p e d v h3, h4, DatT.mono p e ds r h5⟩
theorem DatL.length : ∀ {ds : List D} {vs : List V}, DatL K mg φ G ds vs → vs.length = ds.length
  | [], _, h => by unfold DatL at h; rw [h]; rfl
  | d :: ds, _, h => by
    unfold DatL at h
    obtain ⟨v, r, rfl, _, h2⟩ := h
    rw [List.length_cons, List.length_cons, DatL.length h2]
theorem DatL.get : ∀ {ds : List D} {vs : List V} {i : Nat} {d : D}, DatL K mg φ G ds vs → ds[i]? = some d → ∃ v, vs[i]? = some v ∧ Dat K mg φ G d v
  | [], _, _, _, _, e => by cases e
  | d :: ds, _, 0, _, h, e => by
    unfold DatL at h
    obtain ⟨v, r, rfl, h1, _⟩ := h
    cases e
    exact ⟨v, rfl, h1⟩
  | d :: ds, _, i + 1, _, h, e => by
    unfold DatL at h
    obtain ⟨v, r, rfl, _, h2⟩ := h
    obtain ⟨w, a, b⟩ := DatL.get (i := i) h2 e
    exact ⟨w, a, b⟩
theorem DatL.nil : DatL K mg φ G [] [] := by unfold DatL; rfl
theorem DatL.cons {d : D} {v : V} {ds : List D} {vs : List V} (h : Dat K mg φ G d v) (t : DatL K mg φ G ds vs) : DatL K mg φ G (d :: ds) (v :: vs) := by
  unfold DatL
  exact ⟨v, vs, rfl, h, t⟩
theorem DatL.uncons {d : D} {ds : List D} {vs : List V} (h : DatL K mg φ G (d :: ds) vs) : ∃ v r, vs = v :: r ∧ Dat K mg φ G d v ∧ DatL K mg φ G ds r := by
  unfold DatL at h
  exact h
theorem DatL.append : ∀ {ds es : List D} {vs us : List V}, DatL K mg φ G ds vs → DatL K mg φ G es us → DatL K mg φ G (ds ++ es) (vs ++ us)
  | [], _, _, _, h, t => by
    unfold DatL at h
    subst h
    exact t
  | d :: ds, _, _, _, h, t => by
    obtain ⟨v, r, rfl, h1, h2⟩ := h.uncons
    exact .cons h1 (DatL.append h2 t)
theorem DatL.set : ∀ {ds : List D} {vs : List V} {d : D} {v : V} (i : Nat), DatL K mg φ G ds vs → Dat K mg φ G d v → DatL K mg φ G (ds.set i d) (vs.set i v)
  | [], _, _, _, _, h, _ => by
    unfold DatL at h
    subst h
    exact DatL.nil
  | e :: ds, _, _, _, 0, h, q => by
    obtain ⟨w, r, rfl, _, h2⟩ := h.uncons
    exact .cons q h2
  | e :: ds, _, _, _, i + 1, h, q => by
    obtain ⟨w, r, rfl, h1, h2⟩ := h.uncons
    exact .cons h1 (DatL.set i h2 q)
theorem DatL.map {α : Type} {f : α → D} {g : α → V} : ∀ {l : List α}, (∀ x ∈ l, Dat K mg φ G (f x) (g x)) → DatL K mg φ G (l.map f) (l.map g)
  | [], _ => DatL.nil
  | x :: l, h => .cons (h x List.mem_cons_self) (DatL.map fun y hy => h y (List.mem_cons_of_mem _ hy))
theorem DatL.take : ∀ {ds : List D} {vs : List V} (n : Nat), DatL K mg φ G ds vs → DatL K mg φ G (ds.take n) (vs.take n)
  | _, _, 0, _ => by rw [List.take_zero, List.take_zero]; exact DatL.nil
  | [], _, n + 1, h => by
    unfold DatL at h
    subst h
    exact DatL.nil
  | d :: ds, _, n + 1, h => by
    obtain ⟨v, r, rfl, h1, h2⟩ := h.uncons
    exact .cons h1 (DatL.take n h2)
theorem DatL.drop : ∀ {ds : List D} {vs : List V} (n : Nat), DatL K mg φ G ds vs → DatL K mg φ G (ds.drop n) (vs.drop n)
  | _, _, 0, h => h
  | [], _, n + 1, h => by
    unfold DatL at h
    subst h
    exact DatL.nil
  | d :: ds, _, n + 1, h => by
    obtain ⟨v, r, rfl, h1, h2⟩ := h.uncons
    exact DatL.drop n h2
end

/-! ### the store over the abstract heap -/
def liveA : List Addr → Store → List Addr
  | a :: φ, o :: S => if o.live then a :: liveA φ S else liveA φ S
  | _, _ => []
/-- H without the addresses of l -/
def without (l : List Addr) (H : Hp) : Hp := fun a => if a ∈ l then none else H a
/-- the ground: what changes no more; Z: hidden addresses -/
def gnd (Z : List Addr) (φ : List Addr) (S : Store) (H : Hp) : Hp := without (Z ++ liveA φ S) H
theorem without_some {l : List Addr} {H : Hp} {a : Addr} {o : HO} : without l H a = some o ↔ a ∉ l ∧ H a = some o := by
  unfold without
  by_cases h : a ∈ l
  · rw [if_pos h]
    exact ⟨fun z => (nomatch z), fun z => absurd h z.1⟩
  · rw [if_neg h]
    exact ⟨fun z => ⟨h, z⟩, fun z => z.2⟩
theorem liveA_mem : ∀ {φ : List Addr} {S : Store} {a : Addr}, a ∈ liveA φ S → ∃ (n : Nat) (o : SO), φ[n]? = some a ∧ S[n]? = some o ∧ o.live = true
  | [], _, _, h => by simp [liveA] at h
  | _ :: _, [], _, h => by simp [liveA] at h
  | b :: φ, o :: S, a, h => by
    unfold liveA at h
    have step : a ∈ liveA φ S → ∃ (n : Nat) (o' : SO), (b :: φ)[n]? = some a ∧ (o :: S)[n]? = some o' ∧ o'.live = true := fun q => by
      obtain ⟨n, u, h1, h2, h3⟩ := liveA_mem q
      exact ⟨n + 1, u, h1, h2, h3⟩
    cases hl : o.live with
    | false =>
      rw [hl] at h
      exact step h
    | true =>
      rw [hl] at h
      rcases List.mem_cons.mp h with rfl | q
      · exact ⟨0, o, rfl, rfl, hl⟩
      · exact step q
theorem mem_liveA : ∀ {φ : List Addr} {S : Store} {a : Addr} {n : Nat} {o : SO}, φ[n]? = some a → S[n]? = some o → o.live = true → a ∈ liveA φ S
  | [], _, _, _, _, h, _, _ => by cases h
  | _ :: _, [], _, _, _, _, h, _ => by cases h
  | b :: φ, u :: S, a, 0, o, h1, h2, h3 => by
    cases h1
    cases h2
    unfold liveA
    rw [h3]
    exact List.mem_cons_self
  | b :: φ, u :: S, a, n + 1, o, h1, h2, h3 => by
    have q := mem_liveA (n := n) (φ := φ) (S := S) h1 h2 h3
    unfold liveA
    split
    · exact List.mem_cons_of_mem _ q
    · exact q
theorem liveA_sub {φ : List Addr} {S : Store} {a : Addr} (h : a ∈ liveA φ S) : a ∈ φ := by
  obtain ⟨n, o, h1, _⟩ := liveA_mem h
  exact List.mem_of_getElem? h1
theorem liveA_snoc : ∀ {φ : List Addr} {S : Store} {p : Addr} {o : SO}, φ.length = S.length → liveA (φ ++ [p]) (S ++ [o]) = liveA φ S ++ (if o.live then [p] else [])
  | [], [], p, o, _ => by cases h : o.live <;> simp [liveA, h]
  | a :: φ, u :: S, p, o, h => by
    have q := liveA_snoc (φ := φ) (S := S) (p := p) (o := o) (by simpa using h)
    simp only [List.cons_append, liveA, q]
    split <;> rfl
theorem liveA_set : ∀ {φ : List Addr} {S : Store} {n : Nat} {o u : SO}, S[n]? = some o → u.live = o.live → liveA φ (S.set n u) = liveA φ S
  | [], _, _, _, _, _, _ => by simp [liveA]
  | _ :: _, [], _, _, _, h, _ => by cases h
  | a :: φ, x :: S, 0, o, u, h, e => by
    cases h
    simp only [List.set_cons_zero, liveA, e]
  | a :: φ, x :: S, n + 1, o, u, h, e => by
    have q := liveA_set (φ := φ) (S := S) (n := n) h e
    simp only [List.set_cons_succ, liveA, q]

section
variable (K : PySem.W.Frag) (mg : Str → Option Value)
def SOk (φ : List Addr) (G H : Hp) (a : Addr) : SO → Prop
  | .lst ds => ∃ vs, H a = some (.lst vs) ∧ DatL K mg φ G ds vs
  | .dic ks => ∃ kvs, H a = some (.dK kvs) ∧ DatK K mg φ G ks kvs
  | .ins C fs => ∃ A dx fvs, mg C = some (.ref A) ∧ H a = some (.ins A dx fvs) ∧ DatF K mg φ G fs fvs
  | .frz d => Dat K mg φ G d (.ref a)
  | .dkt ks => ∃ xs, H a = some (DktO a xs) ∧ DatT K mg φ G ks xs
  | .tbl p q => a = (He.cT K p).2 ∧ ∃ ps, H a = some (.tbl ps) ∧ TriplesOk ps.toList ∧ ∀ (pos : Pos) (cv : Value), codeAmong pos ps.toList = some cv → ∃ c, cv = .ref c ∧ G c = some (LamX.CodeO c q)
structure Rel (Z : List Addr) (φ : List Addr) (S : Store) (H : Hp) : Prop where
  len : φ.length = S.length
  nd : φ.Nodup
  zd : ∀ a ∈ φ, a ∉ Z
  zh : ∀ a ∈ Z, H a ≠ none
  ph : ∀ a ∈ φ, H a ≠ none
  ob : ∀ (n : Nat) (a : Addr) (o : SO), φ[n]? = some a → S[n]? = some o → SOk K mg φ (gnd Z φ S H) H a o
end
/-- how a state goes on -/
structure Evo (Z : List Addr) (φ : List Addr) (S : Store) (H : Hp) (φ' : List Addr) (S' : Store) (H' : Hp) : Prop where
  pre : φ <+: φ'
  ext : Same (gnd Z φ S H) (gnd Z φ' S' H')
  out : ∀ a o, H a = some o → a ∉ liveA φ S → H' a = some o
  lv : ∀ a ∈ liveA φ' S', H a ≠ none → a ∈ liveA φ S
theorem Evo.refl {Z φ : List Addr} {S : Store} {H : Hp} : Evo Z φ S H φ S H := ⟨List.prefix_refl _, Same.refl _, fun _ _ h _ => h, fun _ h _ => h⟩
theorem Evo.trans {Z φ φ1 φ2 : List Addr} {S S1 S2 : Store} {H H1 H2 : Hp} (a : Evo Z φ S H φ1 S1 H1) (b : Evo Z φ1 S1 H1 φ2 S2 H2) : Evo Z φ S H φ2 S2 H2 := by
  refine ⟨a.pre.trans b.pre, a.ext.trans b.ext, fun c o h n => ?_, fun c h hn => ?_⟩
  · exact b.out c o (a.out c o h n) fun q => n (a.lv c q (by rw [h]; exact fun z => nomatch z))
  · by_cases q : c ∈ liveA φ S
    · exact q
    · obtain ⟨o, ho⟩ := Option.ne_none_iff_exists'.mp hn
      exact a.lv c (b.lv c h (by rw [a.out c o ho q]; exact fun z => nomatch z)) hn
end DL

/-! The data layer, part 2: how stores change; results; the judgements. -/
namespace DL
open PySem L2

section
variable {K : PySem.W.Frag} {mg : Str → Option Value} {Z φ φ' : List Addr} {S S' : Store} {H H' : Hp}
theorem gnd_same (e : Same H H') : Same (gnd Z φ S H) (gnd Z φ S H') := fun a o h => by
  obtain ⟨h1, h2⟩ := without_some.mp h
  exact without_some.mpr ⟨h1, e a o h2⟩
theorem SOk.mono {φ φ' : List Addr} {G G' H H' : Hp} {a : Addr} (p : φ <+: φ') (e : Same G G') (hl : ∀ o : HO, H a = some o → H' a = some o) : ∀ {o : SO}, SOk K mg φ G H a o → SOk K mg φ' G' H' a o
  | .lst ds, ⟨vs, h1, h2⟩ => ⟨vs, hl _ h1, h2.mono p e⟩
  | .dic ks, ⟨vs, h1, h2⟩ => ⟨vs, hl _ h1, h2.mono p e⟩
  | .ins C fs, ⟨A, dx, fvs, h0, h1, h2⟩ => ⟨A, dx, fvs, h0, hl _ h1, h2.mono p e⟩
  | .frz d, h => Dat.mono p e d _ h
  | .dkt ks, ⟨xs, h1, h2⟩ => ⟨xs, hl _ h1, h2.mono p e⟩
  | .tbl _ _, ⟨h0, ps, h1, h2, h3⟩ => ⟨h0, ps, hl _ h1, h2, fun pos cv hc => by
    obtain ⟨c, q1, q2⟩ := h3 pos cv hc
    exact ⟨c, q1, e _ _ q2⟩⟩
/-- all that stood stands -/
theorem Rel.same (R : Rel K mg Z φ S H) (e : Same H H') : Rel K mg Z φ S H' ∧ Evo Z φ S H φ S H' := by
  have some_of : ∀ a, H a ≠ none → H' a ≠ none := fun a h => by
    obtain ⟨o, ho⟩ := Option.ne_none_iff_exists'.mp h
    rw [e a o ho]
    exact fun z => nomatch z
  exact ⟨⟨R.len, R.nd, R.zd, fun a h => some_of a (R.zh a h), fun a h => some_of a (R.ph a h), fun n a o h1 h2 => (R.ob n a o h1 h2).mono (List.prefix_refl _) (gnd_same e) (e a)⟩,
    ⟨List.prefix_refl _, gnd_same e, fun a o h _ => e a o h, fun a h _ => h⟩⟩
theorem Rel.out_gnd (R : Rel K mg Z φ S H) {p : Addr} (hp : H p = none) : p ∉ Z ++ liveA φ S := fun q => by
  rcases List.mem_append.mp q with z | z
  · exact R.zh p z hp
  · exact R.ph p (liveA_sub z) hp
theorem same_upd {p : Addr} {o : HO} (hp : H p = none) : Same H (upd H p o) := fun b u e => by
  rw [upd_ne (ne_of_none e hp)]
  exact e
/-- a new object that changes no more -/
theorem Rel.fresh (R : Rel K mg Z φ S H) {p : Addr} {o : HO} (hp : H p = none) : Rel K mg Z φ S (upd H p o) ∧ Evo Z φ S H φ S (upd H p o) ∧ gnd Z φ S (upd H p o) p = some o := by
  obtain ⟨a, b⟩ := R.same (same_upd (o := o) hp)
  exact ⟨a, b, without_some.mpr ⟨R.out_gnd hp, upd_same⟩⟩
/-- a new object that may change -/
theorem Rel.newOid (R : Rel K mg Z φ S H) {p : Addr} {so : SO} (e : Same H H') (hp : H p = none) (hp' : H' p ≠ none) (hl : so.live = true) (ok : SOk K mg (φ ++ [p]) (gnd Z (φ ++ [p]) (S ++ [so]) H') H' p so) :
    Rel K mg Z (φ ++ [p]) (S ++ [so]) H' ∧ Evo Z φ S H (φ ++ [p]) (S ++ [so]) H' := by
  have hn := R.out_gnd hp
  have pφ : p ∉ φ := fun q => R.ph p q hp
  have lv : liveA (φ ++ [p]) (S ++ [so]) = liveA φ S ++ [p] := by rw [liveA_snoc R.len, hl]; rfl
  have ext : Same (gnd Z φ S H) (gnd Z (φ ++ [p]) (S ++ [so]) H') := fun a o h => by
    obtain ⟨h1, h2⟩ := without_some.mp h
    refine without_some.mpr ⟨fun q => h1 ?_, e a o h2⟩
    rw [lv] at q
    rcases List.mem_append.mp q with z | z
    · exact List.mem_append_left _ z
    · rcases List.mem_append.mp z with z | z
      · exact List.mem_append_right _ z
      · rw [List.mem_singleton.mp z, hp] at h2
        cases h2
  have some_of : ∀ a, H a ≠ none → H' a ≠ none := fun a h => by
    obtain ⟨o, ho⟩ := Option.ne_none_iff_exists'.mp h
    rw [e a o ho]
    exact fun z => nomatch z
  refine ⟨⟨by rw [List.length_append, List.length_append, R.len]; rfl, List.nodup_append.mpr ⟨R.nd, by simp, fun a ha b hb => ?_⟩, fun a ha => ?_, fun a h => some_of a (R.zh a h), fun a ha => ?_, fun n a o h1 h2 => ?_⟩,
    ⟨⟨[p], rfl⟩, ext, fun a o h _ => e a o h, fun a h hn => ?_⟩⟩
  · rw [List.mem_singleton.mp hb]
    intro z
    rw [z] at ha
    exact pφ ha
  · rcases List.mem_append.mp ha with z | z
    · exact R.zd a z
    · rw [List.mem_singleton.mp z]
      exact fun q => hn (List.mem_append_left _ q)
  · rcases List.mem_append.mp ha with z | z
    · exact some_of a (R.ph a z)
    · rw [List.mem_singleton.mp z]
      exact hp'
  · by_cases hlt : n < φ.length
    · rw [List.getElem?_append_left hlt] at h1
      rw [List.getElem?_append_left (by rw [← R.len]; exact hlt)] at h2
      exact (R.ob n a o h1 h2).mono ⟨[p], rfl⟩ ext (e a)
    · have hlt' : φ.length ≤ n := Nat.le_of_not_lt hlt
      rw [List.getElem?_append_right hlt'] at h1
      rw [List.getElem?_append_right (by rw [← R.len]; exact hlt')] at h2
      have e0 : n - φ.length = 0 := by
        have := (List.getElem?_eq_some_iff.mp h1).1
        simp only [List.length_singleton] at this
        omega
      rw [← R.len] at h2
      rw [e0] at h1 h2
      cases h1
      cases h2
      exact ok
  · rw [lv] at h
    rcases List.mem_append.mp h with z | z
    · exact z
    · rw [List.mem_singleton.mp z] at hn
      exact absurd hp hn
theorem gnd_mut {n : Nat} {a : Addr} {o u : SO} {ho : HO} (h1 : φ[n]? = some a) (h2 : S[n]? = some o) (l1 : o.live = true) (l2 : u.live = true) : gnd Z φ (S.set n u) (upd H a ho) = gnd Z φ S H := by
  funext b
  unfold gnd without
  rw [liveA_set h2 (l2.trans l1.symm)]
  by_cases hb : b = a
  · subst hb
    rw [if_pos (List.mem_append_right _ (mem_liveA h1 h2 l1)), if_pos (List.mem_append_right _ (mem_liveA h1 h2 l1))]
  · rw [upd_ne hb]
/-- an object changes -/
theorem Rel.mutate (R : Rel K mg Z φ S H) {n : Nat} {a : Addr} {o u : SO} {ho : HO} (h1 : φ[n]? = some a) (h2 : S[n]? = some o) (l1 : o.live = true) (l2 : u.live = true) (ok : SOk K mg φ (gnd Z φ S H) (upd H a ho) a u) :
    Rel K mg Z φ (S.set n u) (upd H a ho) ∧ Evo Z φ S H φ (S.set n u) (upd H a ho) := by
  have eg := gnd_mut (Z := Z) (H := H) (ho := ho) h1 h2 l1 l2
  have lv : liveA φ (S.set n u) = liveA φ S := liveA_set h2 (l2.trans l1.symm)
  have some_of : ∀ b, H b ≠ none → upd H a ho b ≠ none := fun b h => by
    by_cases hb : b = a
    · subst hb
      rw [upd_same]
      exact fun z => nomatch z
    · rw [upd_ne hb]
      exact h
  refine ⟨⟨by rw [List.length_set, R.len], R.nd, R.zd, fun b h => some_of b (R.zh b h), fun b h => some_of b (R.ph b h), fun m b w q1 q2 => ?_⟩,
    ⟨List.prefix_refl _, by rw [eg]; exact Same.refl _, fun b w h hn => ?_, fun b h _ => by rw [lv] at h; exact h⟩⟩
  · rw [eg]
    by_cases hm : m = n
    · subst hm
      rw [h1] at q1
      cases q1
      rw [List.getElem?_set_self (List.getElem?_eq_some_iff.mp h2).1] at q2
      cases q2
      exact ok
    · rw [List.getElem?_set_ne (fun z => hm z.symm)] at q2
      refine (R.ob m b w q1 q2).mono (List.prefix_refl _) (Same.refl _) fun ob hb => ?_
      rw [upd_ne]
      · exact hb
      · intro z
        subst z
        exact hm (nd_ix R.nd q1 h1)
  · rw [upd_ne]
    · exact h
    · intro z
      subst z
      exact hn (mem_liveA h1 h2 l1)
theorem liveA_set_sub : ∀ {φ : List Addr} {S : Store} {n : Nat} {u : SO} {a : Addr}, u.live = false → a ∈ liveA φ (S.set n u) → a ∈ liveA φ S
  | [], _, _, _, _, _, h => by simp [liveA] at h
  | _ :: _, [], _, _, _, _, h => by simp [liveA] at h
  | b :: φ, x :: S, 0, u, a, e, h => by
    simp only [List.set_cons_zero, liveA, e] at h
    unfold liveA
    split
    · exact List.mem_cons_of_mem _ h
    · exact h
  | b :: φ, x :: S, n + 1, u, a, e, h => by
    simp only [List.set_cons_succ, liveA] at h
    unfold liveA
    split at h
    · rename_i hx
      rw [if_pos hx]
      rcases List.mem_cons.mp h with rfl | q
      · exact List.mem_cons_self
      · exact List.mem_cons_of_mem _ (liveA_set_sub e q)
    · rename_i hx
      rw [if_neg hx]
      exact liveA_set_sub e h
theorem live_set_not {φ : List Addr} {S : Store} (nd : φ.Nodup) {n : Nat} {u : SO} {a : Addr} (h1 : φ[n]? = some a) (e : u.live = false) : a ∉ liveA φ (S.set n u) := fun q => by
  obtain ⟨m, o, q1, q2, q3⟩ := liveA_mem q
  have hm : m = n := nd_ix nd q1 h1
  subst hm
  have hl := (List.getElem?_eq_some_iff.mp q2).1
  rw [List.getElem?_set_self (by rw [List.length_set] at hl; exact hl)] at q2
  cases q2
  rw [e] at q3
  cases q3
/-- an object changes no more -/
theorem Rel.freeze (R : Rel K mg Z φ S H) {n : Nat} {a : Addr} {d : D} (h1 : φ[n]? = some a) (ok : Dat K mg φ (gnd Z φ (S.set n (.frz d)) H) d (.ref a)) :
    Rel K mg Z φ (S.set n (.frz d)) H ∧ Evo Z φ S H φ (S.set n (.frz d)) H := by
  have ext : Same (gnd Z φ S H) (gnd Z φ (S.set n (.frz d)) H) := fun b o h => by
    obtain ⟨q1, q2⟩ := without_some.mp h
    refine without_some.mpr ⟨fun q => q1 ?_, q2⟩
    rcases List.mem_append.mp q with z | z
    · exact List.mem_append_left _ z
    · exact List.mem_append_right _ (liveA_set_sub rfl z)
  refine ⟨⟨by rw [List.length_set, R.len], R.nd, R.zd, R.zh, R.ph, fun m b w q1 q2 => ?_⟩, ⟨List.prefix_refl _, ext, fun b w h _ => h, fun b h _ => liveA_set_sub rfl h⟩⟩
  by_cases hm : m = n
  · subst hm
    rw [h1] at q1
    cases q1
    have hl := (List.getElem?_eq_some_iff.mp q2).1
    rw [List.getElem?_set_self (by rw [List.length_set] at hl; exact hl)] at q2
    cases q2
    exact ok
  · rw [List.getElem?_set_ne (fun z => hm z.symm)] at q2
    exact (R.ob m b w q1 q2).mono (List.prefix_refl _) ext fun _ z => z
theorem gnd_frz (R : Rel K mg Z φ S H) {n : Nat} {a : Addr} {d : D} (h1 : φ[n]? = some a) {o : HO} (ho : H a = some o) : gnd Z φ (S.set n (.frz d)) H a = some o :=
  without_some.mpr ⟨fun q => (List.mem_append.mp q).elim (R.zd a (List.mem_of_getElem? h1)) (live_set_not R.nd h1 rfl), ho⟩
theorem evo_frz {n : Nat} {d : D} : Same (gnd Z φ S H) (gnd Z φ (S.set n (.frz d)) H) := fun b o h => by
  obtain ⟨q1, q2⟩ := without_some.mp h
  refine without_some.mpr ⟨fun q => q1 ?_, q2⟩
  rcases List.mem_append.mp q with z | z
  · exact List.mem_append_left _ z
  · exact List.mem_append_right _ (liveA_set_sub rfl z)
theorem Dat.evo {d : D} {v : V} (E : Evo Z φ S H φ' S' H') (h : Dat K mg φ (gnd Z φ S H) d v) : Dat K mg φ' (gnd Z φ' S' H') d v := Dat.mono E.pre E.ext d v h
theorem DatL.evo {d : List D} {v : List V} (E : Evo Z φ S H φ' S' H') (h : DatL K mg φ (gnd Z φ S H) d v) : DatL K mg φ' (gnd Z φ' S' H') d v := DatL.mono E.pre E.ext d v h
end

/-! ### results -/
inductive Res (α : Type) where
  | ok (a : α) (S : Store) | ex (C : Str) (fs : List (Str × D)) (S : Store) | stuck
def Res.bind {α β : Type} (r : Res α) (k : α → Store → Res β) : Res β := match r with
  | .ok a S => k a S
  | .ex C fs S => .ex C fs S
  | .stuck => .stuck
@[simp] theorem Res.bind_ok {α β : Type} (a : α) (S : Store) (k : α → Store → Res β) : (Res.ok a S).bind k = k a S := rfl
@[simp] theorem Res.bind_ex {α β : Type} (C : Str) (fs : List (Str × D)) (S : Store) (k : α → Store → Res β) : (Res.ex C fs S).bind k = .ex C fs S := rfl
@[simp] theorem Res.bind_stuck {α β : Type} (k : α → Store → Res β) : (Res.stuck : Res α).bind k = .stuck := rfl
abbrev EnvD := List (Option D)

section
variable (K : PySem.W.Frag) (mg : Str → Option Value)
def ExD (φ : List Addr) (G : Hp) (fs : List (Str × D)) (dx : Option Addr) : Prop := (fs = [] ∧ dx = none) ∨ fs ≠ [] ∧ ∃ a fvs, dx = some a ∧ G a = some (.xd fvs) ∧ DatF K mg φ G fs fvs
/-- what is wanted behind a result -/
def Want {α β : Type} (R : List Addr → Hp → α → β → Prop) (Z φ : List Addr) (S : Store) (H : Hp) (r : Res α) (Q : β → Hp → Prop) (E : XK) : Prop := match r with
  | .ok a S' => ∀ b φ' H', Rel K mg Z φ' S' H' → Evo Z φ S H φ' S' H' → R φ' (gnd Z φ' S' H') a b → Q b H'
  | .ex C fs S' => ∀ A dx φ' H', mg C = some (.ref A) → Rel K mg Z φ' S' H' → Evo Z φ S H φ' S' H' → ExD K mg φ' (gnd Z φ' S' H') fs dx → E (.ref A) dx H'
  | .stuck => False
abbrev RDat : List Addr → Hp → D → V → Prop := fun φ G d v => Dat K mg φ G d v
abbrev RLst : List Addr → Hp → List D → List V → Prop := fun φ G d v => DatL K mg φ G d v
abbrev REq {α : Type} : List Addr → Hp → α → α → Prop := fun _ _ a b => a = b
def Slots (φ : List Addr) (G : Hp) (ρ : EnvD) (σ : L2.St) : Prop := ρ.length = σ.length ∧ ∀ (i : Nat) (d : D), ρ[i]? = some (some d) → ∃ v, σ[i]? = some (some v) ∧ Dat K mg φ G d v
end
section
variable {K : PySem.W.Frag} {mg : Str → Option Value} {Z φ φ' : List Addr} {S S' : Store} {H H' : Hp} {α β γ δ : Type}
theorem Want.go {R : List Addr → Hp → α → β → Prop} {r : Res α} {Q : β → Hp → Prop} {E : XK} (e : Evo Z φ S H φ' S' H') (h : Want K mg R Z φ S H r Q E) : Want K mg R Z φ' S' H' r Q E := by
  cases r with
  | ok a S1 => exact fun b φ1 H1 r1 e1 d => h b φ1 H1 r1 (e.trans e1) d
  | ex C fs S1 => exact fun A dx φ1 H1 m r1 e1 d => h A dx φ1 H1 m r1 (e.trans e1) d
  | stuck => exact h
theorem Want.bind {R : List Addr → Hp → α → β → Prop} {R' : List Addr → Hp → γ → δ → Prop} {r : Res α} {k : α → Store → Res γ} {Q : δ → Hp → Prop} {Q1 : β → Hp → Prop} {E : XK} (h : Want K mg R' Z φ S H (r.bind k) Q E)
    (f : ∀ a S1 b φ1 H1, Rel K mg Z φ1 S1 H1 → Evo Z φ S H φ1 S1 H1 → R φ1 (gnd Z φ1 S1 H1) a b → Want K mg R' Z φ1 S1 H1 (k a S1) Q E → Q1 b H1) : Want K mg R Z φ S H r Q1 E := by
  cases r with
  | ok a S1 => exact fun b φ1 H1 r1 e1 d => f a S1 b φ1 H1 r1 e1 d (h.go e1)
  | ex C fs S1 => exact h
  | stuck => exact h
theorem Want.imp {R : List Addr → Hp → α → β → Prop} {r : Res α} {Q Q1 : β → Hp → Prop} {E : XK} (h : Want K mg R Z φ S H r Q E) (f : ∀ b H', Q b H' → Q1 b H') : Want K mg R Z φ S H r Q1 E := by
  cases r with
  | ok a S1 => exact fun b φ1 H1 r1 e1 d => f _ _ (h b φ1 H1 r1 e1 d)
  | ex C fs S1 => exact h
  | stuck => exact h
/-- the result stands -/
theorem Want.now {R : List Addr → Hp → α → β → Prop} {a : α} {b : β} {Q : β → Hp → Prop} {E : XK} (h : Want K mg R Z φ S H (.ok a S) Q E) (r : Rel K mg Z φ S H) (d : R φ (gnd Z φ S H) a b) : Q b H := h b φ H r Evo.refl d
theorem Slots.evo {ρ : EnvD} {σ : L2.St} (e : Evo Z φ S H φ' S' H') (h : Slots K mg φ (gnd Z φ S H) ρ σ) : Slots K mg φ' (gnd Z φ' S' H') ρ σ := ⟨h.1, fun i d q => by
  obtain ⟨v, a, b⟩ := h.2 i d q
  exact ⟨v, a, b.evo e⟩⟩
theorem Slots.set {G : Hp} {ρ : EnvD} {σ : L2.St} {i : Nat} {d : D} {v : V} (h : Slots K mg φ G ρ σ) (hd : Dat K mg φ G d v) : Slots K mg φ G (ρ.set i (some d)) (σ.set i (some v)) := by
  refine ⟨by rw [List.length_set, List.length_set, h.1], fun j e q => ?_⟩
  by_cases hj : j = i
  · subst hj
    have hl := (List.getElem?_eq_some_iff.mp q).1
    rw [List.length_set] at hl
    rw [List.getElem?_set_self hl] at q
    cases q
    exact ⟨v, by rw [List.getElem?_set_self (by rw [← h.1]; exact hl)], hd⟩
  · rw [List.getElem?_set_ne (fun z => hj z.symm)] at q
    obtain ⟨w, a, b⟩ := h.2 j e q
    exact ⟨w, by rw [List.getElem?_set_ne (fun z => hj z.symm)]; exact a, b⟩
end

/-! ### the judgements -/
section
variable (X : Cx) (W : WX)
abbrev FE := EnvD → Store → Res D
abbrev FT := EnvD → Store → Res Bool
abbrev FA := EnvD → Store → Res (List D)
variable {X W}
/-- the canonical readings of mirrors -/
def tD (K : PySem.W.Frag) (mg : Str → Option Value) (W : WX) (f : FE) : TE := fun σ H Q => ∃ Z φ S ρ, Rel K mg Z φ S H ∧ Slots K mg φ (gnd Z φ S H) ρ σ ∧ Want K mg (RDat K mg) Z φ S H (f ρ S) Q (WE W σ)
def tDT (K : PySem.W.Frag) (mg : Str → Option Value) (W : WX) (f : FT) : TT := fun σ H Q => ∃ Z φ S ρ, Rel K mg Z φ S H ∧ Slots K mg φ (gnd Z φ S H) ρ σ ∧ Want K mg REq Z φ S H (f ρ S) Q (WE W σ)
def tDA (K : PySem.W.Frag) (mg : Str → Option Value) (W : WX) (f : FA) : TA := fun σ H Q => ∃ Z φ S ρ, Rel K mg Z φ S H ∧ Slots K mg φ (gnd Z φ S H) ρ σ ∧ Want K mg (RLst K mg) Z φ S H (f ρ S) Q (WE W σ)
theorem PE.weak {e : Expr} {t t' : TE} (h : PE X e t) (i : ∀ σ H Q, t' σ H Q → t σ H Q) : PE X e t' := ⟨fun pins s σ H Q I q => h.run pins s σ H Q I (i _ _ _ q)⟩
theorem PT.weak {e : Expr} {t t' : TT} (h : PT X e t) (i : ∀ σ H Q, t' σ H Q → t σ H Q) : PT X e t' := ⟨fun pins s σ H Q I q => h.run pins s σ H Q I (i _ _ _ q)⟩
theorem PW.weak {e : Expr} {t t' : TT} (h : L2.PW X e t) (i : ∀ σ H Q, t' σ H Q → t σ H Q) : L2.PW X e t' := ⟨fun wh pins s σ H Q I q => h.run wh pins s σ H Q I (i _ _ _ q)⟩
theorem PA.weak {e : List Expr} {t t' : TA} (h : PA X e t) (i : ∀ σ H Q, t' σ H Q → t σ H Q) : PA X e t' := ⟨fun po pins s σ H Q I q => h.run po pins s σ H Q I (i _ _ _ q)⟩
theorem PK.weak {e : List Keyword} {t t' : TA} (h : L2.PK X e t) (i : ∀ σ H Q, t' σ H Q → t σ H Q) : L2.PK X e t' := ⟨fun po pins s σ H Q I q => h.run po pins s σ H Q I (i _ _ _ q)⟩
theorem PS.weak {e : Stmt} {t t' : TS} (h : PS X e t) (i : ∀ D σ H, t' D σ H → t D σ H) : PS X e t' := ⟨fun pins s σ H D I q => h.run pins s σ H D I (i _ _ _ q)⟩
theorem PSs.weak {e : List Stmt} {t t' : TS} (h : PSs X e t) (i : ∀ D σ H, t' D σ H → t D σ H) : PSs X e t' := ⟨fun pins s σ H D I q => h.run pins s σ H D I (i _ _ _ q)⟩
variable (X W)
abbrev IsE (t : TE) (f : FE) : Prop := ∀ Z φ S ρ σ H (Q : VK), Rel X.K X.mg Z φ S H → Slots X.K X.mg φ (gnd Z φ S H) ρ σ → Want X.K X.mg (RDat X.K X.mg) Z φ S H (f ρ S) Q (WE W σ) → t σ H Q
abbrev IsT (t : TT) (f : FT) : Prop := ∀ Z φ S ρ σ H (Q : Bool → Hp → Prop), Rel X.K X.mg Z φ S H → Slots X.K X.mg φ (gnd Z φ S H) ρ σ → Want X.K X.mg REq Z φ S H (f ρ S) Q (WE W σ) → t σ H Q
abbrev IsA (t : TA) (f : FA) : Prop := ∀ Z φ S ρ σ H (Q : List V → Hp → Prop), Rel X.K X.mg Z φ S H → Slots X.K X.mg φ (gnd Z φ S H) ρ σ → Want X.K X.mg (RLst X.K X.mg) Z φ S H (f ρ S) Q (WE W σ) → t σ H Q
def DE (e : Expr) (f : FE) : Prop := PE X e (tD X.K X.mg W f)
def DT (e : Expr) (f : FT) : Prop := PT X e (tDT X.K X.mg W f)
def DW (e : Expr) (f : FT) : Prop := L2.PW X e (tDT X.K X.mg W f)
def DA (es : List Expr) (f : FA) : Prop := PA X es (tDA X.K X.mg W f)
def DKw (ks : List Keyword) (f : FA) : Prop := L2.PK X ks (tDA X.K X.mg W f)
variable {X W}
theorem DE.mk {e : Expr} {f : FE} {t : TE} (p : PE X e t) (h : IsE X W t f) : DE X W e f := PE.weak p fun σ H Q ⟨Z, φ, S, ρ, R, sl, w⟩ => h Z φ S ρ σ H Q R sl w
theorem DE.ex {e : Expr} {f : FE} (h : DE X W e f) : ∃ t : TE, PE X e t ∧ IsE X W t f := ⟨_, h, fun Z φ S ρ σ H Q R sl w => ⟨Z, φ, S, ρ, R, sl, w⟩⟩
theorem DT.mk {e : Expr} {f : FT} {t : TT} (p : PT X e t) (h : IsT X W t f) : DT X W e f := PT.weak p fun σ H Q ⟨Z, φ, S, ρ, R, sl, w⟩ => h Z φ S ρ σ H Q R sl w
theorem DT.ex {e : Expr} {f : FT} (h : DT X W e f) : ∃ t : TT, PT X e t ∧ IsT X W t f := ⟨_, h, fun Z φ S ρ σ H Q R sl w => ⟨Z, φ, S, ρ, R, sl, w⟩⟩
theorem DW.mk {e : Expr} {f : FT} {t : TT} (p : L2.PW X e t) (h : IsT X W t f) : DW X W e f := PW.weak p fun σ H Q ⟨Z, φ, S, ρ, R, sl, w⟩ => h Z φ S ρ σ H Q R sl w
theorem DW.ex {e : Expr} {f : FT} (h : DW X W e f) : ∃ t : TT, L2.PW X e t ∧ IsT X W t f := ⟨_, h, fun Z φ S ρ σ H Q R sl w => ⟨Z, φ, S, ρ, R, sl, w⟩⟩
theorem DA.mk {e : List Expr} {f : FA} {t : TA} (p : PA X e t) (h : IsA X W t f) : DA X W e f := PA.weak p fun σ H Q ⟨Z, φ, S, ρ, R, sl, w⟩ => h Z φ S ρ σ H Q R sl w
theorem DA.ex {e : List Expr} {f : FA} (h : DA X W e f) : ∃ t : TA, PA X e t ∧ IsA X W t f := ⟨_, h, fun Z φ S ρ σ H Q R sl w => ⟨Z, φ, S, ρ, R, sl, w⟩⟩
theorem DKw.mk {e : List Keyword} {f : FA} {t : TA} (p : L2.PK X e t) (h : IsA X W t f) : DKw X W e f := PK.weak p fun σ H Q ⟨Z, φ, S, ρ, R, sl, w⟩ => h Z φ S ρ σ H Q R sl w
theorem DKw.ex {e : List Keyword} {f : FA} (h : DKw X W e f) : ∃ t : TA, L2.PK X e t ∧ IsA X W t f := ⟨_, h, fun Z φ S ρ σ H Q R sl w => ⟨Z, φ, S, ρ, R, sl, w⟩⟩
variable (X W)
/-- a statement's result -/
inductive Out where
  | nx (ρ : EnvD) (S : Store) | rt (d : D) (S : Store) | bk (ρ : EnvD) (S : Store) | ct (ρ : EnvD) (S : Store) | ex (C : Str) (fs : List (Str × D)) (ρ : EnvD) (S : Store) | stuck
abbrev FS := EnvD → Store → Out
def WantS (Z φ : List Addr) (S : Store) (H : Hp) (o : Out) (Dd : Ends) : Prop := match o with
  | .nx ρ S' => ∀ σ φ' H', Rel X.K X.mg Z φ' S' H' → Evo Z φ S H φ' S' H' → Slots X.K X.mg φ' (gnd Z φ' S' H') ρ σ → Dd.nx σ H'
  | .rt d S' => ∀ v φ' H', Rel X.K X.mg Z φ' S' H' → Evo Z φ S H φ' S' H' → Dat X.K X.mg φ' (gnd Z φ' S' H') d v → Dd.rt v H'
  | .bk ρ S' => ∀ σ φ' H', Rel X.K X.mg Z φ' S' H' → Evo Z φ S H φ' S' H' → Slots X.K X.mg φ' (gnd Z φ' S' H') ρ σ → Dd.bk σ H'
  | .ct ρ S' => ∀ σ φ' H', Rel X.K X.mg Z φ' S' H' → Evo Z φ S H φ' S' H' → Slots X.K X.mg φ' (gnd Z φ' S' H') ρ σ → Dd.ct σ H'
  | .ex C fs ρ S' => ∀ A dx σ φ' H', X.mg C = some (.ref A) → Rel X.K X.mg Z φ' S' H' → Evo Z φ S H φ' S' H' → Slots X.K X.mg φ' (gnd Z φ' S' H') ρ σ → ExD X.K X.mg φ' (gnd Z φ' S' H') fs dx → W (.ref A) dx σ H'
  | .stuck => False
def tDS (g : FS) : TS := fun Dd σ H => ∃ Z φ S ρ, Rel X.K X.mg Z φ S H ∧ Slots X.K X.mg φ (gnd Z φ S H) ρ σ ∧ WantS X W Z φ S H (g ρ S) Dd
abbrev IsS (t : TS) (g : FS) : Prop := ∀ Z φ S ρ σ H Dd, Rel X.K X.mg Z φ S H → Slots X.K X.mg φ (gnd Z φ S H) ρ σ → WantS X W Z φ S H (g ρ S) Dd → t Dd σ H
def DS (st : Stmt) (g : FS) : Prop := PS X st (tDS X W g)
def DSs (sts : List Stmt) (g : FS) : Prop := PSs X sts (tDS X W g)
variable {X W}
theorem DS.mk {e : Stmt} {f : FS} {t : TS} (p : PS X e t) (h : IsS X W t f) : DS X W e f := PS.weak p fun D σ H ⟨Z, φ, S, ρ, R, sl, w⟩ => h Z φ S ρ σ H D R sl w
theorem DS.ex {e : Stmt} {f : FS} (h : DS X W e f) : ∃ t : TS, PS X e t ∧ IsS X W t f := ⟨_, h, fun Z φ S ρ σ H D R sl w => ⟨Z, φ, S, ρ, R, sl, w⟩⟩
theorem DSs.mk {e : List Stmt} {f : FS} {t : TS} (p : PSs X e t) (h : IsS X W t f) : DSs X W e f := PSs.weak p fun D σ H ⟨Z, φ, S, ρ, R, sl, w⟩ => h Z φ S ρ σ H D R sl w
theorem DSs.ex {e : List Stmt} {f : FS} (h : DSs X W e f) : ∃ t : TS, PSs X e t ∧ IsS X W t f := ⟨_, h, fun Z φ S ρ σ H D R sl w => ⟨Z, φ, S, ρ, R, sl, w⟩⟩
end
section
variable {X : Cx} {W : WX} {Z φ φ' : List Addr} {S S' : Store} {H H' : Hp} {Dd : Ends}
theorem WantS.go {o : Out} (e : Evo Z φ S H φ' S' H') (h : WantS X W Z φ S H o Dd) : WantS X W Z φ' S' H' o Dd := by
  cases o with
  | nx ρ S1 => exact fun σ φ1 H1 r1 e1 d => h σ φ1 H1 r1 (e.trans e1) d
  | rt d S1 => exact fun σ φ1 H1 r1 e1 d => h σ φ1 H1 r1 (e.trans e1) d
  | bk ρ S1 => exact fun σ φ1 H1 r1 e1 d => h σ φ1 H1 r1 (e.trans e1) d
  | ct ρ S1 => exact fun σ φ1 H1 r1 e1 d => h σ φ1 H1 r1 (e.trans e1) d
  | ex C fs ρ S1 => exact fun A dx σ φ1 H1 m r1 e1 sl d => h A dx σ φ1 H1 m r1 (e.trans e1) sl d
  | stuck => exact h
/-- an expression's result within a statement -/
def Res.into {α : Type} (r : Res α) (ρ : EnvD) (k : α → Store → Out) : Out := match r with
  | .ok a S => k a S
  | .ex C fs S => .ex C fs ρ S
  | .stuck => .stuck
@[simp] theorem Res.into_ok {α : Type} (a : α) (S : Store) (ρ : EnvD) (k : α → Store → Out) : (Res.ok a S).into ρ k = k a S := rfl
@[simp] theorem Res.into_ex {α : Type} (C : Str) (fs : List (Str × D)) (S : Store) (ρ : EnvD) (k : α → Store → Out) : (Res.ex C fs S).into ρ k = .ex C fs ρ S := rfl
@[simp] theorem Res.into_stuck {α : Type} (ρ : EnvD) (k : α → Store → Out) : (Res.stuck : Res α).into ρ k = .stuck := rfl
theorem WantS.into {α β : Type} {R : List Addr → Hp → α → β → Prop} {r : Res α} {ρ : EnvD} {σ : L2.St} {k : α → Store → Out} {Q1 : β → Hp → Prop} (sl : Slots X.K X.mg φ (gnd Z φ S H) ρ σ) (h : WantS X W Z φ S H (r.into ρ k) Dd)
    (f : ∀ a S1 b φ1 H1, Rel X.K X.mg Z φ1 S1 H1 → Evo Z φ S H φ1 S1 H1 → R φ1 (gnd Z φ1 S1 H1) a b → WantS X W Z φ1 S1 H1 (k a S1) Dd → Q1 b H1) : Want X.K X.mg R Z φ S H r Q1 (WE W σ) := by
  cases r with
  | ok a S1 => exact fun b φ1 H1 r1 e1 d => f a S1 b φ1 H1 r1 e1 d (h.go e1)
  | ex C fs S1 => exact fun A dx φ1 H1 m r1 e1 d => h A dx σ φ1 H1 m r1 e1 (sl.evo e1) d
  | stuck => exact h
end
end DL

/-! The data layer, part 3: names, constants, operators, tests, displays, items, built-ins. -/
namespace DL
open PySem L2

section
variable {K : PySem.W.Frag} {mg : Str → Option Value} {Z φ : List Addr} {S : Store} {H : Hp}
theorem gnd_sub : Same (gnd Z φ S H) H := fun a o h => (without_some.mp h).2
/-- the items of a list, wherever it lies -/
def asL (S : Store) : D → Option (List D)
  | .lst ds => some ds
  | .scr ds => some ds
  | .oid n => match S[n]? with
    | some (.lst ds) => some ds
    | some (.frz (.lst ds)) => some ds
    | _ => none
  | _ => none
/-- the items of a list or a tuple -/
def asQ (S : Store) : D → Option (List D)
  | .tup ds => some ds
  | d => asL S d
theorem asL_ok (R : Rel K mg Z φ S H) {d : D} {v : V} {ds : List D} (h : Dat K mg φ (gnd Z φ S H) d v) (e : asL S d = some ds) : ∃ a vs, v = .ref a ∧ SqL K H a vs ∧ DatL K mg φ (gnd Z φ S H) ds vs := by
  cases d with
  | lst es =>
    cases e
    unfold Dat at h
    obtain ⟨a, vs, rfl, h1, h2⟩ := h
    exact ⟨a, vs, rfl, .of (gnd_sub _ _ h1), h2⟩
  | scr es =>
    cases e
    unfold Dat at h
    obtain ⟨a, vs, rfl, h1, h2⟩ := h
    exact ⟨a, vs, rfl, Same.seq gnd_sub h1, h2⟩
  | oid n =>
    unfold Dat at h
    obtain ⟨a, rfl, h1⟩ := h
    cases q : S[n]? with
    | none => simp [asL, q] at e
    | some o =>
      simp only [asL, q] at e
      have ok := R.ob n a o h1 q
      cases o with
      | lst es =>
        cases e
        obtain ⟨vs, q1, q2⟩ := ok
        exact ⟨a, vs, rfl, .of q1, q2⟩
      | frz d =>
        cases d with
        | lst es =>
          cases e
          have ok' : Dat K mg φ (gnd Z φ S H) (.lst _) (.ref a) := ok
          unfold Dat at ok'
          obtain ⟨b, vs, e1, q1, q2⟩ := ok'
          cases e1
          exact ⟨a, vs, rfl, .of (gnd_sub _ _ q1), q2⟩
        | _ => cases e
      | _ => cases e
  | _ => cases e
theorem asQ_ok (R : Rel K mg Z φ S H) {d : D} {v : V} {ds : List D} (h : Dat K mg φ (gnd Z φ S H) d v) (e : asQ S d = some ds) : ∃ a vs, v = .ref a ∧ (SqL K H a vs ∨ SqT K H a vs) ∧ DatL K mg φ (gnd Z φ S H) ds vs := by
  cases d with
  | tup es =>
    cases e
    unfold Dat at h
    obtain ⟨a, vs, rfl, h1, h2⟩ := h
    exact ⟨a, vs, rfl, .inr (sqt_mono gnd_sub h1), h2⟩
  | _ =>
    obtain ⟨a, vs, e1, h1, h2⟩ := asL_ok R h e
    exact ⟨a, vs, e1, .inl h1, h2⟩
end

section
variable {X : Cx} {W : WX} {a b c e : Expr} {es : List Expr} {fa fb fc fe : FE} {pos : Pos}

/-! ### names and constants -/
def fVar (i : Nat) : FE := fun ρ S => match ρ[i]? with
  | some (some d) => .ok d S
  | _ => .stuck
def fC (d : D) : FE := fun _ S => .ok d S
theorem de_var {i : Nat} {x : Str} (p : PE X (.Name x pos) (tVar i)) : DE X W (.Name x pos) (fVar i) :=
  .mk p (fun Z φ S ρ σ H Q R sl w => by
    unfold fVar at w
    cases h : ρ[i]? with
    | none => rw [h] at w; exact w.elim
    | some o =>
      cases o with
      | none => rw [h] at w; exact w.elim
      | some d =>
        rw [h] at w
        obtain ⟨v, h1, h2⟩ := sl.2 i d h
        exact ⟨v, h1, w.now R h2⟩)
theorem de_c {t : TE} {v : V} {d : D} (p : PE X e t) (ht : t = tC v) (hd : ∀ φ G, Dat X.K X.mg φ G d v) : DE X W e (fC d) := by
  subst ht
  exact .mk p (fun Z φ S ρ σ H Q R sl w => w.now R (hd _ _))
theorem de_int {i : Int} {j} : DE X W (.Constant (.int i) j pos) (fC (.int i)) := de_c pe_int rfl fun _ _ => by unfold Dat; rfl
theorem de_bl {i : Bool} {j} : DE X W (.Constant (.bool i) j pos) (fC (.bl i)) := de_c pe_bl rfl fun _ _ => by unfold Dat; rfl
theorem de_non {j} : DE X W (.Constant .none j pos) (fC .non) := de_c pe_non rfl fun _ _ => by unfold Dat; rfl
theorem de_str {i : Str} {j} : DE X W (.Constant (.str i) j pos) (fC (.str i)) := de_c pe_str rfl fun _ _ => by unfold Dat; rfl
/-- a module's int -/
theorem de_globI {x : Str} {i : Int} {t : Tok} (hg : Gl X x) (hm : X.mg x = some (.int i t)) (hd : (x == ("__debug__" : Str)) = false := by decide) : DE X W (.Name x pos) (fC (.int i)) :=
  de_c (pe_glob (v := .int i) hg hm ⟨t, rfl⟩ hd) rfl fun _ _ => by unfold Dat; rfl
/-- a built-in class as a value -/
theorem de_ty {x : Str} {n : String} (hg : Gl X x) (hm : X.mg x = none) (hv : bootBuiltins x = some (.type n)) (hn : x ≠ "__name__" := by decide) (hd : (x == ("__debug__" : Str)) = false := by decide) : DE X W (.Name x pos) (fC (.ty n)) :=
  de_c (pe_bltn (v := .ty n) hg hm hv rfl hn hd) rfl fun _ _ => by unfold Dat; rfl

/-! ### operators -/
abbrev G2 := D → D → Store → Res D
def OpD (X : Cx) (r : R2) (g : G2) : Prop := ∀ (Z φ : List Addr) (S : Store) (H : Hp) (x y : D) (u v : V) (Q : VK) (E : XK), Rel X.K X.mg Z φ S H → Dat X.K X.mg φ (gnd Z φ S H) x u → Dat X.K X.mg φ (gnd Z φ S H) y v →
  Want X.K X.mg (RDat X.K X.mg) Z φ S H (g x y S) Q E → r u v H Q
def fBin (g : G2) (fa fb : FE) : FE := fun ρ S => (fa ρ S).bind fun x S => (fb ρ S).bind fun y S => g x y S
theorem dbin {ta tb : TE} {r : R2} {g : G2} (hg : OpD X r g)
    (ha : ∀ Z φ S ρ σ H (Q : VK), Rel X.K X.mg Z φ S H → Slots X.K X.mg φ (gnd Z φ S H) ρ σ → Want X.K X.mg (RDat X.K X.mg) Z φ S H (fa ρ S) Q (WE W σ) → ta σ H Q)
    (hb : ∀ Z φ S ρ σ H (Q : VK), Rel X.K X.mg Z φ S H → Slots X.K X.mg φ (gnd Z φ S H) ρ σ → Want X.K X.mg (RDat X.K X.mg) Z φ S H (fb ρ S) Q (WE W σ) → tb σ H Q)
    (Z φ S ρ σ H) (Q : VK) (R : Rel X.K X.mg Z φ S H) (sl : Slots X.K X.mg φ (gnd Z φ S H) ρ σ) (w : Want X.K X.mg (RDat X.K X.mg) Z φ S H (fBin g fa fb ρ S) Q (WE W σ)) : tOp r ta tb σ H Q :=
  ha Z φ S ρ σ H _ R sl (w.bind fun x S1 u φ1 H1 R1 E1 d1 w1 => hb Z φ1 S1 ρ σ H1 _ R1 (sl.evo E1) (w1.bind fun y S2 v φ2 H2 R2 E2 d2 w2 => hg Z φ2 S2 H2 x y u v Q _ R2 (Dat.evo E2 d1) d2 w2))
theorem de_bin {op : Operator} {r : R2} {g : G2} (ho : OpR X (binaryOp op) r) (hg : OpD X r g) (ha : DE X W a fa) (hb : DE X W b fb) : DE X W (.BinOp a op b pos) (fBin g fa fb) := by
  obtain ⟨ta, pa, qa⟩ := (ha).ex
  obtain ⟨tb, pb, qb⟩ := (hb).ex
  exact .mk (pe_op ho pa pb) (dbin hg qa qb)
theorem de_cmp {op : CmpOp} {r : R2} {g : G2} (ho : OpR X (compareOp op) r) (hg : OpD X r g) (ha : DE X W a fa) (hb : DE X W b fb) (hm : behindInMarks op b = false) : DE X W (.Compare a [op] [b] pos) (fBin g fa fb) := by
  obtain ⟨ta, pa, qa⟩ := (ha).ex
  obtain ⟨tb, pb, qb⟩ := (hb).ex
  exact .mk (pe_cmpR ho pa pb hm) (dbin hg qa qb)
theorem de_ix {r : R2} {g : G2} (ho : IxR X r) (hg : OpD X r g) (ha : DE X W a fa) (hb : DE X W b fb) (hs : PlainIx b) : DE X W (.Subscript a b pos) (fBin g fa fb) := by
  obtain ⟨ta, pa, qa⟩ := (ha).ex
  obtain ⟨tb, pb, qb⟩ := (hb).ex
  exact .mk (pe_ix ho pa pb hs) (dbin hg qa qb)
/-- the answer as a test -/
def toB (f : FE) : FT := fun ρ S => (f ρ S).bind fun d S => match d with
  | .bl k => .ok k S
  | _ => .stuck
theorem toB_ok {t : TE} {f : FE}
    (ha : ∀ Z φ S ρ σ H (Q : VK), Rel X.K X.mg Z φ S H → Slots X.K X.mg φ (gnd Z φ S H) ρ σ → Want X.K X.mg (RDat X.K X.mg) Z φ S H (f ρ S) Q (WE W σ) → t σ H Q)
    (Z φ S ρ σ H) (Q : Bool → Hp → Prop) (R : Rel X.K X.mg Z φ S H) (sl : Slots X.K X.mg φ (gnd Z φ S H) ρ σ) (w : Want X.K X.mg REq Z φ S H (toB f ρ S) Q (WE W σ)) : t σ H fun x H' => ∃ k, x = .bl k ∧ Q k H' :=
  ha Z φ S ρ σ H _ R sl (w.bind fun x S1 u φ1 H1 R1 E1 d1 w1 => by
    cases x with
    | bl k =>
      unfold RDat Dat at d1
      exact ⟨k, d1, w1.now R1 rfl⟩
    | _ => exact w1.elim)
theorem dt_cmp {op : CmpOp} {r : R2} {g : G2} (ho : OpR X (compareOp op) r) (hg : OpD X r g) (ha : DE X W a fa) (hb : DE X W b fb) (hm : behindInMarks op b = false) : DT X W (.Compare a [op] [b] pos) (toB (fBin g fa fb)) := by
  obtain ⟨ta, pa, qa⟩ := (ha).ex
  obtain ⟨tb, pb, qb⟩ := (hb).ex
  exact .mk (pt_cmpR ho pa pb hm) (toB_ok (dbin hg qa qb))
theorem dt_val (ha : DE X W a fa) (he : ∀ whole, isTrue a X.env whole = (do let v ← whole; standAt a.pos; holding [v] (truthy v)) := by intro _; rfl) : DT X W a (toB fa) := by
  obtain ⟨ta, pa, qa⟩ := (ha).ex
  exact .mk (pt_val pa he) (toB_ok qa)
def fUn (g : D → Store → Res D) (fa : FE) : FE := fun ρ S => (fa ρ S).bind g
def UnD (X : Cx) (r : V → Hp → VK → Prop) (g : D → Store → Res D) : Prop := ∀ (Z φ : List Addr) (S : Store) (H : Hp) (x : D) (u : V) (Q : VK) (E : XK), Rel X.K X.mg Z φ S H → Dat X.K X.mg φ (gnd Z φ S H) x u →
  Want X.K X.mg (RDat X.K X.mg) Z φ S H (g x S) Q E → r u H Q
theorem de_un {op : UnaryOp} {r : V → Hp → VK → Prop} {g : D → Store → Res D} (ho : UnR X (unaryOp op) r) (hg : UnD X r g) (ha : DE X W a fa) : DE X W (.UnaryOp op a pos) (fUn g fa) := by
  obtain ⟨ta, pa, qa⟩ := (ha).ex
  exact .mk (pe_un ho pa) (fun Z φ S ρ σ H Q R sl w => qa Z φ S ρ σ H _ R sl (w.bind fun x S1 u φ1 H1 R1 E1 d1 w1 => hg Z φ1 S1 H1 x u Q _ R1 d1 w1))
theorem OpD.or {r r' : R2} {g g' : G2} (p : D → D → Store → Bool) (h : OpD X r g) (h' : OpD X r' g') : OpD X (fun x y H Q => r x y H Q ∨ r' x y H Q) (fun x y S => if p x y S then g x y S else g' x y S) := fun Z φ S H x y u v Q E R dx dy w => by
  by_cases q : p x y S = true
  · exact .inl (h Z φ S H x y u v Q E R dx dy (by simpa only [q, if_true] using w))
  · exact .inr (h' Z φ S H x y u v Q E R dx dy (by simpa [q] using w))

/-! ints -/
def gI (C : Int → Int → Bool) (f : Int → Int → D) : G2 := fun x y S => match x, y with
  | .int i, .int j => if C i j then .ok (f i j) S else .stuck
  | _, _ => .stuck
theorem gI_inv {C : Int → Int → Bool} {f : Int → Int → D} {x y : D} {S : Store} {Z φ : List Addr} {H : Hp} {Q : VK} {E : XK} (w : Want X.K X.mg (RDat X.K X.mg) Z φ S H (gI C f x y S) Q E) :
    ∃ i j, x = .int i ∧ y = .int j ∧ C i j = true ∧ Want X.K X.mg (RDat X.K X.mg) Z φ S H (.ok (f i j) S) Q E := by
  unfold gI at w
  cases x with
  | int i =>
    cases y with
    | int j =>
      by_cases q : C i j = true
      · simp only [q, if_true] at w
        exact ⟨i, j, rfl, rfl, q, w⟩
      · simp only [q] at w
        exact w.elim
    | _ => exact w.elim
  | _ => exact w.elim
theorem opd_I {C : Int → Int → Prop} {c : Int → Int → Bool} {g : Int → Int → V} {f : Int → Int → D} (hc : ∀ i j, c i j = true → C i j) (hf : ∀ i j φ G, Dat X.K X.mg φ G (f i j) (g i j)) : OpD X (rI C g) (gI c f) :=
  fun Z φ S H x y u v Q E R dx dy w => by
    obtain ⟨i, j, rfl, rfl, q, w⟩ := gI_inv w
    unfold Dat at dx dy
    exact ⟨i, j, dx, dy, hc i j q, w.now R (hf i j _ _)⟩
theorem opd_I0 {g : Int → Int → V} {f : Int → Int → D} (hf : ∀ i j φ G, Dat X.K X.mg φ G (f i j) (g i j)) : OpD X (rI0 g) (gI (fun _ _ => true) f) :=
  fun Z φ S H x y u v Q E R dx dy w => by
    obtain ⟨i, j, rfl, rfl, q, w⟩ := gI_inv w
    unfold Dat at dx dy
    exact ⟨i, j, dx, dy, w.now R (hf i j _ _)⟩
theorem dat_int {φ : List Addr} {G : Hp} (i : Int) : Dat X.K X.mg φ G (.int i) (.int i) := by unfold Dat; rfl
theorem dat_bl {φ : List Addr} {G : Hp} (i : Bool) : Dat X.K X.mg φ G (.bl i) (.bl i) := by unfold Dat; rfl
theorem dat_str {φ : List Addr} {G : Hp} (i : Str) : Dat X.K X.mg φ G (.str i) (.str i) := by unfold Dat; rfl
theorem dat_non {φ : List Addr} {G : Hp} : Dat X.K X.mg φ G .non .non := by unfold Dat; rfl
def gSub : G2 := gI (fun _ _ => true) fun i j => .int (i - j)
noncomputable def cMul (i j : Int) : Bool := @decide ((-18446744073709551616 < i ∧ i < 18446744073709551616) ∨ (-18446744073709551616 < j ∧ j < 18446744073709551616)) (Classical.propDecidable _)
noncomputable def gMul : G2 := gI cMul fun i j => .int (i * j)
def gMod : G2 := gI (fun _ j => decide (0 < j)) fun i j => .int (i % j)
noncomputable def cDiv (_ j : Int) : Bool := @decide (0 < j ∧ j < 1073741824) (Classical.propDecidable _)
noncomputable def gDiv : G2 := gI cDiv fun i j => .int (i / j)
noncomputable def cPow (i j : Int) : Bool := @decide (0 ≤ j ∧ j ≤ 1000000 ∧ i.natAbs < 18446744073709551616) (Classical.propDecidable _)
noncomputable def gPow : G2 := gI cPow fun i j => .int (i ^ j.toNat)
theorem de_sub (ha : DE X W a fa) (hb : DE X W b fb) : DE X W (.BinOp a .Sub b pos) (fBin gSub fa fb) := de_bin op_sub (opd_I0 fun _ _ _ _ => dat_int _) ha hb
theorem de_mul (ha : DE X W a fa) (hb : DE X W b fb) : DE X W (.BinOp a .Mult b pos) (fBin gMul fa fb) :=
  de_bin op_mul (opd_I (fun i j h => by simpa [cMul, CMul] using h) fun _ _ _ _ => dat_int _) ha hb
theorem de_mod (ha : DE X W a fa) (hb : DE X W b fb) : DE X W (.BinOp a .Mod b pos) (fBin gMod fa fb) := de_bin op_mod (opd_I (fun i j h => by simpa using h) fun _ _ _ _ => dat_int _) ha hb
theorem de_fdiv (ha : DE X W a fa) (hb : DE X W b fb) : DE X W (.BinOp a .FloorDiv b pos) (fBin gDiv fa fb) := de_bin op_fdiv (opd_I (fun i j h => by simpa [cDiv, CDiv] using h) fun _ _ _ _ => dat_int _) ha hb
theorem de_pow (ha : DE X W a fa) (hb : DE X W b fb) : DE X W (.BinOp a .Pow b pos) (fBin gPow fa fb) := de_bin op_pow (opd_I (fun i j h => by simpa [cPow, CPow, and_assoc] using h) fun _ _ _ _ => dat_int _) ha hb
def gNeg : D → Store → Res D := fun x S => match x with
  | .int i => .ok (.int (-i)) S
  | _ => .stuck
theorem de_neg (ha : DE X W a fa) : DE X W (.UnaryOp .USub a pos) (fUn gNeg fa) := de_un un_neg (fun Z φ S H x u Q E R dx w => by
  cases x with
  | int i =>
    unfold Dat at dx
    exact ⟨i, dx, w.now R (dat_int _)⟩
  | _ => exact w.elim) ha
def gLt : G2 := gI (fun _ _ => true) fun i j => .bl (decide (i < j))
def gLe : G2 := gI (fun _ _ => true) fun i j => .bl (decide (i ≤ j))
def gGt : G2 := gI (fun _ _ => true) fun i j => .bl (decide (j < i))
def gGe : G2 := gI (fun _ _ => true) fun i j => .bl (decide (j ≤ i))
theorem opd_lt : OpD X (rI0 fun i j => .bl (decide (i < j))) gLt := opd_I0 fun _ _ _ _ => dat_bl _
theorem opd_le : OpD X (rI0 fun i j => .bl (decide (i ≤ j))) gLe := opd_I0 fun _ _ _ _ => dat_bl _
theorem opd_gt : OpD X (rI0 fun i j => .bl (decide (j < i))) gGt := opd_I0 fun _ _ _ _ => dat_bl _
theorem opd_ge : OpD X (rI0 fun i j => .bl (decide (j ≤ i))) gGe := opd_I0 fun _ _ _ _ => dat_bl _
/-! is None -/
def D.isNon : D → Bool
  | .non => true
  | _ => false
theorem isNon_V {φ : List Addr} {G : Hp} {K : PySem.W.Frag} {mg : Str → Option Value} {d : D} {v : V} (h : Dat K mg φ G d v) : decide (v = .non) = d.isNon := by
  cases d <;> unfold Dat at h <;> first
    | (subst h; rfl)
    | (obtain ⟨_, _, rfl, _⟩ := h; rfl)
    | (obtain ⟨_, rfl, _⟩ := h; rfl)
    | (obtain ⟨_, _, _, _, rfl, _⟩ := h; rfl)
    | (obtain ⟨_, _, _, rfl, _⟩ := h; rfl)
def gIs : G2 := fun x y S => if y.isNon then .ok (.bl x.isNon) S else .stuck
def gIsNot : G2 := fun x y S => if y.isNon then .ok (.bl (!x.isNon)) S else .stuck
theorem opd_is : OpD X (fun x y H Q => y = .non ∧ Q (.bl (decide (x = .non))) H) gIs := fun Z φ S H x y u v Q E R dx dy w => by
  unfold gIs at w
  by_cases q : y.isNon = true
  · rw [if_pos q] at w
    have e := isNon_V dy
    rw [q] at e
    refine ⟨of_decide_eq_true e, ?_⟩
    rw [isNon_V dx]
    exact w.now R (dat_bl _)
  · rw [if_neg q] at w
    exact w.elim
/-! ### and, or, not, if -/
def fAndT (ta tb : FT) : FT := fun ρ S => (ta ρ S).bind fun k S => if k then tb ρ S else .ok false S
def fOrT (ta tb : FT) : FT := fun ρ S => (ta ρ S).bind fun k S => if k then .ok true S else tb ρ S
def fNotT (ta : FT) : FT := fun ρ S => (ta ρ S).bind fun k S => .ok (!k) S
variable {ga gb : FT} {rest : List Expr}
theorem dw_and1 (ha : DT X W a ga) : DW X W (.BoolOp .And [a] pos) ga := by
  obtain ⟨t, p, q⟩ := (ha).ex
  exact .mk (pw_and1 p) q
theorem dw_or1 (ha : DT X W a ga) : DW X W (.BoolOp .Or [a] pos) ga := by
  obtain ⟨t, p, q⟩ := (ha).ex
  exact .mk (pw_or1 p) q
theorem dw_and (ha : DT X W a ga) (hb : DW X W (.BoolOp .And (b :: rest) pos) gb) : DW X W (.BoolOp .And (a :: b :: rest) pos) (fAndT ga gb) := by
  obtain ⟨t, p, q⟩ := (ha).ex
  obtain ⟨u, p', q'⟩ := (hb).ex
  refine .mk (pw_and p p') (fun Z φ S ρ σ H Q R sl w => q Z φ S ρ σ H _ R sl (w.bind fun k S1 k' φ1 H1 R1 E1 e w1 => ?_))
  cases e
  cases k with
  | true => exact iteT (q' Z φ1 S1 ρ σ H1 Q R1 (sl.evo E1) w1)
  | false => exact iteF (w1.now R1 rfl)
theorem dw_or (ha : DT X W a ga) (hb : DW X W (.BoolOp .Or (b :: rest) pos) gb) : DW X W (.BoolOp .Or (a :: b :: rest) pos) (fOrT ga gb) := by
  obtain ⟨t, p, q⟩ := (ha).ex
  obtain ⟨u, p', q'⟩ := (hb).ex
  refine .mk (pw_or p p') (fun Z φ S ρ σ H Q R sl w => q Z φ S ρ σ H _ R sl (w.bind fun k S1 k' φ1 H1 R1 E1 e w1 => ?_))
  cases e
  cases k with
  | true => exact iteT (w1.now R1 rfl)
  | false => exact iteF (q' Z φ1 S1 ρ σ H1 Q R1 (sl.evo E1) w1)
theorem DW.dt (h : DW X W a ga) : DT X W a ga := by
  obtain ⟨t, p, q⟩ := (h).ex
  exact .mk (p.pt) q
theorem dt_not (h : DT X W a ga) : DT X W (.UnaryOp .Not a pos) (fNotT ga) := by
  obtain ⟨t, p, q⟩ := (h).ex
  refine .mk (pt_not p) (fun Z φ S ρ σ H Q R sl w => q Z φ S ρ σ H _ R sl (w.bind fun k S1 k' φ1 H1 R1 E1 e w1 => ?_))
  cases e
  exact w1.now R1 rfl
/-- and, or as values, all but the last a truth -/
def fAndV (fa fb : FE) : FE := fun ρ S => (fa ρ S).bind fun d S => match d with
  | .bl true => fb ρ S
  | .bl false => .ok (.bl false) S
  | _ => .stuck
def fOrV (fa fb : FE) : FE := fun ρ S => (fa ρ S).bind fun d S => match d with
  | .bl true => .ok (.bl true) S
  | .bl false => fb ρ S
  | _ => .stuck
theorem de_one {op} (h : DE X W a fa) : DE X W (.BoolOp op [a] pos) fa := by
  obtain ⟨t, p, q⟩ := (h).ex
  exact .mk (pe_one p) q
theorem de_and (ha : DE X W a fa) (hb : DE X W (.BoolOp .And (b :: rest) pos) fb) : DE X W (.BoolOp .And (a :: b :: rest) pos) (fAndV fa fb) := by
  obtain ⟨t, p, q⟩ := (ha).ex
  obtain ⟨u, p', q'⟩ := (hb).ex
  refine .mk (pe_and p p') (fun Z φ S ρ σ H Q R sl w => q Z φ S ρ σ H _ R sl (w.bind fun x S1 v φ1 H1 R1 E1 d w1 => ?_))
  cases x with
  | bl k =>
    unfold RDat Dat at d
    refine ⟨k, d, ?_⟩
    cases k with
    | true => exact iteT (q' Z φ1 S1 ρ σ H1 Q R1 (sl.evo E1) w1)
    | false => exact iteF (w1.now R1 (dat_bl _))
  | _ => exact w1.elim
theorem de_or (ha : DE X W a fa) (hb : DE X W (.BoolOp .Or (b :: rest) pos) fb) : DE X W (.BoolOp .Or (a :: b :: rest) pos) (fOrV fa fb) := by
  obtain ⟨t, p, q⟩ := (ha).ex
  obtain ⟨u, p', q'⟩ := (hb).ex
  refine .mk (pe_or p p') (fun Z φ S ρ σ H Q R sl w => q Z φ S ρ σ H _ R sl (w.bind fun x S1 v φ1 H1 R1 E1 d w1 => ?_))
  cases x with
  | bl k =>
    unfold RDat Dat at d
    refine ⟨k, d, ?_⟩
    cases k with
    | true => exact iteT (w1.now R1 (dat_bl _))
    | false => exact iteF (q' Z φ1 S1 ρ σ H1 Q R1 (sl.evo E1) w1)
  | _ => exact w1.elim
def fNotV (fa : FE) : FE := fun ρ S => (fa ρ S).bind fun d S => match d with
  | .bl k => .ok (.bl (!k)) S
  | _ => .stuck
theorem de_not (ha : DE X W a fa) : DE X W (.UnaryOp .Not a pos) (fNotV fa) := by
  obtain ⟨t, p, q⟩ := (ha).ex
  refine .mk (pe_not p) (fun Z φ S ρ σ H Q R sl w => q Z φ S ρ σ H _ R sl (w.bind fun x S1 v φ1 H1 R1 E1 d w1 => ?_))
  cases x with
  | bl k =>
    unfold RDat Dat at d
    exact ⟨k, d, w1.now R1 (dat_bl _)⟩
  | _ => exact w1.elim
def fIf (t : FT) (fa fb : FE) : FE := fun ρ S => (t ρ S).bind fun k S => if k then fa ρ S else fb ρ S
theorem de_ifExp (hc : DT X W c ga) (ha : DE X W a fa) (hb : DE X W b fb) : DE X W (.IfExp c a b pos) (fIf ga fa fb) := by
  obtain ⟨tc, pc, qc⟩ := (hc).ex
  obtain ⟨t, p, q⟩ := (ha).ex
  obtain ⟨u, p', q'⟩ := (hb).ex
  refine .mk (pe_ifExp pc p p') (fun Z φ S ρ σ H Q R sl w => qc Z φ S ρ σ H _ R sl (w.bind fun k S1 k' φ1 H1 R1 E1 e w1 => ?_))
  cases e
  cases k with
  | true => exact iteT (q Z φ1 S1 ρ σ H1 Q R1 (sl.evo E1) w1)
  | false => exact iteF (q' Z φ1 S1 ρ σ H1 Q R1 (sl.evo E1) w1)
/-- a < b < c -/
def fChain (g g' : G2) (fa fb fc : FE) : FE := fun ρ S => (fa ρ S).bind fun x S => (fb ρ S).bind fun y S => (g x y S).bind fun z S => match z with
  | .bl true => (fc ρ S).bind fun u S => g' y u S
  | .bl false => .ok (.bl false) S
  | _ => .stuck

/-! ### displays -/
theorem da_nil : DA X W [] (fun _ S => .ok [] S) := .mk pa_nil (fun Z φ S ρ σ H Q R sl w => w.now R DatL.nil)
def fCons (fa : FE) (fr : FA) : FA := fun ρ S => (fa ρ S).bind fun x S => (fr ρ S).bind fun xs S => .ok (x :: xs) S
theorem da_cons {fr : FA} (ha : DE X W e fe) (hr : DA X W es fr) (hs : starEach (e :: es) X.env = (false, eval e X.env) :: starEach es X.env := by rfl) : DA X W (e :: es) (fCons fe fr) := by
  obtain ⟨t, p, q⟩ := (ha).ex
  obtain ⟨u, p', q'⟩ := (hr).ex
  refine .mk (pa_cons p p' hs) (fun Z φ S ρ σ H Q R sl w => q Z φ S ρ σ H _ R sl (w.bind fun x S1 v φ1 H1 R1 E1 d w1 => ?_))
  exact q' Z φ1 S1 ρ σ H1 _ R1 (sl.evo E1) (w1.bind fun xs S2 vs φ2 H2 R2 E2 d2 w2 => w2.now R2 (.cons (Dat.evo E2 d) d2))
def short (n : Nat) : Bool := decide (n ≤ sizeLine)
def fTup (fa : FA) : FE := fun ρ S => (fa ρ S).bind fun xs S => if short xs.length then .ok (.tup xs) S else .stuck
def fLst (fa : FA) : FE := fun ρ S => (fa ρ S).bind fun xs S => if short xs.length then .ok (.lst xs) S else .stuck
def fLstO (fa : FA) : FE := fun ρ S => (fa ρ S).bind fun xs S => if short xs.length then .ok (.oid S.length) (S ++ [.lst xs]) else .stuck
section
variable {K : PySem.W.Frag} {mg : Str → Option Value} {Z φ : List Addr} {S : Store} {H : Hp}
theorem dat_newL (R : Rel K mg Z φ S H) {ds : List D} {vs : List V} (h : DatL K mg φ (gnd Z φ S H) ds vs) {p : Addr} (hp : H p = none) :
    Rel K mg Z φ S (upd H p (.lst vs)) ∧ Evo Z φ S H φ S (upd H p (.lst vs)) ∧ Dat K mg φ (gnd Z φ S (upd H p (.lst vs))) (.lst ds) (.ref p) := by
  obtain ⟨r, e, g⟩ := R.fresh (o := .lst vs) hp
  refine ⟨r, e, ?_⟩
  unfold Dat
  exact ⟨p, vs, rfl, g, DatL.evo e h⟩
theorem dat_newT (R : Rel K mg Z φ S H) {ds : List D} {vs : List V} (h : DatL K mg φ (gnd Z φ S H) ds vs) {p : Addr} (hp : H p = none) :
    Rel K mg Z φ S (upd H p (.tup vs)) ∧ Evo Z φ S H φ S (upd H p (.tup vs)) ∧ Dat K mg φ (gnd Z φ S (upd H p (.tup vs))) (.tup ds) (.ref p) := by
  obtain ⟨r, e, g⟩ := R.fresh (o := .tup vs) hp
  refine ⟨r, e, ?_⟩
  unfold Dat
  exact ⟨p, vs, rfl, .of g, DatL.evo e h⟩
theorem dat_newO (R : Rel K mg Z φ S H) {ds : List D} {vs : List V} (h : DatL K mg φ (gnd Z φ S H) ds vs) {p : Addr} (hp : H p = none) :
    Rel K mg Z (φ ++ [p]) (S ++ [.lst ds]) (upd H p (.lst vs)) ∧ Evo Z φ S H (φ ++ [p]) (S ++ [.lst ds]) (upd H p (.lst vs)) ∧ Dat K mg (φ ++ [p]) (gnd Z (φ ++ [p]) (S ++ [.lst ds]) (upd H p (.lst vs))) (.oid S.length) (.ref p) := by
  have lv : liveA (φ ++ [p]) (S ++ [.lst ds]) = liveA φ S ++ [p] := by rw [liveA_snoc R.len]; rfl
  have ext : Same (gnd Z φ S H) (gnd Z (φ ++ [p]) (S ++ [.lst ds]) (upd H p (.lst vs))) := fun a o h => by
    obtain ⟨h1, h2⟩ := without_some.mp h
    refine without_some.mpr ⟨fun q => h1 ?_, same_upd hp a o h2⟩
    rw [lv] at q
    rcases List.mem_append.mp q with z | z
    · exact List.mem_append_left _ z
    · rcases List.mem_append.mp z with z | z
      · exact List.mem_append_right _ z
      · rw [List.mem_singleton.mp z, hp] at h2
        cases h2
  obtain ⟨r, e⟩ := R.newOid (so := .lst ds) (same_upd (o := .lst vs) hp) hp (by rw [upd_same]; exact fun z => nomatch z) rfl ⟨vs, upd_same, DatL.mono ⟨[p], rfl⟩ ext _ _ h⟩
  refine ⟨r, e, ?_⟩
  unfold Dat
  exact ⟨p, rfl, by rw [List.getElem?_append_right (by rw [R.len]; exact Nat.le_refl _), ← R.len, Nat.sub_self]; rfl⟩
end
theorem de_tup {x1} {fr : FA} (h : DA X W es fr) : DE X W (.Tuple es x1 pos) (fTup fr) := by
  obtain ⟨t, p, q⟩ := (h).ex
  refine .mk (pe_tup p) (fun Z φ S ρ σ H Q R sl w => q Z φ S ρ σ H _ R sl (w.bind fun xs S1 vs φ1 H1 R1 E1 d w1 => ?_))
  by_cases hs : short xs.length = true
  · rw [if_pos hs] at w1
    refine ⟨by rw [DatL.length d]; exact of_decide_eq_true hs, fun p hp => ?_⟩
    obtain ⟨r, e, g⟩ := dat_newT R1 d hp
    exact w1 _ _ _ r e g
  · rw [if_neg hs] at w1
    exact w1.elim
theorem de_lst {fr : FA} (h : DA X W es fr) : DE X W (.List es pos) (fLst fr) := by
  obtain ⟨t, p, q⟩ := (h).ex
  refine .mk (pe_lst p) (fun Z φ S ρ σ H Q R sl w => q Z φ S ρ σ H _ R sl (w.bind fun xs S1 vs φ1 H1 R1 E1 d w1 => ?_))
  by_cases hs : short xs.length = true
  · rw [if_pos hs] at w1
    refine ⟨by rw [DatL.length d]; exact of_decide_eq_true hs, fun p hp => ?_⟩
    obtain ⟨r, e, g⟩ := dat_newL R1 d hp
    exact w1 _ _ _ r e g
  · rw [if_neg hs] at w1
    exact w1.elim
theorem de_lstO {fr : FA} (h : DA X W es fr) : DE X W (.List es pos) (fLstO fr) := by
  obtain ⟨t, p, q⟩ := (h).ex
  refine .mk (pe_lst p) (fun Z φ S ρ σ H Q R sl w => q Z φ S ρ σ H _ R sl (w.bind fun xs S1 vs φ1 H1 R1 E1 d w1 => ?_))
  by_cases hs : short xs.length = true
  · rw [if_pos hs] at w1
    refine ⟨by rw [DatL.length d]; exact of_decide_eq_true hs, fun p hp => ?_⟩
    obtain ⟨r, e, g⟩ := dat_newO R1 d hp
    exact w1 _ _ _ r e g
  · rw [if_neg hs] at w1
    exact w1.elim
end
end DL

/-! The data layer, part 4: targets, what is walked, statements, comprehensions. -/
namespace DL
open PySem L2

/-! ### targets -/
abbrev FG := D → EnvD → Store → Option EnvD
def tG (K : PySem.W.Frag) (mg : Str → Option Value) (is : List Nat) (m : FG) : TG := fun v σ H Q => ∃ Z φ S ρ d ρ', Rel K mg Z φ S H ∧ Slots K mg φ (gnd Z φ S H) ρ σ ∧ Dat K mg φ (gnd Z φ S H) d v ∧ m d ρ S = some ρ' ∧
  ∀ σ', Slots K mg φ (gnd Z φ S H) ρ' σ' → (∀ vs : List Nat, (∀ i ∈ is, i ∈ vs) → wipe σ' vs = wipe σ vs) → Q σ' H
def tGs (K : PySem.W.Frag) (mg : Str → Option Value) (is : List Nat) (m : List D → EnvD → Store → Option EnvD) : TGs := fun vs σ H Q => ∃ Z φ S ρ ds ρ', Rel K mg Z φ S H ∧ Slots K mg φ (gnd Z φ S H) ρ σ ∧ DatL K mg φ (gnd Z φ S H) ds vs ∧ m ds ρ S = some ρ' ∧
  ∀ σ', Slots K mg φ (gnd Z φ S H) ρ' σ' → (∀ vs : List Nat, (∀ i ∈ is, i ∈ vs) → wipe σ' vs = wipe σ vs) → Q σ' H
def DG (X : Cx) (tg : Expr) (is : List Nat) (m : FG) : Prop := PG X tg (tG X.K X.mg is m)
def DGs (X : Cx) (tgs : List Expr) (is : List Nat) (m : List D → EnvD → Store → Option EnvD) : Prop := PGs X tgs (tGs X.K X.mg is m)
theorem PG.weak {X : Cx} {e : Expr} {t t' : TG} (h : PG X e t) (i : ∀ v σ H Q, t' v σ H Q → t v σ H Q) : PG X e t' := ⟨fun pins s σ H v u Q I r q => h.run pins s σ H v u Q I r (i _ _ _ _ q)⟩
theorem PGs.weak {X : Cx} {e : List Expr} {t t' : TGs} (h : PGs X e t) (i : ∀ v σ H Q, t' v σ H Q → t v σ H Q) : PGs X e t' := ⟨fun pins s σ H v u Q I r q => h.run pins s σ H v u Q I r (i _ _ _ _ q)⟩
theorem wipe_set {σ : L2.St} {x : Option V} {i : Nat} : ∀ {vs : List Nat}, i ∈ vs → wipe (σ.set i x) vs = wipe σ vs
  | [], h => absurd h (by simp)
  | v :: vs, h => by
    unfold wipe
    by_cases q : i ∈ vs
    · rw [wipe_set q]
    · have e : i = v := by
        rcases List.mem_cons.mp h with z | z
        · exact z
        · exact absurd z q
      subst e
      have aux : ∀ {vs : List Nat}, i ∉ vs → wipe (σ.set i x) vs = (wipe σ vs).set i x := by
        intro vs
        induction vs with
        | nil => intro _; rfl
        | cons w ws ih =>
          intro hn
          simp only [List.mem_cons, not_or] at hn
          unfold wipe
          rw [ih hn.2, List.set_comm _ _ (fun z => hn.1 z)]
      rw [aux q, List.set_set]
section
variable {X : Cx} {pos : Pos}
def mName (i : Nat) : FG := fun d ρ _ => some (ρ.set i (some d))
theorem dg_name {i : Nat} {x : Str} (p : PG X (.Name x pos) (gName i)) : DG X (.Name x pos) [i] (mName i) :=
  PG.weak p fun v σ H Q ⟨Z, φ, S, ρ, d, ρ', R, sl, hd, hm, q⟩ => by
    cases hm
    exact q _ (sl.set hd) fun vs h => wipe_set (h i (by simp))
theorem dgs_nil : DGs X [] [] (fun ds ρ _ => match ds with | [] => some ρ | _ => none) :=
  PGs.weak pgs_nil fun v σ H Q ⟨Z, φ, S, ρ, ds, ρ', R, sl, hd, hm, q⟩ => by
    cases ds with
    | nil =>
      cases hm
      unfold DatL at hd
      exact ⟨hd, q _ sl fun _ _ => rfl⟩
    | cons _ _ => cases hm
def mCons (m : FG) (ms : List D → EnvD → Store → Option EnvD) : List D → EnvD → Store → Option EnvD := fun ds ρ S => match ds with
  | d :: ds => (m d ρ S).bind fun ρ => ms ds ρ S
  | [] => none
theorem dgs_cons {e : Expr} {es : List Expr} {is js : List Nat} {m : FG} {ms : List D → EnvD → Store → Option EnvD} (h : DG X e is m) (r : DGs X es js ms)
    (hs : (assignEach (e :: es) X.env).map (·.2) = assign e X.env :: (assignEach es X.env).map (·.2) := by rfl) : DGs X (e :: es) (is ++ js) (mCons m ms) :=
  PGs.weak (pgs_cons h r hs) fun v σ H Q ⟨Z, φ, S, ρ, ds, ρ', R, sl, hd, hm, q⟩ => by
    cases ds with
    | nil => cases hm
    | cons d ds =>
      obtain ⟨u, us, rfl, h1, h2⟩ := hd.uncons
      unfold mCons at hm
      obtain ⟨ρ1, e1, e2⟩ := Option.bind_eq_some_iff.mp hm
      refine ⟨u, us, rfl, Z, φ, S, ρ, d, ρ1, R, sl, h1, e1, fun σ1 sl1 w1 => ?_⟩
      refine ⟨Z, φ, S, ρ1, ds, ρ', R, sl1, h2, e2, fun σ2 sl2 w2 => ?_⟩
      exact q σ2 sl2 fun vs hv => (w2 vs fun i hi => hv i (List.mem_append_right _ hi)).trans (w1 vs fun i hi => hv i (List.mem_append_left _ hi))
def mTup (n : Nat) (ms : List D → EnvD → Store → Option EnvD) : FG := fun d ρ S => match d with
  | .tup ds => if ds.length = n then ms ds ρ S else none
  | _ => none
theorem dg_tup {es : List Expr} {k n : Nat} {is : List Nat} {ms : List D → EnvD → Store → Option EnvD} (hc : X.calm = true) (h : DGs X es is ms)
    (hn : (assignEach es X.env).length = n := by rfl) (hst : (assignEach es X.env).findIdx? (·.1) = none := by rfl) : DG X (.Tuple es k pos) is (mTup n ms) :=
  PG.weak (pg_tup hc h hn hst) fun v σ H Q ⟨Z, φ, S, ρ, d, ρ', R, sl, hd, hm, q⟩ => by
    unfold mTup at hm
    cases d with
    | tup ds =>
      unfold Dat at hd
      obtain ⟨a, vs, rfl, h1, h2⟩ := hd
      by_cases hl : ds.length = n
      · simp only [hl, if_true] at hm
        exact ⟨a, vs, rfl, sqt_mono gnd_sub h1, h2.length.trans hl, Z, φ, S, ρ, ds, ρ', R, sl, h2, hm, q⟩
      · simp only [hl, if_false] at hm
        cases hm
    | _ => cases hm
end

/-! ### what is walked -/
/-- the items; of what may change: that it stays as it was -/
structure ItD where
  items : List D
  chk : Option (D × List D) := none
def okC : Option (D × List D) → Store → Prop
  | none, _ => True
  | some (d, ds), S => asL S d = some ds
section
variable (K : PySem.W.Frag) (mg : Str → Option Value)
def RI (Z φ : List Addr) (S : Store) (H : Hp) (it : ItD) (J : It) : Prop := ∀ (i : Nat) (Z' φ' : List Addr) (S' : Store) (H' : Hp), (∀ a ∈ Z, a ∈ Z') → Rel K mg Z' φ' S' H' → (φ <+: φ') → Same (gnd Z φ S H) (gnd Z' φ' S' H') → okC it.chk S' →
  (∀ d, it.items[i]? = some d → J.go i H' ∧ ∀ x H'', J.yld i H' x H'' → Rel K mg Z' φ' S' H'' ∧ Evo Z' φ' S' H' φ' S' H'' ∧ Dat K mg φ' (gnd Z' φ' S' H'') d x) ∧ (it.items.length ≤ i → J.stop i H')
def WantI (Z φ : List Addr) (S : Store) (H : Hp) (r : Res ItD) (Q : It → Hp → Prop) (E : XK) : Prop := match r with
  | .ok it S' => ∀ J φ' H', Rel K mg Z φ' S' H' → Evo Z φ S H φ' S' H' → RI K mg Z φ' S' H' it J → Q J H'
  | .ex C fs S' => ∀ A dx φ' H', mg C = some (.ref A) → Rel K mg Z φ' S' H' → Evo Z φ S H φ' S' H' → ExD K mg φ' (gnd Z φ' S' H') fs dx → E (.ref A) dx H'
  | .stuck => False
end
theorem WantI.go {K : PySem.W.Frag} {mg : Str → Option Value} {Z φ φ' : List Addr} {S S' : Store} {H H' : Hp} {r : Res ItD} {Q : It → Hp → Prop} {E : XK} (e : Evo Z φ S H φ' S' H') (h : WantI K mg Z φ S H r Q E) : WantI K mg Z φ' S' H' r Q E := by
  cases r with
  | ok a S1 => exact fun b φ1 H1 r1 e1 d => h b φ1 H1 r1 (e.trans e1) d
  | ex C fs S1 => exact fun A dx φ1 H1 m r1 e1 d => h A dx φ1 H1 m r1 (e.trans e1) d
  | stuck => exact h
theorem WantI.bind {α β : Type} {K : PySem.W.Frag} {mg : Str → Option Value} {Z φ : List Addr} {S : Store} {H : Hp} {R : List Addr → Hp → α → β → Prop} {r : Res α} {k : α → Store → Res ItD} {Q : It → Hp → Prop} {Q1 : β → Hp → Prop} {E : XK} (h : WantI K mg Z φ S H (r.bind k) Q E)
    (f : ∀ a S1 b φ1 H1, Rel K mg Z φ1 S1 H1 → Evo Z φ S H φ1 S1 H1 → R φ1 (gnd Z φ1 S1 H1) a b → WantI K mg Z φ1 S1 H1 (k a S1) Q E → Q1 b H1) : Want K mg R Z φ S H r Q1 E := by
  cases r with
  | ok a S1 => exact fun b φ1 H1 r1 e1 d => f a S1 b φ1 H1 r1 e1 d (h.go e1)
  | ex C fs S1 => exact h
  | stuck => exact h
abbrev FI := EnvD → Store → Res ItD
def tDI (K : PySem.W.Frag) (mg : Str → Option Value) (W : WX) (f : FI) : TI := fun σ H R => ∃ Z φ S ρ, Rel K mg Z φ S H ∧ Slots K mg φ (gnd Z φ S H) ρ σ ∧ WantI K mg Z φ S H (f ρ S) R (WE W σ)
def DI (X : Cx) (W : WX) (tg e : Expr) (f : FI) : Prop := PI X tg e (tDI X.K X.mg W f)
abbrev IsI (X : Cx) (W : WX) (t : TI) (f : FI) : Prop := ∀ Z φ S ρ σ H (Q : It → Hp → Prop), Rel X.K X.mg Z φ S H → Slots X.K X.mg φ (gnd Z φ S H) ρ σ → WantI X.K X.mg Z φ S H (f ρ S) Q (WE W σ) → t σ H Q
theorem PI.weak {X : Cx} {tg e : Expr} {t t' : TI} (h : PI X tg e t) (i : ∀ σ H R, t' σ H R → t σ H R) : PI X tg e t' := ⟨fun pins s σ H R I q => h.run pins s σ H R I (i _ _ _ q)⟩
theorem PI.or {X : Cx} {tg e : Expr} {t t' : TI} (h : PI X tg e t) (h' : PI X tg e t') : PI X tg e (fun σ H R => t σ H R ∨ t' σ H R) := ⟨fun pins s σ H R I q => q.elim (fun z => h.run pins s σ H R I z) fun z => h'.run pins s σ H R I z⟩
theorem DI.mk {X : Cx} {W : WX} {tg e : Expr} {f : FI} {t : TI} (p : PI X tg e t) (h : IsI X W t f) : DI X W tg e f := PI.weak p fun σ H Q ⟨Z, φ, S, ρ, R, sl, w⟩ => h Z φ S ρ σ H Q R sl w
theorem DI.is {X : Cx} {W : WX} {f : FI} : IsI X W (tDI X.K X.mg W f) f := fun Z φ S ρ σ H Q R sl w => ⟨Z, φ, S, ρ, R, sl, w⟩
section
variable {X : Cx} {W : WX} {tg e : Expr} {fe : FE} {pos p : Pos}
/-- over a list or a tuple -/
def fSeq (fe : FE) : FI := fun ρ S => (fe ρ S).bind fun d S => match d with
  | .tup ds => .ok ⟨ds, none⟩ S
  | .lst ds => .ok ⟨ds, none⟩ S
  | .scr ds => .ok ⟨ds, none⟩ S
  | d => match asL S d with
    | some ds => .ok ⟨ds, some (d, ds)⟩ S
    | none => .stuck
theorem ri_list {Z φ : List Addr} {S : Store} {H : Hp} {d : D} {a : Addr} {ds : List D} {c : Option (D × List D)} (hd : Dat X.K X.mg φ (gnd Z φ S H) d (.ref a)) (hc : ∀ S', okC c S' → asL S' d = some ds) : RI X.K X.mg Z φ S H ⟨ds, c⟩ (Itl X.K a) :=
  fun i Z' φ' S' H' hZ R hp hs ok => by
    have hd' := Dat.mono hp hs d _ hd
    obtain ⟨b, vs, e, h1, h2⟩ := asL_ok R hd' (hc S' ok)
    cases e
    refine ⟨fun x hx => ?_, fun hl => ⟨vs, h1, by rw [h2.length]; exact hl⟩⟩
    obtain ⟨u, hu, du⟩ := h2.get hx
    refine ⟨⟨vs, u, h1, hu⟩, fun y H'' yl => ?_⟩
    obtain ⟨rfl, q⟩ := yl
    have z := q vs h1
    rw [hu] at z
    cases z
    exact ⟨R, Evo.refl, du⟩
theorem ri_tup {Z φ : List Addr} {S : Store} {H : Hp} {a : Addr} {ds : List D} (hd : Dat X.K X.mg φ (gnd Z φ S H) (.tup ds) (.ref a)) : RI X.K X.mg Z φ S H ⟨ds, none⟩ (Itt X.K a) :=
  fun i Z' φ' S' H' hZ R hp hs ok => by
    have hd' := Dat.mono hp hs _ _ hd
    unfold Dat at hd'
    obtain ⟨b, vs, e, h1, h2⟩ := hd'
    cases e
    have h1' := sqt_mono gnd_sub h1
    refine ⟨fun x hx => ?_, fun hl => ⟨vs, h1', by rw [h2.length]; exact hl⟩⟩
    obtain ⟨u, hu, du⟩ := h2.get hx
    refine ⟨⟨vs, u, h1', hu⟩, fun y H'' yl => ?_⟩
    obtain ⟨rfl, q⟩ := yl
    have z := q vs h1'
    rw [hu] at z
    cases z
    exact ⟨R, Evo.refl, du⟩
theorem RI.evo {Z φ φ' : List Addr} {S S' : Store} {H H' : Hp} {it : ItD} {J : It} (e : Evo Z φ S H φ' S' H') (h : RI X.K X.mg Z φ S H it J) : RI X.K X.mg Z φ' S' H' it J := fun i Z1 φ1 S1 H1 hZ R hp hs ok =>
  h i Z1 φ1 S1 H1 hZ R (e.pre.trans hp) (e.ext.trans hs) ok
/-- the result of an expression, known -/
theorem Want.cases {α β : Type} {K : PySem.W.Frag} {mg : Str → Option Value} {Z φ : List Addr} {S : Store} {H : Hp} {R : List Addr → Hp → α → β → Prop} {r : Res α} {P : Prop} {Q : β → Hp → Prop} {E : XK}
    (hok : ∀ a S1, r = .ok a S1 → P) (hx : ∀ C fs S1, r = .ex C fs S1 → P) (hs : r = .stuck → P) : P := by
  cases r with
  | ok a S1 => exact hok a S1 rfl
  | ex C fs S1 => exact hx C fs S1 rfl
  | stuck => exact hs rfl
theorem di_seq (he : DE X W e fe) : DI X W tg e (fSeq fe) := by
  refine PI.weak (PI.or (pi_list he) (pi_tup he)) fun σ H R ⟨Z, φ, S, ρ, R0, sl, w⟩ => ?_
  have run : ∀ {Q1 : VK}, (∀ d S1 v φ1 H1, Rel X.K X.mg Z φ1 S1 H1 → Evo Z φ S H φ1 S1 H1 → Dat X.K X.mg φ1 (gnd Z φ1 S1 H1) d v → fe ρ S = .ok d S1 → Q1 v H1) → (∀ r, r = fe ρ S → r ≠ .stuck) → Want X.K X.mg (RDat X.K X.mg) Z φ S H (fe ρ S) Q1 (WE W σ) := fun f hns => by
    unfold fSeq at w
    cases hr : fe ρ S with
    | ok d S1 => exact fun v φ1 H1 r1 e1 dd => f d S1 v φ1 H1 r1 e1 dd hr
    | ex C fs S1 => rw [hr] at w; exact w
    | stuck => exact absurd rfl (hns _ hr.symm)
  have ns : ∀ r, r = fe ρ S → r ≠ .stuck := fun r h z => by
    unfold fSeq at w
    rw [← h, z] at w
    exact w
  by_cases ht : ∃ ds S1, fe ρ S = .ok (.tup ds) S1
  · obtain ⟨ds, S1, ht⟩ := ht
    refine .inr ⟨Z, φ, S, ρ, R0, sl, run (fun d S2 v φ1 H1 r1 e1 dd hr => ?_) ns⟩
    rw [ht] at hr
    cases hr
    unfold fSeq at w
    rw [ht] at w
    have dd0 := dd
    unfold Dat at dd
    obtain ⟨a, vs, rfl, h1, h2⟩ := dd
    exact ⟨a, rfl, ⟨vs, sqt_mono gnd_sub h1⟩, w _ _ _ r1 e1 (ri_tup dd0)⟩
  · refine .inl ⟨Z, φ, S, ρ, R0, sl, run (fun d S1 v φ1 H1 r1 e1 dd hr => ?_) ns⟩
    unfold fSeq at w
    rw [hr] at w
    simp only [Res.bind_ok] at w
    cases d with
    | tup ds => exact absurd ⟨ds, S1, hr⟩ ht
    | lst ds =>
      obtain ⟨a, vs, rfl, h1, h2⟩ := asL_ok r1 dd rfl
      exact ⟨a, rfl, ⟨vs, h1⟩, w _ _ _ r1 e1 (ri_list (d := .lst ds) dd fun _ _ => rfl)⟩
    | scr ds =>
      obtain ⟨a, vs, rfl, h1, h2⟩ := asL_ok r1 dd rfl
      exact ⟨a, rfl, ⟨vs, h1⟩, w _ _ _ r1 e1 (ri_list (d := .scr ds) dd fun _ _ => rfl)⟩
    | oid n =>
      simp only at w
      cases hq : asL S1 (.oid n) with
      | none => rw [hq] at w; exact w.elim
      | some ds =>
        rw [hq] at w
        obtain ⟨a, vs, rfl, h1, h2⟩ := asL_ok r1 dd hq
        exact ⟨a, rfl, ⟨vs, h1⟩, w _ _ _ r1 e1 (ri_list (d := .oid n) dd fun _ ok => ok)⟩
    | _ => exact w.elim
/-- range(a), range(a, b) -/
def rng (lo hi : Int) : List D := (List.range (hi - lo).toNat).map fun i => .int (lo + (i : Nat))
noncomputable def cRng (i : Int) : Bool := @decide (-4611686018427387904 ≤ i ∧ i < 4611686018427387904) (Classical.propDecidable _)
noncomputable def fRng1 (fa : FA) : FI := fun ρ S => (fa ρ S).bind fun ds S => match ds with
  | [.int j] => if cRng j then .ok ⟨rng 0 j, none⟩ S else .stuck
  | _ => .stuck
theorem ri_rng {Z φ : List Addr} {S : Store} {H : Hp} {lo hi : Int} : RI X.K X.mg Z φ S H ⟨rng lo hi, none⟩ (Itr lo (hi - lo).toNat) := fun i Z' φ' S' H' hZ R hp hs ok => by
  refine ⟨fun d hd => ?_, fun hl => ?_⟩
  · unfold rng at hd
    rw [List.getElem?_map] at hd
    have hi' : i < (hi - lo).toNat := by
      cases q : (List.range (hi - lo).toNat)[i]? with
      | none => rw [q] at hd; cases hd
      | some j => have := (List.getElem?_eq_some_iff.mp q).1; simpa using this
    rw [List.getElem?_range hi'] at hd
    cases hd
    refine ⟨hi', fun x H'' y => ?_⟩
    obtain ⟨rfl, rfl⟩ := y
    exact ⟨R, Evo.refl, dat_int _⟩
  · show (hi - lo).toNat ≤ i
    simpa [rng] using hl
theorem datL1 {φ : List Addr} {G : Hp} {d : D} {vs : List V} (h : DatL X.K X.mg φ G [d] vs) : ∃ v, vs = [v] ∧ Dat X.K X.mg φ G d v := by
  obtain ⟨v, r, rfl, h1, h2⟩ := h.uncons
  unfold DatL at h2
  subst h2
  exact ⟨v, rfl, h1⟩
theorem datL2 {φ : List Addr} {G : Hp} {d e : D} {vs : List V} (h : DatL X.K X.mg φ G [d, e] vs) : ∃ v u, vs = [v, u] ∧ Dat X.K X.mg φ G d v ∧ Dat X.K X.mg φ G e u := by
  obtain ⟨v, r, rfl, h1, h2⟩ := h.uncons
  obtain ⟨u, rfl, h3⟩ := datL1 h2
  exact ⟨v, u, rfl, h1, h3⟩
theorem dInt {φ : List Addr} {G : Hp} {i : Int} {v : V} (h : Dat X.K X.mg φ G (.int i) v) : v = .int i := by
  unfold Dat at h
  exact h
theorem dStr {φ : List Addr} {G : Hp} {i : Str} {v : V} (h : Dat X.K X.mg φ G (.str i) v) : v = .str i := by
  unfold Dat at h
  exact h
theorem di_range1 {a : Expr} {fa : FA} (hg : Gl X "range") (hm : X.mg "range" = none) (ha : DA X W [a] fa) (hs : starEach [a] X.env = [(false, eval a X.env)] := by rfl) : DI X W tg (.Call (.Name "range" p) [a] [] pos) (fRng1 fa) := by
  obtain ⟨t, p, q⟩ := ha.ex
  refine .mk (pi_range1 hg hm p hs) fun Z φ S ρ σ H R R0 sl w => q Z φ S ρ σ H _ R0 sl (w.bind fun ds S1 vs φ1 H1 R1 E1 d w1 => ?_)
  split at w1
  · rename_i j
    obtain ⟨v, rfl, h1⟩ := datL1 d
    cases dInt h1
    by_cases hc : cRng j = true
    · simp only [hc, if_true] at w1
      unfold cRng at hc
      simp only [Bool.and_eq_true, decide_eq_true_eq] at hc
      refine ⟨j, rfl, hc.1, hc.2, w1 _ _ _ R1 Evo.refl ?_⟩
      have z := ri_rng (X := X) (Z := Z) (φ := φ1) (S := S1) (H := H1) (lo := 0) (hi := j)
      rw [Int.sub_zero] at z
      exact z
    · simp only [hc] at w1
      exact w1.elim
  · exact w1.elim
/-- enumerate(list) -/
def enumD : Nat → List D → List D
  | _, [] => []
  | n, d :: ds => .tup [.int (n : Nat), d] :: enumD (n + 1) ds
theorem enumD_get : ∀ {ds : List D} {n i : Nat}, (enumD n ds)[i]? = (ds[i]?).map fun d => .tup [.int ((n + i : Nat) : Int), d]
  | [], _, _ => rfl
  | d :: ds, n, 0 => rfl
  | d :: ds, n, i + 1 => by
    unfold enumD
    rw [List.getElem?_cons_succ, List.getElem?_cons_succ, enumD_get, Nat.add_right_comm, Nat.add_assoc]
theorem enumD_length : ∀ {ds : List D} {n : Nat}, (enumD n ds).length = ds.length
  | [], _ => rfl
  | d :: ds, n => by unfold enumD; rw [List.length_cons, List.length_cons, enumD_length]
def fEnum (fa : FA) : FI := fun ρ S => (fa ρ S).bind fun ds S => match ds with
  | [.lst ds] => .ok ⟨enumD 0 ds, none⟩ S
  | [d] => match asL S d with
    | some ds => .ok ⟨enumD 0 ds, some (d, ds)⟩ S
    | none => .stuck
  | _ => .stuck
theorem ri_enum {Z φ : List Addr} {S : Store} {H : Hp} {d : D} {a : Addr} {ds : List D} {c : Option (D × List D)} (hd : Dat X.K X.mg φ (gnd Z φ S H) d (.ref a)) (hc : ∀ S', okC c S' → asL S' d = some ds) : RI X.K X.mg Z φ S H ⟨enumD 0 ds, c⟩ (Ite X.K a) :=
  fun i Z' φ' S' H' hZ R hp hs ok => by
    have hd' := Dat.mono hp hs d _ hd
    obtain ⟨b, vs, e, h1, h2⟩ := asL_ok R hd' (hc S' ok)
    cases e
    refine ⟨fun x hx => ?_, fun hl => ⟨vs, h1, by rw [h2.length]; rw [enumD_length] at hl; exact hl⟩⟩
    have hx : (enumD 0 ds)[i]? = some x := hx
    rw [enumD_get] at hx
    cases q : ds[i]? with
    | none => rw [q] at hx; cases hx
    | some y =>
      rw [q] at hx
      cases hx
      obtain ⟨u, hu, du⟩ := h2.get q
      refine ⟨⟨vs, u, h1, hu⟩, fun y' H'' yl => ?_⟩
      obtain ⟨T, x', rfl, hT, rfl, q'⟩ := yl
      have z := q' vs h1
      rw [hu] at z
      cases z
      rw [Nat.zero_add]
      exact dat_newT R (.cons (dat_int _) (.cons du DatL.nil)) hT
theorem di_enum {a : Expr} {fa : FA} {elts : List Expr} {kk : Nat} {tpos : Pos} (hg : Gl X "enumerate") (hm : X.mg "enumerate" = none) (ha : DA X W [a] fa) (hs : starEach [a] X.env = [(false, eval a X.env)] := by rfl) :
    DI X W (.Tuple elts kk tpos) (.Call (.Name "enumerate" p) [a] [] pos) (fEnum fa) := by
  obtain ⟨t, p, q⟩ := ha.ex
  refine .mk (pi_enum hg hm p hs) fun Z φ S ρ σ H R R0 sl w => q Z φ S ρ σ H _ R0 sl (w.bind fun ds S1 vs φ1 H1 R1 E1 d w1 => ?_)
  split at w1
  · rename_i es
    obtain ⟨v, rfl, h1⟩ := datL1 d
    obtain ⟨a, us, rfl, h2, h3⟩ := asL_ok R1 h1 rfl
    exact ⟨a, us, rfl, h2, w1 _ _ _ R1 Evo.refl (ri_enum (d := .lst es) h1 fun _ _ => rfl)⟩
  · rename_i x _
    obtain ⟨v, rfl, h1⟩ := datL1 d
    cases hq : asL S1 x with
    | none => rw [hq] at w1; exact w1.elim
    | some es =>
      rw [hq] at w1
      obtain ⟨a, us, rfl, h2, h3⟩ := asL_ok R1 h1 hq
      exact ⟨a, us, rfl, h2, w1 _ _ _ R1 Evo.refl (ri_enum (d := x) h1 fun _ ok => ok)⟩
  · exact w1.elim
end

/-! ### the context of a body -/
structure Cn (X : Cx) (W : WX) (k : Nat) : Prop where
  room : Room k X.A
  gd : X.A.guards = some []
  calm : X.calm = true
  nd : X.N.Nodup
  po : PassesOwn (model X.prog X.w) X.A X.env X.xe
  tk : L2N.Takes X W
abbrev W0 : WX := fun _ _ _ _ => False
theorem takes0N {X : Cx} : L2N.Takes X W0 := fun _ _ ⟨_, _, _, _, _, _, _, _, _, _, _, _, _, _, _, _, h⟩ => h.elim

/-! ### statements -/
section
variable {X : Cx} {W : WX} {pos : Pos} {st : Stmt} {sts : List Stmt} {g g' : FS} {e : Expr} {fe : FE} {k : Nat}
def gNil : FS := fun ρ S => .nx ρ S
def Out.seq (o : Out) (k : EnvD → Store → Out) : Out := match o with
  | .nx ρ S => k ρ S
  | o => o
@[simp] theorem Out.seq_nx (ρ : EnvD) (S : Store) (k : EnvD → Store → Out) : (Out.nx ρ S).seq k = k ρ S := rfl
@[simp] theorem Out.seq_rt (d : D) (S : Store) (k : EnvD → Store → Out) : (Out.rt d S).seq k = .rt d S := rfl
@[simp] theorem Out.seq_bk (ρ : EnvD) (S : Store) (k : EnvD → Store → Out) : (Out.bk ρ S).seq k = .bk ρ S := rfl
@[simp] theorem Out.seq_ct (ρ : EnvD) (S : Store) (k : EnvD → Store → Out) : (Out.ct ρ S).seq k = .ct ρ S := rfl
@[simp] theorem Out.seq_ex (C fs) (ρ : EnvD) (S : Store) (k : EnvD → Store → Out) : (Out.ex C fs ρ S).seq k = .ex C fs ρ S := rfl
@[simp] theorem Out.seq_stuck (k : EnvD → Store → Out) : (Out.stuck).seq k = .stuck := rfl
def gSeq (g g' : FS) : FS := fun ρ S => (g ρ S).seq g'
theorem dss_nil : DSs X W [] gNil := .mk pss_nil fun Z φ S ρ σ H Dd R sl w => w σ φ H R Evo.refl sl
theorem dss_one (h : DS X W st g) : DSs X W [st] g := by
  obtain ⟨t, p, q⟩ := h.ex
  exact .mk (pss_one p) q
theorem dss_cons (h : DS X W st g) (r : DSs X W sts g') : DSs X W (st :: sts) (gSeq g g') := by
  obtain ⟨t, p, q⟩ := h.ex
  obtain ⟨u, p', q'⟩ := r.ex
  refine .mk (pss_cons p p') fun Z φ S ρ σ H Dd R sl w => q Z φ S ρ σ H _ R sl ?_
  unfold gSeq at w
  cases hr : g ρ S with
  | nx ρ1 S1 =>
    rw [hr] at w
    exact fun σ1 φ1 H1 R1 E1 sl1 => q' Z φ1 S1 ρ1 σ1 H1 Dd R1 sl1 (w.go E1)
  | _ => rw [hr] at w; exact w
theorem ds_continue : DS X W (.Continue pos) (fun ρ S => .ct ρ S) := .mk ps_continue fun Z φ S ρ σ H Dd R sl w => w σ φ H R Evo.refl sl
def gExpr (fe : FE) : FS := fun ρ S => (fe ρ S).into ρ fun _ S => .nx ρ S
theorem ds_expr (he : DE X W e fe) (hs : swapsWith e none pos.line X.env = pure false := by rfl) : DS X W (.Expr e pos) (gExpr fe) := by
  obtain ⟨t, p, q⟩ := he.ex
  exact .mk (ps_expr p hs) fun Z φ S ρ σ H Dd R sl w => q Z φ S ρ σ H _ R sl (w.into sl fun d S1 v φ1 H1 R1 E1 dd w1 => w1 σ φ1 H1 R1 Evo.refl (sl.evo E1))
def gRet (fe : FE) : FS := fun ρ S => (fe ρ S).into ρ fun d S => .rt d S
theorem ds_ret (he : DE X W e fe) : DS X W (.Return (some e) pos) (gRet fe) := by
  obtain ⟨t, p, q⟩ := he.ex
  exact .mk (ps_ret p) fun Z φ S ρ σ H Dd R sl w => q Z φ S ρ σ H _ R sl (w.into sl fun d S1 v φ1 H1 R1 E1 dd w1 => w1 v φ1 H1 R1 Evo.refl dd)
def gIf (c : FT) (g g' : FS) : FS := fun ρ S => (c ρ S).into ρ fun k S => if k then g ρ S else g' ρ S
theorem ds_if {c : Expr} {fc : FT} {a b : List Stmt} (hc : DT X W c fc) (ha : DSs X W a g) (hb : DSs X W b g') : DS X W (.If c a b pos) (gIf fc g g') := by
  obtain ⟨t, p, q⟩ := hc.ex
  obtain ⟨ta, pa, qa⟩ := ha.ex
  obtain ⟨tb, pb, qb⟩ := hb.ex
  refine .mk (ps_if p pa pb) fun Z φ S ρ σ H Dd R sl w => q Z φ S ρ σ H _ R sl (w.into sl fun k S1 k' φ1 H1 R1 E1 e w1 => ?_)
  cases e
  cases k with
  | true => exact iteT (qa Z φ1 S1 ρ σ H1 Dd R1 (sl.evo E1) w1)
  | false => exact iteF (qb Z φ1 S1 ρ σ H1 Dd R1 (sl.evo E1) w1)
/-- name = value -/
def gSet (i : Nat) (fe : FE) : FS := fun ρ S => (fe ρ S).into ρ fun d S => .nx (ρ.set i (some d)) S
theorem ds_setP {i : Nat} {x : Str} {pos' : Pos} (hp : ∀ t, PE X e t → PS X (.Assign [.Name x pos'] e pos) (tAsg t (L2.gName i))) (he : DE X W e fe) : DS X W (.Assign [.Name x pos'] e pos) (gSet i fe) := by
  obtain ⟨t, p, q⟩ := he.ex
  exact .mk (hp _ p) fun Z φ S ρ σ H Dd R sl w => q Z φ S ρ σ H _ R sl (w.into sl fun d S1 v φ1 H1 R1 E1 dd w1 => w1 _ φ1 H1 R1 Evo.refl ((sl.evo E1).set dd))
theorem ds_set (C : Cn X W k) {i : Nat} {x : Str} {pos' : Pos} (hi : X.N[i]? = some x) (hx : Loc X.env.scope x) (he : DE X W e fe) (hs : swapsWith e (some (.Name x pos')) pos.line X.env = pure false := by rfl)
    (hf : X.fn x = true ∨ X.env.scope.names.lookup x = some .local := by first | exact .inl rfl | exact .inr rfl) : DS X W (.Assign [.Name x pos'] e pos) (gSet i fe) :=
  ds_setP (fun _ p => ps_set C.nd hi hx p hs hf) he
/-- target = value -/
def gAsg (m : FG) (fe : FE) : FS := fun ρ S => (fe ρ S).into ρ fun d S => match m d ρ S with
  | some ρ => .nx ρ S
  | none => .stuck
theorem ds_asg {tg : Expr} {is : List Nat} {m : FG} (he : DE X W e fe) (hg : DG X tg is m) (hs : swapsWithSole [tg] e pos.line X.env = pure false := by rfl) (hw : swappedStores [tg] e X.env = pure none := by rfl)
    (h1 : (assignEach [tg] X.env).map (·.2) = [assign tg X.env] := by rfl) : DS X W (.Assign [tg] e pos) (gAsg m fe) := by
  obtain ⟨t, p, q⟩ := he.ex
  refine .mk (ps_asg p hg hs hw h1) fun Z φ S ρ σ H Dd R sl w => q Z φ S ρ σ H _ R sl (w.into sl fun d S1 v φ1 H1 R1 E1 dd w1 => ?_)
  cases hm : m d ρ S1 with
  | none => rw [hm] at w1; exact w1.elim
  | some ρ1 =>
    rw [hm] at w1
    exact ⟨Z, φ1, S1, ρ, d, ρ1, R1, sl.evo E1, dd, hm, fun σ1 sl1 _ => w1 σ1 φ1 H1 R1 Evo.refl sl1⟩

/-! loops -/
open Classical in
noncomputable def loopF (c : Option (D × List D)) (m : FG) (body : FS) : List D → EnvD → Store → Out
  | [], ρ, S => if okC c S then .nx ρ S else .stuck
  | d :: ds, ρ, S => if okC c S then (match m d ρ S with
    | some ρ => (match body ρ S with
      | .nx ρ S => loopF c m body ds ρ S
      | .ct ρ S => loopF c m body ds ρ S
      | .bk ρ S => .nx ρ S
      | o => o)
    | none => .stuck) else .stuck
noncomputable def gFor (fi : FI) (m : FG) (body : FS) : FS := fun ρ S => (fi ρ S).into ρ fun it S => loopF it.chk m body it.items ρ S
theorem WantS.intoI {Z φ : List Addr} {S : Store} {H : Hp} {Dd : Ends} {r : Res ItD} {ρ : EnvD} {σ : L2.St} {k : ItD → Store → Out} {Q1 : It → Hp → Prop} (sl : Slots X.K X.mg φ (gnd Z φ S H) ρ σ) (h : WantS X W Z φ S H (r.into ρ k) Dd)
    (f : ∀ it S1 J φ1 H1, Rel X.K X.mg Z φ1 S1 H1 → Evo Z φ S H φ1 S1 H1 → RI X.K X.mg Z φ1 S1 H1 it J → WantS X W Z φ1 S1 H1 (k it S1) Dd → Q1 J H1) : WantI X.K X.mg Z φ S H r Q1 (WE W σ) := by
  cases r with
  | ok a S1 => exact fun b φ1 H1 r1 e1 d => f a S1 b φ1 H1 r1 e1 d (h.go e1)
  | ex C fs S1 => exact fun A dx φ1 H1 m r1 e1 d => h A dx σ φ1 H1 m r1 e1 (sl.evo e1) d
  | stuck => exact h
theorem ds_for (C : Cn X W k) {tg iter : Expr} {body : List Stmt} {fi : FI} {is : List Nat} {m : FG} (hi : DI X W tg iter fi) (hg : DG X tg is m) (hb : DSs X W body g) (hs : ∀ x, foldedSetIterable iter X.env x = pure x := by intro _; rfl) :
    DS X W (.For tg iter body [] pos) (gFor fi m g) := by
  obtain ⟨tb, pb, qb⟩ := hb.ex
  refine .mk (ps_for C.po C.calm hi hg pb hs) fun Z φ S ρ σ H Dd R sl w => DI.is Z φ S ρ σ H _ R sl (w.intoI sl fun it S1 J φ1 H1 R1 E1 rj w1 => ?_)
  refine ⟨fun i n σ' H' => n = it.items.length - i ∧ i ≤ it.items.length ∧ ∃ φ' S' ρ', Rel X.K X.mg Z φ' S' H' ∧ Evo Z φ1 S1 H1 φ' S' H' ∧ Slots X.K X.mg φ' (gnd Z φ' S' H') ρ' σ' ∧ WantS X W Z φ' S' H' (loopF it.chk m g (it.items.drop i) ρ' S') Dd,
    ⟨_, rfl, Nat.zero_le _, φ1, S1, ρ, R1, Evo.refl, sl.evo E1, w1⟩, ?_⟩
  rintro i n σ2 H2 ⟨rfl, hle, φ2, S2, ρ2, R2, E2, sl2, w2⟩
  by_cases hlt : i < it.items.length
  · obtain ⟨d, hd⟩ : ∃ d, it.items[i]? = some d := ⟨_, List.getElem?_eq_getElem hlt⟩
    have hdr : it.items.drop i = d :: it.items.drop (i + 1) := by
      rw [List.drop_eq_getElem_cons hlt]
      congr 1
      rw [List.getElem?_eq_getElem hlt] at hd
      exact Option.some.inj hd
    rw [hdr] at w2
    unfold loopF at w2
    by_cases hc : okC it.chk S2
    · rw [if_pos hc] at w2
      have rr := (rj i Z φ2 S2 H2 (fun _ h => h) R2 E2.pre E2.ext hc).1 d hd
      refine .inr ⟨rr.1, fun σ' H' => ∃ φ' S' ρ', Rel X.K X.mg Z φ' S' H' ∧ Evo Z φ1 S1 H1 φ' S' H' ∧ Slots X.K X.mg φ' (gnd Z φ' S' H') ρ' σ' ∧ WantS X W Z φ' S' H' (loopF it.chk m g (it.items.drop (i + 1)) ρ' S') Dd, fun σ' H' hN => ⟨_, by omega, rfl, hlt, hN⟩, fun x H3 y => ?_⟩
      obtain ⟨R3, E3, d3⟩ := rr.2 x H3 y
      cases hm : m d ρ2 S2 with
      | none => rw [hm] at w2; exact w2.elim
      | some ρ3 =>
        rw [hm] at w2
        refine ⟨Z, φ2, S2, ρ2, d, ρ3, R3, sl2.evo E3, d3, hm, fun σ3 sl3 _ => qb Z φ2 S2 ρ3 σ3 H3 _ R3 sl3 ?_⟩
        have w3 := w2.go E3
        cases hr : g ρ3 S2 with
        | nx ρ4 S4 =>
          simp only [hr] at w3
          exact fun σ4 φ4 H4 R4 E4 sl4 => ⟨φ4, S4, ρ4, R4, (E2.trans E3).trans E4, sl4, w3.go E4⟩
        | ct ρ4 S4 =>
          simp only [hr] at w3
          exact fun σ4 φ4 H4 R4 E4 sl4 => ⟨φ4, S4, ρ4, R4, (E2.trans E3).trans E4, sl4, w3.go E4⟩
        | bk ρ4 S4 =>
          simp only [hr] at w3
          exact w3
        | rt d4 S4 =>
          simp only [hr] at w3
          exact w3
        | ex C4 fs4 ρ4 S4 =>
          simp only [hr] at w3
          exact w3
        | stuck =>
          simp only [hr] at w3
          exact w3.elim
    · rw [if_neg hc] at w2
      exact w2.elim
  · have e : i = it.items.length := by omega
    subst e
    rw [List.drop_length] at w2
    unfold loopF at w2
    by_cases hc : okC it.chk S2
    · rw [if_pos hc] at w2
      exact .inl ⟨(rj _ Z φ2 S2 H2 (fun _ h => h) R2 E2.pre E2.ext hc).2 (Nat.le_refl _), w2 σ2 φ2 H2 R2 Evo.refl sl2⟩
    · rw [if_neg hc] at w2
      exact w2.elim
end
end DL

/-! The data layer, part 5: comprehensions; defs, their calls; the law's end. -/
namespace DL
open PySem L2

def Res.noEx {α : Type} (r : Res α) : Res α := match r with
  | .ok a S => .ok a S
  | _ => .stuck
@[simp] theorem Res.noEx_ok {α : Type} (a : α) (S : Store) : (Res.ok a S).noEx = .ok a S := rfl
section
variable {K : PySem.W.Frag} {mg : Str → Option Value} {Z φ φ1 φ' φ2 : List Addr} {S S1 S' S2 : Store} {H H1 H' H2 : Hp} {p : Addr}
/-! hidden addresses -/
theorem gnd_hide : Same (gnd (p :: Z) φ S H) (gnd Z φ S H) := fun a o h => by
  obtain ⟨h1, h2⟩ := without_some.mp h
  exact without_some.mpr ⟨fun q => h1 (List.mem_cons_of_mem _ q), h2⟩
theorem Evo.hideExt (e : Evo Z φ1 S1 H1 φ S H) (hp : H1 p = none) : Same (gnd Z φ1 S1 H1) (gnd (p :: Z) φ S H) := fun a o h => by
  have q := (without_some.mp h).2
  obtain ⟨h1, h2⟩ := without_some.mp (e.ext a o h)
  refine without_some.mpr ⟨fun z => ?_, h2⟩
  rcases List.mem_cons.mp z with z | z
  · rw [z, hp] at q
    cases q
  · exact h1 z
theorem Evo.hide (e : Evo Z φ1 S1 H1 φ S H) (hp : H1 p = none) (f : Evo (p :: Z) φ S H φ2 S2 H2) : Evo Z φ1 S1 H1 φ2 S2 H2 := by
  refine ⟨e.pre.trans f.pre, ((e.hideExt hp).trans f.ext).trans gnd_hide, fun c o h n => ?_, fun c h hn => ?_⟩
  · exact f.out c o (e.out c o h n) fun q => n (e.lv c q (by rw [h]; exact fun z => nomatch z))
  · by_cases q : c ∈ liveA φ1 S1
    · exact q
    · obtain ⟨o, ho⟩ := Option.ne_none_iff_exists'.mp hn
      exact e.lv c (f.lv c h (by rw [e.out c o ho q]; exact fun z => nomatch z)) hn
theorem Rel.unhide (R : Rel K mg (p :: Z) φ S H) : Rel K mg Z φ S H :=
  ⟨R.len, R.nd, fun a h q => R.zd a h (List.mem_cons_of_mem _ q), fun a h => R.zh a (List.mem_cons_of_mem _ h), R.ph, fun n a o h1 h2 => (R.ob n a o h1 h2).mono (List.prefix_refl _) gnd_hide fun _ z => z⟩
/-- a new object is hidden -/
theorem Rel.hidden (R : Rel K mg Z φ S H) (hp : H p = none) {o : HO} : Rel K mg (p :: Z) φ S (upd H p o) := by
  obtain ⟨r, e, g⟩ := R.fresh (o := o) hp
  have pφ : p ∉ φ := fun q => R.ph p q hp
  have eg : gnd (p :: Z) φ S (upd H p o) = gnd Z φ S H := by
    funext a
    by_cases ha : a = p
    · subst ha
      have h1 : gnd (a :: Z) φ S (upd H a o) a = none := by
        unfold gnd without
        rw [if_pos (List.mem_append_left _ List.mem_cons_self)]
      have h2 : gnd Z φ S H a = none := by
        unfold gnd without
        rw [hp]
        split <;> rfl
      rw [h1, h2]
    · unfold gnd without
      rw [upd_ne ha]
      by_cases hq : a ∈ Z ++ liveA φ S
      · rw [if_pos hq, if_pos (by rw [List.cons_append]; exact List.mem_cons_of_mem _ hq)]
      · rw [if_neg hq, if_neg (by rw [List.cons_append]; exact fun z => (List.mem_cons.mp z).elim ha hq)]
  refine ⟨R.len, R.nd, fun a h q => ?_, fun a h => ?_, r.ph, fun n a u h1 h2 => ?_⟩
  · rcases List.mem_cons.mp q with z | z
    · rw [z] at h
      exact pφ h
    · exact R.zd a h z
  · rcases List.mem_cons.mp h with z | z
    · rw [z, upd_same]
      exact fun q => nomatch q
    · exact r.zh a z
  · rw [eg]
    refine (R.ob n a u h1 h2).mono (List.prefix_refl _) (Same.refl _) fun ob z => ?_
    rw [upd_ne (ne_of_none z hp)]
    exact z
/-- a hidden object changes -/
theorem Rel.hidMut (R : Rel K mg (p :: Z) φ S H) {o : HO} : Rel K mg (p :: Z) φ S (upd H p o) ∧ gnd (p :: Z) φ S (upd H p o) = gnd (p :: Z) φ S H := by
  have eg : gnd (p :: Z) φ S (upd H p o) = gnd (p :: Z) φ S H := by
    funext a
    unfold gnd without
    by_cases ha : a = p
    · rw [ha, if_pos (List.mem_append_left _ List.mem_cons_self), if_pos (List.mem_append_left _ List.mem_cons_self)]
    · rw [upd_ne ha]
  have some_of : ∀ b, H b ≠ none → upd H p o b ≠ none := fun b h => by
    by_cases hb : b = p
    · subst hb
      rw [upd_same]
      exact fun z => nomatch z
    · rw [upd_ne hb]
      exact h
  refine ⟨⟨R.len, R.nd, R.zd, fun b h => some_of b (R.zh b h), fun b h => some_of b (R.ph b h), fun n a u h1 h2 => ?_⟩, eg⟩
  rw [eg]
  refine (R.ob n a u h1 h2).mono (List.prefix_refl _) (Same.refl _) fun ob z => ?_
  rw [upd_ne]
  · exact z
  · intro q
    rw [q] at h1
    exact R.zd p (List.mem_of_getElem? h1) List.mem_cons_self
theorem Evo.hidMut (e : Evo Z φ1 S1 H1 φ S H) (hp : H1 p = none) {o : HO} : Evo Z φ1 S1 H1 φ S (upd H p o) := by
  refine ⟨e.pre, fun a u h => ?_, fun a u h n => ?_, e.lv⟩
  · have q := (without_some.mp h).2
    obtain ⟨h1, h2⟩ := without_some.mp (e.ext a u h)
    refine without_some.mpr ⟨h1, ?_⟩
    rw [upd_ne (ne_of_none q hp)]
    exact h2
  · rw [upd_ne (ne_of_none h hp)]
    exact e.out a u h n
/-- the hidden list becomes an object of the store -/
theorem Rel.shown (R : Rel K mg (p :: Z) φ S H) (pZ : p ∉ Z) {ds : List D} {vs : List V} (hp : H p = some (.lst vs)) (hd : DatL K mg φ (gnd (p :: Z) φ S H) ds vs) :
    Rel K mg Z (φ ++ [p]) (S ++ [.lst ds]) H ∧ gnd Z (φ ++ [p]) (S ++ [.lst ds]) H = gnd (p :: Z) φ S H := by
  have pφ : p ∉ φ := fun q => R.zd p q List.mem_cons_self
  have lv : liveA (φ ++ [p]) (S ++ [.lst ds]) = liveA φ S ++ [p] := by rw [liveA_snoc R.len]; rfl
  have eg : gnd Z (φ ++ [p]) (S ++ [.lst ds]) H = gnd (p :: Z) φ S H := by
    funext a
    unfold gnd without
    rw [lv]
    by_cases q : a ∈ p :: Z ++ liveA φ S
    · rw [if_pos q, if_pos]
      rw [List.cons_append] at q
      rcases List.mem_cons.mp q with z | z
      · exact List.mem_append_right _ (List.mem_append_right _ (by rw [z]; exact List.mem_singleton.mpr rfl))
      · rcases List.mem_append.mp z with z | z
        · exact List.mem_append_left _ z
        · exact List.mem_append_right _ (List.mem_append_left _ z)
    · rw [if_neg q, if_neg]
      intro z
      refine q ?_
      rw [List.cons_append]
      rcases List.mem_append.mp z with z | z
      · exact List.mem_cons_of_mem _ (List.mem_append_left _ z)
      · rcases List.mem_append.mp z with z | z
        · exact List.mem_cons_of_mem _ (List.mem_append_right _ z)
        · rw [List.mem_singleton.mp z]
          exact List.mem_cons_self
  refine ⟨⟨by rw [List.length_append, List.length_append, R.len]; rfl, List.nodup_append.mpr ⟨R.nd, by simp, fun a ha b hb => ?_⟩, fun a ha q => ?_, fun a h => R.zh a (List.mem_cons_of_mem _ h), fun a ha => ?_, fun n a o h1 h2 => ?_⟩, eg⟩
  · rw [List.mem_singleton.mp hb]
    intro z
    rw [z] at ha
    exact pφ ha
  · rcases List.mem_append.mp ha with z | z
    · exact R.zd a z (List.mem_cons_of_mem _ q)
    · rw [List.mem_singleton.mp z] at q
      exact pZ q
  · rcases List.mem_append.mp ha with z | z
    · exact R.ph a z
    · rw [List.mem_singleton.mp z, hp]
      exact fun q => nomatch q
  · rw [eg]
    by_cases hlt : n < φ.length
    · rw [List.getElem?_append_left hlt] at h1
      rw [List.getElem?_append_left (by rw [← R.len]; exact hlt)] at h2
      exact (R.ob n a o h1 h2).mono ⟨[p], rfl⟩ (Same.refl _) fun _ z => z
    · have hlt' : φ.length ≤ n := Nat.le_of_not_lt hlt
      rw [List.getElem?_append_right hlt'] at h1
      rw [List.getElem?_append_right (by rw [← R.len]; exact hlt')] at h2
      have e0 : n - φ.length = 0 := by
        have := (List.getElem?_eq_some_iff.mp h1).1
        simp only [List.length_singleton] at this
        omega
      rw [← R.len] at h2
      rw [e0] at h1 h2
      cases h1
      cases h2
      exact ⟨vs, hp, DatL.mono ⟨[p], rfl⟩ (Same.refl _) _ _ hd⟩
end

/-! ### comprehensions -/
open Classical in
noncomputable def compF (c : Option (D × List D)) (m : FG) (ft : FT) (fe : FE) : List D → EnvD → Store → Res (List D)
  | [], _, S => if okC c S then .ok [] S else .stuck
  | d :: ds, ρ, S => if okC c S then (match m d ρ S with
    | some ρ1 => (ft ρ1 S).noEx.bind fun b S => if b then (fe ρ1 S).noEx.bind fun y S => (compF c m ft fe ds ρ S).bind fun ys S => .ok (y :: ys) S else compF c m ft fe ds ρ S
    | none => .stuck) else .stuck
def wipeD (ρ : EnvD) : List Nat → EnvD
  | [] => ρ
  | v :: vs => (wipeD ρ vs).set v none
theorem slots_wipe {K : PySem.W.Frag} {mg : Str → Option Value} {φ : List Addr} {G : Hp} {ρ : EnvD} {σ : L2.St} (h : Slots K mg φ G ρ σ) : ∀ vs : List Nat, Slots K mg φ G (wipeD ρ vs) (wipe σ vs)
  | [] => h
  | v :: vs => by
    obtain ⟨a, b⟩ := slots_wipe h vs
    unfold wipeD wipe
    refine ⟨by rw [List.length_set, List.length_set, a], fun i d q => ?_⟩
    by_cases hi : v = i
    · subst hi
      have hl := (List.getElem?_eq_some_iff.mp q).1
      rw [List.length_set] at hl
      rw [List.getElem?_set_self hl] at q
      cases q
    · rw [List.getElem?_set_ne hi] at q
      obtain ⟨u, h1, h2⟩ := b i d q
      exact ⟨u, by rw [List.getElem?_set_ne hi]; exact h1, h2⟩
abbrev Fin' := List D → Store → Res D
noncomputable def fComp (fi : FI) (m : FG) (ft : FT) (fe : FE) (own : List Nat) (fin : Fin') : FE := fun ρ S => (fi ρ S).bind fun it S => (compF it.chk m ft fe it.items (wipeD ρ own) S).bind fin
def finL : Fin' := fun ds S => if short ds.length then .ok (.lst ds) S else .stuck
def finO : Fin' := fun ds S => if short ds.length then .ok (.oid S.length) (S ++ [.lst ds]) else .stuck
/-- what an end must be -/
def FinOk (fin : Fin') : Prop := (∀ ds S, fin ds S ≠ .stuck → ds.length ≤ sizeLine) ∧ ∀ (K : PySem.W.Frag) (mg : Str → Option Value) (Z φ1 φ : List Addr) (S1 S : Store) (H1 H : Hp) (p : Addr) (ds : List D) (vs : List V) (Q : VK) (E : XK),
  Rel K mg (p :: Z) φ S H → Evo Z φ1 S1 H1 φ S H → H1 p = none → p ∉ Z → H p = some (.lst vs) → DatL K mg φ (gnd (p :: Z) φ S H) ds vs → Want K mg (RDat K mg) Z φ1 S1 H1 (fin ds S) Q E → Q (.ref p) H
theorem finL_ok : FinOk finL := by
  refine ⟨fun ds S h => ?_, fun K mg Z φ1 φ S1 S H1 H p ds vs Q E R e hp pZ hH hd w => ?_⟩
  · unfold finL at h
    by_cases q : short ds.length = true
    · exact of_decide_eq_true q
    · rw [if_neg q] at h
      exact absurd rfl h
  · unfold finL at w
    by_cases q : short ds.length = true
    · rw [if_pos q] at w
      refine w _ φ H R.unhide e ?_
      unfold RDat Dat
      refine ⟨p, vs, rfl, without_some.mpr ⟨fun z => ?_, hH⟩, DatL.mono (List.prefix_refl _) gnd_hide _ _ hd⟩
      rcases List.mem_append.mp z with z | z
      · exact pZ z
      · exact R.zd p (liveA_sub z) List.mem_cons_self
    · rw [if_neg q] at w
      exact w.elim
theorem finO_ok : FinOk finO := by
  refine ⟨fun ds S h => ?_, fun K mg Z φ1 φ S1 S H1 H p ds vs Q E R e hp pZ hH hd w => ?_⟩
  · unfold finO at h
    by_cases q : short ds.length = true
    · exact of_decide_eq_true q
    · rw [if_neg q] at h
      exact absurd rfl h
  · unfold finO at w
    by_cases q : short ds.length = true
    · rw [if_pos q] at w
      obtain ⟨r, eg⟩ := R.shown pZ hH hd
      refine w _ (φ ++ [p]) H r ⟨e.pre.trans ⟨[p], rfl⟩, by rw [eg]; exact e.hideExt hp, e.out, fun a h hn => ?_⟩ ?_
      · rw [liveA_snoc R.len] at h
        rcases List.mem_append.mp h with z | z
        · exact e.lv a z hn
        · have z' : a ∈ [p] := z
          rw [List.mem_singleton.mp z'] at hn
          exact absurd hp hn
      · unfold RDat Dat
        exact ⟨p, rfl, by rw [List.getElem?_append_right (by rw [R.len]; exact Nat.le_refl _), ← R.len, Nat.sub_self]; rfl⟩
    · rw [if_neg q] at w
      exact w.elim
section
variable {X : Cx} {W : WX} {k : Nat}
theorem Want.noEx {α β : Type} {Z φ : List Addr} {S : Store} {H : Hp} {R : List Addr → Hp → α → β → Prop} {r : Res α} {Q : β → Hp → Prop} {E : XK} (hn : r.noEx ≠ .stuck)
    (f : ∀ a S1 b φ1 H1, r = .ok a S1 → Rel X.K X.mg Z φ1 S1 H1 → Evo Z φ S H φ1 S1 H1 → R φ1 (gnd Z φ1 S1 H1) a b → Q b H1) : Want X.K X.mg R Z φ S H r Q E := by
  cases r with
  | ok a S1 => exact fun b φ1 H1 r1 e1 d => f a S1 b φ1 H1 rfl r1 e1 d
  | _ => exact absurd rfl hn
theorem isE_lc {fi : FI} {is : List Nat} {m : FG} {ft : FT} {fe : FE} {own : List Nat} {fin : Fin'} (hf : FinOk fin) (hio : ∀ i ∈ is, i ∈ own) :
    IsE X W (tLc (tDI X.K X.mg W fi) (tG X.K X.mg is m) (tDT X.K X.mg W0 ft) (tD X.K X.mg W0 fe) own) (fComp fi m ft fe own fin) := fun Z φ S ρ σ H Q R sl w => by
  have wi : WantI X.K X.mg Z φ S H (fi ρ S) (fun J H1 => ∀ D, H1 D = none → ∃ W : Nat → Nat → Hp → Prop, (∃ m, W 0 m (upd H1 D (.lst []))) ∧ ∀ i mm H, W i mm H →
      (J.stop i H ∧ Q (.ref D) H) ∨ (J.go i H ∧ ∃ Nx : Hp → Prop, (∀ H', Nx H' → ∃ m', m' < mm ∧ W (i + 1) m' H') ∧ ∀ x H', J.yld i H x H' → tG X.K X.mg is m x (wipe σ own) H' fun σ2 H2 => wipe σ2 own = wipe σ own ∧ tDT X.K X.mg W0 ft σ2 H2 fun b H3 =>
        if b = true then tD X.K X.mg W0 fe σ2 H3 fun y H4 => ∃ acc, H4 D = some (.lst acc) ∧ acc.length < sizeLine ∧ Nx (upd H4 D (.lst (acc ++ [y]))) else Nx H3)) (WE W σ) := by
    have aux : ∀ it S1 J φ1 H1, Rel X.K X.mg Z φ1 S1 H1 → Evo Z φ S H φ1 S1 H1 → RI X.K X.mg Z φ1 S1 H1 it J → Want X.K X.mg (RDat X.K X.mg) Z φ1 S1 H1 ((compF it.chk m ft fe it.items (wipeD ρ own) S1).bind fin) Q (WE W σ) →
        ∀ D, H1 D = none → ∃ W : Nat → Nat → Hp → Prop, (∃ m, W 0 m (upd H1 D (.lst []))) ∧ ∀ i mm H, W i mm H →
      (J.stop i H ∧ Q (.ref D) H) ∨ (J.go i H ∧ ∃ Nx : Hp → Prop, (∀ H', Nx H' → ∃ m', m' < mm ∧ W (i + 1) m' H') ∧ ∀ x H', J.yld i H x H' → tG X.K X.mg is m x (wipe σ own) H' fun σ2 H2 => wipe σ2 own = wipe σ own ∧ tDT X.K X.mg W0 ft σ2 H2 fun b H3 =>
        if b = true then tD X.K X.mg W0 fe σ2 H3 fun y H4 => ∃ acc, H4 D = some (.lst acc) ∧ acc.length < sizeLine ∧ Nx (upd H4 D (.lst (acc ++ [y]))) else Nx H3) := by
      intro it S1 J φ1 H1 R1 E1 rj w1 p hp
      have pZ : p ∉ Z := fun q => R1.zh p q hp
      let Inv' : Nat → Hp → Prop := fun i H' => ∃ φ' S' acc vs, Rel X.K X.mg (p :: Z) φ' S' H' ∧ Evo Z φ1 S1 H1 φ' S' H' ∧ H' p = some (.lst vs) ∧ DatL X.K X.mg φ' (gnd (p :: Z) φ' S' H') acc vs ∧
        Want X.K X.mg (RDat X.K X.mg) Z φ1 S1 H1 ((compF it.chk m ft fe (it.items.drop i) (wipeD ρ own) S').bind fun ys S => fin (acc ++ ys) S) Q (WE W σ)
      refine ⟨fun i n H' => n = it.items.length - i ∧ i ≤ it.items.length ∧ Inv' i H', ⟨_, rfl, Nat.zero_le _, φ1, S1, [], [], R1.hidden hp, ?_, upd_same, DatL.nil, w1⟩, ?_⟩
      · exact (Evo.refl (Z := Z) (φ := φ1) (S := S1) (H := H1)).hidMut hp
      rintro i n H2 ⟨rfl, hle, φ2, S2, acc, vs, R2, E2, hH2, dv, w2⟩
      have slw : Slots X.K X.mg φ2 (gnd (p :: Z) φ2 S2 H2) (wipeD ρ own) (wipe σ own) := by
        refine slots_wipe ⟨sl.1, fun j d q => ?_⟩ own
        obtain ⟨u, h1, h2⟩ := sl.2 j d q
        exact ⟨u, h1, Dat.mono (E1.pre.trans E2.pre) (E1.ext.trans (E2.hideExt hp)) _ _ h2⟩
      by_cases hlt : i < it.items.length
      · obtain ⟨d, hd⟩ : ∃ d, it.items[i]? = some d := ⟨_, List.getElem?_eq_getElem hlt⟩
        have hdr : it.items.drop i = d :: it.items.drop (i + 1) := by
          rw [List.drop_eq_getElem_cons hlt]
          congr 1
          rw [List.getElem?_eq_getElem hlt] at hd
          exact Option.some.inj hd
        rw [hdr] at w2
        unfold compF at w2
        by_cases hc : okC it.chk S2
        · rw [if_pos hc] at w2
          have rr := (rj i (p :: Z) φ2 S2 H2 (fun _ h => List.mem_cons_of_mem _ h) R2 E2.pre (E2.hideExt hp) hc).1 d hd
          refine .inr ⟨rr.1, Inv' (i + 1), fun H' hN => ⟨_, by omega, rfl, hlt, hN⟩, fun x H3 y => ?_⟩
          obtain ⟨R3, E3, d3⟩ := rr.2 x H3 y
          cases hm : m d (wipeD ρ own) S2 with
          | none => rw [hm] at w2; exact w2.elim
          | some ρ3 =>
            simp only [hm] at w2
            refine ⟨p :: Z, φ2, S2, wipeD ρ own, d, ρ3, R3, slw.evo E3, d3, hm, fun σ3 sl3 hw => ⟨?_, p :: Z, φ2, S2, ρ3, R3, sl3, ?_⟩⟩
            · rw [hw own hio]
              have ww : ∀ vs : List Nat, (∀ i ∈ vs, i ∈ own) → wipe (wipe σ own) vs = wipe σ own := by
                intro vs
                induction vs with
                | nil => intro _; rfl
                | cons v vs ih =>
                  intro hv
                  show (wipe (wipe σ own) vs).set v none = wipe σ own
                  rw [ih fun i hi => hv i (List.mem_cons_of_mem _ hi)]
                  have hv' := hv v List.mem_cons_self
                  have gen : ∀ own : List Nat, v ∈ own → (wipe σ own).set v none = wipe σ own := by
                    intro own
                    induction own with
                    | nil => intro h; simp at h
                    | cons u us ih2 =>
                      intro h
                      unfold wipe
                      by_cases hu : v = u
                      · subst hu
                        rw [List.set_set]
                      · rw [List.set_comm _ _ (fun z => hu z.symm), ih2 ((List.mem_cons.mp h).resolve_left hu)]
                  exact gen own hv'
              exact ww own fun _ h => h
            have ev2 : Evo Z φ1 S1 H1 φ2 S2 H3 := E2.hide hp E3
            have stuckT : (ft ρ3 S2).noEx ≠ .stuck := fun z => by
              rw [z] at w2
              exact w2
            refine Want.noEx stuckT fun b S4 b' φ4 H4 hb R4 E4 eb => ?_
            cases eb
            rw [hb] at w2
            simp only [Res.noEx_ok, Res.bind_ok] at w2
            have ev4 := ev2.hide hp E4
            have hp3 : H3 p = some (.lst vs) := E3.out p _ hH2 fun q => R2.zd p (liveA_sub q) List.mem_cons_self
            have hp4 : H4 p = some (.lst vs) := E4.out p _ hp3 fun q => R3.zd p (liveA_sub q) List.mem_cons_self
            have dv4 := DatL.evo E4 (DatL.evo E3 dv)
            cases b with
            | false =>
              exact iteF ⟨φ4, S4, acc, vs, R4, ev4, hp4, dv4, w2⟩
            | true =>
              simp only [if_true] at w2
              refine iteT ⟨p :: Z, φ4, S4, ρ3, R4, sl3.evo E4, ?_⟩
              have stuckE : (fe ρ3 S4).noEx ≠ .stuck := fun z => by
                rw [z] at w2
                exact w2
              refine Want.noEx stuckE fun yd S5 yv φ5 H5 hy R5 E5 dy => ?_
              rw [hy] at w2
              simp only [Res.noEx_ok, Res.bind_ok] at w2
              have hp5 : H5 p = some (.lst vs) := E5.out p _ hp4 fun q => R4.zd p (liveA_sub q) List.mem_cons_self
              have dv5 := DatL.evo E5 dv4
              obtain ⟨R6, eg⟩ := R5.hidMut (o := .lst (vs ++ [yv]))
              have w3 : Want X.K X.mg (RDat X.K X.mg) Z φ1 S1 H1 ((compF it.chk m ft fe (it.items.drop (i + 1)) (wipeD ρ own) S5).bind fun ys S => fin ((acc ++ [yd]) ++ ys) S) Q (WE W σ) := by
                cases hq : compF it.chk m ft fe (it.items.drop (i + 1)) (wipeD ρ own) S5 with
                | ok ys S7 =>
                  rw [hq] at w2
                  simp only [Res.bind_ok] at w2 ⊢
                  rw [List.append_assoc]
                  exact w2
                | _ => rw [hq] at w2; exact w2
              refine ⟨vs, hp5, ?_, φ5, S5, acc ++ [yd], vs ++ [yv], R6, (ev4.hide hp E5).hidMut hp, upd_same, by rw [eg]; exact dv5.append (.cons dy DatL.nil), w3⟩
              cases hq : compF it.chk m ft fe (it.items.drop (i + 1)) (wipeD ρ own) S5 with
              | ok ys S7 =>
                rw [hq] at w3
                have ns : fin ((acc ++ [yd]) ++ ys) S7 ≠ .stuck := fun z => by
                  simp only [Res.bind_ok, z] at w3
                  exact w3
                have hl := hf.1 _ _ ns
                rw [dv5.length]
                simp only [List.length_append, List.length_singleton] at hl
                omega
              | ex C fs S7 =>
                exfalso
                have : ∀ (ds : List D) (ρ : EnvD) (S : Store) C fs S', compF it.chk m ft fe ds ρ S ≠ .ex C fs S' := by
                  intro ds
                  induction ds with
                  | nil =>
                    intro ρ S C fs S' z
                    unfold compF at z
                    split at z <;> cases z
                  | cons d ds ih =>
                    intro ρ S C fs S' z
                    unfold compF at z
                    split at z
                    · split at z
                      · rename_i ρ1 _
                        cases h1 : ft ρ1 S with
                        | ok b S2 =>
                          rw [h1] at z
                          simp only [Res.noEx_ok, Res.bind_ok] at z
                          cases b with
                          | false => exact ih _ _ _ _ _ z
                          | true =>
                            simp only [if_true] at z
                            cases h2 : fe ρ1 S2 with
                            | ok y S3 =>
                              rw [h2] at z
                              simp only [Res.noEx_ok, Res.bind_ok] at z
                              cases h3 : compF it.chk m ft fe ds ρ S3 with
                              | ex _ _ _ => exact ih _ _ _ _ _ h3
                              | _ => rw [h3] at z; cases z
                            | _ => rw [h2] at z; cases z
                        | _ => rw [h1] at z; cases z
                      · cases z
                    · cases z
                exact this _ _ _ _ _ _ hq
              | stuck =>
                rw [hq] at w3
                exact w3.elim
        · rw [if_neg hc] at w2
          exact w2.elim
      · have e : i = it.items.length := by omega
        subst e
        rw [List.drop_length] at w2
        unfold compF at w2
        by_cases hc : okC it.chk S2
        · rw [if_pos hc] at w2
          simp only [Res.bind_ok, List.append_nil] at w2
          exact .inl ⟨(rj _ (p :: Z) φ2 S2 H2 (fun _ h => List.mem_cons_of_mem _ h) R2 E2.pre (E2.hideExt hp) hc).2 (Nat.le_refl _), hf.2 X.K X.mg Z φ1 φ2 S1 S2 H1 H2 p acc vs Q _ R2 E2 hp pZ hH2 dv w2⟩
        · rw [if_neg hc] at w2
          exact w2.elim
    unfold fComp at w
    cases hr : fi ρ S with
    | ok it S1 =>
      rw [hr] at w
      exact fun J φ1 H1 R1 E1 rj => aux it S1 J φ1 H1 R1 E1 rj (w.go E1)
    | ex C fs S1 => rw [hr] at w; exact w
    | stuck => rw [hr] at w; exact w
  exact ⟨Z, φ, S, ρ, R, sl, wi⟩

/-! tests of a comprehension -/
def DTs (X : Cx) (W : WX) (ifs : List Expr) (ft : FT) : Prop := PTs X ifs (tDT X.K X.mg W ft)
def fYes : FT := fun _ S => .ok true S
theorem dts_nil : DTs X W [] fYes := ⟨fun pins s σ H Q I h => by
  obtain ⟨Z, φ, S, ρ, R, sl, w⟩ := h
  exact pts_nil.run pins s σ H Q I (w.now R rfl)⟩
theorem dts_one {c : Expr} {ft : FT} (h : DT X W c ft) : DTs X W [c] ft := pts_one h
theorem Cn.blk (C : Cn X W k) {s : Shared} {H : Hp} {scope : Scope} {ce : Env} {fp : List Addr} : Cn (X.blk s H scope ce fp) W0 k :=
  ⟨C.room, C.gd, C.calm, C.nd, PassesOwn.never, takes0N⟩
theorem de_lc (C : Cn X W k) {fin : Fin'} (hf : FinOk fin) {elt tg iter : Expr} {ifs : List Expr} {scope : Scope} {own : List (Str × Nat)} {pos : Pos} {fi : FI} {is : List Nat} {m : FG} {ft : FT} {fe : FE} (hi : DI X W tg iter fi) (ok : BlkOk X.N X.env.scope scope own)
    (hg : ∀ (s : Shared) (H : Hp) (C : Addr) (cl : List (Str × Addr)) (fp : List Addr), DG (X.blk s H scope (compEnvC scope cl C X.env) fp) tg is m) (ht : ∀ (s : Shared) (H : Hp) (C : Addr) (cl : List (Str × Addr)) (fp : List Addr), DTs (X.blk s H scope (compEnvC scope cl C X.env) fp) W0 ifs ft)
    (he : ∀ (s : Shared) (H : Hp) (C : Addr) (cl : List (Str × Addr)) (fp : List Addr), DE (X.blk s H scope (compEnvC scope cl C X.env) fp) W0 elt fe) (hio : ∀ i ∈ is, i ∈ own.map (·.2) := by decide) (hs : ∀ x, foldedSetIterable iter X.env x = pure x := by intro _; rfl) :
    DE X W (.ListComp elt [⟨tg, iter, ifs, 0⟩] scope pos) (fComp fi m ft fe (own.map (·.2)) fin) :=
  .mk (pe_lc (g := tG X.K X.mg is m) (tt := tDT X.K X.mg W0 ft) (te := tD X.K X.mg W0 fe) C.calm C.nd hi ok hg ht he hs) (isE_lc hf hio)
theorem ds_setOf {t : TE} {fe : FE} {e : Expr} {x : Str} {i : Nat} {pos pos' : Pos} (p : PS X (.Assign [.Name x pos'] e pos) (tAsg t (L2.gName i))) (q : IsE X W t fe) : DS X W (.Assign [.Name x pos'] e pos) (gSet i fe) :=
  .mk p fun Z φ S ρ σ H Dd R sl w => q Z φ S ρ σ H _ R sl (w.into sl fun d S1 v φ1 H1 R1 E1 dd w1 => w1 _ φ1 H1 R1 Evo.refl ((sl.evo E1).set dd))
theorem ds_setLc (C : Cn X W k) {fin : Fin'} (hf : FinOk fin) {i : Nat} {y : Str} {py spos : Pos} {elt tg iter : Expr} {ifs : List Expr} {scope : Scope} {own : List (Str × Nat)} {pos : Pos} {fi : FI} {is : List Nat} {m : FG} {ft : FT} {fe : FE} (hy : X.N[i]? = some y) (hyl : X.env.scope.names.lookup y = some .local)
    (hsw : swapsWith (.ListComp elt [⟨tg, iter, ifs, 0⟩] scope pos) (some (.Name y py)) spos.line X.env = pure true) (hi : DI X W tg iter fi) (ok : BlkOk X.N X.env.scope scope own)
    (hg : ∀ (s : Shared) (H : Hp) (C : Addr) (cl : List (Str × Addr)) (fp : List Addr), DG (X.blk s H scope (compEnvC scope cl C X.env) fp) tg is m) (ht : ∀ (s : Shared) (H : Hp) (C : Addr) (cl : List (Str × Addr)) (fp : List Addr), DTs (X.blk s H scope (compEnvC scope cl C X.env) fp) W0 ifs ft)
    (he : ∀ (s : Shared) (H : Hp) (C : Addr) (cl : List (Str × Addr)) (fp : List Addr), DE (X.blk s H scope (compEnvC scope cl C X.env) fp) W0 elt fe) (hio : ∀ i ∈ is, i ∈ own.map (·.2) := by decide) (hs : ∀ x, foldedSetIterable iter X.env x = pure x := by intro _; rfl) :
    DS X W (.Assign [.Name y py] (.ListComp elt [⟨tg, iter, ifs, 0⟩] scope pos) spos) (gSet i (fComp fi m ft fe (own.map (·.2)) fin)) :=
  ds_setOf (ps_setLc (g := tG X.K X.mg is m) (tt := tDT X.K X.mg W0 ft) (te := tD X.K X.mg W0 fe) C.calm C.nd hy hyl hsw hi ok hg ht he hs) (isE_lc hf hio)
end

/-! ### defs -/
/-- a def's promise; what is under way around it is known -/
structure FnG (P : Program) (w : World) (K : PySem.W.Frag) (mg : Str → Option Value) (base : Heap) (k : Nat) (f : Addr) (fd : FuncData) (ps : List Str) (sp : Sp) : Prop where
  len : ∀ vs H Q E, sp vs H Q E → vs.length = ps.length
  run : ∀ (A : Around) (outer : List Env) (s : Shared) (H : Hp) (args : Args) (us : List Value) (vs : List V) (Q : VK) (E : XK), Room k A → A.guards = some [] → Env0 P w K mg base A outer s H → BindsTo s fd args (ps.zip us) → Vals vs us → sp vs H Q E →
    codeAny (model P w) A (.call (.ref f) args) (CR (L2N.CX P w) outer P w H s Q E) s
abbrev Sem' := List D → Store → Res D
def spD (K : PySem.W.Frag) (mg : Str → Option Value) (n : Nat) (sem : Sem') : Sp := fun vs H Q E => vs.length = n ∧ ∃ Z φ S ds, Rel K mg Z φ S H ∧ DatL K mg φ (gnd Z φ S H) ds vs ∧ Want K mg (RDat K mg) Z φ S H (sem ds S) Q E
def startD (n : Nat) (ds : List D) : EnvD := ds.map some ++ List.replicate (n - ds.length) none
def Out.res (o : Out) : Res D := match o with
  | .nx _ S => .ok .non S
  | .rt d S => .ok d S
  | .ex C fs _ S => .ex C fs S
  | _ => .stuck
def semOf (n : Nat) (g : FS) : Sem' := fun ds S => (g (startD n ds) S).res
theorem slots_start {K : PySem.W.Frag} {mg : Str → Option Value} {φ : List Addr} {G : Hp} {N : List Str} {ds : List D} {vs : List V} (h : DatL K mg φ G ds vs) : Slots K mg φ G (startD N.length ds) (L2.start N vs) := by
  have hl := h.length
  unfold startD L2.start
  rw [hl]
  refine ⟨by simp [hl], fun i d q => ?_⟩
  by_cases hi : i < ds.length
  · rw [List.getElem?_append_left (by simpa using hi), List.getElem?_map] at q
    cases hq : ds[i]? with
    | none => rw [hq] at q; cases q
    | some e =>
      rw [hq] at q
      cases q
      obtain ⟨v, h1, h2⟩ := h.get hq
      exact ⟨v, by rw [List.getElem?_append_left (by simpa [hl] using hi), List.getElem?_map, h1]; rfl, h2⟩
  · rw [List.getElem?_append_right (by simpa using hi), List.getElem?_replicate] at q
    split at q <;> cases q
/-- THE RULE: a def by its body's mirror -/
theorem fnG {P : Program} {w : World} {K : PySem.W.Frag} {mg : Str → Option Value} {base : Heap} {x qual : Str} {params : Arguments} {body : List Stmt} {scope : Scope} {dvs : List V} {kws : List (Str × V)} {f : Addr} {fd : FuncData} {N ps : List Str} {k : Nat} {g : FS}
    (F : FunD K x qual params body scope dvs kws f fd) (S : FnScope N ps scope)
    (hb : ∀ (cdv : Value) (A : Around) (outer : List Env) (s : Shared) (H : Hp) (E : XK), Cn (cxOf (L2N.CX P w) P w K mg base N qual scope f cdv A outer s H E) (fun c d _ H' => E c d H') k →
      DSs (cxOf (L2N.CX P w) P w K mg base N qual scope f cdv A outer s H E) (fun c d _ H' => E c d H') body g) : FnG P w K mg base (k + 1) f fd ps (spD K mg ps.length (semOf N.length g)) := by
  obtain ⟨oc, od, dV, kV, doc, pm, an, cdv, ct, osl, rfl, lk, hcd, _, _⟩ := F.ex
  refine ⟨fun vs H Q E h => h.1, fun A outer s H args us vs Q E hr hgd e0 hbd r hsp => ?_⟩
  have hl : us.length = ps.length := r.length.symm.trans hsp.1
  have keep : ∀ b o, base.get? b = some o → s.heap.get? b = some o := fun b o e => (e0.bs b o e).1
  have inK : K.In s.heap := e0.mod.kin.keeps keep
  have par : ∀ y ∈ ps.zip us, scope.names.lookup y.1 = some .local ∨
      (scope.names.lookup y.1 = some .cell ∧ ((cellsFrom (s.heap.objs.size + 1) scope.names []).lookup y.1).isSome = true) := by
    rintro ⟨n, v⟩ hy
    exact (S.par n (List.of_mem_zip hy).1).imp id fun q => ⟨q, PySem.W.cellsFrom_some _ _ _ (.inl q)⟩
  refine codeAny_call_function hr.depth (inK _ _ lk) rfl S.co S.gen rfl
    (PySem.W.codeRec_of inK hcd) (hbd _ _ _ _ ?_)
  refine wpAny_newFunctionEnv_cells S.kind par fun env he s1 entered => ?_
  subst he
  refine ⟨(e0.mod.nolimit.keeps keep).keeps entered.toInCall.keep, codeAny_func ?_⟩
  -- the body's own context
  have body' := hb cdv A outer s H E ⟨hr.deeper _, hgd, rfl, S.nd, passes_of rfl, L2N.takes_of rfl rfl rfl rfl⟩
  obtain ⟨hlen, Z, φ, S0, ds, R, dl, w0⟩ := hsp
  have I0 := inv_start (CX := L2N.CX P w) (mg := mg) (base := base) (cd := cdv) (qual := qual) (f := f) (E := E) S hr.hd e0 hlen r entered
  have q0 : tDS (cxOf (L2N.CX P w) P w K mg base N qual scope f cdv A outer s H E) (fun c d _ H' => E c d H') g { nx := fun _ H' => Q .non H', rt := Q } (L2.start N vs) H := by
    refine ⟨Z, φ, S0, startD N.length ds, R, slots_start dl, ?_⟩
    unfold semOf at w0
    cases hg : g (startD N.length ds) S0 with
    | nx ρ S1 =>
      rw [hg] at w0
      exact fun σ φ1 H1 R1 E1 _ => w0 .non φ1 H1 R1 E1 (by unfold RDat Dat; rfl)
    | rt d S1 =>
      rw [hg] at w0
      exact w0
    | ex C fs ρ S1 =>
      rw [hg] at w0
      exact fun A1 dx σ φ1 H1 m R1 E1 _ x => w0 A1 dx φ1 H1 m R1 E1 x
    | _ =>
      rw [hg] at w0
      exact w0.elim
  refine wpAny_mono (PSs.run body' [] s1 (L2.start N vs) H _ I0 q0) (fun fl s' hs => ?_) fun _ _ z => z
  have fin : ∀ {σ' : L2.St} {H' : Hp} {v : V} {u : Value}, Inv (cxOf (L2N.CX P w) P w K mg base N qual scope f cdv A outer s H E) [] σ' H' s' → RelV v u →
      Q v H' → CE outer P w H s Q u s' := fun J rv q => ⟨_, _, J.os, J.bare, J.base, J.hok, rv, q⟩
  cases fl with
  | ret u =>
    obtain ⟨v, σ', H', J, rv, q⟩ := hs
    exact fin J rv q
  | next =>
    obtain ⟨σ', H', J, q⟩ := hs
    exact fin (v := .non) J rfl q
  | brk => exact hs.choose_spec.choose_spec.2.elim
  | cont => exact hs.choose_spec.choose_spec.2.elim
end DL

/-! The data layer, part 6: calls. -/
namespace DL
open PySem L2

/-! ### data without objects of the store -/
mutual
def D.pure : D → Bool
  | .oid _ => false
  | .tup ds => pureL ds
  | .lst ds => pureL ds
  | .scr ds => pureL ds
  | .dic ks => pureK ks
  | .ins _ fs => pureF fs
  | .exc _ fs => pureF fs
  | _ => true
def pureL : List D → Bool
  | [] => true
  | d :: ds => d.pure && pureL ds
def pureK : List (Key × D) → Bool
  | [] => true
  | (_, d) :: ds => d.pure && pureK ds
def pureF : List (Str × D) → Bool
  | [] => true
  | (_, d) :: ds => d.pure && pureF ds
end
section
variable {K : PySem.W.Frag} {mg : Str → Option Value} {φ φ' : List Addr} {G : Hp}
mutual
theorem Dat.pure : ∀ {d : D} {v : V}, d.pure = true → Dat K mg φ G d v → Dat K mg φ' G d v
  | .non, _, _, h => h
  | .bl _, _, _, h => h
  | .int _, _, _, h => h
  | .str _, _, _, h => h
  | .ty _, _, _, h => h
  | .tup ds, _, p, h => by
    unfold Dat at h ⊢
    unfold D.pure at p
    obtain ⟨a, vs, rfl, h1, h2⟩ := h
    exact ⟨a, vs, rfl, h1, DatL.pure p h2⟩
  | .lst ds, _, p, h => by
    unfold Dat at h ⊢
    unfold D.pure at p
    obtain ⟨a, vs, rfl, h1, h2⟩ := h
    exact ⟨a, vs, rfl, h1, DatL.pure p h2⟩
  | .scr ds, _, p, h => by
    unfold Dat at h ⊢
    unfold D.pure at p
    obtain ⟨a, vs, rfl, h1, h2⟩ := h
    exact ⟨a, vs, rfl, h1, DatL.pure p h2⟩
  | .cls c, _, _, h => by
    unfold Dat at h ⊢
    exact h
  | .dic ks, _, p, h => by
    unfold Dat at h ⊢
    unfold D.pure at p
    obtain ⟨a, vs, rfl, h1, h2⟩ := h
    exact ⟨a, vs, rfl, h1, DatK.pure p h2⟩
  | .ins C fs, _, p, h => by
    unfold Dat at h ⊢
    unfold D.pure at p
    obtain ⟨a, A, dx, fvs, rfl, h0, h1, h2⟩ := h
    exact ⟨a, A, dx, fvs, rfl, h0, h1, DatF.pure p h2⟩
  | .oid n, _, p, h => by
    unfold D.pure at p
    cases p
  | .exc C fs, _, p, h => by
    unfold Dat at h ⊢
    unfold D.pure at p
    obtain ⟨a, A, dx, rfl, h0, h1, h2⟩ := h
    exact ⟨a, A, dx, rfl, h0, h1, h2.imp id fun ⟨z, b, fvs, q0, q1, q2⟩ => ⟨z, b, fvs, q0, q1, DatF.pure p q2⟩⟩
theorem DatL.pure : ∀ {ds : List D} {vs : List V}, pureL ds = true → DatL K mg φ G ds vs → DatL K mg φ' G ds vs
  | [], _, _, h => by
    unfold DatL at h ⊢
    exact h
  | d :: ds, _, p, h => by
    unfold DatL at h ⊢
    unfold pureL at p
    rw [Bool.and_eq_true] at p
    obtain ⟨v, r, rfl, h1, h2⟩ := h
    exact ⟨v, r, rfl, Dat.pure p.1 h1, DatL.pure p.2 h2⟩
theorem DatK.pure : ∀ {ds : List (Key × D)} {vs : List (Key × V)}, pureK ds = true → DatK K mg φ G ds vs → DatK K mg φ' G ds vs
  | [], _, _, h => by
    unfold DatK at h ⊢
    exact h
  | (k, d) :: ds, _, p, h => by
    unfold DatK at h ⊢
    unfold pureK at p
    rw [Bool.and_eq_true] at p
    obtain ⟨v, r, rfl, h1, h2⟩ := h
    exact ⟨v, r, rfl, Dat.pure p.1 h1, DatK.pure p.2 h2⟩
theorem DatF.pure : ∀ {ds : List (Str × D)} {vs : List (Str × V)}, pureF ds = true → DatF K mg φ G ds vs → DatF K mg φ' G ds vs
  | [], _, _, h => by
    unfold DatF at h ⊢
    exact h
  | (k, d) :: ds, _, p, h => by
    unfold DatF at h ⊢
    unfold pureF at p
    rw [Bool.and_eq_true] at p
    obtain ⟨v, r, rfl, h1, h2⟩ := h
    exact ⟨v, r, rfl, Dat.pure p.1 h1, DatF.pure p.2 h2⟩
end
end
def SO.pure : SO → Bool
  | .lst ds => pureL ds
  | .dic ks => pureK ks
  | .ins _ fs => pureF fs
  | .frz d => d.pure
  | .tbl _ _ => false
  | .dkt _ => false
theorem SOk.pure {K : PySem.W.Frag} {mg : Str → Option Value} {φ φ' : List Addr} {G H : Hp} {a : Addr} : ∀ {o : SO}, o.pure = true → SOk K mg φ G H a o → SOk K mg φ' G H a o
  | .lst ds, p, ⟨vs, h1, h2⟩ => ⟨vs, h1, h2.pure p⟩
  | .dic ks, p, ⟨vs, h1, h2⟩ => ⟨vs, h1, h2.pure p⟩
  | .ins C fs, p, ⟨A, dx, fvs, h0, h1, h2⟩ => ⟨A, dx, fvs, h0, h1, h2.pure p⟩
  | .frz d, p, h => Dat.pure p h
  | .tbl _ _, p, _ => nomatch p
  | .dkt _, p, _ => nomatch p

/-! ### a call with the objects that it is handed, and no others -/
def subArgs (S : Store) : List D → Nat → Option (List D × List Nat)
  | [], _ => some ([], [])
  | .oid k :: ds, n => match S[k]? with
    | some (.frz d) => if d.pure then (subArgs S ds n).map fun q => (d :: q.1, q.2) else none
    | some o => if o.pure then (subArgs S ds (n + 1)).map fun q => (.oid n :: q.1, k :: q.2) else none
    | none => none
  | d :: ds, n => if d.pure then (subArgs S ds n).map fun q => (d :: q.1, q.2) else none
def putBack (S : Store) : List Nat → Store → Store
  | k :: ks, o :: Sc => putBack (S.set k o) ks Sc
  | _, _ => S
def subOf (S : Store) (ks : List Nat) : Store := ks.map fun k => S.getD k (.frz .non)
def callSub (sem : Sem') : Sem' := fun args S => match subArgs S args 0 with
  | some (args', ks) => if ks.Nodup then (match sem args' (subOf S ks) with
    | .ok d Sc => if d.pure && ((Sc.take ks.length).all SO.pure && decide (ks.length ≤ Sc.length)) then .ok d (putBack S ks Sc) else .stuck
    | .ex C fs Sc => if pureF fs && ((Sc.take ks.length).all SO.pure && decide (ks.length ≤ Sc.length)) then .ex C fs (putBack S ks Sc) else .stuck
    | .stuck => .stuck) else .stuck
  | none => .stuck
theorem putBack_length : ∀ (ks : List Nat) (S Sc : Store), (putBack S ks Sc).length = S.length
  | [], _, _ => by simp [putBack]
  | k :: ks, S, [] => rfl
  | k :: ks, S, o :: Sc => by unfold putBack; rw [putBack_length, List.length_set]
theorem putBack_out : ∀ (ks : List Nat) (S Sc : Store) (n : Nat), n ∉ ks → (putBack S ks Sc)[n]? = S[n]?
  | [], _, _, _, _ => by simp [putBack]
  | k :: ks, S, [], _, _ => rfl
  | k :: ks, S, o :: Sc, n, h => by
    simp only [List.mem_cons, not_or] at h
    unfold putBack
    rw [putBack_out ks _ _ n h.2, List.getElem?_set_ne (fun z => h.1 z.symm)]
theorem putBack_in : ∀ (ks : List Nat) (S Sc : Store) (j n : Nat) (o : SO), ks.Nodup → ks[j]? = some n → n < S.length → Sc[j]? = some o → (putBack S ks Sc)[n]? = some o
  | [], _, _, _, _, _, _, h, _, _ => by cases h
  | k :: ks, S, [], _, _, _, _, _, _, h => by cases h
  | k :: ks, S, u :: Sc, 0, n, o, nd, h1, h2, h3 => by
    cases h1
    cases h3
    unfold putBack
    rw [putBack_out ks _ _ _ (List.nodup_cons.mp nd).1, List.getElem?_set_self h2]
  | k :: ks, S, u :: Sc, j + 1, n, o, nd, h1, h2, h3 => by
    unfold putBack
    exact putBack_in ks _ _ j n o (List.nodup_cons.mp nd).2 h1 (by rw [List.length_set]; exact h2) h3
section
variable {K : PySem.W.Frag} {mg : Str → Option Value} {Z φ : List Addr} {S : Store} {H : Hp}
def phiOf (φ : List Addr) (ks : List Nat) : List Addr := ks.map fun k => φ.getD k 0
theorem subArgs_ok (R : Rel K mg Z φ S H) : ∀ (ds : List D) (vs : List V) (n : Nat) (ds' : List D) (ks : List Nat) (pre : List Addr), pre.length = n → subArgs S ds n = some (ds', ks) → DatL K mg φ (gnd Z φ S H) ds vs →
    DatL K mg (pre ++ phiOf φ ks) (gnd Z φ S H) ds' vs ∧ ∀ k ∈ ks, ∃ o, S[k]? = some o ∧ o.pure = true ∧ o.live = true
  | [], vs, n, ds', ks, pre, hp, e, h => by
    cases e
    unfold DatL at h
    subst h
    exact ⟨DatL.nil, fun k hk => by simp at hk⟩
  | d :: ds, vs, n, ds', ks, pre, hp, e, h => by
    obtain ⟨v, r, rfl, h1, h2⟩ := h.uncons
    have plain : ∀ d' : D, d'.pure = true → Dat K mg φ (gnd Z φ S H) d' v → (subArgs S ds n).map (fun q => (d' :: q.1, q.2)) = some (ds', ks) →
        DatL K mg (pre ++ phiOf φ ks) (gnd Z φ S H) ds' (v :: r) ∧ ∀ k ∈ ks, ∃ o, S[k]? = some o ∧ o.pure = true ∧ o.live = true := fun d' p hd q => by
      cases hq : subArgs S ds n with
      | none => rw [hq] at q; cases q
      | some t =>
        rw [hq] at q
        cases q
        obtain ⟨a, b⟩ := subArgs_ok R ds r n t.1 t.2 pre hp hq h2
        exact ⟨.cons (Dat.pure p hd) a, b⟩
    cases d with
    | oid k =>
      unfold subArgs at e
      unfold Dat at h1
      obtain ⟨a, rfl, ha⟩ := h1
      cases hS : S[k]? with
      | none => simp [hS] at e
      | some o =>
        have ok := R.ob k a o ha hS
        have live : o.live = true → (if o.pure then (subArgs S ds (n + 1)).map (fun q => (D.oid n :: q.1, k :: q.2)) else none) = some (ds', ks) →
            DatL K mg (pre ++ phiOf φ ks) (gnd Z φ S H) ds' (.ref a :: r) ∧ ∀ k ∈ ks, ∃ o, S[k]? = some o ∧ o.pure = true ∧ o.live = true := fun hl q => by
          by_cases hp' : o.pure = true
          · rw [if_pos hp'] at q
            cases hq : subArgs S ds (n + 1) with
            | none => rw [hq] at q; cases q
            | some t =>
              rw [hq] at q
              cases q
              obtain ⟨A, B⟩ := subArgs_ok R ds r (n + 1) t.1 t.2 (pre ++ [a]) (by simp [hp]) hq h2
              have ea : φ.getD k 0 = a := by rw [List.getD_eq_getElem?_getD, ha]; rfl
              have ep : pre ++ phiOf φ (k :: t.2) = (pre ++ [a]) ++ phiOf φ t.2 := by
                unfold phiOf
                rw [List.map_cons, ea, List.append_assoc]
                rfl
              rw [ep]
              refine ⟨.cons ?_ A, fun j hj => ?_⟩
              · unfold Dat
                refine ⟨a, rfl, ?_⟩
                rw [List.append_assoc, List.getElem?_append_right (by omega), hp, Nat.sub_self]
                rfl
              · rcases List.mem_cons.mp hj with z | z
                · rw [z]
                  exact ⟨o, hS, hp', hl⟩
                · exact B j z
          · rw [if_neg hp'] at q
            cases q
        rw [hS] at e
        cases o with
        | frz d' =>
          simp only at e
          by_cases p : d'.pure = true
          · rw [if_pos p] at e
            exact plain d' p ok e
          · rw [if_neg p] at e
            cases e
        | _ => exact live rfl e
    | _ =>
      unfold subArgs at e
      split at e
      · rename_i p
        exact plain _ p h1 e
      · cases e

theorem rel_get (R : Rel K mg Z φ S H) {k : Nat} {o : SO} (h : S[k]? = some o) : ∃ a, φ[k]? = some a ∧ φ.getD k 0 = a := by
  have hl := (List.getElem?_eq_some_iff.mp h).1
  refine ⟨φ[k]'(by rw [R.len]; exact hl), List.getElem?_eq_getElem _, ?_⟩
  rw [List.getD_eq_getElem?_getD, List.getElem?_eq_getElem (by rw [R.len]; exact hl)]
  rfl
/-- the hidden ones of a call -/
def hidOf (Z φ : List Addr) (S : Store) (ks : List Nat) : List Addr := Z ++ (liveA φ S).filter fun a => decide (a ∉ phiOf φ ks)
theorem phiOf_get {ks : List Nat} {j k : Nat} (h : ks[j]? = some k) : (phiOf φ ks)[j]? = some (φ.getD k 0) := by
  unfold phiOf
  rw [List.getElem?_map, h]
  rfl
theorem subOf_get {ks : List Nat} {j k : Nat} {o : SO} (h : ks[j]? = some k) (hS : S[k]? = some o) : (subOf S ks)[j]? = some o := by
  unfold subOf
  rw [List.getElem?_map, h, Option.map_some, List.getD_eq_getElem?_getD, hS]
  rfl
theorem sub_mem (R : Rel K mg Z φ S H) {ks : List Nat} (nd : ks.Nodup) (hk : ∀ k ∈ ks, ∃ o, S[k]? = some o ∧ o.pure = true ∧ o.live = true) (a : Addr) : a ∈ hidOf Z φ S ks ++ liveA (phiOf φ ks) (subOf S ks) ↔ a ∈ Z ++ liveA φ S := by
  have live_of : ∀ b, b ∈ phiOf φ ks → b ∈ liveA φ S ∧ b ∈ liveA (phiOf φ ks) (subOf S ks) := fun b hb => by
    obtain ⟨j, hj⟩ := List.getElem?_of_mem hb
    unfold phiOf at hj
    rw [List.getElem?_map] at hj
    cases hq : ks[j]? with
    | none => rw [hq] at hj; cases hj
    | some k =>
      rw [hq] at hj
      cases hj
      obtain ⟨o, h1, h2, h3⟩ := hk k (List.mem_of_getElem? hq)
      obtain ⟨a, q1, q2⟩ := rel_get R h1
      show φ.getD k 0 ∈ liveA φ S ∧ φ.getD k 0 ∈ liveA (phiOf φ ks) (subOf S ks)
      rw [q2]
      refine ⟨mem_liveA q1 h1 h3, ?_⟩
      have := phiOf_get (φ := φ) hq
      rw [q2] at this
      exact mem_liveA this (subOf_get hq h1) h3
  unfold hidOf
  constructor
  · intro h
    rcases List.mem_append.mp h with z | z
    · rcases List.mem_append.mp z with z | z
      · exact List.mem_append_left _ z
      · exact List.mem_append_right _ (List.mem_filter.mp z).1
    · exact List.mem_append_right _ (live_of a (liveA_sub z)).1
  · intro h
    rcases List.mem_append.mp h with z | z
    · exact List.mem_append_left _ (List.mem_append_left _ z)
    · by_cases q : a ∈ phiOf φ ks
      · exact List.mem_append_right _ (live_of a q).2
      · exact List.mem_append_left _ (List.mem_append_right _ (List.mem_filter.mpr ⟨z, decide_eq_true q⟩))
theorem without_congr {l l' : List Addr} (h : ∀ a, a ∈ l ↔ a ∈ l') : without l H = without l' H := by
  funext a
  unfold without
  by_cases q : a ∈ l
  · rw [if_pos q, if_pos ((h a).mp q)]
  · rw [if_neg q, if_neg fun z => q ((h a).mpr z)]
theorem nodup_map_of {α β : Type} {f : α → β} : ∀ {l : List α}, l.Nodup → (∀ x ∈ l, ∀ y ∈ l, f x = f y → x = y) → (l.map f).Nodup
  | [], _, _ => List.nodup_nil
  | a :: l, nd, h => by
    rw [List.nodup_cons] at nd
    rw [List.map_cons, List.nodup_cons]
    refine ⟨fun q => ?_, nodup_map_of nd.2 fun x hx y hy => h x (List.mem_cons_of_mem _ hx) y (List.mem_cons_of_mem _ hy)⟩
    obtain ⟨b, hb, e⟩ := List.mem_map.mp q
    have := h b (List.mem_cons_of_mem _ hb) a List.mem_cons_self e
    rw [this] at hb
    exact nd.1 hb
theorem sub_rel (R : Rel K mg Z φ S H) {ks : List Nat} (nd : ks.Nodup) (hk : ∀ k ∈ ks, ∃ o, S[k]? = some o ∧ o.pure = true ∧ o.live = true) :
    Rel K mg (hidOf Z φ S ks) (phiOf φ ks) (subOf S ks) H ∧ gnd (hidOf Z φ S ks) (phiOf φ ks) (subOf S ks) H = gnd Z φ S H := by
  have eg : gnd (hidOf Z φ S ks) (phiOf φ ks) (subOf S ks) H = gnd Z φ S H := without_congr (sub_mem R nd hk)
  have at_ : ∀ k ∈ ks, ∃ a, φ[k]? = some a ∧ φ.getD k 0 = a := fun k h => by
    obtain ⟨o, h1, _⟩ := hk k h
    exact rel_get R h1
  refine ⟨⟨by unfold phiOf subOf; rw [List.length_map, List.length_map], ?_, fun a ha => ?_, fun a ha => ?_, fun a ha => ?_, fun n a o h1 h2 => ?_⟩, eg⟩
  · unfold phiOf
    refine nodup_map_of nd fun x hx y hy e => ?_
    obtain ⟨a, q1, q2⟩ := at_ x hx
    obtain ⟨b, q3, q4⟩ := at_ y hy
    rw [q2, q4] at e
    rw [e] at q1
    exact nd_ix R.nd q1 q3
  · unfold hidOf
    intro q
    rcases List.mem_append.mp q with z | z
    · unfold phiOf at ha
      obtain ⟨k, h1, h2⟩ := List.mem_map.mp ha
      obtain ⟨b, q1, q2⟩ := at_ k h1
      rw [q2] at h2
      rw [h2] at q1
      exact R.zd a (List.mem_of_getElem? q1) z
    · exact (of_decide_eq_true (List.mem_filter.mp z).2) ha
  · unfold hidOf at ha
    rcases List.mem_append.mp ha with z | z
    · exact R.zh a z
    · exact R.ph a (liveA_sub (List.mem_filter.mp z).1)
  · unfold phiOf at ha
    obtain ⟨k, h1, h2⟩ := List.mem_map.mp ha
    obtain ⟨b, q1, q2⟩ := at_ k h1
    rw [q2] at h2
    rw [h2] at q1
    exact R.ph a (List.mem_of_getElem? q1)
  · rw [eg]
    unfold phiOf at h1
    unfold subOf at h2
    rw [List.getElem?_map] at h1 h2
    cases hq : ks[n]? with
    | none => rw [hq] at h1; cases h1
    | some k =>
      rw [hq] at h1 h2
      cases h1
      cases h2
      obtain ⟨u, e1, e2, e3⟩ := hk k (List.mem_of_getElem? hq)
      obtain ⟨b, q1, q2⟩ := rel_get R e1
      show SOk K mg (phiOf φ ks) (gnd Z φ S H) H (φ.getD k 0) (S.getD k (.frz .non))
      rw [q2, List.getD_eq_getElem?_getD, e1]
      exact (R.ob k b u q1 e1).pure e2
/-- behind the call -/
theorem sub_back (R : Rel K mg Z φ S H) {ks : List Nat} (nd : ks.Nodup) (hk : ∀ k ∈ ks, ∃ o, S[k]? = some o ∧ o.pure = true ∧ o.live = true) {φ' : List Addr} {Sc : Store} {H' : Hp}
    (R' : Rel K mg (hidOf Z φ S ks) φ' Sc H') (E : Evo (hidOf Z φ S ks) (phiOf φ ks) (subOf S ks) H φ' Sc H') (pu : (Sc.take ks.length).all SO.pure = true) (hl : ks.length ≤ Sc.length) :
    Rel K mg Z φ (putBack S ks Sc) H' ∧ Evo Z φ S H φ (putBack S ks Sc) H' ∧ Same (gnd (hidOf Z φ S ks) φ' Sc H') (gnd Z φ (putBack S ks Sc) H') := by
  obtain ⟨Rc, eg⟩ := sub_rel R nd hk
  have lenP : (phiOf φ ks).length = ks.length := by unfold phiOf; rw [List.length_map]
  have phi' : ∀ j k, ks[j]? = some k → φ'[j]? = some (φ.getD k 0) := fun j k h => pre_get E.pre (phiOf_get h)
  -- what lives in the caller's store behind the call
  have liveB : ∀ a, a ∈ liveA φ (putBack S ks Sc) → a ∈ hidOf Z φ S ks ++ liveA φ' Sc := fun a ha => by
    obtain ⟨n, o, h1, h2, h3⟩ := liveA_mem ha
    by_cases q : n ∈ ks
    · obtain ⟨j, hj⟩ := List.getElem?_of_mem q
      have hjl := (List.getElem?_eq_some_iff.mp hj).1
      have hSc : Sc[j]? = some Sc[j] := List.getElem?_eq_getElem (by omega)
      have hn : n < S.length := by
        have := (List.getElem?_eq_some_iff.mp h2).1
        rw [putBack_length] at this
        exact this
      rw [putBack_in ks S Sc j n _ nd hj hn hSc] at h2
      cases h2
      have := phi' j n hj
      rw [List.getD_eq_getElem?_getD, h1] at this
      exact List.mem_append_right _ (mem_liveA this hSc h3)
    · rw [putBack_out ks S Sc n q] at h2
      refine List.mem_append_left _ ?_
      unfold hidOf
      refine List.mem_append_right _ (List.mem_filter.mpr ⟨mem_liveA h1 h2 h3, decide_eq_true fun z => q ?_⟩)
      unfold phiOf at z
      obtain ⟨k, e1, e2⟩ := List.mem_map.mp z
      obtain ⟨u, e3, _⟩ := hk k e1
      obtain ⟨b, q1, q2⟩ := rel_get R e3
      rw [q2] at e2
      rw [e2] at q1
      have := nd_ix R.nd q1 h1
      rw [← this]
      exact e1
  have sub : Same (gnd (hidOf Z φ S ks) φ' Sc H') (gnd Z φ (putBack S ks Sc) H') := fun a o h => by
    obtain ⟨h1, h2⟩ := without_some.mp h
    refine without_some.mpr ⟨fun q => h1 ?_, h2⟩
    rcases List.mem_append.mp q with z | z
    · exact List.mem_append_left _ (List.mem_append_left _ z)
    · exact liveB a z
  have ext : Same (gnd Z φ S H) (gnd Z φ (putBack S ks Sc) H') := by
    rw [← eg]
    exact E.ext.trans sub
  have out : ∀ a o, H a = some o → a ∉ liveA φ S → H' a = some o := fun a o h n => E.out a o h fun q => n (by
    have := (sub_mem R nd hk a).mp (List.mem_append_right _ q)
    rcases List.mem_append.mp this with z | z
    · exact (Rc.zd a (liveA_sub q) (by unfold hidOf; exact List.mem_append_left _ z)).elim
    · exact z)
  have nn : ∀ a, H a ≠ none → H' a ≠ none := fun a h => by
    by_cases q : a ∈ liveA (phiOf φ ks) (subOf S ks)
    · have := liveA_sub q
      obtain ⟨t, ht⟩ := E.pre
      exact R'.ph a (by rw [← ht]; exact List.mem_append_left _ this)
    · obtain ⟨o, ho⟩ := Option.ne_none_iff_exists'.mp h
      rw [E.out a o ho q]
      exact fun z => nomatch z
  refine ⟨⟨by rw [putBack_length, R.len], R.nd, R.zd, fun a h => nn a (R.zh a h), fun a h => nn a (R.ph a h), fun n a o h1 h2 => ?_⟩,
    ⟨List.prefix_refl _, ext, out, fun a ha hn => ?_⟩, sub⟩
  · by_cases q : n ∈ ks
    · obtain ⟨j, hj⟩ := List.getElem?_of_mem q
      have hjl := (List.getElem?_eq_some_iff.mp hj).1
      have hSc : Sc[j]? = some Sc[j] := List.getElem?_eq_getElem (by omega)
      have hn : n < S.length := by
        have := (List.getElem?_eq_some_iff.mp h2).1
        rw [putBack_length] at this
        exact this
      rw [putBack_in ks S Sc j n _ nd hj hn hSc] at h2
      cases h2
      have hp := phi' j n hj
      rw [List.getD_eq_getElem?_getD, h1] at hp
      have pj : Sc[j].pure = true := List.all_eq_true.mp pu _ (by
        rw [List.mem_iff_getElem?]
        exact ⟨j, by rw [List.getElem?_take_of_lt hjl]; exact hSc⟩)
      exact ((R'.ob j a _ hp hSc).pure (φ' := φ) pj).mono (List.prefix_refl _) sub fun _ z => z
    · rw [putBack_out ks S Sc n q] at h2
      have ok := R.ob n a o h1 h2
      cases hlv : o.live with
      | false =>
        cases o with
        | frz d => exact Dat.mono (List.prefix_refl _) ext _ _ ok
        | _ => cases hlv
      | true =>
        refine ok.mono (List.prefix_refl _) ext fun ob hb => E.out a ob hb fun z => ?_
        have z' := liveA_sub z
        unfold phiOf at z'
        obtain ⟨k, e1, e2⟩ := List.mem_map.mp z'
        obtain ⟨u, e3, _⟩ := hk k e1
        obtain ⟨b, q1, q2⟩ := rel_get R e3
        rw [q2] at e2
        rw [e2] at q1
        have := nd_ix R.nd q1 h1
        rw [← this] at q
        exact q e1
  · rcases List.mem_append.mp (liveB a ha) with z | z
    · unfold hidOf at z
      rcases List.mem_append.mp z with z | z
      · exact absurd z (R.zd a (liveA_sub ha))
      · exact (List.mem_filter.mp z).1
    · have := E.lv a z hn
      have := (sub_mem R nd hk a).mp (List.mem_append_right _ this)
      rcases List.mem_append.mp this with z | z
      · exact absurd z (R.zd a (liveA_sub ha))
      · exact z
end

/-- how a call may be reckoned -/
def CallOk (K : PySem.W.Frag) (mg : Str → Option Value) (n : Nat) (sem cs : Sem') : Prop := ∀ Z φ S H ds vs (Q : VK) (E : XK), vs.length = n → Rel K mg Z φ S H → DatL K mg φ (gnd Z φ S H) ds vs → Want K mg (RDat K mg) Z φ S H (cs ds S) Q E → spD K mg n sem vs H Q E
theorem callOk_share {K : PySem.W.Frag} {mg : Str → Option Value} {n : Nat} {sem : Sem'} : CallOk K mg n sem sem := fun Z φ S H ds vs Q E hl R d w => ⟨hl, Z, φ, S, ds, R, d, w⟩
theorem callOk_sub {K : PySem.W.Frag} {mg : Str → Option Value} {n : Nat} {sem : Sem'} : CallOk K mg n sem (callSub sem) := fun Z φ S H ds vs Q E hl R d w => by
  unfold callSub at w
  cases hs : subArgs S ds 0 with
  | none => rw [hs] at w; exact w.elim
  | some t =>
    obtain ⟨ds', ks⟩ := t
    rw [hs] at w
    simp only at w
    by_cases nd : ks.Nodup
    · rw [if_pos nd] at w
      obtain ⟨d', hk⟩ := subArgs_ok R ds vs 0 ds' ks [] rfl hs d
      rw [List.nil_append] at d'
      obtain ⟨Rc, eg⟩ := sub_rel R nd hk
      refine ⟨hl, hidOf Z φ S ks, phiOf φ ks, subOf S ks, ds', Rc, by rw [eg]; exact d', ?_⟩
      cases hr : sem ds' (subOf S ks) with
      | ok r Sc =>
        rw [hr] at w
        simp only at w
        by_cases c : (r.pure && ((Sc.take ks.length).all SO.pure && decide (ks.length ≤ Sc.length))) = true
        · rw [if_pos c] at w
          simp only [Bool.and_eq_true, decide_eq_true_eq] at c
          intro v φ' H' R' E' dv
          obtain ⟨a, b, s⟩ := sub_back R nd hk R' E' c.2.1 c.2.2
          exact w v φ H' a b (Dat.mono (List.prefix_refl _) s _ _ (Dat.pure c.1 dv))
        · rw [if_neg c] at w
          exact w.elim
      | ex C fs Sc =>
        rw [hr] at w
        simp only at w
        by_cases c : (pureF fs && ((Sc.take ks.length).all SO.pure && decide (ks.length ≤ Sc.length))) = true
        · rw [if_pos c] at w
          simp only [Bool.and_eq_true, decide_eq_true_eq] at c
          intro A dx φ' H' m R' E' x
          obtain ⟨a, b, s⟩ := sub_back R nd hk R' E' c.2.1 c.2.2
          refine w A dx φ H' m a b ?_
          rcases x with x | ⟨x0, e, fvs, x1, x2, x3⟩
          · exact .inl x
          · exact .inr ⟨x0, e, fvs, x1, s _ _ x2, DatF.mono (List.prefix_refl _) s _ _ (DatF.pure c.1 x3)⟩
        · rw [if_neg c] at w
          exact w.elim
      | stuck =>
        rw [hr] at w
        exact w.elim
    · rw [if_neg nd] at w
      exact w.elim
end DL

/-! The data layer, part 7: bindings, calls of defs, methods, classes, attributes, raise, the law's end. -/
namespace DL
open PySem L2

/-! ### how arguments come to parameters -/
def src {α : Type} (a : Nat) (us ws ms : List α) : List α := match a with
  | 0 => us
  | 1 => ws
  | _ => ms
def pick {α : Type} (sel : List (Nat × Nat)) (us ws ms : List α) : List α := sel.filterMap fun s => (src s.1 us ws ms)[s.2]?
theorem pick_vals {vs zs ms : List V} {us ws mv : List Value} (h1 : Vals vs us) (h2 : Vals zs ws) (h3 : Vals ms mv) : ∀ {sel : List (Nat × Nat)}, Vals (pick sel vs zs ms) (pick sel us ws mv)
  | [] => .nil
  | (a, i) :: sel => by
    have r := pick_vals h1 h2 h3 (sel := sel)
    have q : Vals (src a vs zs ms) (src a us ws mv) := by
      unfold src
      split
      · exact h1
      · exact h2
      · exact h3
    unfold pick
    rw [List.filterMap_cons, List.filterMap_cons]
    cases hx : (src a vs zs ms)[i]? with
    | none =>
      rw [q.none_of hx]
      exact r
    | some v =>
      obtain ⟨u, e1, e2⟩ := q.get hx
      rw [e1]
      exact .cons e2 r
theorem pick_dat {K : PySem.W.Frag} {mg : Str → Option Value} {φ : List Addr} {G : Hp} {ds es ms : List D} {vs zs mv : List V} (h1 : DatL K mg φ G ds vs) (h2 : DatL K mg φ G es zs) (h3 : DatL K mg φ G ms mv) : ∀ {sel : List (Nat × Nat)}, DatL K mg φ G (pick sel ds es ms) (pick sel vs zs mv)
  | [] => DatL.nil
  | (a, i) :: sel => by
    have r := pick_dat h1 h2 h3 (sel := sel)
    have q : DatL K mg φ G (src a ds es ms) (src a vs zs mv) := by
      unfold src
      split
      · exact h1
      · exact h2
      · exact h3
    unfold pick
    rw [List.filterMap_cons, List.filterMap_cons]
    cases hx : (src a ds es ms)[i]? with
    | none =>
      have e : (src a vs zs mv)[i]? = none := by
        rw [List.getElem?_eq_none_iff] at hx ⊢
        rw [q.length]
        exact hx
      rw [e]
      exact r
    | some v =>
      obtain ⟨u, e1, e2⟩ := q.get hx
      rw [e1]
      exact .cons e2 r
structure KB (K : PySem.W.Frag) (fd : FuncData) (ps : List Str) (n : Nat) (ks : List Str) (gD : List D → List D → List D) : Prop where
  ex : ∃ (g : List Value → List Value → List Value) (gV : List V → List V → List V), KBn K fd ps n ks g gV ∧
    ∀ (K' : PySem.W.Frag), K' = K → ∀ (mg : Str → Option Value) (φ : List Addr) (G : Hp) (ds es : List D) (vs zs : List V), DatL K' mg φ G ds vs → DatL K' mg φ G es zs → DatL K' mg φ G (gD ds es) (gV vs zs)
section
variable {K : PySem.W.Frag} {x qual : Str} {params : Arguments} {body : List Stmt} {scope : Scope} {kws : List (Str × V)} {f : Addr} {fd : FuncData} {ps : List Str}
/-- no defaults are taken -/
theorem kb_all {dvs : List V} (F : FunD K x qual params body scope dvs kws f fd) (hd : dvs = []) (n : Nat) (ks : List Str) (sel : List (Nat × Nat))
    (h : ∀ (kV doc pm : Value) (an : Option Addr) (cdv ct : Value) (us ws : List Value), us.length = n → ws.length = ks.length → bindArgs (PySem.W.fnOf x qual params body scope .none kV doc pm an cdv ct) ⟨us, ks.zip ws⟩ = pure (ps.zip (pick sel us ws []))) :
    KB K fd ps n ks (fun ds es => pick sel ds es []) := by
  obtain ⟨oc, od, dV, kV, doc, pm, an, cdv, ct, osl, rfl, lk, hcd, hD, hK⟩ := F.ex
  rcases hD with ⟨_, rfl⟩ | ⟨e, _⟩
  · exact ⟨fun us ws => pick sel us ws [], fun vs zs => pick sel vs zs [], ⟨fun s us ws X l1 l2 => .of_eq (h kV doc pm an cdv ct us ws l1 l2), fun r1 r2 => pick_vals r1 r2 .nil⟩, fun K' _ mg φ G ds es vs zs h1 h2 => pick_dat h1 h2 DatL.nil⟩
  · exact absurd hd e
end

/-! ### calls -/
section
variable {X : Cx} {W : WX} {k k' n np : Nat} {f C : Addr} {fd : FuncData} {ps ks : List Str} {sp : Sp} {sem cs : Sem'} {x m : Str} {p pos apos : Pos} {e o : Expr} {es : List Expr} {kws : List Keyword} {fa fk : FA} {fo : FE} {gD : List D → List D → List D}
theorem run_fnG {pins : List (Addr × Obj)} {σ : L2.St} {H : Hp} {s : Shared} {Q : VK} {us ws : List Value} {bs : List Value} {vs : List V} (F : FnG X.prog X.w X.K X.mg X.base k f fd ps sp) (C : Cn X W k') (hk : k ≤ k') (I : L2.Inv X pins σ H s)
    (hb : BindsTo s fd ⟨us, ks.zip ws⟩ (ps.zip bs)) (r : Vals vs bs) (h : sp vs H Q (WE W σ)) : wpAny (model X.prog X.w) X.A (call (.ref f) us (ks.zip ws)) (EP X pins σ Q) X.xe s := by
  refine wpAny_call (codeAny_mono (F.run X.A X.stack s H _ bs vs Q (WE W σ) (C.room.mono hk) C.gd I.env0 hb r h) fun res s' hq => ?_)
  cases res with
  | error e => exact L2N.passAt C.tk σ pins H s e s' I hq
  | ok fl => cases fl with
    | ret u => exact I.after hq
    | _ => exact hq.elim
def fCall (cs : Sem') (gD : List D → List D → List D) (np nk n : Nat) (fa fk : FA) : FE := fun ρ S => (fa ρ S).bind fun ds S => (fk ρ S).bind fun es S => if ds.length = np ∧ es.length = nk ∧ (gD ds es).length = n then cs (gD ds es) S else .stuck
theorem dkw_nil : DKw X W [] (fun _ S => .ok [] S) := .mk pk_nil (fun Z φ S ρ σ H Q R sl w => w.now R DatL.nil)
theorem dkw_cons {nm : Option Str} {kpos : Pos} {fe : FE} {fr : FA} (ha : DE X W e fe) (hr : DKw X W kws fr) : DKw X W (⟨nm, e, kpos⟩ :: kws) (fCons fe fr) := by
  obtain ⟨t, p, q⟩ := ha.ex
  obtain ⟨u, p', q'⟩ := hr.ex
  refine .mk (pk_cons p p') (fun Z φ S ρ σ H Q R sl w => q Z φ S ρ σ H _ R sl (w.bind fun x S1 v φ1 H1 R1 E1 d w1 => ?_))
  exact q' Z φ1 S1 ρ σ H1 _ R1 (sl.evo E1) (w1.bind fun xs S2 vs φ2 H2 R2 E2 d2 w2 => w2.now R2 (.cons (Dat.evo E2 d) d2))
/-- arguments, then keywords, then what follows -/
theorem args_run {ta tk : TA} (qa : IsA X W ta fa) (qk : IsA X W tk fk) {cont : List D → List D → Store → Res D} {Z φ : List Addr} {S : Store} {ρ : EnvD} {σ : L2.St} {H : Hp} {Q : VK} {P : List V → List V → Hp → Prop}
    (R : Rel X.K X.mg Z φ S H) (sl : Slots X.K X.mg φ (gnd Z φ S H) ρ σ) (w : Want X.K X.mg (RDat X.K X.mg) Z φ S H ((fa ρ S).bind fun ds S => (fk ρ S).bind fun es S => cont ds es S) Q (WE W σ))
    (h : ∀ ds es S2 vs zs φ2 H2, Rel X.K X.mg Z φ2 S2 H2 → Evo Z φ S H φ2 S2 H2 → DatL X.K X.mg φ2 (gnd Z φ2 S2 H2) ds vs → DatL X.K X.mg φ2 (gnd Z φ2 S2 H2) es zs → Want X.K X.mg (RDat X.K X.mg) Z φ2 S2 H2 (cont ds es S2) Q (WE W σ) → P vs zs H2) :
    ta σ H fun vs H1 => tk σ H1 fun zs H2 => P vs zs H2 :=
  qa Z φ S ρ σ H _ R sl (w.bind fun ds S1 vs φ1 H1 R1 E1 d1 w1 => qk Z φ1 S1 ρ σ H1 _ R1 (sl.evo E1) (w1.bind fun es S2 zs φ2 H2 R2 E2 d2 w2 => h ds es S2 vs zs φ2 H2 R2 (E1.trans E2) (DatL.evo E2 d1) d2 w2))
theorem want_if {P : Prop} [Decidable P] {α β : Type} {Rr : List Addr → Hp → α → β → Prop} {Z φ : List Addr} {S : Store} {H : Hp} {r : Res α} {Q : β → Hp → Prop} {E : XK} (w : Want X.K X.mg Rr Z φ S H (if P then r else .stuck) Q E) : P ∧ Want X.K X.mg Rr Z φ S H r Q E := by
  by_cases h : P
  · rw [if_pos h] at w
    exact ⟨h, w⟩
  · rw [if_neg h] at w
    exact w.elim
/-- the callee's wish, from the caller's -/
theorem args_sp {gV : List V → List V → List V} (hcs : CallOk X.K X.mg n sem cs) (hN : ∀ (K' : PySem.W.Frag), K' = X.K → ∀ (mg : Str → Option Value) (φ : List Addr) (G : Hp) (ds es : List D) (vs zs : List V), DatL K' mg φ G ds vs → DatL K' mg φ G es zs → DatL K' mg φ G (gD ds es) (gV vs zs))
    {nk : Nat} {Z φ : List Addr} {S : Store} {H : Hp} {ds es : List D} {vs zs : List V} {Q : VK} {E : XK} (R : Rel X.K X.mg Z φ S H) (d1 : DatL X.K X.mg φ (gnd Z φ S H) ds vs) (d2 : DatL X.K X.mg φ (gnd Z φ S H) es zs)
    (w : Want X.K X.mg (RDat X.K X.mg) Z φ S H (if ds.length = np ∧ es.length = nk ∧ (gD ds es).length = n then cs (gD ds es) S else .stuck) Q E) : vs.length = np ∧ zs.length = nk ∧ spD X.K X.mg n sem (gV vs zs) H Q E := by
  obtain ⟨⟨l1, l2, l3⟩, w3⟩ := want_if w
  have d3 := hN _ rfl _ _ _ _ _ _ _ d1 d2
  exact ⟨by rw [d1.length, l1], by rw [d2.length, l2], hcs Z φ S H _ _ Q E (by rw [d3.length, l3]) R d3 w3⟩
theorem de_call (F : FnG X.prog X.w X.K X.mg X.base k f fd ps (spD X.K X.mg ps.length sem)) (hcs : CallOk X.K X.mg ps.length sem cs) (C : Cn X W k') (hg : Gl X x) (hm : X.mg x = some (.ref f)) (hk : PySem.W.keepIn X.K (.ref f) = true) (hb : KB X.K fd ps np ks gD)
    (ha : DA X W (e :: es) fa) (hkw : DKw X W kws fk) (hle : k ≤ k' := by decide) (hall : (backToKw pos (keywordEach kws X.env)).all (·.1.isSome) = true := by rfl) (hks : (backToKw pos (keywordEach kws X.env)).filterMap (·.1) = ks := by rfl)
    (hdb : (x == ("__debug__" : Str)) = false := by decide) (he : starEach (e :: es) X.env = (false, eval e X.env) :: starEach es X.env := by rfl)
    (hpl : ((backTo pos (starEach (e :: es) X.env)).any (·.1) || (backToKw pos (keywordEach kws X.env)).any (·.1.isNone)) = false := by rfl) :
    DE X W (.Call (.Name x p) (e :: es) kws pos) (fCall cs gD np ks.length ps.length fa fk) := by
  obtain ⟨ta, pa, qa⟩ := ha.ex
  obtain ⟨tk, pk, qk⟩ := hkw.ex
  obtain ⟨g, gV, hB, hN⟩ := hb.ex
  refine .mk (t := fun σ H Q => ta σ H fun vs H1 => tk σ H1 fun zs H2 => vs.length = np ∧ zs.length = ks.length ∧ spD X.K X.mg ps.length sem (gV vs zs) H2 Q (WE W σ)) ⟨fun pins s σ H Q I h => ?_⟩
    (fun Z φ S ρ σ H Q R sl w => args_run qa qk R sl w fun ds es' S2 vs zs φ2 H2 R2 E2 d1 d2 w2 => args_sp hcs hN R2 d1 d2 w2)
  refine wpAny_Call_Name_kw (ld_glob I hg hm ?_ hdb)
  refine PySem.W.callWith_KW (h₀ := X.base) I.ok.mod.kin hk hall (thn (pa.run pos pins s σ H _ I h) fun us s1 ⟨vs, H1, I1, r, q⟩ => ?_) hpl he
  refine thn (pk.run pos pins s1 σ H1 _ I1 q) fun ws s2 ⟨zs, H2, I2, rz, l1, l2, q2⟩ => ⟨I2.kIn, ?_⟩
  rw [hks]
  exact run_fnG F C hle I2 (hB.to s2 us ws I2.kIn (r.length.symm.trans l1) (rz.length.symm.trans l2)) (hB.rel r rz) q2
/-! instances -/
def asI (S : Store) : D → Option (Str × List (Str × D))
  | .ins C fs => some (C, fs)
  | .oid n => match S[n]? with
    | some (.ins C fs) => some (C, fs)
    | some (.frz (.ins C fs)) => some (C, fs)
    | _ => none
  | _ => none
theorem asI_ok {K : PySem.W.Frag} {mg : Str → Option Value} {Z φ : List Addr} {S : Store} {H : Hp} (R : Rel K mg Z φ S H) {d : D} {v : V} {c : Str} {fs : List (Str × D)} (h : Dat K mg φ (gnd Z φ S H) d v) (e : asI S d = some (c, fs)) :
    ∃ a A dx fvs, v = .ref a ∧ mg c = some (.ref A) ∧ H a = some (.ins A dx fvs) ∧ DatF K mg φ (gnd Z φ S H) fs fvs := by
  cases d with
  | ins C gs =>
    cases e
    unfold Dat at h
    obtain ⟨a, A, dx, fvs, rfl, h0, h1, h2⟩ := h
    exact ⟨a, A, dx, fvs, rfl, h0, gnd_sub _ _ h1, h2⟩
  | oid n =>
    unfold Dat at h
    obtain ⟨a, rfl, h1⟩ := h
    cases q : S[n]? with
    | none => simp [asI, q] at e
    | some o =>
      simp only [asI, q] at e
      have ok := R.ob n a o h1 q
      cases o with
      | ins C gs =>
        cases e
        obtain ⟨A, dx, fvs, q0, q1, q2⟩ := ok
        exact ⟨a, A, dx, fvs, rfl, q0, q1, q2⟩
      | frz d =>
        cases d with
        | ins C gs =>
          cases e
          have ok' : Dat K mg φ (gnd Z φ S H) (.ins _ _) (.ref a) := ok
          unfold Dat at ok'
          obtain ⟨b, A, dx, fvs, e1, q0, q1, q2⟩ := ok'
          cases e1
          exact ⟨a, A, dx, fvs, rfl, q0, gnd_sub _ _ q1, q2⟩
        | _ => cases e
      | _ => cases e
  | _ => cases e
theorem datF_lookup {K : PySem.W.Frag} {mg : Str → Option Value} {φ : List Addr} {G : Hp} {m : Str} : ∀ {fs : List (Str × D)} {fvs : List (Str × V)}, DatF K mg φ G fs fvs → (∀ d, fs.lookup m = some d → ∃ v, fvs.lookup m = some v ∧ Dat K mg φ G d v) ∧ (fs.lookup m = none → fvs.lookup m = none)
  | [], _, h => by
    unfold DatF at h
    subst h
    exact ⟨fun d q => (by cases q), fun _ => rfl⟩
  | (k, d) :: fs, _, h => by
    unfold DatF at h
    obtain ⟨v, r, rfl, h1, h2⟩ := h
    obtain ⟨a, b⟩ := datF_lookup (m := m) h2
    rw [List.lookup_cons, List.lookup_cons]
    cases (m == k) with
    | true => exact ⟨fun e q => by cases q; exact ⟨v, rfl, h1⟩, fun q => by cases q⟩
    | false => exact ⟨a, b⟩
/-- what the text has of a class -/
structure ClsI (X : Cx) (c : Str) (C : Addr) : Prop where
  mg : X.mg c = some (.ref C)
  cls : Cls X.K C
/-- o.m(e, .., k = v, ..) -/
def fMeth (cs : Sem') (gD : List D → List D → List D) (c m : Str) (np nk n : Nat) (fo : FE) (fa fk : FA) : FE := fun ρ S => (fo ρ S).bind fun o S => match asI S o with
  | some (c', fs) => if c' = c ∧ (fs.lookup m).isNone then (fa ρ S).bind fun ds S => (fk ρ S).bind fun es S => if (o :: ds).length = np ∧ es.length = nk ∧ (gD (o :: ds) es).length = n then cs (gD (o :: ds) es) S else .stuck else .stuck
  | none => .stuck
theorem meth_at {c : Str} {Z φ : List Addr} {S : Store} {H : Hp} {od : D} {ov : V} {α : Type} {r : Res α} {β : Type} {Rr : List Addr → Hp → α → β → Prop} {Q : β → Hp → Prop} {E : XK} (cl : ClsI X c C) (R : Rel X.K X.mg Z φ S H) (d : Dat X.K X.mg φ (gnd Z φ S H) od ov)
    (w : Want X.K X.mg Rr Z φ S H (match asI S od with | some (c', fs) => if c' = c ∧ (fs.lookup m).isNone then r else .stuck | none => .stuck) Q E) :
    ∃ a dx fvs, ov = .ref a ∧ H a = some (.ins C dx fvs) ∧ fvs.lookup m = none ∧ Want X.K X.mg Rr Z φ S H r Q E := by
  cases hi : asI S od with
  | none => rw [hi] at w; exact w.elim
  | some t =>
    obtain ⟨c', fs⟩ := t
    rw [hi] at w
    obtain ⟨⟨rfl, hl⟩, w1⟩ := want_if w
    obtain ⟨a, A, dx, fvs, rfl, q0, q1, q2⟩ := asI_ok R d hi
    rw [cl.mg] at q0
    cases q0
    exact ⟨a, dx, fvs, rfl, q1, (datF_lookup q2).2 (Option.isNone_iff_eq_none.mp hl), w1⟩
theorem de_meth0 {pl : Sem Bool} {c : Str} (ho : DE X W o fo) (cl : ClsI X c C) (hm : Meth X.K C m f) (F : FnG X.prog X.w X.K X.mg X.base k f fd ps (spD X.K X.mg ps.length sem)) (hcs : CallOk X.K X.mg ps.length sem cs) (Cc : Cn X W k') (hb : KB X.K fd ps 1 ks gD)
    (hkw : DKw X W kws fk) (hle : k ≤ k' := by decide) (hall : (backToKw pos (keywordEach kws X.env)).all (·.1.isSome) = true := by rfl) (hks : (backToKw pos (keywordEach kws X.env)).filterMap (·.1) = ks := by rfl)
    (hpl : ((backTo pos (starEach [] X.env)).any (·.1) || (backToKw pos (keywordEach kws X.env)).any (·.1.isNone)) = false := by rfl)
    (ht : eval (.Call (.Attribute o m apos) [] kws pos) X.env = (do
      let ov ← eval o X.env
      standAt apos.atName
      let (f, first) ← holding [ov] (getMethod ov m pl)
      callWith pos f first (backTo pos (starEach [] X.env)) (backToKw pos (keywordEach kws X.env))) := by rfl) :
    DE X W (.Call (.Attribute o m apos) [] kws pos) (fMeth cs gD c m 1 ks.length ps.length fo (fun _ S => .ok [] S) fk) := by
  obtain ⟨to, po, qo⟩ := ho.ex
  obtain ⟨tk, pk, qk⟩ := hkw.ex
  obtain ⟨g, gV, hB, hN⟩ := hb.ex
  refine .mk (t := fun σ H Q => to σ H fun ov H0 => ∃ a dx fvs, ov = .ref a ∧ H0 a = some (.ins C dx fvs) ∧ fvs.lookup m = none ∧ tk σ H0 fun zs H2 => zs.length = ks.length ∧ spD X.K X.mg ps.length sem (gV [.ref a] zs) H2 Q (WE W σ)) ⟨fun pins s σ H Q I h => ?_⟩
    (fun Z φ S ρ σ H Q R sl w => qo Z φ S ρ σ H _ R sl (w.bind fun od S1 ov φ1 H1 R1 E1 d w1 => ?_))
  · refine PySem.W.methodCall_KW (pl := pl) (thn (po.run pins s σ H _ I h) fun u s1 ⟨x, H1, I1, rx, a, dx, fvs, ex, ea, l, q⟩ => ?_) ht
    subst ex
    obtain rfl : u = Value.ref a := rx
    refine getmeth_ok I1 ea cl.cls hm l ?_
    refine PySem.W.callWith_KW0 (first := [.ref a]) (h₀ := X.base) I.ok.mod.kin hm.kp hall ?_ hpl
    refine thn (pk.run pos pins s1 σ H1 _ I1 q) fun ws s3 ⟨zs, H3, I3, rz, l2, q3⟩ => ⟨I3.kIn, ?_⟩
    have r1 : Vals [V.ref a] [Value.ref a] := .cons rfl .nil
    rw [hks]
    exact run_fnG (us := [.ref a]) F Cc hle I3 (hB.to s3 _ ws I3.kIn rfl (rz.length.symm.trans l2)) (hB.rel r1 rz) q3
  · obtain ⟨a, dx, fvs, rfl, h1, h2, w2⟩ := meth_at cl R1 d w1
    refine ⟨a, dx, fvs, rfl, h1, h2, qk Z φ1 S1 ρ σ H1 _ R1 (sl.evo E1) (Want.bind (k := fun es S => if [od].length = 1 ∧ es.length = ks.length ∧ (gD [od] es).length = ps.length then cs (gD [od] es) S else .stuck) w2 fun es S2 zs φ2 H2 R2 E2 d2 w3 => ?_)⟩
    exact (args_sp hcs hN R2 (.cons (Dat.evo E2 d) DatL.nil) d2 w3).2
/-- o.f -/
def fFld (cs : List Str) (f : Str) (fo : FE) : FE := fun ρ S => (fo ρ S).bind fun o S => match asI S o with
  | some (c, fs) => if c ∈ cs then (match fs.lookup f with
    | some d => .ok d S
    | none => .stuck) else .stuck
  | none => .stuck
theorem de_fld {fn : Str} {cs : List Str} (ho : DE X W o fo) (hc : ∀ c ∈ cs, ∃ C, ClsI X c C ∧ NoAttr X.K C fn) (hb : attributeBase o fn X.env (eval o X.env) = eval o X.env := by rfl) : DE X W (.Attribute o fn pos) (fFld cs fn fo) := by
  obtain ⟨to, po, qo⟩ := ho.ex
  refine .mk (pe_fld po hb) (fun Z φ S ρ σ H Q R sl w => qo Z φ S ρ σ H _ R sl (w.bind fun od S1 ov φ1 H1 R1 E1 d w1 => ?_))
  cases hi : asI S1 od with
  | none => rw [hi] at w1; exact w1.elim
  | some t =>
    obtain ⟨c, fs⟩ := t
    rw [hi] at w1
    obtain ⟨hm, w2⟩ := want_if w1
    obtain ⟨a, A, dx, fvs, rfl, q0, q1, q2⟩ := asI_ok R1 d hi
    obtain ⟨C, cl, na⟩ := hc c hm
    rw [cl.mg] at q0
    cases q0
    cases hl : fs.lookup fn with
    | none => rw [hl] at w2; exact w2.elim
    | some e =>
      rw [hl] at w2
      obtain ⟨v, h1, h2⟩ := (datF_lookup q2).1 e hl
      exact ⟨a, A, dx, fvs, v, rfl, q1, cl.cls, na, h1, w2.now R1 h2⟩
/-- o.f = e -/
def putFD (f : Str) (d : D) : List (Str × D) → List (Str × D)
  | [] => [(f, d)]
  | (g, e) :: r => if g = f then (g, d) :: r else (g, e) :: putFD f d r
theorem datF_length {K : PySem.W.Frag} {mg : Str → Option Value} {φ : List Addr} {G : Hp} : ∀ {fs : List (Str × D)} {fvs : List (Str × V)}, DatF K mg φ G fs fvs → fvs.length = fs.length
  | [], _, h => by
    unfold DatF at h
    subst h
    rfl
  | (k, d) :: fs, _, h => by
    unfold DatF at h
    obtain ⟨v, r, rfl, _, h2⟩ := h
    rw [List.length_cons, List.length_cons, datF_length h2]
theorem datF_put {K : PySem.W.Frag} {mg : Str → Option Value} {φ : List Addr} {G : Hp} {f : Str} {d : D} {v : V} (hd : Dat K mg φ G d v) : ∀ {fs : List (Str × D)} {fvs : List (Str × V)}, DatF K mg φ G fs fvs → DatF K mg φ G (putFD f d fs) (putF f v fvs)
  | [], _, h => by
    unfold DatF at h
    subst h
    show DatF K mg φ G [(f, d)] [(f, v)]
    unfold DatF
    exact ⟨v, [], rfl, hd, by unfold DatF; rfl⟩
  | (g, e) :: fs, _, h => by
    unfold DatF at h
    obtain ⟨u, r, rfl, h1, h2⟩ := h
    have eq : putF f v ((g, u) :: r) = if g = f then (g, v) :: r else (g, u) :: putF f v r := by rw [putF]
    rw [eq]
    unfold putFD
    by_cases hg : g = f
    · rw [if_pos hg, if_pos hg]
      unfold DatF
      exact ⟨v, r, rfl, hd, h2⟩
    · rw [if_neg hg, if_neg hg]
      unfold DatF
      exact ⟨u, _, rfl, h1, datF_put hd h2⟩
def gFld (cs : List Str) (f : Str) (fo fe : FE) : FS := fun ρ S => (fe ρ S).into ρ fun d S => (fo ρ S).into ρ fun o S => match o with
  | .oid n => (match S[n]? with
    | some (.ins c fs) => if c ∈ cs ∧ fs.length < 1000 then .nx ρ (S.set n (.ins c (putFD f d fs))) else .stuck
    | _ => .stuck)
  | _ => .stuck
theorem wantS_if {P : Prop} [Decidable P] {Z φ : List Addr} {S : Store} {H : Hp} {r : Out} {Dd : Ends} (w : WantS X W Z φ S H (if P then r else .stuck) Dd) : P ∧ WantS X W Z φ S H r Dd := by
  by_cases h : P
  · rw [if_pos h] at w
    exact ⟨h, w⟩
  · rw [if_neg h] at w
    exact w.elim
theorem ds_fld {fn : Str} {cs : List Str} {value : Expr} {fe : FE} {pos' : Pos} (ho : DE X W o fo) (hv : DE X W value fe) (hc : ∀ c ∈ cs, ∃ C, ClsI X c C ∧ NoAttr X.K C fn) (hs : swapsWith value (some (.Attribute o fn pos')) pos.line X.env = pure false := by rfl) :
    DS X W (.Assign [.Attribute o fn pos'] value pos) (gFld cs fn fo fe) := by
  obtain ⟨to, po, qo⟩ := ho.ex
  obtain ⟨tv, pv, qv⟩ := hv.ex
  refine .mk (ps_fld po pv hs) fun Z φ S ρ σ H Dd R sl w => qv Z φ S ρ σ H _ R sl (w.into sl fun d S1 v φ1 H1 R1 E1 dd w1 => qo Z φ1 S1 ρ σ H1 _ R1 (sl.evo E1) (w1.into (sl.evo E1) fun od S2 ov φ2 H2 R2 E2 d2 w2 => ?_))
  cases od with
  | oid n =>
    simp only at w2
    unfold RDat Dat at d2
    obtain ⟨a, rfl, ha⟩ := d2
    cases hS : S2[n]? with
    | none => rw [hS] at w2; exact w2.elim
    | some so =>
      rw [hS] at w2
      cases so with
      | ins c fs =>
        obtain ⟨⟨hm, hlt⟩, w3⟩ := wantS_if w2
        obtain ⟨A, dx, fvs, q0, q1, q2⟩ := R2.ob n a _ ha hS
        obtain ⟨C, cl, na⟩ := hc c hm
        rw [cl.mg] at q0
        cases q0
        refine ⟨a, A, dx, fvs, rfl, q1, cl.cls, na, by rw [datF_length q2]; exact hlt, ?_⟩
        obtain ⟨R3, E3⟩ := R2.mutate (u := .ins c (putFD fn d fs)) (ho := .ins A dx (putF fn v fvs)) ha hS rfl rfl ⟨A, dx, _, cl.mg, upd_same, datF_put (Dat.evo E2 dd) q2⟩
        exact w3 σ φ2 _ R3 E3 (((sl.evo E1).evo E2).evo E3)
      | _ => exact w2.elim
  | _ => exact w2.elim
end
end DL

/-! The data layer, part 8: classes made, raise, what is frozen, dicts, lists. -/
namespace DL
open PySem L2

section
variable {X : Cx} {W : WX} {k k' n np : Nat} {f C : Addr} {fd : FuncData} {ps ks : List Str} {sp : Sp} {sem cs : Sem'} {x m : Str} {p pos apos : Pos} {e o : Expr} {es : List Expr} {kws : List Keyword} {fa fk : FA} {fo fe : FE} {gD : List D → List D → List D}
theorem guards_make {A : Around} (h : A.guards = some []) (C : Addr) (us : List Value) (kw : List (Str × Value)) : (A.under (.builtin "type.__call__" ⟨.ref C :: us, kw⟩)).guards = some [] := by
  have e : (Code.builtin "type.__call__" ⟨.ref C :: us, kw⟩).guards = [] := rfl
  show pushGuards (Code.builtin "type.__call__" ⟨.ref C :: us, kw⟩).guards A.guards = some []
  rw [e]
  exact h
theorem run_makeG {pins : List (Addr × Obj)} {σ : L2.St} {H : Hp} {s : Shared} {Q : VK} {us ws : List Value} {vs zs : List V} {g : List Value → List Value → List Value} {gV : List V → List V → List V} (M : Mk X.K C f) (F : FnG X.prog X.w X.K X.mg X.base k f fd ps sp) (Cc : Cn X W k') (hk : k + 1 ≤ k')
    (hb : KBn X.K fd ps (np + 1) ks g gV) (I : L2.Inv X pins σ H s) (r : Vals vs us) (rz : Vals zs ws) (l1 : vs.length = np) (l2 : zs.length = ks.length)
    (h : ∀ x dx, H x = none → H dx = none → dx ≠ x → sp (gV (.ref x :: vs) zs) (upd (upd H dx (.own x)) x (.ins C dx [])) (fun v H2 => v = .non ∧ Q (.ref x) H2) (WE W σ)) :
    wpAny (model X.prog X.w) X.A (call (.ref C) us (ks.zip ws)) (EP X pins σ Q) X.xe s := by
  have hq := h (s.heap.objs.size + 1) s.heap.objs.size (I.hok.fresh (Nat.le_succ _)) (I.hok.fresh (Nat.le_refl _)) (Nat.ne_of_lt (Nat.lt_succ_self _))
  have J := Inv.made (C := C) I
  have r1 : Vals (V.ref (s.heap.objs.size + 1) :: vs) (Value.ref (s.heap.objs.size + 1) :: us) := .cons rfl r
  have rr := hb.rel r1 rz
  have ln : (Value.ref (s.heap.objs.size + 1) :: us).length = np + 1 := by rw [List.length_cons, ← r.length, l1]
  refine wpAny_call (make_map (f := f) I.kIn M.makes M.init (beq_iff_eq.mp M.fn) (codeAny_mono
    (F.run _ X.stack _ _ _ _ _ _ (WE W σ) ((Cc.room.mono hk).make C us (ks.zip ws)) (guards_make Cc.gd C us (ks.zip ws)) (J.env0.make C us (ks.zip ws)) (hb.to _ _ ws J.kIn ln (rz.length.symm.trans l2)) rr hq) fun res s' hq' => ?_))
  cases res with
  | error e => exact L2N.passAt Cc.tk σ pins _ _ e s' J hq'
  | ok fl => cases fl with
    | ret u =>
      obtain ⟨v, H', I3, rv, ev, q3⟩ := J.after hq'
      subst ev
      exact ⟨rv, V.ref (s.heap.objs.size + 1), H', I3, rfl, q3⟩
    | _ => exact hq'.elim
/-- a new instance, kept as data -/
def makeF (sem : Sem') (gD : List D → List D → List D) (c : Str) (n : Nat) (ds es : List D) (S : Store) : Res D :=
  if pureL ds && pureL es && decide ((gD (.oid 0 :: ds) es).length = n) then (match sem (gD (.oid 0 :: ds) es) [.ins c []] with
    | .ok .non (.ins c' fs :: _) => if pureF fs then .ok (.ins c' fs) S else .stuck
    | .ex C fs _ => if pureF fs then .ex C fs S else .stuck
    | _ => .stuck) else .stuck
/-- a new instance in the store -/
def makeO (sem : Sem') (gD : List D → List D → List D) (c : Str) (n : Nat) (ds es : List D) (S : Store) : Res D :=
  if (gD (.oid S.length :: ds) es).length = n then (sem (gD (.oid S.length :: ds) es) (S ++ [.ins c []])).bind fun d S' => if d.isNon then .ok (.oid S.length) S' else .stuck else .stuck
abbrev MakeT := List D → List D → Store → Res D
def MakeOk (X : Cx) (c : Str) (n : Nat) (sem : Sem') (gD : List D → List D → List D) (mk : MakeT) : Prop := ∀ (C : Addr) (gV : List V → List V → List V) Z φ S H ds es vs zs (Q : VK) (E : XK), X.mg c = some (.ref C) →
  (∀ (K' : PySem.W.Frag), K' = X.K → ∀ (mg : Str → Option Value) (φ : List Addr) (G : Hp) (ds es : List D) (vs zs : List V), DatL K' mg φ G ds vs → DatL K' mg φ G es zs → DatL K' mg φ G (gD ds es) (gV vs zs)) → Rel X.K X.mg Z φ S H →
  DatL X.K X.mg φ (gnd Z φ S H) ds vs → DatL X.K X.mg φ (gnd Z φ S H) es zs → Want X.K X.mg (RDat X.K X.mg) Z φ S H (mk ds es S) Q E →
  ∀ x dx, H x = none → H dx = none → dx ≠ x → spD X.K X.mg n sem (gV (.ref x :: vs) zs) (upd (upd H dx (.own x)) x (.ins C dx [])) (fun v H2 => v = .non ∧ Q (.ref x) H2) E
theorem made_same {H : Hp} {x dx C : Addr} (hx : H x = none) (hd : H dx = none) : Same H (upd (upd H dx (.own x)) x (.ins C dx [])) := fun a o h => by
  rw [upd_ne (ne_of_none h hx), upd_ne (ne_of_none h hd)]
  exact h
theorem makeO_ok {c : Str} : MakeOk X c n sem gD (makeO sem gD c n) := fun C gV Z φ S H ds es vs zs Q E hm hN R d1 d2 w x dx hx hd hne => by
  unfold makeO at w
  obtain ⟨hl, w1⟩ := want_if w
  have sm := made_same (C := C) hx hd
  have lv : liveA (φ ++ [x]) (S ++ [.ins c []]) = liveA φ S ++ [x] := by rw [liveA_snoc R.len]; rfl
  obtain ⟨R1, E1⟩ := R.newOid (so := .ins c []) sm hx (by rw [upd_same]; exact fun z => nomatch z) rfl ⟨C, dx, [], hm, upd_same, by unfold DatF; rfl⟩
  have dx1 : Dat X.K X.mg (φ ++ [x]) (gnd Z (φ ++ [x]) (S ++ [.ins c []]) (upd (upd H dx (.own x)) x (.ins C dx []))) (.oid S.length) (.ref x) := by
    unfold Dat
    exact ⟨x, rfl, by rw [List.getElem?_append_right (by rw [R.len]; exact Nat.le_refl _), ← R.len, Nat.sub_self]; rfl⟩
  have dd := hN X.K rfl X.mg _ _ _ _ _ _ (.cons dx1 (DatL.evo E1 d1)) (DatL.evo E1 d2)
  refine ⟨by rw [dd.length, hl], Z, φ ++ [x], S ++ [.ins c []], _, R1, dd, ?_⟩
  cases hr : sem (gD (.oid S.length :: ds) es) (S ++ [.ins c []]) with
  | ok d S' =>
    rw [hr] at w1
    simp only [Res.bind_ok] at w1
    obtain ⟨hn, w2⟩ := want_if w1
    intro v φ' H' R' E' dv
    have hv := isNon_V dv
    rw [hn] at hv
    refine ⟨of_decide_eq_true hv, w2 _ φ' H' R' (E1.trans E') (Dat.evo E' dx1)⟩
  | ex C' fs S' =>
    rw [hr] at w1
    exact fun A dx' φ' H' m R' E' z => w1 A dx' φ' H' m R' (E1.trans E') z
  | stuck =>
    rw [hr] at w1
    exact w1.elim
theorem makeF_ok {c : Str} : MakeOk X c n sem gD (makeF sem gD c n) := fun C gV Z φ S H ds es vs zs Q E hm hN R d1 d2 w x dx hx hd hne => by
  unfold makeF at w
  obtain ⟨hp, w1⟩ := want_if w
  simp only [Bool.and_eq_true, decide_eq_true_eq] at hp
  have sm := made_same (C := C) hx hd
  have R0 : Rel X.K X.mg (Z ++ liveA φ S) [] [] H := ⟨rfl, List.nodup_nil, fun a h => by simp at h, fun a h => (List.mem_append.mp h).elim (R.zh a) fun z => R.ph a (liveA_sub z), fun a h => by simp at h, fun m a o h => by simp at h⟩
  have g0 : gnd (Z ++ liveA φ S) [] [] H = gnd Z φ S H := without_congr fun a => by simp [liveA]
  obtain ⟨R1, E1⟩ := R0.newOid (so := .ins c []) sm hx (by rw [upd_same]; exact fun z => nomatch z) rfl ⟨C, dx, [], hm, upd_same, by unfold DatF; rfl⟩
  have dx1 : Dat X.K X.mg [x] (gnd (Z ++ liveA φ S) [x] [.ins c []] (upd (upd H dx (.own x)) x (.ins C dx []))) (.oid 0) (.ref x) := by
    unfold Dat
    exact ⟨x, rfl, rfl⟩
  have tr : ∀ {ds : List D} {vs : List V}, pureL ds = true → DatL X.K X.mg φ (gnd Z φ S H) ds vs → DatL X.K X.mg [x] (gnd (Z ++ liveA φ S) [x] [.ins c []] (upd (upd H dx (.own x)) x (.ins C dx []))) ds vs := fun p q => by
    rw [← g0] at q
    exact DatL.evo E1 (q.pure (φ' := []) p)
  have dd := hN X.K rfl X.mg _ _ _ _ _ _ (.cons dx1 (tr hp.1.1 d1)) (tr hp.1.2 d2)
  have back : ∀ {φ' : List Addr} {Sc : Store} {H' : Hp}, Evo (Z ++ liveA φ S) [x] [.ins c []] (upd (upd H dx (.own x)) x (.ins C dx [])) φ' Sc H' → Rel X.K X.mg Z φ S H' ∧ Evo Z φ S H φ S H' ∧ Same (gnd (Z ++ liveA φ S) φ' Sc H') (gnd Z φ S H') := fun {φ' Sc H'} E' => by
    have s2 : Same H H' := fun a o h => E'.out a o (sm a o h) fun q => by
      have := liveA_sub q
      rw [List.mem_singleton.mp this, hx] at h
      cases h
    obtain ⟨a, b⟩ := R.same s2
    refine ⟨a, b, fun y o h => ?_⟩
    obtain ⟨h1, h2⟩ := without_some.mp h
    exact without_some.mpr ⟨fun q => h1 (List.mem_append_left _ q), h2⟩
  refine ⟨by rw [dd.length, hp.2], Z ++ liveA φ S, [x], [.ins c []], _, R1, dd, ?_⟩
  cases hr : sem (gD (.oid 0 :: ds) es) [.ins c []] with
  | ok d S' =>
    rw [hr] at w1
    cases d with
    | non =>
      cases S' with
      | nil => exact w1.elim
      | cons o S' =>
        cases o with
        | ins c' fs =>
          simp only at w1
          obtain ⟨pf, w2⟩ := want_if w1
          intro v φ' H' R' E' dv
          obtain ⟨a, b, s⟩ := back E'
          unfold RDat Dat at dv
          have h0 : φ'[0]? = some x := pre_get E'.pre rfl
          obtain ⟨A, dx', fvs, q0, q1, q2⟩ := R'.ob 0 x _ h0 rfl
          refine ⟨dv, w2 _ φ H' a b ?_⟩
          unfold RDat Dat
          exact ⟨x, A, dx', fvs, rfl, q0, without_some.mpr ⟨R.out_gnd hx, q1⟩, DatF.mono (List.prefix_refl _) s _ _ (DatF.pure pf q2)⟩
        | _ => exact w1.elim
    | _ => exact w1.elim
  | ex C' fs S' =>
    rw [hr] at w1
    simp only at w1
    obtain ⟨pf, w2⟩ := want_if w1
    intro A dx' φ' H' m R' E' z
    obtain ⟨a, b, s⟩ := back E'
    refine w2 A dx' φ H' m a b ?_
    rcases z with z | ⟨x0, e, fvs, x1, x2, x3⟩
    · exact .inl z
    · exact .inr ⟨x0, e, fvs, x1, s _ _ x2, DatF.mono (List.prefix_refl _) s _ _ (DatF.pure pf x3)⟩
  | stuck =>
    rw [hr] at w1
    exact w1.elim
def fMake (mk : MakeT) (np nk : Nat) (fa fk : FA) : FE := fun ρ S => (fa ρ S).bind fun ds S => (fk ρ S).bind fun es S => if ds.length = np ∧ es.length = nk then mk ds es S else .stuck
theorem de_make {c : Str} {mk : MakeT} (M : Mk X.K C f) (F : FnG X.prog X.w X.K X.mg X.base k f fd ps (spD X.K X.mg ps.length sem)) (hmk : MakeOk X c ps.length sem gD mk) (Cc : Cn X W k') (hg : Gl X c) (hm : X.mg c = some (.ref C)) (hb : KB X.K fd ps (np + 1) ks gD)
    (ha : DA X W (e :: es) fa) (hkw : DKw X W kws fk) (hle : k + 1 ≤ k' := by decide) (hall : (backToKw pos (keywordEach kws X.env)).all (·.1.isSome) = true := by rfl) (hks : (backToKw pos (keywordEach kws X.env)).filterMap (·.1) = ks := by rfl)
    (hdb : (c == ("__debug__" : Str)) = false := by decide) (he : starEach (e :: es) X.env = (false, eval e X.env) :: starEach es X.env := by rfl)
    (hpl : ((backTo pos (starEach (e :: es) X.env)).any (·.1) || (backToKw pos (keywordEach kws X.env)).any (·.1.isNone)) = false := by rfl) :
    DE X W (.Call (.Name c p) (e :: es) kws pos) (fMake mk np ks.length fa fk) := by
  obtain ⟨ta, pa, qa⟩ := ha.ex
  obtain ⟨tk, pk, qk⟩ := hkw.ex
  obtain ⟨g, gV, hB, hN⟩ := hb.ex
  refine .mk (t := fun σ H Q => ta σ H fun vs H1 => tk σ H1 fun zs H2 => vs.length = np ∧ zs.length = ks.length ∧ ∀ x dx, H2 x = none → H2 dx = none → dx ≠ x → spD X.K X.mg ps.length sem (gV (.ref x :: vs) zs) (upd (upd H2 dx (.own x)) x (.ins C dx [])) (fun v H2 => v = .non ∧ Q (.ref x) H2) (WE W σ)) ⟨fun pins s σ H Q I h => ?_⟩
    (fun Z φ S ρ σ H Q R sl w => args_run qa qk R sl w fun ds es' S2 vs zs φ2 H2 R2 E2 d1 d2 w2 => ?_)
  · refine wpAny_Call_Name_kw (ld_glob I hg hm ?_ hdb)
    refine PySem.W.callWith_KW (h₀ := X.base) I.ok.mod.kin M.kp hall (thn (pa.run pos pins s σ H _ I h) fun us s1 ⟨vs, H1, I1, r, q⟩ => ?_) hpl he
    refine thn (pk.run pos pins s1 σ H1 _ I1 q) fun ws s2 ⟨zs, H2, I2, rz, l1, l2, q2⟩ => ⟨I2.kIn, ?_⟩
    rw [hks]
    exact run_makeG M F Cc hle hB I2 r rz l1 l2 q2
  · obtain ⟨⟨l1, l2⟩, w3⟩ := want_if w2
    exact ⟨by rw [d1.length, l1], by rw [d2.length, l2], fun x dx hx hd hne => hmk C gV Z φ2 S2 H2 ds es' vs zs Q _ hm hN R2 d1 d2 w3 x dx hx hd hne⟩

/-! ### freezing -/
def fFrz (f : FE) : FE := fun ρ S => (f ρ S).bind fun d S => match d with
  | .oid n => (match S[n]? with
    | some (.lst ds) => .ok (.lst ds) (S.set n (.frz (.lst ds)))
    | some (.dic ks) => .ok (.dic ks) (S.set n (.frz (.dic ks)))
    | some (.ins c fs) => .ok (.ins c fs) (S.set n (.frz (.ins c fs)))
    | some (.frz d) => .ok d S
    | some (.tbl _ _) => .stuck
    | some (.dkt _) => .stuck
    | none => .stuck)
  | d => .ok d S
theorem de_frz (h : DE X W e fe) : DE X W e (fFrz fe) := by
  obtain ⟨t, p, q⟩ := h.ex
  refine .mk p (fun Z φ S ρ σ H Q R sl w => q Z φ S ρ σ H _ R sl (w.bind fun d S1 v φ1 H1 R1 E1 dd w1 => ?_))
  cases d with
  | oid n =>
    simp only at w1
    have dd0 := dd
    unfold RDat Dat at dd
    obtain ⟨a, rfl, ha⟩ := dd
    cases hS : S1[n]? with
    | none => rw [hS] at w1; exact w1.elim
    | some so =>
      rw [hS] at w1
      have ok := R1.ob n a so ha hS
      cases so with
      | lst ds =>
        obtain ⟨vs, h1, h2⟩ := ok
        have dn : Dat X.K X.mg φ1 (gnd Z φ1 (S1.set n (.frz (.lst ds))) H1) (.lst ds) (.ref a) := by
          unfold Dat
          exact ⟨a, vs, rfl, gnd_frz R1 ha h1, DatL.mono (List.prefix_refl _) evo_frz _ _ h2⟩
        obtain ⟨R2, E2⟩ := R1.freeze ha dn
        exact w1 _ φ1 H1 R2 E2 dn
      | dic ds =>
        obtain ⟨vs, h1, h2⟩ := ok
        have dn : Dat X.K X.mg φ1 (gnd Z φ1 (S1.set n (.frz (.dic ds))) H1) (.dic ds) (.ref a) := by
          unfold Dat
          exact ⟨a, vs, rfl, gnd_frz R1 ha h1, DatK.mono (List.prefix_refl _) evo_frz _ _ h2⟩
        obtain ⟨R2, E2⟩ := R1.freeze ha dn
        exact w1 _ φ1 H1 R2 E2 dn
      | ins c fs =>
        obtain ⟨A, dx, fvs, h0, h1, h2⟩ := ok
        have dn : Dat X.K X.mg φ1 (gnd Z φ1 (S1.set n (.frz (.ins c fs))) H1) (.ins c fs) (.ref a) := by
          unfold Dat
          exact ⟨a, A, dx, fvs, rfl, h0, gnd_frz R1 ha h1, DatF.mono (List.prefix_refl _) evo_frz _ _ h2⟩
        obtain ⟨R2, E2⟩ := R1.freeze ha dn
        exact w1 _ φ1 H1 R2 E2 dn
      | frz d => exact w1.now R1 ok
      | tbl _ _ => exact w1.elim
      | dkt _ => exact w1.elim
  | _ => exact w1.now R1 dd

/-! ### raise -/
/-- raise X('..'): an own class without an own __init__ -/
theorem ds_raise {bmB : List Value} {B newId initId : String} {msg : Str} {j : Nat} {p2 : Pos} (Cc : Cn X W k) (F : ExcBaseFacts B newId initId bmB) (q : PySem.W.excIn X.K C bmB newId = true) (gC : X.mg x = some (.ref C)) (kC : PySem.W.keepIn X.K (.ref C) = true) (r : Raises X (.ref C)) (hg : Gl X x)
    (hdb : (x == ("__debug__" : Str)) = false := by decide) : DS X W (.Raise (some (.Call (.Name x p) [.Constant (.str msg) j p2] [] apos)) none pos) (fun ρ S => .ex x [] ρ S) :=
  .mk (L2N.ps_raise Cc.calm Cc.tk (L2N.pmk_own F q gC kC r hg hdb)) fun Z φ S ρ σ H Dd R sl w => w C none σ φ H gC R Evo.refl sl (.inl ⟨rfl, rfl⟩)
end
end DL

/-! The data layer, part 9: operators on data, items, stores, built-ins. -/
namespace DL
open PySem L2

section
variable {X : Cx} {W : WX} {k : Nat} {a b c e : Expr} {es : List Expr} {fa fb fc fe : FE} {pos : Pos}
/-! tracked lists -/
def asLt (S : Store) : D → Option (List D)
  | .lst ds => some ds
  | .oid n => match S[n]? with
    | some (.lst ds) => some ds
    | some (.frz (.lst ds)) => some ds
    | _ => none
  | _ => none
theorem asLt_ok {K : PySem.W.Frag} {mg : Str → Option Value} {Z φ : List Addr} {S : Store} {H : Hp} (R : Rel K mg Z φ S H) {d : D} {v : V} {ds : List D} (h : Dat K mg φ (gnd Z φ S H) d v) (e : asLt S d = some ds) : ∃ a vs, v = .ref a ∧ H a = some (.lst vs) ∧ DatL K mg φ (gnd Z φ S H) ds vs := by
  cases d with
  | lst es =>
    cases e
    unfold Dat at h
    obtain ⟨a, vs, rfl, h1, h2⟩ := h
    exact ⟨a, vs, rfl, gnd_sub _ _ h1, h2⟩
  | oid n =>
    unfold Dat at h
    obtain ⟨a, rfl, h1⟩ := h
    cases q : S[n]? with
    | none => simp [asLt, q] at e
    | some o =>
      simp only [asLt, q] at e
      have ok := R.ob n a o h1 q
      cases o with
      | lst es =>
        cases e
        obtain ⟨vs, q1, q2⟩ := ok
        exact ⟨a, vs, rfl, q1, q2⟩
      | frz d =>
        cases d with
        | lst es =>
          cases e
          have ok' : Dat K mg φ (gnd Z φ S H) (.lst _) (.ref a) := ok
          unfold Dat at ok'
          obtain ⟨b, vs, e1, q1, q2⟩ := ok'
          cases e1
          exact ⟨a, vs, rfl, gnd_sub _ _ q1, q2⟩
        | _ => cases e
      | _ => cases e
  | _ => cases e
def D.tupOf : D → Option (List D)
  | .tup ds => some ds
  | _ => none
theorem tupOf_ok {K : PySem.W.Frag} {mg : Str → Option Value} {Z φ : List Addr} {S : Store} {H : Hp} {d : D} {v : V} {ds : List D} (h : Dat K mg φ (gnd Z φ S H) d v) (e : d.tupOf = some ds) : ∃ a vs, v = .ref a ∧ SqT K H a vs ∧ DatL K mg φ (gnd Z φ S H) ds vs := by
  cases d with
  | tup es =>
    cases e
    unfold Dat at h
    obtain ⟨a, vs, rfl, h1, h2⟩ := h
    exact ⟨a, vs, rfl, sqt_mono gnd_sub h1, h2⟩
  | _ => cases e

/-! ### + -/
def gAddI : G2 := gI (fun _ _ => true) fun i j => .int (i + j)
def gAddS : G2 := fun x y S => match x, y with
  | .str s, .str t => if short (s.length + t.length) then .ok (.str (s ++ t)) S else .stuck
  | _, _ => .stuck
def gAddT : G2 := fun x y S => match x, y with
  | .tup xs, .tup ys => if !xs.isEmpty && short (xs.length + ys.length) then .ok (.tup (xs ++ ys)) S else .stuck
  | _, _ => .stuck
def gAddL : G2 := fun x y S => match asLt S x, asLt S y with
  | some xs, some ys => if short (xs.length + ys.length) then .ok (.lst (xs ++ ys)) S else .stuck
  | _, _ => .stuck
def isI (x _ : D) (_ : Store) : Bool := match x with
  | .int _ => true
  | _ => false
def isS (x _ : D) (_ : Store) : Bool := match x with
  | .str _ => true
  | _ => false
def isT (x _ : D) (_ : Store) : Bool := match x with
  | .tup _ => true
  | _ => false
def gAdd : G2 := fun x y S => if isI x y S then gAddI x y S else if isS x y S then gAddS x y S else if isT x y S then gAddT x y S else gAddL x y S
theorem opd_addS : OpD X (fun x y H Q => ∃ i j, x = .str i ∧ y = .str j ∧ i.length + j.length ≤ sizeLine ∧ Q (.str (i ++ j)) H) gAddS := fun Z φ S H x y u v Q E R dx dy w => by
  unfold gAddS at w
  split at w
  · cases dStr dx
    cases dStr dy
    obtain ⟨h, w1⟩ := want_if w
    exact ⟨_, _, rfl, rfl, of_decide_eq_true h, w1.now R (dat_str _)⟩
  · exact w.elim
theorem opd_addT : OpD X (rCatT X.K) gAddT := fun Z φ S H x y u v Q E R dx dy w => by
  unfold gAddT at w
  split at w
  · rename_i xs ys
    obtain ⟨h, w1⟩ := want_if w
    simp only [Bool.and_eq_true, Bool.not_eq_true'] at h
    obtain ⟨p, vs, rfl, h1, h2⟩ := tupOf_ok dx rfl
    obtain ⟨q, us, rfl, h3, h4⟩ := tupOf_ok dy rfl
    refine ⟨p, q, vs, us, rfl, rfl, h1, h3, fun z => ?_, by rw [h2.length, h4.length]; exact of_decide_eq_true h.2, ?_⟩
    · rw [z] at h2
      have := h2.length
      cases xs with
      | nil => cases h.1
      | cons _ _ => cases this
    · by_cases hu : us = []
      · subst hu
        have hy : ys = [] := List.length_eq_zero_iff.mp (h4.length.symm)
        subst hy
        refine ⟨fun _ => ?_, fun z => absurd rfl z⟩
        rw [List.append_nil] at w1
        exact w1.now R dx
      · refine ⟨fun z => absurd z hu, fun _ t ht => ?_⟩
        obtain ⟨r, e, g⟩ := dat_newT R (h2.append h4) ht
        exact w1 _ _ _ r e g
  · exact w.elim
theorem opd_addL : OpD X rCat gAddL := fun Z φ S H x y u v Q E R dx dy w => by
  unfold gAddL at w
  split at w
  · rename_i xs ys e1 e2
    obtain ⟨h, w1⟩ := want_if w
    obtain ⟨p, vs, rfl, h1, h2⟩ := asLt_ok R dx e1
    obtain ⟨q, us, rfl, h3, h4⟩ := asLt_ok R dy e2
    refine ⟨p, q, vs, us, rfl, rfl, h1, h3, by rw [h2.length, h4.length]; exact of_decide_eq_true h, fun t ht => ?_⟩
    obtain ⟨r, e, g⟩ := dat_newL R (h2.append h4) ht
    exact w1 _ _ _ r e g
  · exact w.elim
theorem de_add (ha : DE X W a fa) (hb : DE X W b fb) : DE X W (.BinOp a .Add b pos) (fBin gAdd fa fb) :=
  de_bin (op_add.or (op_add_str.or (op_catT.or op_cat))) (OpD.or isI (opd_I0 fun _ _ _ _ => dat_int _) (OpD.or isS opd_addS (OpD.or isT opd_addT opd_addL))) ha hb

/-! ### == -/
mutual
def toPy : D → Option PyData
  | .non => some .none
  | .bl b => some (.bool b)
  | .int i => some (.int i)
  | .str x => some (.str x)
  | .tup ds => (toPyL ds).map .tuple
  | .lst ds => (toPyL ds).map .list
  | .scr ds => (toPyL ds).map .list
  | _ => none
def toPyL : List D → Option (List PyData)
  | [] => some []
  | d :: ds => (toPy d).bind fun p => (toPyL ds).map fun ps => p :: ps
end
mutual
theorem toPy_ok {K : PySem.W.Frag} {mg : Str → Option Value} {φ : List Addr} {G H : Hp} (e : Same G H) : ∀ (d : D) (v : V) (p : PyData), Dat K mg φ G d v → toPy d = some p → Dp K H v p
  | .non, v, p, h, q => by
    unfold toPy at q
    unfold Dat at h
    cases q
    subst h
    exact .non
  | .bl b, v, p, h, q => by
    unfold toPy at q
    unfold Dat at h
    cases q
    subst h
    exact .bl b
  | .int b, v, p, h, q => by
    unfold toPy at q
    unfold Dat at h
    cases q
    subst h
    exact .int b
  | .str b, v, p, h, q => by
    unfold toPy at q
    unfold Dat at h
    cases q
    subst h
    exact .str b
  | .ty n, v, p, h, q => by unfold toPy at q; cases q
  | .oid n, v, p, h, q => by unfold toPy at q; cases q
  | .dic n, v, p, h, q => by unfold toPy at q; cases q
  | .ins n m, v, p, h, q => by unfold toPy at q; cases q
  | .tup ds, v, p, h, q => by
    unfold toPy at q
    unfold Dat at h
    obtain ⟨a, vs, rfl, h1, h2⟩ := h
    cases r : toPyL ds with
    | none => rw [r] at q; cases q
    | some ps =>
      rw [r] at q
      cases q
      exact .tup (sqt_mono e h1) (toPyL_ok e ds vs ps h2 r)
  | .lst ds, v, p, h, q => by
    unfold toPy at q
    unfold Dat at h
    obtain ⟨a, vs, rfl, h1, h2⟩ := h
    cases r : toPyL ds with
    | none => rw [r] at q; cases q
    | some ps =>
      rw [r] at q
      cases q
      exact .lst (.of (e _ _ h1)) (toPyL_ok e ds vs ps h2 r)
  | .scr ds, v, p, h, q => by
    unfold toPy at q
    unfold Dat at h
    obtain ⟨a, vs, rfl, h1, h2⟩ := h
    cases r : toPyL ds with
    | none => rw [r] at q; cases q
    | some ps =>
      rw [r] at q
      cases q
      exact .lst (Same.seq e h1) (toPyL_ok e ds vs ps h2 r)
theorem toPyL_ok {K : PySem.W.Frag} {mg : Str → Option Value} {φ : List Addr} {G H : Hp} (e : Same G H) : ∀ (ds : List D) (vs : List V) (ps : List PyData), DatL K mg φ G ds vs → toPyL ds = some ps → DpAll K H vs ps
  | [], vs, ps, h, q => by
    unfold toPyL at q
    unfold DatL at h
    cases q
    subst h
    exact .nil
  | d :: ds, vs, ps, h, q => by
    unfold toPyL at q
    unfold DatL at h
    obtain ⟨v, r, rfl, h1, h2⟩ := h
    obtain ⟨p, q1, q2⟩ := Option.bind_eq_some_iff.mp q
    cases rr : toPyL ds with
    | none => rw [rr] at q2; cases q2
    | some ps' =>
      rw [rr] at q2
      cases q2
      exact .cons (toPy_ok e d v p h1 q1) (toPyL_ok e ds r ps' h2 rr)
end
/-- as data, a list of the store by its items -/
def pyOf (S : Store) (d : D) : Option PyData := match d with
  | .oid n => (match asL S (.oid n) with
    | some ds => (toPyL ds).map .list
    | none => match S[n]? with
      | some (.frz d) => toPy d
      | _ => none)
  | d => toPy d
theorem pyOf_ok {Z φ : List Addr} {S : Store} {H : Hp} (R : Rel X.K X.mg Z φ S H) {d : D} {v : V} {p : PyData} (h : Dat X.K X.mg φ (gnd Z φ S H) d v) (q : pyOf S d = some p) : Dp X.K H v p := by
  unfold pyOf at q
  split at q
  · rename_i n
    cases hl : asL S (.oid n) with
    | some ds =>
      rw [hl] at q
      obtain ⟨a, vs, rfl, h1, h2⟩ := asL_ok R h hl
      cases r : toPyL ds with
      | none => simp [r] at q
      | some ps =>
        simp only [r, Option.map_some, Option.some.injEq] at q
        subst q
        exact .lst h1 (toPyL_ok gnd_sub ds vs ps h2 r)
    | none =>
      rw [hl] at q
      simp only at q
      split at q
      · rename_i d hd
        unfold Dat at h
        obtain ⟨a, rfl, ha⟩ := h
        exact toPy_ok gnd_sub d _ p (R.ob n a _ ha hd) q
      · cases q
  · exact toPy_ok gnd_sub d v p h q
def scalD : D → D → Bool
  | .non, .non => true | .non, .int _ => true | .int _, .non => true | .non, .bl _ => true | .bl _, .non => true | .non, .str _ => true | .str _, .non => true
  | .int _, .int _ => true | .bl _, .bl _ => true | .str _, .str _ => true
  | .int _, .str _ => true | .str _, .int _ => true | .bl _, .str _ => true | .str _, .bl _ => true
  | _, _ => false
def eqS : D → D → Bool
  | .non, .non => true
  | .int i, .int j => decide (i = j)
  | .bl i, .bl j => decide (i = j)
  | .str i, .str j => decide (i = j)
  | _, _ => false
def gEqS (neg : Bool) : G2 := fun x y S => if scalD x y then .ok (.bl (if neg then !eqS x y else eqS x y)) S else .stuck
def gEqD (neg : Bool) : G2 := fun x y S => match pyOf S x, pyOf S y with
  | some p, some q => if SeqAt.shaped p && SeqAt.shaped q then .ok (.bl (if neg then !PyData.eqv p q else PyData.eqv p q)) S else .stuck
  | _, _ => .stuck
theorem eqS_ok {φ : List Addr} {G : Hp} {x y : D} {u v : V} (h : scalD x y = true) (dx : Dat X.K X.mg φ G x u) (dy : Dat X.K X.mg φ G y v) : scal u v = true ∧ decide (u = v) = eqS x y := by
  cases x <;> cases y <;> first
    | (cases h; done)
    | (unfold Dat at dx dy; subst dx; subst dy; refine ⟨rfl, ?_⟩; simp [eqS])
theorem opd_eqS : OpD X rEq (gEqS false) := fun Z φ S H x y u v Q E R dx dy w => by
  obtain ⟨h, w1⟩ := want_if w
  obtain ⟨a, b⟩ := eqS_ok h dx dy
  refine ⟨a, ?_⟩
  rw [b]
  exact w1.now R (dat_bl _)
theorem opd_neS : OpD X rNe (gEqS true) := fun Z φ S H x y u v Q E R dx dy w => by
  obtain ⟨h, w1⟩ := want_if w
  obtain ⟨a, b⟩ := eqS_ok h dx dy
  refine ⟨a, ?_⟩
  rw [b]
  exact w1.now R (dat_bl _)
theorem opd_eqD : OpD X (rEqD X.K) (gEqD false) := fun Z φ S H x y u v Q E R dx dy w => by
  unfold gEqD at w
  split at w
  · rename_i p q e1 e2
    obtain ⟨h, w1⟩ := want_if w
    rw [Bool.and_eq_true] at h
    exact ⟨p, q, pyOf_ok R dx e1, pyOf_ok R dy e2, h.1, h.2, w1.now R (dat_bl _)⟩
  · exact w.elim
theorem opd_neD : OpD X (rNeD X.K) (gEqD true) := fun Z φ S H x y u v Q E R dx dy w => by
  unfold gEqD at w
  split at w
  · rename_i p q e1 e2
    obtain ⟨h, w1⟩ := want_if w
    rw [Bool.and_eq_true] at h
    exact ⟨p, q, pyOf_ok R dx e1, pyOf_ok R dy e2, h.1, h.2, w1.now R (dat_bl _)⟩
  · exact w.elim
def pScal (x y : D) (_ : Store) : Bool := scalD x y
def gEq : G2 := fun x y S => if pScal x y S then gEqS false x y S else gEqD false x y S
def gNe : G2 := fun x y S => if pScal x y S then gEqS true x y S else gEqD true x y S
theorem Cn.u64 (C : Cn X W k) : X.A.units + 64 < cLine := C.room.units
theorem Cn.u1 (C : Cn X W k) : X.A.units + 1 < cLine := Nat.lt_of_le_of_lt (by omega) C.u64
theorem opr_eq (C : Cn X W k) : OpR X (compareOp .Eq) (fun x y H Q => rEq x y H Q ∨ rEqD X.K x y H Q) := op_eq.or (op_eqD C.u64)
theorem opr_ne (C : Cn X W k) : OpR X (compareOp .NotEq) (fun x y H Q => rNe x y H Q ∨ rNeD X.K x y H Q) := op_ne.or (op_neD C.u64)
theorem opd_eq : OpD X (fun x y H Q => rEq x y H Q ∨ rEqD X.K x y H Q) gEq := OpD.or pScal opd_eqS opd_eqD
theorem opd_ne : OpD X (fun x y H Q => rNe x y H Q ∨ rNeD X.K x y H Q) gNe := OpD.or pScal opd_neS opd_neD

/-! ### in -/
def D.flat : D → Bool
  | .non => true
  | .bl _ => true
  | .int _ => true
  | .str _ => true
  | _ => false
def eqF : D → D → Bool
  | .non, .non => true
  | .bl a, .bl b => a == b
  | .bl a, .int b => (if a then 1 else 0) == b
  | .int a, .bl b => a == (if b then 1 else 0)
  | .int a, .int b => a == b
  | .str a, .str b => a == b
  | _, _ => false
theorem flat_V {φ : List Addr} {G : Hp} {d : D} {v : V} (h : Dat X.K X.mg φ G d v) (f : d.flat = true) : flatV v = true := by
  cases d <;> first
    | (cases f; done)
    | (unfold Dat at h; subst h; rfl)
theorem eqF_V {φ : List Addr} {G : Hp} {x y : D} {u v : V} (dx : Dat X.K X.mg φ G x u) (dy : Dat X.K X.mg φ G y v) (fx : x.flat = true) (fy : y.flat = true) : eqV u v = eqF x y := by
  cases x <;> cases y <;> first
    | (cases fx; done)
    | (cases fy; done)
    | (unfold Dat at dx dy; subst dx; subst dy; rfl)
theorem all_flat {φ : List Addr} {G : Hp} : ∀ {ds : List D} {vs : List V}, DatL X.K X.mg φ G ds vs → ds.all D.flat = true → vs.all flatV = true
  | [], _, h, _ => by
    unfold DatL at h
    subst h
    rfl
  | d :: ds, _, h, f => by
    obtain ⟨v, r, rfl, h1, h2⟩ := h.uncons
    rw [List.all_cons, Bool.and_eq_true] at f ⊢
    exact ⟨flat_V h1 f.1, all_flat h2 f.2⟩
def inF (x : D) (ds : List D) : Bool := ds.any fun y => eqF y x
theorem inF_V {φ : List Addr} {G : Hp} {x : D} {u : V} (dx : Dat X.K X.mg φ G x u) (fx : x.flat = true) : ∀ {ds : List D} {vs : List V}, DatL X.K X.mg φ G ds vs → ds.all D.flat = true → inV u vs = inF x ds
  | [], _, h, _ => by
    unfold DatL at h
    subst h
    rfl
  | d :: ds, _, h, f => by
    obtain ⟨v, r, rfl, h1, h2⟩ := h.uncons
    rw [List.all_cons, Bool.and_eq_true] at f
    have q := inF_V dx fx h2 f.2
    unfold inV inF at q ⊢
    rw [List.any_cons, List.any_cons, q, eqF_V h1 dx f.1 fx]
def gInQ (neg : Bool) : G2 := fun x y S => match asQ S y with
  | some ds => if x.flat && ds.all D.flat then .ok (.bl (if neg then !inF x ds else inF x ds)) S else .stuck
  | none => .stuck
theorem opd_inQ {neg : Bool} : OpD X (rIn X.K neg) (gInQ neg) := fun Z φ S H x y u v Q E R dx dy w => by
  unfold gInQ at w
  split at w
  · rename_i ds e1
    obtain ⟨h, w1⟩ := want_if w
    rw [Bool.and_eq_true] at h
    obtain ⟨p, vs, rfl, h1, h2⟩ := asQ_ok R dy e1
    refine ⟨p, vs, rfl, h1, flat_V dx h.1, all_flat h2 h.2, ?_⟩
    rw [inF_V dx h.1 h2 h.2]
    exact w1.now R (dat_bl _)
  · exact w.elim
/-! dicts -/
def asD (S : Store) : D → Option (List (Key × D))
  | .dic ks => some ks
  | .oid n => match S[n]? with
    | some (.dic ks) => some ks
    | some (.frz (.dic ks)) => some ks
    | _ => none
  | _ => none
theorem asD_ok {K : PySem.W.Frag} {mg : Str → Option Value} {Z φ : List Addr} {S : Store} {H : Hp} (R : Rel K mg Z φ S H) {d : D} {v : V} {ks : List (Key × D)} (h : Dat K mg φ (gnd Z φ S H) d v) (e : asD S d = some ks) : ∃ a kvs, v = .ref a ∧ H a = some (.dK kvs) ∧ DatK K mg φ (gnd Z φ S H) ks kvs := by
  cases d with
  | dic es =>
    cases e
    unfold Dat at h
    obtain ⟨a, vs, rfl, h1, h2⟩ := h
    exact ⟨a, vs, rfl, gnd_sub _ _ h1, h2⟩
  | oid n =>
    unfold Dat at h
    obtain ⟨a, rfl, h1⟩ := h
    cases q : S[n]? with
    | none => simp [asD, q] at e
    | some o =>
      simp only [asD, q] at e
      have ok := R.ob n a o h1 q
      cases o with
      | dic es =>
        cases e
        obtain ⟨vs, q1, q2⟩ := ok
        exact ⟨a, vs, rfl, q1, q2⟩
      | frz d =>
        cases d with
        | dic es =>
          cases e
          have ok' : Dat K mg φ (gnd Z φ S H) (.dic _) (.ref a) := ok
          unfold Dat at ok'
          obtain ⟨b, vs, e1, q1, q2⟩ := ok'
          cases e1
          exact ⟨a, vs, rfl, gnd_sub _ _ q1, q2⟩
        | _ => cases e
      | _ => cases e
  | _ => cases e
def keyD : D → Option Key
  | .int i => some (.inl i)
  | .str x => some (.inr x)
  | _ => none
theorem keyD_ok {φ : List Addr} {G : Hp} {d : D} {v : V} {k : Key} (h : Dat X.K X.mg φ G d v) (e : keyD d = some k) : v = kV k := by
  cases d with
  | int i => cases e; exact dInt h
  | str i => cases e; exact dStr h
  | _ => cases e
theorem valD_ok {K : PySem.W.Frag} {mg : Str → Option Value} {φ : List Addr} {G : Hp} {k : Key} : ∀ {ks : List (Key × D)} {kvs : List (Key × V)}, DatK K mg φ G ks kvs → (∀ d, valD ks k = some d → ∃ v, valV kvs k = some v ∧ Dat K mg φ G d v) ∧ (valD ks k = none → valV kvs k = none)
  | [], _, h => by
    unfold DatK at h
    subst h
    exact ⟨fun d q => (by cases q), fun _ => rfl⟩
  | (j, d) :: ks, _, h => by
    unfold DatK at h
    obtain ⟨v, r, rfl, h1, h2⟩ := h
    obtain ⟨A, B⟩ := valD_ok (k := k) h2
    unfold valD valV at A B ⊢
    rw [List.find?_cons, List.find?_cons]
    by_cases hj : j = k
    · simp only [hj, decide_true]
      exact ⟨fun e q => (by cases q; exact ⟨v, rfl, h1⟩), fun q => (by cases q)⟩
    · simp only [hj, decide_false]
      exact ⟨A, B⟩
theorem valD_some {K : PySem.W.Frag} {mg : Str → Option Value} {φ : List Addr} {G : Hp} {k : Key} {ks : List (Key × D)} {kvs : List (Key × V)} (h : DatK K mg φ G ks kvs) : (valV kvs k).isSome = (valD ks k).isSome := by
  obtain ⟨A, B⟩ := valD_ok (k := k) h
  cases q : valD ks k with
  | none => rw [B q]; rfl
  | some d =>
    obtain ⟨v, e, _⟩ := A d q
    rw [e]
    rfl
def rNotInD : R2 := fun y x H Q => ∃ a o, x = .ref a ∧ DGet H a y o ∧ Q (.bl (!o.isSome)) H
theorem opr_notInD (C : Cn X W k) : OpR X (compareOp .NotIn) rNotInD := fun pins s σ H x y v u Q I rx ry h => by
  obtain ⟨p, o, rfl, g, q⟩ := h
  cases (show u = Value.ref p from ry)
  exact d_notIn C.u1 I g rx fun s' I' => ⟨.bl (!o.isSome), H, I', rfl, q⟩
def gInD (neg : Bool) : G2 := fun x y S => match asD S y, keyD x with
  | some ks, some j => .ok (.bl (if neg then !(valD ks j).isSome else (valD ks j).isSome)) S
  | _, _ => .stuck
theorem opd_notInD : OpD X rNotInD (gInD true) := fun Z φ S H x y u v Q E R dx dy w => by
  unfold gInD at w
  split at w
  · rename_i ks j e1 e2
    obtain ⟨p, kvs, rfl, h1, h2⟩ := asD_ok R dy e1
    refine ⟨p, valV kvs j, rfl, .inl ⟨kvs, j, .inl h1, keyD_ok dx e2, rfl⟩, ?_⟩
    rw [valD_some h2]
    exact w.now R (dat_bl _)
  · exact w.elim
def pDic (_ y : D) (S : Store) : Bool := (asD S y).isSome
def gIn : G2 := fun x y S => if pDic x y S then gInD false x y S else gInQ false x y S
def gNotIn : G2 := fun x y S => if pDic x y S then gInD true x y S else gInQ true x y S
theorem opr_notIn (C : Cn X W k) : OpR X (compareOp .NotIn) (fun x y H Q => rNotInD x y H Q ∨ rIn X.K true x y H Q) := (opr_notInD C).or op_notIn_seq
theorem opd_notIn : OpD X (fun x y H Q => rNotInD x y H Q ∨ rIn X.K true x y H Q) gNotIn := OpD.or pDic opd_notInD opd_inQ

/-! ### items -/
def gIxQ : G2 := fun x y S => match asQ S x, y with
  | some ds, .int i => (match atI ds i with
    | some d => .ok d S
    | none => .stuck)
  | _, _ => .stuck
theorem atI_dat {φ : List Addr} {G : Hp} {ds : List D} {vs : List V} (h : DatL X.K X.mg φ G ds vs) {i : Int} {d : D} (e : atI ds i = some d) : ∃ v, atI vs i = some v ∧ Dat X.K X.mg φ G d v := by
  unfold atI at e ⊢
  rw [h.length]
  obtain ⟨j, h1, h2⟩ := Option.bind_eq_some_iff.mp e
  obtain ⟨v, h3, h4⟩ := h.get h2
  exact ⟨v, by rw [h1, Option.bind_some, h3], h4⟩
theorem opd_ixQ : OpD X (fun x y H Q => rIxL X.K x y H Q ∨ rIxT X.K x y H Q) gIxQ := fun Z φ S H x y u v Q E R dx dy w => by
  unfold gIxQ at w
  split at w
  · rename_i ds i e1
    cases dInt dy
    obtain ⟨p, vs, rfl, h1, h2⟩ := asQ_ok R dx e1
    cases q : atI ds i with
    | none => rw [q] at w; exact w.elim
    | some d =>
      rw [q] at w
      obtain ⟨z, h3, h4⟩ := atI_dat h2 q
      rcases h1 with h1 | h1
      · exact .inl ⟨p, vs, i, z, rfl, rfl, h1, h3, w.now R h4⟩
      · exact .inr ⟨p, vs, i, z, rfl, rfl, h1, h3, w.now R h4⟩
  · exact w.elim
def rIxD : R2 := fun x y H Q => ∃ a v, x = .ref a ∧ DGet H a y (some v) ∧ Q v H
theorem ix_dict (C : Cn X W k) : IxR X rIxD := fun value slice pins s σ H x y v u Q I rx ry h hs => by
  obtain ⟨p, z, rfl, g, q⟩ := h
  cases (show v = Value.ref p from rx)
  exact PyProof.Rows.tail_any (dict_typeIs I g) PySem.F.slot_dict_getitem.lookup (d_getItem C.u1 I g ry fun w' s3 I3 rw' => ⟨z, H, I3, rw', q⟩) hs
def gIxD : G2 := fun x y S => match asD S x, keyD y with
  | some ks, some j => (match valD ks j with
    | some d => .ok d S
    | none => .stuck)
  | _, _ => .stuck
theorem opd_ixD : OpD X rIxD gIxD := fun Z φ S H x y u v Q E R dx dy w => by
  unfold gIxD at w
  split at w
  · rename_i ks j e1 e2
    obtain ⟨p, kvs, rfl, h1, h2⟩ := asD_ok R dx e1
    cases q : valD ks j with
    | none => rw [q] at w; exact w.elim
    | some d =>
      rw [q] at w
      obtain ⟨z, h3, h4⟩ := (valD_ok h2).1 d q
      exact ⟨p, z, rfl, .inl ⟨kvs, j, .inl h1, keyD_ok dy e2, h3.symm⟩, w.now R h4⟩
  · exact w.elim
def gIxS : G2 := fun x y S => match x, y with
  | .str z, .int i => if short z.length then (match atI z.cps.toList i with
    | some c => .ok (.str ⟨#[c]⟩) S
    | none => .stuck) else .stuck
  | _, _ => .stuck
theorem opd_ixS : OpD X rIxS gIxS := fun Z φ S H x y u v Q E R dx dy w => by
  unfold gIxS at w
  split at w
  · rename_i z i
    cases dInt dy
    cases dStr dx
    obtain ⟨h, w1⟩ := want_if w
    cases q : atI z.cps.toList i with
    | none => rw [q] at w1; exact w1.elim
    | some c =>
      rw [q] at w1
      exact ⟨z, i, c, rfl, rfl, of_decide_eq_true h, q, w1.now R (dat_str _)⟩
  · exact w.elim
def pDic1 (x _ : D) (S : Store) : Bool := (asD S x).isSome
def gIx : G2 := fun x y S => if pDic1 x y S then gIxD x y S else if isS x y S then gIxS x y S else gIxQ x y S
theorem de_sub1 (C : Cn X W k) (ha : DE X W a fa) (hb : DE X W b fb) (hs : PlainIx b := by intro _ _; rfl) : DE X W (.Subscript a b pos) (fBin gIx fa fb) :=
  de_ix ((ix_dict C).or (ix_str.or (ix_list.or ix_tup))) (OpD.or pDic1 opd_ixD (OpD.or isS opd_ixS opd_ixQ)) ha hb hs
end
end DL

/-! The data layer, part 10: chains of comparisons, calls of built-in functions. -/
namespace DL
open PySem L2

section
variable {X : Cx} {W : WX} {k : Nat} {a b c e : Expr} {es : List Expr} {fa fb fc fe : FE} {pos p : Pos}
/-! ### chains -/
theorem chain_ok {ta tb tc : TE} {r r' : R2} {g g' : G2} (hg : OpD X r g) (hg' : OpD X r' g') (qa : IsE X W ta fa) (qb : IsE X W tb fb) (qc : IsE X W tc fc) : IsE X W (tChain r r' ta tb tc) (fChain g g' fa fb fc) := fun Z φ S ρ σ H Q R sl w =>
  qa Z φ S ρ σ H _ R sl (w.bind fun x S1 u φ1 H1 R1 E1 d1 w1 => qb Z φ1 S1 ρ σ H1 _ R1 (sl.evo E1) (w1.bind fun y S2 v φ2 H2 R2 E2 d2 w2 =>
    hg Z φ2 S2 H2 x y u v _ _ R2 (Dat.evo E2 d1) d2 (w2.bind fun z S3 t φ3 H3 R3 E3 d3 w3 => by
      cases z with
      | bl k =>
        unfold RDat Dat at d3
        refine ⟨k, d3, ?_⟩
        cases k with
        | true => exact iteT (qc Z φ3 S3 ρ σ H3 _ R3 (((sl.evo E1).evo E2).evo E3) (w3.bind fun s S4 q φ4 H4 R4 E4 d4 w4 => hg' Z φ4 S4 H4 y s v q _ _ R4 (Dat.evo E4 (Dat.evo E3 d2)) d4 w4))
        | false => exact iteF (w3.now R3 (dat_bl _))
      | _ => exact w3.elim)))
theorem de_chain {op op' : CmpOp} {r r' : R2} {g g' : G2} (ho : OpR X (compareOp op) r) (ho' : OpR X (compareOp op') r') (hg : OpD X r g) (hg' : OpD X r' g') (ha : DE X W a fa) (hb : DE X W b fb) (hc : DE X W c fc)
    (hm : lastMarks [op, op'] [b, c] = false := by with_unfolding_all rfl) : DE X W (.Compare a [op, op'] [b, c] pos) (fChain g g' fa fb fc) := by
  obtain ⟨ta, pa, qa⟩ := ha.ex
  obtain ⟨tb, pb, qb⟩ := hb.ex
  obtain ⟨tc, pc, qc⟩ := hc.ex
  exact .mk (pe_chain ho ho' pa pb pc hm) (chain_ok hg hg' qa qb qc)
/-! ### calls of what is built in -/
abbrev GC := List D → Store → Res D
def CallD (X : Cx) (r : List V → Hp → VK → Prop) (g : GC) : Prop := ∀ (Z φ : List Addr) (S : Store) (H : Hp) (ds : List D) (vs : List V) (Q : VK) (E : XK), Rel X.K X.mg Z φ S H → DatL X.K X.mg φ (gnd Z φ S H) ds vs → Want X.K X.mg (RDat X.K X.mg) Z φ S H (g ds S) Q E → r vs H Q
def fCB (g : GC) (fa : FA) : FE := fun ρ S => (fa ρ S).bind g
theorem isE_cb {r : List V → Hp → VK → Prop} {g : GC} {t : TA} {fa : FA} (hg : CallD X r g) (q : IsA X W t fa) : IsE X W (tCB r t) (fCB g fa) := fun Z φ S ρ σ H Q R sl w =>
  q Z φ S ρ σ H _ R sl (w.bind fun ds S1 vs φ1 H1 R1 E1 d w1 => hg Z φ1 S1 H1 ds vs Q _ R1 d w1)
theorem de_callB {x : Str} {id : String} {r : List V → Hp → VK → Prop} {g : GC} {fa : FA} (hc : CallR X (.builtin id) r) (hd : CallD X r g) (hg : Gl X x) (hm : X.mg x = none) (hv : bootBuiltins x = some (.builtin id)) (ha : DA X W (e :: es) fa) (hn : x ≠ "__name__" := by decide) (hdb : (x == ("__debug__" : Str)) = false := by decide)
    (he : starEach (e :: es) X.env = (false, eval e X.env) :: starEach es X.env := by rfl) (hpl : (backTo pos (starEach es X.env)).any (·.1) = false := by rfl) : DE X W (.Call (.Name x p) (e :: es) [] pos) (fCB g fa) := by
  obtain ⟨t, p, q⟩ := ha.ex
  exact .mk (pe_callB hc hg hm hv p hn hdb he hpl) (isE_cb hd q)
theorem de_callTy {x : Str} {id : String} {r : List V → Hp → VK → Prop} {g : GC} {fa : FA} (hc : CallR X (.type id) r) (hd : CallD X r g) (hg : Gl X x) (hm : X.mg x = none) (hv : bootBuiltins x = some (.type id)) (ha : DA X W (e :: es) fa) (hn : x ≠ "__name__" := by decide) (hdb : (x == ("__debug__" : Str)) = false := by decide)
    (he : starEach (e :: es) X.env = (false, eval e X.env) :: starEach es X.env := by rfl) (hpl : (backTo pos (starEach es X.env)).any (·.1) = false := by rfl) : DE X W (.Call (.Name x p) (e :: es) [] pos) (fCB g fa) := by
  obtain ⟨t, p, q⟩ := ha.ex
  exact .mk (pe_callTy hc hg hm hv p hn hdb he hpl) (isE_cb hd q)
theorem callR_or {f : Value} {r r' : List V → Hp → VK → Prop} (h : CallR X f r) (h' : CallR X f r') : CallR X f (fun xs H Q => r xs H Q ∨ r' xs H Q) := fun pins s σ H xs us Q I rx q => q.elim (h pins s σ H xs us Q I rx) (h' pins s σ H xs us Q I rx)
theorem callD_or {r r' : List V → Hp → VK → Prop} {g g' : GC} (t : List D → Store → Bool) (h : CallD X r g) (h' : CallD X r' g') : CallD X (fun xs H Q => r xs H Q ∨ r' xs H Q) (fun ds S => if t ds S then g ds S else g' ds S) := fun Z φ S H ds vs Q E R d w => by
  by_cases q : t ds S = true
  · exact .inl (h Z φ S H ds vs Q E R d (by simpa only [q, if_true] using w))
  · exact .inr (h' Z φ S H ds vs Q E R d (by simpa [q] using w))

/-! len -/
def gLenQ : GC := fun ds S => match ds with
  | [d] => match asQ S d with
    | some xs => .ok (.int (xs.length : Nat)) S
    | none => .stuck
  | _ => .stuck
def gLenS : GC := fun ds S => match ds with
  | [.str z] => if short z.length then .ok (.int (z.length : Nat)) S else .stuck
  | _ => .stuck
def gLenD : GC := fun ds S => match ds with
  | [d] => match asD S d with
    | some ks => .ok (.int (ks.length : Nat)) S
    | none => .stuck
  | _ => .stuck
theorem datK_length {K : PySem.W.Frag} {mg : Str → Option Value} {φ : List Addr} {G : Hp} : ∀ {ks : List (Key × D)} {kvs : List (Key × V)}, DatK K mg φ G ks kvs → kvs.length = ks.length
  | [], _, h => by
    unfold DatK at h
    subst h
    rfl
  | (k, d) :: ks, _, h => by
    unfold DatK at h
    obtain ⟨v, r, rfl, _, h2⟩ := h
    rw [List.length_cons, List.length_cons, datK_length h2]
theorem cd_lenQ : CallD X (fun xs H Q => ∃ p ys, xs = [.ref p] ∧ (SqL X.K H p ys ∨ SqT X.K H p ys) ∧ Q (.int ys.length) H) gLenQ := fun Z φ S H ds vs Q E R d w => by
  unfold gLenQ at w
  split at w
  · obtain ⟨v, rfl, h1⟩ := datL1 d
    split at w
    · rename_i xs e1
      obtain ⟨a, us, rfl, h2, h3⟩ := asQ_ok R h1 e1
      refine ⟨a, us, rfl, h2, ?_⟩
      rw [h3.length]
      exact w.now R (dat_int _)
    · exact w.elim
  · exact w.elim
theorem cd_lenS : CallD X (fun xs H Q => ∃ z, xs = [.str z] ∧ z.length ≤ sizeLine ∧ Q (.int z.length) H) gLenS := fun Z φ S H ds vs Q E R d w => by
  unfold gLenS at w
  split at w
  · obtain ⟨v, rfl, h1⟩ := datL1 d
    obtain ⟨h, w1⟩ := want_if w
    cases dStr h1
    exact ⟨_, rfl, of_decide_eq_true h, w1.now R (dat_int _)⟩
  · exact w.elim
theorem cd_lenD : CallD X (fun xs H Q => ∃ a kvs, xs = [V.ref a] ∧ H a = some (.dK kvs) ∧ Q (.int kvs.length) H) gLenD := fun Z φ S H ds vs Q E R d w => by
  unfold gLenD at w
  split at w
  · obtain ⟨v, rfl, h1⟩ := datL1 d
    split at w
    · rename_i xs e1
      obtain ⟨a, us, rfl, h2, h3⟩ := asD_ok R h1 e1
      refine ⟨a, us, rfl, h2, ?_⟩
      rw [datK_length h3]
      exact w.now R (dat_int _)
    · exact w.elim
  · exact w.elim
def isDic1 (ds : List D) (S : Store) : Bool := match ds with
  | [d] => (asD S d).isSome
  | _ => false
def isStr1 (ds : List D) (_ : Store) : Bool := match ds with
  | [.str _] => true
  | _ => false
def gLen : GC := fun ds S => if isDic1 ds S then gLenD ds S else if isStr1 ds S then gLenS ds S else gLenQ ds S
theorem de_len {fa : FA} (hg : Gl X "len") (hm : X.mg "len" = none) (ha : DA X W [e] fa) (he : starEach [e] X.env = (false, eval e X.env) :: starEach [] X.env := by rfl) (hpl : (backTo pos (starEach [] X.env)).any (·.1) = false := by rfl) :
    DE X W (.Call (.Name "len" p) [e] [] pos) (fCB gLen fa) :=
  de_callB (callR_or call_lenD (callR_or call_len_str call_len_seq)) (callD_or isDic1 cd_lenD (callD_or isStr1 cd_lenS cd_lenQ)) hg hm (by rfl) ha (by decide) (by decide) he hpl

/-! abs, max, min -/
def gAbs : GC := fun ds S => match ds with
  | [.int i] => .ok (.int (if i < 0 then -i else i)) S
  | _ => .stuck
theorem de_abs {fa : FA} (hg : Gl X "abs") (hm : X.mg "abs" = none) (ha : DA X W [e] fa) (he : starEach [e] X.env = (false, eval e X.env) :: starEach [] X.env := by rfl) (hpl : (backTo pos (starEach [] X.env)).any (·.1) = false := by rfl) :
    DE X W (.Call (.Name "abs" p) [e] [] pos) (fCB gAbs fa) :=
  de_callB call_abs (fun Z φ S H ds vs Q E R d w => by
    unfold gAbs at w
    split at w
    · obtain ⟨v, rfl, h1⟩ := datL1 d
      cases dInt h1
      exact ⟨_, rfl, w.now R (dat_int _)⟩
    · exact w.elim) hg hm (by rfl) ha (by decide) (by decide) he hpl
def intsOf : List D → Option (List Int)
  | [] => some []
  | .int i :: ds => (intsOf ds).map (i :: ·)
  | _ => none
theorem intsOf_ok {K : PySem.W.Frag} {mg : Str → Option Value} {φ : List Addr} {G : Hp} : ∀ {ds : List D} {vs : List V} {ns : List Int}, DatL K mg φ G ds vs → intsOf ds = some ns → vs = ns.map V.int
  | [], _, _, h, e => by
    cases e
    unfold DatL at h
    exact h
  | d :: ds, _, ns, h, e => by
    obtain ⟨v, r, rfl, h1, h2⟩ := h.uncons
    cases d with
    | int i =>
      unfold intsOf at e
      cases q : intsOf ds with
      | none => rw [q] at e; cases e
      | some ms =>
        rw [q] at e
        cases e
        unfold Dat at h1
        subst h1
        rw [intsOf_ok h2 q]
        rfl
    | _ => cases e
theorem dat_ints {K : PySem.W.Frag} {mg : Str → Option Value} {φ : List Addr} {G : Hp} : ∀ (ns : List Int), DatL K mg φ G (ns.map D.int) (ns.map V.int)
  | [] => DatL.nil
  | n :: ns => .cons (by unfold Dat; rfl) (dat_ints ns)
def seqInts (S : Store) (d : D) : Option (List Int) := (asL S d).bind intsOf
theorem seqInts_ok {Z φ : List Addr} {S : Store} {H : Hp} {d : D} {v : V} {ns : List Int} (R : Rel X.K X.mg Z φ S H) (h : Dat X.K X.mg φ (gnd Z φ S H) d v) (e : seqInts S d = some ns) : ∃ a, v = .ref a ∧ SqL X.K H a (ns.map V.int) := by
  obtain ⟨ds, e1, e2⟩ := Option.bind_eq_some_iff.mp e
  obtain ⟨a, us, rfl, h2, h3⟩ := asL_ok R h e1
  refine ⟨a, rfl, ?_⟩
  rw [← intsOf_ok h3 e2]
  exact h2
def maxI : Int → List Int → Int
  | m, [] => m
  | m, n :: ns => maxI (if n > m then n else m) ns
def minI : Int → List Int → Int
  | m, [] => m
  | m, n :: ns => minI (if n < m then n else m) ns
theorem maxI_spec : ∀ (ns : List Int) (m : Int), maxI m ns ∈ m :: ns ∧ ∀ y ∈ m :: ns, y ≤ maxI m ns
  | [], m => ⟨by simp [maxI], fun y h => by simp at h; simp [maxI, h]⟩
  | n :: ns, m => by
    obtain ⟨a, b⟩ := maxI_spec ns (if n > m then n else m)
    have e : maxI m (n :: ns) = maxI (if n > m then n else m) ns := rfl
    rw [e]
    refine ⟨?_, fun y hy => ?_⟩
    · rcases List.mem_cons.mp a with h | h
      · rw [h]
        split
        · simp
        · simp
      · exact List.mem_cons_of_mem _ (List.mem_cons_of_mem _ h)
    · have top := b _ List.mem_cons_self
      have u1 : m ≤ (if n > m then n else m) := by split <;> omega
      have u2 : n ≤ (if n > m then n else m) := by split <;> omega
      rcases List.mem_cons.mp hy with h | h
      · rw [h]
        exact Int.le_trans u1 top
      · rcases List.mem_cons.mp h with h | h
        · rw [h]
          exact Int.le_trans u2 top
        · exact b y (List.mem_cons_of_mem _ h)
def gMax2 : GC := fun ds S => match ds with
  | [.int i, .int j] => .ok (.int (if j > i then j else i)) S
  | _ => .stuck
def gMin2 : GC := fun ds S => match ds with
  | [.int i, .int j] => .ok (.int (if j < i then j else i)) S
  | _ => .stuck
def gMaxL : GC := fun ds S => match ds with
  | [d] => match seqInts S d with
    | some (n :: ns) => .ok (.int (maxI n ns)) S
    | _ => .stuck
  | _ => .stuck
def gMinL : GC := fun ds S => match ds with
  | [d] => match seqInts S d with
    | some (n :: ns) => .ok (.int (minI n ns)) S
    | _ => .stuck
  | _ => .stuck
def two (ds : List D) (_ : Store) : Bool := decide (ds.length = 2)
def gMax : GC := fun ds S => if two ds S then gMax2 ds S else gMaxL ds S
def gMin : GC := fun ds S => if two ds S then gMin2 ds S else gMinL ds S
theorem cd_max2 : CallD X (fun xs H Q => ∃ i j, xs = [.int i, .int j] ∧ Q (.int (if j > i then j else i)) H) gMax2 := fun Z φ S H ds vs Q E R d w => by
  unfold gMax2 at w
  split at w
  · obtain ⟨v, u, rfl, h1, h2⟩ := datL2 d
    cases dInt h1
    cases dInt h2
    exact ⟨_, _, rfl, w.now R (dat_int _)⟩
  · exact w.elim
theorem cd_maxL : CallD X (rMax X.K) gMaxL := fun Z φ S H ds vs Q E R d w => by
  unfold gMaxL at w
  split at w
  · obtain ⟨v, rfl, h1⟩ := datL1 d
    split at w
    · rename_i n ns e1
      obtain ⟨a, rfl, h2⟩ := seqInts_ok R h1 e1
      refine ⟨a, n :: ns, rfl, h2, by simp, fun m hm hb => ?_⟩
      obtain ⟨q1, q2⟩ := maxI_spec ns n
      rw [Int.le_antisymm (q2 m hm) (hb _ q1)]
      exact w.now R (dat_int _)
    · exact w.elim
  · exact w.elim
theorem de_max (C : Cn X W k) {fa : FA} (hg : Gl X "max") (hm : X.mg "max" = none) (ha : DA X W (e :: es) fa) (he : starEach (e :: es) X.env = (false, eval e X.env) :: starEach es X.env := by rfl) (hpl : (backTo pos (starEach es X.env)).any (·.1) = false := by rfl) :
    DE X W (.Call (.Name "max" p) (e :: es) [] pos) (fCB gMax fa) :=
  de_callB (callR_or (call_max2 C.calm) (cr_max C.calm)) (callD_or two cd_max2 cd_maxL) hg hm (by rfl) ha (by decide) (by decide) he hpl
/-! sum, sorted -/
/-! all, any -/
def bsOf : List D → Option (List Bool)
  | [] => some []
  | .bl b :: ds => (bsOf ds).map (b :: ·)
  | _ => none
theorem bsOf_ok {K : PySem.W.Frag} {mg : Str → Option Value} {φ : List Addr} {G : Hp} : ∀ {ds : List D} {vs : List V} {ns : List Bool}, DatL K mg φ G ds vs → bsOf ds = some ns → vs = ns.map V.bl
  | [], _, _, h, e => by
    cases e
    unfold DatL at h
    exact h
  | d :: ds, _, ns, h, e => by
    obtain ⟨v, r, rfl, h1, h2⟩ := h.uncons
    cases d with
    | bl i =>
      unfold bsOf at e
      cases q : bsOf ds with
      | none => rw [q] at e; cases e
      | some ms =>
        rw [q] at e
        cases e
        unfold Dat at h1
        subst h1
        rw [bsOf_ok h2 q]
        rfl
    | _ => cases e
def gAllAny (all : Bool) : GC := fun ds S => match ds with
  | [d] => match (asL S d).bind bsOf with
    | some bs => .ok (.bl (if all then bs.all id else bs.any id)) S
    | none => .stuck
  | _ => .stuck
theorem de_all (C : Cn X W k) {fa : FA} (hg : Gl X "all") (hm : X.mg "all" = none) (ha : DA X W [e] fa) (he : starEach [e] X.env = (false, eval e X.env) :: starEach [] X.env := by rfl) (hpl : (backTo pos (starEach [] X.env)).any (·.1) = false := by rfl) :
    DE X W (.Call (.Name "all" p) [e] [] pos) (fCB (gAllAny true) fa) :=
  de_callB (cr_all C.calm) (fun Z φ S H ds vs Q E R d w => by
    unfold gAllAny at w
    split at w
    · obtain ⟨v, rfl, h1⟩ := datL1 d
      split at w
      · rename_i bs e1
        obtain ⟨xs, e1, e2⟩ := Option.bind_eq_some_iff.mp e1
        obtain ⟨a, us, rfl, h2, h3⟩ := asL_ok R h1 e1
        rw [bsOf_ok h3 e2] at h2
        exact ⟨a, bs, rfl, h2, w.now R (dat_bl _)⟩
      · exact w.elim
    · exact w.elim) hg hm (by rfl) ha (by decide) (by decide) he hpl
/-! list, tuple -/
def gToL : GC := fun ds S => match ds with
  | [d] => match asQ S d with
    | some xs => .ok (.lst xs) S
    | none => .stuck
  | _ => .stuck
def gToO : GC := fun ds S => match ds with
  | [d] => match asQ S d with
    | some xs => .ok (.oid S.length) (S ++ [.lst xs])
    | none => .stuck
  | _ => .stuck
def keyV : Key → D
  | .inl i => .int i
  | .inr x => .str x
def gKeysL : GC := fun ds S => match ds with
  | [d] => match asD S d with
    | some ks => .ok (.lst (ks.map fun q => keyV q.1)) S
    | none => .stuck
  | _ => .stuck
def gKeysO : GC := fun ds S => match ds with
  | [d] => match asD S d with
    | some ks => .ok (.oid S.length) (S ++ [.lst (ks.map fun q => keyV q.1)])
    | none => .stuck
  | _ => .stuck
theorem datK_keys {K : PySem.W.Frag} {mg : Str → Option Value} {φ φ' : List Addr} {G G' : Hp} : ∀ {ks : List (Key × D)} {kvs : List (Key × V)}, DatK K mg φ G ks kvs → DatL K mg φ' G' (ks.map fun q => keyV q.1) (kvs.map fun kv => kV kv.1)
  | [], _, h => by
    unfold DatK at h
    subst h
    exact DatL.nil
  | (k, d) :: ks, _, h => by
    unfold DatK at h
    obtain ⟨v, r, rfl, _, h2⟩ := h
    refine .cons ?_ (datK_keys h2)
    cases k <;> unfold keyV Dat <;> rfl
abbrev rListOf (K : PySem.W.Frag) : List V → Hp → VK → Prop := fun xs H Q => ∃ p ys, xs = [.ref p] ∧ (SqL K H p ys ∨ SqT K H p ys) ∧ ∀ l, H l = none → Q (.ref l) (upd H l (.lst ys))
theorem cd_toL : CallD X (rListOf X.K) gToL := fun Z φ S H ds vs Q E R d w => by
  unfold gToL at w
  split at w
  · obtain ⟨v, rfl, h1⟩ := datL1 d
    split at w
    · rename_i xs e1
      obtain ⟨a, us, rfl, h2, h3⟩ := asQ_ok R h1 e1
      refine ⟨a, us, rfl, h2, fun p hn => ?_⟩
      obtain ⟨r, e, g⟩ := dat_newL R h3 hn
      exact w _ _ _ r e g
    · exact w.elim
  · exact w.elim
theorem cd_toO : CallD X (rListOf X.K) gToO := fun Z φ S H ds vs Q E R d w => by
  unfold gToO at w
  split at w
  · obtain ⟨v, rfl, h1⟩ := datL1 d
    split at w
    · rename_i xs e1
      obtain ⟨a, us, rfl, h2, h3⟩ := asQ_ok R h1 e1
      refine ⟨a, us, rfl, h2, fun p hn => ?_⟩
      obtain ⟨r, e, g⟩ := dat_newO R h3 hn
      exact w _ _ _ r e g
    · exact w.elim
  · exact w.elim
theorem cd_keysL : CallD X rListD gKeysL := fun Z φ S H ds vs Q E R d w => by
  unfold gKeysL at w
  split at w
  · obtain ⟨v, rfl, h1⟩ := datL1 d
    split at w
    · rename_i xs e1
      obtain ⟨a, us, rfl, h2, h3⟩ := asD_ok R h1 e1
      refine ⟨a, us, rfl, h2, fun p hn => ?_⟩
      obtain ⟨r, e, g⟩ := dat_newL R (datK_keys h3) hn
      exact w _ _ _ r e g
    · exact w.elim
  · exact w.elim
theorem cd_keysO : CallD X rListD gKeysO := fun Z φ S H ds vs Q E R d w => by
  unfold gKeysO at w
  split at w
  · obtain ⟨v, rfl, h1⟩ := datL1 d
    split at w
    · rename_i xs e1
      obtain ⟨a, us, rfl, h2, h3⟩ := asD_ok R h1 e1
      refine ⟨a, us, rfl, h2, fun p hn => ?_⟩
      obtain ⟨r, e, g⟩ := dat_newO R (datK_keys h3) hn
      exact w _ _ _ r e g
    · exact w.elim
  · exact w.elim
def gList : GC := fun ds S => if isDic1 ds S then gKeysL ds S else gToL ds S
def gListO : GC := fun ds S => if isDic1 ds S then gKeysO ds S else gToO ds S
theorem de_list (C : Cn X W k) {fa : FA} (hg : Gl X "list") (hm : X.mg "list" = none) (ha : DA X W [e] fa) (he : starEach [e] X.env = (false, eval e X.env) :: starEach [] X.env := by rfl) (hpl : (backTo pos (starEach [] X.env)).any (·.1) = false := by rfl) :
    DE X W (.Call (.Name "list" p) [e] [] pos) (fCB gList fa) := de_callTy (callR_or (call_list_dK C.calm) call_list_of) (callD_or isDic1 cd_keysL cd_toL) hg hm (by rfl) ha (by decide) (by decide) he hpl
theorem de_listO (C : Cn X W k) {fa : FA} (hg : Gl X "list") (hm : X.mg "list" = none) (ha : DA X W [e] fa) (he : starEach [e] X.env = (false, eval e X.env) :: starEach [] X.env := by rfl) (hpl : (backTo pos (starEach [] X.env)).any (·.1) = false := by rfl) :
    DE X W (.Call (.Name "list" p) [e] [] pos) (fCB gListO fa) := de_callTy (callR_or (call_list_dK C.calm) call_list_of) (callD_or isDic1 cd_keysO cd_toO) hg hm (by rfl) ha (by decide) (by decide) he hpl
def gTuple : GC := fun ds S => match ds with
  | [.tup xs] => .ok (.tup xs) S
  | [d] => match asL S d with
    | some xs => .ok (.tup xs) S
    | none => .stuck
  | _ => .stuck
theorem cd_tuple : CallD X (fun xs H Q => ∃ p ys, xs = [.ref p] ∧ ((SqL X.K H p ys ∧ ∀ l, H l = none → Q (.ref l) (upd H l (.tup ys))) ∨ (SqT X.K H p ys ∧ Q (.ref p) H))) gTuple := fun Z φ S H ds vs Q E R d w => by
  unfold gTuple at w
  split at w
  · obtain ⟨v, rfl, h1⟩ := datL1 d
    have h1' := h1
    unfold Dat at h1
    obtain ⟨a, us, rfl, h2, h3⟩ := h1
    exact ⟨a, us, rfl, .inr ⟨sqt_mono gnd_sub h2, w.now R h1'⟩⟩
  · obtain ⟨v, rfl, h1⟩ := datL1 d
    split at w
    · rename_i xs e1
      obtain ⟨a, us, rfl, h2, h3⟩ := asL_ok R h1 e1
      refine ⟨a, us, rfl, .inl ⟨h2, fun p hn => ?_⟩⟩
      obtain ⟨r, e, g⟩ := dat_newT R h3 hn
      exact w _ _ _ r e g
    · exact w.elim
  · exact w.elim
theorem de_tuple {fa : FA} (hg : Gl X "tuple") (hm : X.mg "tuple" = none) (ha : DA X W [e] fa) (he : starEach [e] X.env = (false, eval e X.env) :: starEach [] X.env := by rfl) (hpl : (backTo pos (starEach [] X.env)).any (·.1) = false := by rfl) :
    DE X W (.Call (.Name "tuple" p) [e] [] pos) (fCB gTuple fa) := de_callTy call_tuple_of cd_tuple hg hm (by rfl) ha (by decide) (by decide) he hpl

/-! repr -/
def rRepr (K : PySem.W.Frag) : List V → Hp → VK → Prop := fun xs H Q => ∃ x d, xs = [x] ∧ Dp K H x d ∧ d.showable = true ∧ d.hasDict = false ∧ d.depth ≤ 50 ∧ d.shown.length ≤ sizeLine ∧ Q (.str d.shown) H
theorem call_repr (C : Cn X W k) : CallR X (.builtin "repr") (rRepr X.K) := fun pins s σ H xs us Q I r h => by
  obtain ⟨x, d, rfl, hd, h1, h2, h3, h4, q⟩ := h
  obtain ⟨u, rfl, ru⟩ := vals1 r
  have fin : ∀ tk, EP X pins σ Q (.str d.shown s.toks) { s with toks := tk } := fun tk => ⟨.str d.shown, H, I.tok tk, ⟨_, rfl⟩, q⟩
  have big : ∀ a, u = .ref a → wpAny (model X.prog X.w) X.A (call (.builtin "repr") [u]) (EP X pins σ Q) X.xe s := fun a e => by
    obtain ⟨as, rd⟩ := Dp.reads I d x u hd ru
    subst e
    exact repr_of_reads' rd h1 (PyData.noDict_hsm h2) C.gd (by have := C.u64; omega) (fun _ _ z => z) (fun h' t tk hk => ⟨.str d.shown, H, I.kept (t' := tk) hk, ⟨_, rfl⟩, q⟩) h4
  cases hd with
  | non =>
    cases (show u = Value.none from ru)
    simp only [PyData.shown] at fin
    exact PySem.P.repr_of_none (fin _)
  | bl b =>
    cases (show u = Value.bool b from ru)
    simp only [PyData.shown] at fin
    exact PySem.P.repr_of_bool (fin _)
  | int i =>
    obtain ⟨t, rfl⟩ := (show ∃ t, u = Value.int i t from ru)
    simp only [PyData.shown] at fin
    simp only [PyData.showable, decide_eq_true_eq] at h1
    exact PySem.P.repr_of_int h1 (fin _)
  | str y =>
    obtain ⟨t, rfl⟩ := (show ∃ t, u = Value.str y t from ru)
    simp only [PyData.shown] at fin h4
    exact PySem.P.repr_of_str (fin _) h4
  | lst _ _ => exact big _ ru
  | tup _ _ => exact big _ ru
def gRepr : GC := fun ds S => match ds with
  | [d] => match pyOf S d with
    | some q => if q.showable = true ∧ q.hasDict = false ∧ q.depth ≤ 50 ∧ q.shown.length ≤ sizeLine then .ok (.str q.shown) S else .stuck
    | none => .stuck
  | _ => .stuck
theorem de_repr (C : Cn X W k) {fa : FA} (hg : Gl X "repr") (hm : X.mg "repr" = none) (ha : DA X W [e] fa) (he : starEach [e] X.env = (false, eval e X.env) :: starEach [] X.env := by rfl) (hpl : (backTo pos (starEach [] X.env)).any (·.1) = false := by rfl) :
    DE X W (.Call (.Name "repr" p) [e] [] pos) (fCB gRepr fa) :=
  de_callB (call_repr C) (fun Z φ S H ds vs Q E R d w => by
    unfold gRepr at w
    split at w
    · obtain ⟨v, rfl, h1⟩ := datL1 d
      split at w
      · rename_i q e1
        obtain ⟨⟨a1, a2, a3, a4⟩, w1⟩ := want_if w
        exact ⟨v, q, rfl, pyOf_ok R h1 e1, a1, a2, a3, a4, w1.now R (dat_str _)⟩
      · exact w.elim
    · exact w.elim) hg hm (by rfl) ha (by decide) (by decide) he hpl
end
end DL

/-! The data layer, part 11: set(xs) of a list of ints, sorted(set(xs)). -/
namespace PySem
open PySem.Spec PyProof.Rows L2
section
variable {P : Program} {w : World} {A : Around} {E : Value → Shared → Prop} {s : Shared}
end
end PySem
namespace DL
open PySem L2
section
variable {X : Cx} {W : WX} {k : Nat} {a b c e : Expr} {es : List Expr} {fa fb fc fe : FE} {pos p p2 q2 : Pos}
end
end DL

/-! The data layer, part 12: list(enumerate(xs)). -/
namespace PySem
open PySem.Spec PySem.Calls PyProof.Rows PySem.W L2
namespace F
end F
section
variable {prog : Program} {w : World} {A : Around} {E : Value → Shared → Prop} {s : Shared}
/-- the state of the enumerate object between two nexts -/
def EnAt (e it : Addr) (i : Nat) (h : Heap) : Prop := (∃ old, IsEnum h e it i old) ∨ ∃ old T f oT, IsEnumHeld h e it i old T f ∧ h.get? T = some oT ∧ T ≠ e ∧ T ≠ it
theorem EnAt.keep {e it : Addr} {i : Nat} {h h' : Heap} {S : Addr} (x : EnAt e it i h) (hS : e ≠ S) (hk : ∀ b o, b ≠ S → h.get? b = some o → h'.get? b = some o) (hl : ∀ o, h.get? S = some o → ∃ o', h'.get? S = some o') : EnAt e it i h' := by
  rcases x with ⟨old, q⟩ | ⟨old, T, f, oT, q, q2, q3, q4⟩
  · exact .inl ⟨old, hk _ _ hS q⟩
  · by_cases hT : T = S
    · subst hT
      obtain ⟨o', ho⟩ := hl _ q2
      exact .inr ⟨old, T, f, o', hk _ _ hS q, ho, q3, q4⟩
    · exact .inr ⟨old, T, f, oT, hk _ _ hS q, hk _ _ hT q2, q3, q4⟩
theorem EnAt.ty {e it : Addr} {i : Nat} (x : EnAt e it i s.heap) : s.TypeIs (.ref e) "enumerate" := by
  rcases x with ⟨old, q⟩ | ⟨old, T, f, oT, q, _⟩ <;> exact ⟨_, q, rfl⟩
theorem EnAt.lt {e it : Addr} {i : Nat} {h : Heap} (x : EnAt e it i h) : e < h.objs.size := by
  rcases x with ⟨old, q⟩ | ⟨old, T, f, oT, q, _⟩ <;> exact Heap.lt_size q
/-- the pairs laid so far -/
structure EnG (items : Array Value) (lo : Addr) (h : Heap) (as : List Addr) : Prop where
  above : ∀ a ∈ as, lo < a
  pair : ∀ (j : Nat) (a : Addr), as[j]? = some a → ∃ x tk, items[j]? = some x ∧ h.get? a = some { cls := .type "tuple", data := .seq #[.int (j : Nat) tk, x] }
end
end PySem

/-! The data layer, part 13: list(enumerate(xs)) on data; a, *b = xs. -/
namespace DL
open PySem L2
section
variable {P : Program} {w : World} {H H' : Hp} {h h' : Heap}
end
/-! the pairs of enumerate -/
section
variable {K : PySem.W.Frag} {mg : Str → Option Value} {Z φ : List Addr} {S : Store}
end
section
variable {X : Cx} {W : WX} {k : Nat} {a b c e : Expr} {es : List Expr} {fa fb fc fe : FE} {pos p p2 q2 : Pos}
def gLEnum : GC := fun ds S => match ds with
  | [d] => match asQ S d with
    | some xs => .ok (.lst (enumD 0 xs)) S
    | none => .stuck
  | _ => .stuck
end
end DL

/-! The data layer, part 14: a, *b = xs; isinstance; methods of what is built in; stores by a subscript. -/
namespace PySem
open PySem.Spec PySem.Calls PyProof.Rows PySem.W L2
section
variable {prog : Program} {w : World} {A : Around} {E : Value → Shared → Prop} {s : Shared}
end
end PySem
namespace DL
open PySem L2
section
variable {X : Cx} {W : WX} {k : Nat} {a b c e o : Expr} {es : List Expr} {fa fb fc fe fo : FE} {pos p p2 q2 apos cpos : Pos}
/-! ### a, *b = xs -/
def gStar (i j : Nat) (fe : FE) : FS := fun ρ S => (fe ρ S).into ρ fun d S => match asL S d with
  | some (x :: xs) => .nx ((ρ.set i (some x)).set j (some (.oid S.length))) (S ++ [.lst xs])
  | _ => .stuck
/-! ### isinstance -/
def tyS (S : Store) : D → Option String
  | .non => some "NoneType"
  | .bl _ => some "bool"
  | .int _ => some "int"
  | .str _ => some "str"
  | .tup _ => some "tuple"
  | .lst _ => some "list"
  | .scr _ => some "list"
  | .dic _ => some "dict"
  | .oid n => match S[n]? with
    | some (.lst _) => some "list"
    | some (.dic _) => some "dict"
    | some (.frz (.lst _)) => some "list"
    | some (.frz (.dic _)) => some "dict"
    | _ => none
  | _ => none
theorem tyx_L {K : PySem.W.Frag} {H : Hp} {a : Addr} {xs : List V} (h : SqL K H a xs) : TyX K H (.ref a) (.type "list") := by
  rcases h with (h | ⟨u, h⟩) | ⟨o, its, n, hk, hc, _⟩
  · exact .base (.lst h)
  · exact .base (.frz h)
  · exact .kList hk hc
theorem tyx_T {K : PySem.W.Frag} {H : Hp} {a : Addr} {xs : List V} (h : SqT K H a xs) : TyX K H (.ref a) (.type "tuple") := by
  rcases h with (h | ⟨u, h⟩) | ⟨o, its, n, hk, hc, _⟩
  · exact .base (.tup h)
  · exact .fTuple h
  · exact .kTuple hk hc
theorem tyS_ok {Z φ : List Addr} {S : Store} {H : Hp} (R : Rel X.K X.mg Z φ S H) {d : D} {v : V} {T : String} (h : Dat X.K X.mg φ (gnd Z φ S H) d v) (e : tyS S d = some T) : TyX X.K H v (.type T) := by
  cases d with
  | non => cases e; unfold Dat at h; subst h; exact .base .non
  | bl b => cases e; unfold Dat at h; subst h; exact .base (.bl b)
  | int b => cases e; unfold Dat at h; subst h; exact .base (.int b)
  | str b => cases e; unfold Dat at h; subst h; exact .base (.str b)
  | tup ds =>
    cases e
    unfold Dat at h
    obtain ⟨a, vs, rfl, h1, _⟩ := h
    exact tyx_T (sqt_mono gnd_sub h1)
  | lst ds =>
    cases e
    obtain ⟨a, vs, rfl, h1, _⟩ := asL_ok R h rfl
    exact tyx_L h1
  | scr ds =>
    cases e
    obtain ⟨a, vs, rfl, h1, _⟩ := asL_ok R h rfl
    exact tyx_L h1
  | dic ds =>
    cases e
    obtain ⟨a, vs, rfl, h1, _⟩ := asD_ok R h rfl
    exact .base (.dK h1)
  | oid n =>
    cases hS : S[n]? with
    | none => simp [tyS, hS] at e
    | some so =>
      have L : ∀ ds, asL S (.oid n) = some ds → TyX X.K H v (.type "list") := fun ds q => by
        obtain ⟨a, vs, rfl, h1, _⟩ := asL_ok R h q
        exact tyx_L h1
      have M : ∀ ds, asD S (.oid n) = some ds → TyX X.K H v (.type "dict") := fun ds q => by
        obtain ⟨a, vs, rfl, h1, _⟩ := asD_ok R h q
        exact .base (.dK h1)
      cases so with
      | lst ds =>
        simp only [tyS, hS, Option.some.injEq] at e
        subst e
        exact L ds (by simp [asL, hS])
      | dic ds =>
        simp only [tyS, hS, Option.some.injEq] at e
        subst e
        exact M ds (by simp [asD, hS])
      | frz d =>
        cases d with
        | lst ds =>
          simp only [tyS, hS, Option.some.injEq] at e
          subst e
          exact L ds (by simp [asL, hS])
        | dic ds =>
          simp only [tyS, hS, Option.some.injEq] at e
          subst e
          exact M ds (by simp [asD, hS])
        | _ => simp [tyS, hS] at e
      | ins _ _ => simp [tyS, hS] at e
      | tbl _ _ => simp [tyS, hS] at e
      | dkt _ => simp [tyS, hS] at e
  | _ => cases e
/-- one built-in class under another -/
def isiT : String → String → Option Bool
  | "NoneType", n => if n ∈ ["bool", "int", "str", "tuple", "list", "dict"] then some false else none
  | "bool", n => if n ∈ ["bool", "int"] then some true else if n ∈ ["str", "tuple", "list", "dict"] then some false else none
  | "int", n => if n = "int" then some true else if n ∈ ["bool", "str", "tuple", "list", "dict"] then some false else none
  | "str", n => if n = "str" then some true else if n ∈ ["bool", "int", "tuple", "list", "dict"] then some false else none
  | "tuple", n => if n = "tuple" then some true else if n ∈ ["bool", "int", "str", "list", "dict"] then some false else none
  | "list", n => if n = "list" then some true else if n ∈ ["bool", "int", "str", "tuple", "dict"] then some false else none
  | "dict", n => if n = "dict" then some true else if n ∈ ["bool", "int", "str", "tuple", "list"] then some false else none
  | _, _ => none
theorem isiT_ok {K : PySem.W.Frag} {T n : String} {b : Bool} (h : isiT T n = some b) : PySem.W.kitOne K (.type T) (.type n) = some b := by
  have all : ∀ T ∈ ["NoneType", "bool", "int", "str", "tuple", "list", "dict"], ∀ n ∈ ["bool", "int", "str", "tuple", "list", "dict"], isiT T n = kitB T n := by decide +kernel
  have hT : T ∈ ["NoneType", "bool", "int", "str", "tuple", "list", "dict"] := by
    unfold isiT at h
    split at h <;> first | (simp; done) | (cases h; done)
  have hn : n ∈ ["bool", "int", "str", "tuple", "list", "dict"] := by
    unfold isiT at h
    split at h
    · split at h
      · rename_i q; exact q
      · cases h
    · split at h
      · rename_i q; simp at q ⊢; rcases q with q | q <;> simp [q]
      · split at h
        · rename_i q; simp at q ⊢; rcases q with q | q | q | q <;> simp [q]
        · cases h
    all_goals first
      | (cases h; done)
      | (split at h
         · rename_i q; simp [q]
         · split at h
           · rename_i q; simp at q ⊢; rcases q with q | q | q | q | q <;> simp [q]
           · cases h)
  exact kit_ty (by rw [← all T hT n hn]; exact h)
def isiA (T : String) : List String → Option Bool
  | [] => some false
  | n :: ns => match isiT T n with
    | some true => some true
    | some false => isiA T ns
    | none => none
theorem isiA_ok {K : PySem.W.Frag} {T : String} : ∀ {ns : List String} {b : Bool}, isiA T ns = some b → PySem.W.kitAny K (.type T) (ns.map Value.type) = some b
  | [], _, h => by cases h; exact kitAny_nil
  | n :: ns, b, h => by
    unfold isiA at h
    split at h
    · rename_i q
      cases h
      exact kitAny_cons (isiT_ok q) (fun z => nomatch z) fun _ => rfl
    · rename_i q
      exact kitAny_cons (isiT_ok q) (fun _ => isiA_ok h) fun z => nomatch z
    · cases h
def rIsiQ (K : PySem.W.Frag) : List V → Hp → VK → Prop := fun xs H Q => ∃ (x : V) (tp : Addr) (cs : List V) (t : Value) (us : List Value) (b : Bool), xs = [x, .ref tp] ∧ SqT K H tp cs ∧ Paired ClsV cs us ∧ TyX K H x t ∧ PySem.W.kitAny K t us = some b ∧ Q (.bl b) H
theorem call_isiQ : CallR X (.builtin "isinstance") (rIsiQ X.K) := fun pins s σ H xs us Q I r h => by
  obtain ⟨x, tp, cs, t, ws, b, rfl, hT, kk, ty, ee, q⟩ := h
  obtain ⟨u1, u2, rfl, r1, r2⟩ := vals2 r
  cases (show u2 = Value.ref tp from r2)
  obtain ⟨P, Zk, pz, hx⟩ := kit_of I r1 ty
  obtain ⟨its, rv, ⟨ob, h1, h2, n, h3⟩, _⟩ := I.tuple hT
  have e3 := ClsV.all kk rv
  subst e3
  obtain ⟨oc, od, dt, sl⟩ := ob
  simp only at h2 h3
  subst h2 h3
  exact PySem.W.kia_tup Zk I.kIn pz h1 ee hx fun tk => ⟨.bl b, H, I.tok tk, rfl, q⟩
def tysOf : List D → Option (List String)
  | [] => some []
  | .ty n :: ds => (tysOf ds).map (n :: ·)
  | _ => none
theorem tysOf_ok {φ : List Addr} {G : Hp} : ∀ {ds : List D} {vs : List V} {ns : List String}, DatL X.K X.mg φ G ds vs → tysOf ds = some ns → Paired ClsV vs (ns.map Value.type)
  | [], _, _, h, e => by
    cases e
    unfold DatL at h
    subst h
    exact .nil
  | d :: ds, _, ns, h, e => by
    obtain ⟨v, r, rfl, h1, h2⟩ := h.uncons
    cases d with
    | ty i =>
      unfold tysOf at e
      cases q : tysOf ds with
      | none => rw [q] at e; cases e
      | some ms =>
        rw [q] at e
        cases e
        unfold Dat at h1
        subst h1
        exact .cons (.ty i) (tysOf_ok h2 q)
    | _ => cases e
def gIsi1 : GC := fun ds S => match ds with
  | [x, .ty n] => match (tyS S x).bind fun T => isiT T n with
    | some b => .ok (.bl b) S
    | none => .stuck
  | _ => .stuck
def gIsiN : GC := fun ds S => match ds with
  | [x, .tup cs] => match (tyS S x).bind fun T => (tysOf cs).bind fun ns => isiA T ns with
    | some b => .ok (.bl b) S
    | none => .stuck
  | _ => .stuck
def isTy2 (ds : List D) (_ : Store) : Bool := match ds with
  | [_, .ty _] => true
  | _ => false
def gIsi : GC := fun ds S => if isTy2 ds S then gIsi1 ds S else gIsiN ds S
theorem cd_isi1 : CallD X (rIsi X.K) gIsi1 := fun Z φ S H ds vs Q E R d w => by
  unfold gIsi1 at w
  split at w
  · obtain ⟨v, u, rfl, h1, h2⟩ := datL2 d
    split at w
    · rename_i b q
      obtain ⟨T, q1, q2⟩ := Option.bind_eq_some_iff.mp q
      unfold Dat at h2
      subst h2
      exact ⟨v, _, _, _, b, rfl, .ty _, tyS_ok R h1 q1, isiT_ok q2, w.now R (dat_bl _)⟩
    · exact w.elim
  · exact w.elim
theorem cd_isiN : CallD X (rIsiQ X.K) gIsiN := fun Z φ S H ds vs Q E R d w => by
  unfold gIsiN at w
  split at w
  · obtain ⟨v, u, rfl, h1, h2⟩ := datL2 d
    split at w
    · rename_i b q
      obtain ⟨T, q1, q2⟩ := Option.bind_eq_some_iff.mp q
      obtain ⟨ns, q3, q4⟩ := Option.bind_eq_some_iff.mp q2
      unfold Dat at h2
      obtain ⟨a, us, rfl, h3, h4⟩ := h2
      exact ⟨v, a, us, _, _, b, rfl, sqt_mono gnd_sub h3, tysOf_ok h4 q3, tyS_ok R h1 q1, isiA_ok q4, w.now R (dat_bl _)⟩
    · exact w.elim
  · exact w.elim
theorem de_isi {fa : FA} (hg : Gl X "isinstance") (hm : X.mg "isinstance" = none) (ha : DA X W [e, b] fa) (he : starEach [e, b] X.env = (false, eval e X.env) :: starEach [b] X.env := by rfl) (hpl : (backTo pos (starEach [b] X.env)).any (·.1) = false := by rfl) :
    DE X W (.Call (.Name "isinstance" p) [e, b] [] pos) (fCB gIsi fa) := de_callB (callR_or call_isi call_isiQ) (callD_or isTy2 cd_isi1 cd_isiN) hg hm (by rfl) ha (by decide) (by decide) he hpl

/-! ### methods of what is built in -/
abbrev GM := D → List D → Store → Res D
def MethD (X : Cx) (r : V → List V → Hp → VK → Prop) (g : GM) : Prop := ∀ (Z φ : List Addr) (S : Store) (H : Hp) (x : D) (u : V) (ds : List D) (vs : List V) (Q : VK) (E : XK), Rel X.K X.mg Z φ S H → Dat X.K X.mg φ (gnd Z φ S H) x u → DatL X.K X.mg φ (gnd Z φ S H) ds vs →
  Want X.K X.mg (RDat X.K X.mg) Z φ S H (g x ds S) Q E → r u vs H Q
def fBM (T : String) (g : GM) (fo : FE) (fa : FA) : FE := fun ρ S => (fo ρ S).bind fun x S => if tyS S x = some T ∧ T ≠ "tuple" then (fa ρ S).bind fun ds S => g x ds S else .stuck
theorem tyV_ok {Z φ : List Addr} {S : Store} {H : Hp} (R : Rel X.K X.mg Z φ S H) {d : D} {v : V} {T : String} (h : Dat X.K X.mg φ (gnd Z φ S H) d v) (e : tyS S d = some T) (ht : T = "list" ∨ T = "dict" ∨ T = "str") : tyV X.K T v H := by
  have L : ∀ ds, asL S d = some ds → tyV X.K "list" v H := fun ds q => by
    obtain ⟨a, vs, rfl, h1, _⟩ := asL_ok R h q
    exact .inl ⟨rfl, vs, h1⟩
  have M : ∀ ds, asD S d = some ds → tyV X.K "dict" v H := fun ds q => by
    obtain ⟨a, vs, rfl, h1, _⟩ := asD_ok R h q
    exact .inr (.inr (.inl ⟨rfl, .inl ⟨vs, h1⟩⟩))
  cases d with
  | str z => cases e; unfold Dat at h; subst h; rfl
  | lst ds => cases e; exact L ds rfl
  | scr ds => cases e; exact L ds rfl
  | dic ds => cases e; exact M ds rfl
  | oid n =>
    cases hS : S[n]? with
    | none => simp [tyS, hS] at e
    | some so =>
      cases so with
      | lst ds =>
        simp only [tyS, hS, Option.some.injEq] at e
        subst e
        exact L ds (by simp [asL, hS])
      | dic ds =>
        simp only [tyS, hS, Option.some.injEq] at e
        subst e
        exact M ds (by simp [asD, hS])
      | frz d =>
        cases d with
        | lst ds =>
          simp only [tyS, hS, Option.some.injEq] at e
          subst e
          exact L ds (by simp [asL, hS])
        | dic ds =>
          simp only [tyS, hS, Option.some.injEq] at e
          subst e
          exact M ds (by simp [asD, hS])
        | _ => simp [tyS, hS] at e
      | ins _ _ => simp [tyS, hS] at e
      | tbl _ _ => simp [tyS, hS] at e
      | dkt _ => simp [tyS, hS] at e
  | non => cases e; simp at ht
  | bl _ => cases e; simp at ht
  | int _ => cases e; simp at ht
  | tup _ => cases e; simp at ht
  | _ => cases e
theorem de_bm {T id : String} {name : Str} {r : V → List V → Hp → VK → Prop} {g : GM} {fa : FA} (pa : PlainAttrs T) (slot : Slot T name id) (hty : typeOf (.builtin id) = pure (.type "method_descriptor")) (hm : MtR X id r) (hd : MethD X r g) (hT : T = "list" ∨ T = "dict" ∨ T = "str") (ho : DE X W o fo) (ha : DA X W (e :: es) fa)
    (hbase : attributeBase o name X.env (eval o X.env) = eval o X.env := by rfl)
    (hfew : ((backTo cpos (starEach (e :: es) X.env)).all (fun x => !x.1) && (backToKw cpos (keywordEach [] X.env)).all (fun x => x.1.isSome) && decide ((e :: es).length + ([] : List Keyword).length + (if ([] : List Keyword).isEmpty then 0 else 1) < 30)) = true := by rfl)
    (hline : (apos.endLine == cpos.line) = true := by rfl) (hs : starEach (e :: es) X.env = (false, eval e X.env) :: starEach es X.env := by rfl) (hplain : (backTo cpos (starEach es X.env)).any (·.1) = false := by rfl) :
    DE X W (.Call (.Attribute o name apos) (e :: es) [] cpos) (fBM T g fo fa) := by
  obtain ⟨to, po, qo⟩ := ho.ex
  obtain ⟨ta, ppa, qa⟩ := ha.ex
  refine .mk (pe_bm pa slot hty hm po ppa hbase hfew hline hs hplain) fun Z φ S ρ σ H Q R sl w => qo Z φ S ρ σ H _ R sl (w.bind fun x S1 u φ1 H1 R1 E1 d w1 => ?_)
  obtain ⟨⟨h1, h2⟩, w2⟩ := want_if w1
  exact ⟨tyV_ok R1 d h1 hT, qa Z φ1 S1 ρ σ H1 _ R1 (sl.evo E1) (w2.bind fun ds S2 vs φ2 H2 R2 E2 d2 w3 => hd Z φ2 S2 H2 x u ds vs Q _ R2 (Dat.evo E2 d) d2 w3)⟩
theorem de_bm0 {T id : String} {name : Str} {r : V → List V → Hp → VK → Prop} {g : GM} (pa : PlainAttrs T) (slot : Slot T name id) (hty : typeOf (.builtin id) = pure (.type "method_descriptor")) (hm : MtR X id r) (hd : MethD X r g) (hT : T = "list" ∨ T = "dict" ∨ T = "str") (ho : DE X W o fo)
    (hbase : attributeBase o name X.env (eval o X.env) = eval o X.env := by rfl) (hline : (apos.endLine == cpos.line) = true := by rfl) :
    DE X W (.Call (.Attribute o name apos) [] [] cpos) (fBM T g fo (fun _ S => .ok [] S)) := by
  obtain ⟨to, po, qo⟩ := ho.ex
  refine .mk (pe_bm0 pa slot hty hm po hbase hline) fun Z φ S ρ σ H Q R sl w => qo Z φ S ρ σ H _ R sl (w.bind fun x S1 u φ1 H1 R1 E1 d w1 => ?_)
  obtain ⟨⟨h1, h2⟩, w2⟩ := want_if w1
  exact ⟨tyV_ok R1 d h1 hT, hd Z φ1 S1 H1 x u [] [] Q _ R1 d DatL.nil w2⟩
/-- xs.append(x) -/
def gApp : GM := fun x ds S => match x, ds with
  | .oid n, [d] => (match S[n]? with
    | some (.lst xs) => if xs.length < sizeLine then .ok .non (S.set n (.lst (xs ++ [d]))) else .stuck
    | _ => .stuck)
  | _, _ => .stuck
/-- a list of the store is written -/
theorem want_lst {Z φ : List Addr} {S : Store} {H : Hp} {n : Nat} {u : V} {xs ys : List D} {d : D} {E : XK} {Q : VK} (R : Rel X.K X.mg Z φ S H) (dx : Dat X.K X.mg φ (gnd Z φ S H) (.oid n) u) (hS : S[n]? = some (.lst xs)) :
    ∃ l vs, u = .ref l ∧ H l = some (.lst vs) ∧ DatL X.K X.mg φ (gnd Z φ S H) xs vs ∧ ∀ ws x, DatL X.K X.mg φ (gnd Z φ S H) ys ws → Dat X.K X.mg φ (gnd Z φ S H) d x → Want X.K X.mg (RDat X.K X.mg) Z φ S H (.ok d (S.set n (.lst ys))) Q E → Q x (upd H l (.lst ws)) := by
  unfold Dat at dx
  obtain ⟨a, rfl, ha⟩ := dx
  obtain ⟨vs, h1, h2⟩ := R.ob n a _ ha hS
  refine ⟨a, vs, rfl, h1, h2, fun ws x hw hx w => ?_⟩
  obtain ⟨R3, E3⟩ := R.mutate (u := .lst ys) (ho := .lst ws) ha hS rfl rfl ⟨ws, upd_same, hw⟩
  exact w x φ _ R3 E3 (Dat.evo E3 hx)
theorem md_app : MethD X rAppend gApp := fun Z φ S H x u ds vs Q E R dx d w => by
  unfold gApp at w
  split at w
  · obtain ⟨v, rfl, h1⟩ := datL1 d
    split at w
    · rename_i xs hS
      obtain ⟨hl, w1⟩ := want_if w
      obtain ⟨l, us, rfl, h2, h3, fin⟩ := want_lst (Q := Q) (E := E) R dx hS
      exact ⟨l, us, v, rfl, rfl, h2, by rw [h3.length]; exact hl, fin _ _ (h3.append (.cons h1 DatL.nil)) dat_non w1⟩
    · exact w.elim
  · exact w.elim
theorem de_append {fa : FA} (ho : DE X W o fo) (ha : DA X W [e] fa) (hbase : attributeBase o "append" X.env (eval o X.env) = eval o X.env := by rfl)
    (hfew : ((backTo cpos (starEach [e] X.env)).all (fun x => !x.1) && (backToKw cpos (keywordEach [] X.env)).all (fun x => x.1.isSome) && decide ([e].length + ([] : List Keyword).length + (if ([] : List Keyword).isEmpty then 0 else 1) < 30)) = true := by rfl)
    (hline : (apos.endLine == cpos.line) = true := by rfl) (hs : starEach [e] X.env = (false, eval e X.env) :: starEach [] X.env := by rfl) (hplain : (backTo cpos (starEach [] X.env)).any (·.1) = false := by rfl) :
    DE X W (.Call (.Attribute o "append" apos) [e] [] cpos) (fBM "list" gApp fo fa) := de_bm PySem.F.plainAttrs_list PySem.F.slot_list_append PySem.F.type_list_append mt_append md_app (.inl rfl) ho ha hbase hfew hline hs hplain

/-! ### o[i] = e -/
def putKD (ks : List (Key × D)) (k : Key) (d : D) : List (Key × D) := if (ks.any fun q => decide (q.1 = k)) = true then ks.map (fun q => if q.1 = k then (q.1, d) else q) else ks ++ [(k, d)]
theorem datK_append {K : PySem.W.Frag} {mg : Str → Option Value} {φ : List Addr} {G : Hp} {k : Key} {d : D} {v : V} (hd : Dat K mg φ G d v) : ∀ {ks : List (Key × D)} {kvs : List (Key × V)}, DatK K mg φ G ks kvs → DatK K mg φ G (ks ++ [(k, d)]) (kvs ++ [(k, v)])
  | [], _, h => by
    unfold DatK at h
    subst h
    show DatK K mg φ G [(k, d)] [(k, v)]
    unfold DatK
    exact ⟨v, [], rfl, hd, by unfold DatK; rfl⟩
  | (j, e) :: ks, _, h => by
    unfold DatK at h
    obtain ⟨u, r, rfl, h1, h2⟩ := h
    show DatK K mg φ G ((j, e) :: (ks ++ [(k, d)])) ((j, u) :: (r ++ [(k, v)]))
    unfold DatK
    exact ⟨u, _, rfl, h1, datK_append hd h2⟩
theorem datK_put {K : PySem.W.Frag} {mg : Str → Option Value} {φ : List Addr} {G : Hp} {k : Key} {d : D} {v : V} (hd : Dat K mg φ G d v) {ks : List (Key × D)} {kvs : List (Key × V)} (h : DatK K mg φ G ks kvs) : DatK K mg φ G (putKD ks k d) (putK kvs k v) := by
  have any_eq : ∀ {ks : List (Key × D)} {kvs : List (Key × V)}, DatK K mg φ G ks kvs → (ks.any fun q => decide (q.1 = k)) = (kvs.any fun q => decide (q.1 = k)) := by
    intro ks
    induction ks with
    | nil =>
      intro kvs h
      unfold DatK at h
      subst h
      rfl
    | cons q ks ih =>
      intro kvs h
      obtain ⟨j, e⟩ := q
      unfold DatK at h
      obtain ⟨u, r, rfl, h1, h2⟩ := h
      rw [List.any_cons, List.any_cons, ih h2]
  have map_ok : ∀ {ks : List (Key × D)} {kvs : List (Key × V)}, DatK K mg φ G ks kvs → DatK K mg φ G (ks.map fun q => if q.1 = k then (q.1, d) else q) (kvs.map fun q => if q.1 = k then (q.1, v) else q) := by
    intro ks
    induction ks with
    | nil =>
      intro kvs h
      unfold DatK at h
      subst h
      unfold DatK
      rfl
    | cons q ks ih =>
      intro kvs h
      obtain ⟨j, e⟩ := q
      unfold DatK at h
      obtain ⟨u, r, rfl, h1, h2⟩ := h
      rw [List.map_cons, List.map_cons]
      by_cases hj : j = k
      · simp only [hj, if_true]
        unfold DatK
        exact ⟨v, _, rfl, hd, ih h2⟩
      · simp only [hj, if_false]
        unfold DatK
        exact ⟨u, _, rfl, h1, ih h2⟩
  unfold putKD putK
  rw [any_eq h]
  split
  · exact map_ok h
  · exact datK_append hd h
def rSetX (C : Prop) : TSet := fun o i v H Q => rSetL o i v H Q ∨ rSetD o i v H Q
theorem set_any (C : Cn X W k) : PSet X (rSetX True) := fun pins s σ H o i v ov iv u Q I ro ri rv h => h.elim (set_list pins s σ H o i v ov iv u Q I ro ri rv) (set_dict C.u1 pins s σ H o i v ov iv u Q I ro ri rv)
def storeAt (x y d : D) (S : Store) : Option Store := match x with
  | .oid n => match S[n]? with
    | some (.lst ds) => (match y with
      | .int i => (ixN ds.length i).map fun j => S.set n (.lst (ds.set j d))
      | _ => none)
    | some (.dic ks) => (match keyD y with
      | some q => if ks.length < sizeLine then some (S.set n (.dic (putKD ks q d))) else none
      | none => none)
    | _ => none
  | _ => none
theorem storeAt_ok {Z φ : List Addr} {S S' : Store} {H : Hp} {x y d : D} {o i v : V} {Q : Hp → Prop} (R : Rel X.K X.mg Z φ S H) (dx : Dat X.K X.mg φ (gnd Z φ S H) x o) (dy : Dat X.K X.mg φ (gnd Z φ S H) y i) (dd : Dat X.K X.mg φ (gnd Z φ S H) d v) (e : storeAt x y d S = some S')
    (hQ : ∀ H', Rel X.K X.mg Z φ S' H' → Evo Z φ S H φ S' H' → Q H') : rSetX True o i v H Q := by
  unfold storeAt at e
  split at e
  · rename_i n
    unfold Dat at dx
    obtain ⟨a, rfl, ha⟩ := dx
    split at e
    · rename_i ds hS
      split at e
      · rename_i j
        cases dInt dy
        obtain ⟨q, hq, e⟩ := Option.map_eq_some_iff.mp e
        subst e
        obtain ⟨vs, h1, h2⟩ := R.ob n a _ ha hS
        obtain ⟨R3, E3⟩ := R.mutate (u := .lst (ds.set q d)) (ho := .lst (vs.set q v)) ha hS rfl rfl ⟨_, upd_same, h2.set q dd⟩
        exact .inl ⟨a, vs, j, q, rfl, rfl, h1, by rw [h2.length]; exact hq, hQ _ R3 E3⟩
      · cases e
    · rename_i ks hS
      split at e
      · rename_i q hq
        split at e
        · rename_i hl
          cases e
          obtain ⟨kvs, h1, h2⟩ := R.ob n a _ ha hS
          obtain ⟨R3, E3⟩ := R.mutate (u := .dic (putKD ks q d)) (ho := .dK (putK kvs q v)) ha hS rfl rfl ⟨_, upd_same, datK_put dd h2⟩
          exact .inr ⟨a, _, rfl, .inl ⟨kvs, q, h1, keyD_ok dy hq, by rw [datK_length h2]; exact hl, rfl⟩, hQ _ R3 E3⟩
        · cases e
      · cases e
    · cases e
  · cases e
def gPut (fo fi fe : FE) : FS := fun ρ S => (fe ρ S).into ρ fun d S => (fo ρ S).into ρ fun x S => (fi ρ S).into ρ fun y S => match storeAt x y d S with
  | some S => .nx ρ S
  | none => .stuck
theorem ds_put (C : Cn X W k) {fi : FE} {i : Expr} {tpos : Pos} (ho : DE X W o fo) (hi : DE X W i fi) (he : DE X W e fe)
    (ha : ∀ v, assign (.Subscript o i tpos) X.env v = (do
      let ov ← holding [v] (eval o X.env)
      let iv ← holding [v, ov] (eval i X.env)
      standAt tpos
      holding [v, ov, iv] (setItem ov iv v)
      release [v, ov, iv] []) := by intro _; rfl) (hs : swapsWithSole [.Subscript o i tpos] e pos.line X.env = pure false := by rfl) (hw : swappedStores [.Subscript o i tpos] e X.env = pure none := by rfl)
    (h1 : (assignEach [.Subscript o i tpos] X.env).map (·.2) = [assign (.Subscript o i tpos) X.env] := by rfl) : DS X W (.Assign [.Subscript o i tpos] e pos) (gPut fo fi fe) := by
  obtain ⟨to, po, qo⟩ := ho.ex
  obtain ⟨ti, pi, qi⟩ := hi.ex
  obtain ⟨te, pe, qe⟩ := he.ex
  refine .mk (ps_asg pe (pg_sub po pi (set_any C) ha) hs hw h1) fun Z φ S ρ σ H Dd R sl w => qe Z φ S ρ σ H _ R sl (w.into sl fun d S1 v φ1 H1 R1 E1 dd w1 => ?_)
  refine qo Z φ1 S1 ρ σ H1 _ R1 (sl.evo E1) (w1.into (sl.evo E1) fun x S2 ov φ2 H2 R2 E2 dx w2 => ?_)
  refine qi Z φ2 S2 ρ σ H2 _ R2 ((sl.evo E1).evo E2) (w2.into ((sl.evo E1).evo E2) fun y S3 iv φ3 H3 R3 E3 dy w3 => ?_)
  cases hst : storeAt x y d S3 with
  | none => rw [hst] at w3; exact w3.elim
  | some S4 =>
    rw [hst] at w3
    exact storeAt_ok R3 (Dat.evo E3 dx) dy (Dat.evo E3 (Dat.evo E2 dd)) hst fun H4 R4 E4 => w3 σ φ3 H4 R4 E4 ((((sl.evo E1).evo E2).evo E3).evo E4)
/-- {} -/
def fDict0 : FE := fun _ S => .ok (.oid S.length) (S ++ [.dic []])
theorem de_dict0 : DE X W (.Dict [] [] pos) fDict0 := .mk pe_dnewK fun Z φ S ρ σ H Q R sl w => fun p hp => by
  obtain ⟨r, e⟩ := R.newOid (so := .dic []) (same_upd (o := .dK []) hp) hp (by rw [upd_same]; exact fun z => nomatch z) rfl ⟨[], upd_same, by unfold DatK; rfl⟩
  refine w _ _ _ r e ?_
  unfold RDat Dat
  exact ⟨p, rfl, by rw [List.getElem?_append_right (by rw [R.len]; exact Nat.le_refl _), ← R.len, Nat.sub_self]; rfl⟩
end
end DL

/-! The data layer, part 15: the law's end. -/
namespace DL
open PySem PySem.Spec PyProof.Rows L2

theorem rel_nil {K : PySem.W.Frag} {mg : Str → Option Value} {H : Hp} : Rel K mg [] [] [] H := ⟨rfl, List.nodup_nil, fun a h => by simp at h, fun a h => by simp at h, fun a h => by simp at h, fun n a o h => by simp at h⟩
theorem gnd_nil {H : Hp} : gnd [] [] [] H = H := by
  funext a
  unfold gnd without
  rw [if_neg (by simp [liveA])]
theorem de_none {X : Cx} {W : WX} {e : Expr} : DE X W e (fun _ _ => .stuck) := ⟨fun pins s σ H Q I ⟨Z, φ, S, ρ, R, sl, w⟩ => w.elim⟩
section
variable {X : Cx} {W : WX} {k : Nat}
/-- a comprehension; the block's context is handed in -/
theorem de_lcB (C : Cn X W k) {fin : Fin'} (hf : FinOk fin) {elt tg iter : Expr} {ifs : List Expr} {scope : Scope} {own : List (Str × Nat)} {pos : Pos} {fi : FI} {is : List Nat} {m : FG} {ft : FT} {fe : FE} (hi : DI X W tg iter fi) (ok : BlkOk X.N X.env.scope scope own)
    (hg : ∀ (s : Shared) (H : Hp) (Ca : Addr) (cl : List (Str × Addr)) (fp : List Addr), Cn (X.blk s H scope (compEnvC scope cl Ca X.env) fp) W0 k → DG (X.blk s H scope (compEnvC scope cl Ca X.env) fp) tg is m)
    (ht : ∀ (s : Shared) (H : Hp) (Ca : Addr) (cl : List (Str × Addr)) (fp : List Addr), Cn (X.blk s H scope (compEnvC scope cl Ca X.env) fp) W0 k → DTs (X.blk s H scope (compEnvC scope cl Ca X.env) fp) W0 ifs ft)
    (he : ∀ (s : Shared) (H : Hp) (Ca : Addr) (cl : List (Str × Addr)) (fp : List Addr), Cn (X.blk s H scope (compEnvC scope cl Ca X.env) fp) W0 k → DE (X.blk s H scope (compEnvC scope cl Ca X.env) fp) W0 elt fe)
    (hio : ∀ i ∈ is, i ∈ own.map (·.2) := by decide) (hs : ∀ x, foldedSetIterable iter X.env x = pure x := by intro _; rfl) :
    DE X W (.ListComp elt [⟨tg, iter, ifs, 0⟩] scope pos) (fComp fi m ft fe (own.map (·.2)) fin) :=
  de_lc C hf hi ok (fun s H Ca cl fp => hg s H Ca cl fp C.blk) (fun s H Ca cl fp => ht s H Ca cl fp C.blk) (fun s H Ca cl fp => he s H Ca cl fp C.blk) hio hs
theorem ds_setLcB (C : Cn X W k) {fin : Fin'} (hf : FinOk fin) {i : Nat} {y : Str} {py spos : Pos} {elt tg iter : Expr} {ifs : List Expr} {scope : Scope} {own : List (Str × Nat)} {pos : Pos} {fi : FI} {is : List Nat} {m : FG} {ft : FT} {fe : FE} (hy : X.N[i]? = some y) (hyl : X.env.scope.names.lookup y = some .local)
    (hsw : swapsWith (.ListComp elt [⟨tg, iter, ifs, 0⟩] scope pos) (some (.Name y py)) spos.line X.env = pure true) (hi : DI X W tg iter fi) (ok : BlkOk X.N X.env.scope scope own)
    (hg : ∀ (s : Shared) (H : Hp) (Ca : Addr) (cl : List (Str × Addr)) (fp : List Addr), Cn (X.blk s H scope (compEnvC scope cl Ca X.env) fp) W0 k → DG (X.blk s H scope (compEnvC scope cl Ca X.env) fp) tg is m)
    (ht : ∀ (s : Shared) (H : Hp) (Ca : Addr) (cl : List (Str × Addr)) (fp : List Addr), Cn (X.blk s H scope (compEnvC scope cl Ca X.env) fp) W0 k → DTs (X.blk s H scope (compEnvC scope cl Ca X.env) fp) W0 ifs ft)
    (he : ∀ (s : Shared) (H : Hp) (Ca : Addr) (cl : List (Str × Addr)) (fp : List Addr), Cn (X.blk s H scope (compEnvC scope cl Ca X.env) fp) W0 k → DE (X.blk s H scope (compEnvC scope cl Ca X.env) fp) W0 elt fe)
    (hio : ∀ i ∈ is, i ∈ own.map (·.2) := by decide) (hs : ∀ x, foldedSetIterable iter X.env x = pure x := by intro _; rfl) :
    DS X W (.Assign [.Name y py] (.ListComp elt [⟨tg, iter, ifs, 0⟩] scope pos) spos) (gSet i (fComp fi m ft fe (own.map (·.2)) fin)) :=
  ds_setLc C hf hy hyl hsw hi ok (fun s H Ca cl fp => hg s H Ca cl fp C.blk) (fun s H Ca cl fp => ht s H Ca cl fp C.blk) (fun s H Ca cl fp => he s H Ca cl fp C.blk) hio hs
end
end DL

/-! The data layer, part 16: dict comprehensions, augmented assignment, list.index. -/
namespace DL
open PySem PySem.Spec PyProof.Rows L2
section
variable {X : Cx} {W : WX} {k : Nat}
end
end DL

/-! The data layer, part 17: list.index, name op= e. -/
namespace DL
open PySem PySem.Spec PyProof.Rows L2
section
variable {X : Cx} {W : WX} {k : Nat} {o e : Expr} {fo fe : FE} {pos apos cpos : Pos}
/-! ### name op= e -/
def gIp (f : Int → Int → Int) : G2 := fun x y S => match x, y with
  | .int i, .int j => .ok (.int (f i j)) S
  | _, _ => .stuck
def gAug (i : Nat) (fe : FE) (g : G2) : FS := fun ρ S => match ρ[i]? with
  | some (some x) => (fe ρ S).into ρ fun y S => (g x y S).into ρ fun z S => .nx (ρ.set i (some z)) S
  | _ => .stuck
end
end DL

/-! The data layer, part 18: own classes as values, isinstance with them, == by an own __eq__, a head with more facts. -/
namespace DL
open PySem PySem.Spec PyProof.Rows L2
/-- what isinstance(x, C) asks of the text's own class C -/
structure IsiC (K : PySem.W.Frag) (C : Addr) : Prop where
  ha : PySem.W.findIn K (.ref C) "__class__" = some (some (.builtin "object.__class__"))
  hn : PySem.W.specialIn K (.builtin "object.__class__") "__get__" = some (some (.builtin "getset_descriptor.__get__"))
  htk : PySem.W.takesIn K (.builtin "object.__class__") = some true
  hm : PySem.W.mroIn K C (.type "object") = some true
theorem isiB_ok {K : PySem.W.Frag} {c : Str} (h : isiB K c = true) : IsiC K (He.ga K c) := by
  obtain ⟨h1, h⟩ := He.ba h
  obtain ⟨h2, h⟩ := He.ba h
  obtain ⟨h3, h4⟩ := He.ba h
  exact ⟨He.eqO_ok h1, He.eqO_ok h2, of_decide_eq_true h3, of_decide_eq_true h4⟩
section
variable {X : Cx} {W : WX} {k : Nat} {e b : Expr} {pos p : Pos}
/-- an own class as a value -/
theorem de_own {x : Str} {C : Addr} (hg : Gl X x) (hm : X.mg x = some (.ref C)) (hd : (x == ("__debug__" : Str)) = false := by decide) : DE X W (.Name x pos) (fC (.cls x)) :=
  de_c (pe_glob (v := .ref C) hg hm rfl hd) rfl fun _ _ => by unfold Dat; exact ⟨C, rfl, hm⟩
/-! ### == by an own __eq__ that answers True -/
end
/-! ### a head with more facts -/
end DL

/-! The data layer, part 19: freezing to the bottom. -/
namespace DL
open PySem PySem.Spec PyProof.Rows L2
def frzL (f : D → Store → Option (D × Store)) : List D → Store → Option (List D × Store)
  | [], S => some ([], S)
  | d :: ds, S => match f d S with
    | some (e, S1) => (match frzL f ds S1 with
      | some (es, S2) => some (e :: es, S2)
      | none => none)
    | none => none
def frzF {α : Type} (f : D → Store → Option (D × Store)) : List (α × D) → Store → Option (List (α × D) × Store)
  | [], S => some ([], S)
  | (x, d) :: ds, S => match f d S with
    | some (e, S1) => (match frzF f ds S1 with
      | some (es, S2) => some ((x, e) :: es, S2)
      | none => none)
    | none => none
def frzD : Nat → D → Store → Option (D × Store)
  | 0, _, _ => none
  | k + 1, d, S => match d with
    | .tup ds => (frzL (frzD k) ds S).map fun q => (.tup q.1, q.2)
    | .lst ds => (frzL (frzD k) ds S).map fun q => (.lst q.1, q.2)
    | .dic ks => (frzF (frzD k) ks S).map fun q => (.dic q.1, q.2)
    | .ins C fs => (frzF (frzD k) fs S).map fun q => (.ins C q.1, q.2)
    | .oid n => (match S[n]? with
      | some (.lst ds) => (frzL (frzD k) ds S).map fun q => (.lst q.1, q.2.set n (.frz (.lst q.1)))
      | some (.dic ks) => (frzF (frzD k) ks S).map fun q => (.dic q.1, q.2.set n (.frz (.dic q.1)))
      | some (.ins C fs) => (frzF (frzD k) fs S).map fun q => (.ins C q.1, q.2.set n (.frz (.ins C q.1)))
      | some (.frz d) => frzD k d S
      | some (.tbl _ _) => none
      | some (.dkt _) => none
      | none => none)
    | d => some (d, S)
section
variable {K : PySem.W.Frag} {mg : Str → Option Value} {Z φ : List Addr} {H : Hp}
/-- a freezing that is right -/
def FrzOk (K : PySem.W.Frag) (mg : Str → Option Value) (Z φ : List Addr) (H : Hp) (f : D → Store → Option (D × Store)) : Prop := ∀ (d e : D) (S S' : Store) (v : V), f d S = some (e, S') → Rel K mg Z φ S H → Dat K mg φ (gnd Z φ S H) d v →
  Rel K mg Z φ S' H ∧ Evo Z φ S H φ S' H ∧ Dat K mg φ (gnd Z φ S' H) e v
theorem frzL_ok {f : D → Store → Option (D × Store)} (hf : FrzOk K mg Z φ H f) : ∀ (ds es : List D) (S S' : Store) (vs : List V), frzL f ds S = some (es, S') → Rel K mg Z φ S H → DatL K mg φ (gnd Z φ S H) ds vs →
    Rel K mg Z φ S' H ∧ Evo Z φ S H φ S' H ∧ DatL K mg φ (gnd Z φ S' H) es vs
  | [], es, S, S', vs, h, R, d => by
    cases h
    exact ⟨R, Evo.refl, d⟩
  | d :: ds, es, S, S', vs, h, R, q => by
    obtain ⟨v, r, rfl, q1, q2⟩ := q.uncons
    unfold frzL at h
    cases h1 : f d S with
    | none => rw [h1] at h; cases h
    | some p =>
      obtain ⟨e, S1⟩ := p
      rw [h1] at h
      obtain ⟨R1, E1, d1⟩ := hf _ _ _ _ _ h1 R q1
      cases h2 : frzL f ds S1 with
      | none => simp only [h2] at h; cases h
      | some p =>
        obtain ⟨es', S2⟩ := p
        simp only [h2] at h
        cases h
        obtain ⟨R2, E2, d2⟩ := frzL_ok hf _ _ _ _ _ h2 R1 (DatL.evo E1 q2)
        exact ⟨R2, E1.trans E2, .cons (Dat.evo E2 d1) d2⟩
theorem frzF_okK {f : D → Store → Option (D × Store)} (hf : FrzOk K mg Z φ H f) : ∀ (ds es : List (Key × D)) (S S' : Store) (vs : List (Key × V)), frzF f ds S = some (es, S') → Rel K mg Z φ S H → DatK K mg φ (gnd Z φ S H) ds vs →
    Rel K mg Z φ S' H ∧ Evo Z φ S H φ S' H ∧ DatK K mg φ (gnd Z φ S' H) es vs
  | [], es, S, S', vs, h, R, d => by
    cases h
    exact ⟨R, Evo.refl, d⟩
  | (x, d) :: ds, es, S, S', vs, h, R, q => by
    unfold DatK at q
    obtain ⟨v, r, rfl, q1, q2⟩ := q
    unfold frzF at h
    cases h1 : f d S with
    | none => rw [h1] at h; cases h
    | some p =>
      obtain ⟨e, S1⟩ := p
      rw [h1] at h
      obtain ⟨R1, E1, d1⟩ := hf _ _ _ _ _ h1 R q1
      cases h2 : frzF f ds S1 with
      | none => simp only [h2] at h; cases h
      | some p =>
        obtain ⟨es', S2⟩ := p
        simp only [h2] at h
        cases h
        obtain ⟨R2, E2, d2⟩ := frzF_okK hf _ _ _ _ _ h2 R1 (DatK.mono E1.pre E1.ext _ _ q2)
        refine ⟨R2, E1.trans E2, ?_⟩
        unfold DatK
        exact ⟨v, r, rfl, Dat.evo E2 d1, d2⟩
theorem frzF_okF {f : D → Store → Option (D × Store)} (hf : FrzOk K mg Z φ H f) : ∀ (ds es : List (Str × D)) (S S' : Store) (vs : List (Str × V)), frzF f ds S = some (es, S') → Rel K mg Z φ S H → DatF K mg φ (gnd Z φ S H) ds vs →
    Rel K mg Z φ S' H ∧ Evo Z φ S H φ S' H ∧ DatF K mg φ (gnd Z φ S' H) es vs
  | [], es, S, S', vs, h, R, d => by
    cases h
    exact ⟨R, Evo.refl, d⟩
  | (x, d) :: ds, es, S, S', vs, h, R, q => by
    unfold DatF at q
    obtain ⟨v, r, rfl, q1, q2⟩ := q
    unfold frzF at h
    cases h1 : f d S with
    | none => rw [h1] at h; cases h
    | some p =>
      obtain ⟨e, S1⟩ := p
      rw [h1] at h
      obtain ⟨R1, E1, d1⟩ := hf _ _ _ _ _ h1 R q1
      cases h2 : frzF f ds S1 with
      | none => simp only [h2] at h; cases h
      | some p =>
        obtain ⟨es', S2⟩ := p
        simp only [h2] at h
        cases h
        obtain ⟨R2, E2, d2⟩ := frzF_okF hf _ _ _ _ _ h2 R1 (DatF.mono E1.pre E1.ext _ _ q2)
        refine ⟨R2, E1.trans E2, ?_⟩
        unfold DatF
        exact ⟨v, r, rfl, Dat.evo E2 d1, d2⟩
theorem map_some' {α β : Type} {o : Option α} {f : α → β} {b : β} (h : o.map f = some b) : ∃ a, o = some a ∧ f a = b := by
  cases o with
  | none => cases h
  | some a => exact ⟨a, rfl, Option.some.inj h⟩
theorem frzD_ok : ∀ k : Nat, FrzOk K mg Z φ H (frzD k)
  | 0 => fun d e S S' v h => by cases h
  | k + 1 => fun d e S S' v h R q => by
    have ih := frzD_ok k
    unfold frzD at h
    cases d with
    | tup ds =>
      obtain ⟨⟨es, S1⟩, h1, h2⟩ := map_some' h
      cases h2
      have q0 := q
      unfold Dat at q
      obtain ⟨a, vs, rfl, p1, p2⟩ := q
      obtain ⟨R1, E1, d1⟩ := frzL_ok ih _ _ _ _ _ h1 R p2
      refine ⟨R1, E1, ?_⟩
      unfold Dat
      exact ⟨a, vs, rfl, sqt_mono E1.ext p1, d1⟩
    | lst ds =>
      obtain ⟨⟨es, S1⟩, h1, h2⟩ := map_some' h
      cases h2
      unfold Dat at q
      obtain ⟨a, vs, rfl, p1, p2⟩ := q
      obtain ⟨R1, E1, d1⟩ := frzL_ok ih _ _ _ _ _ h1 R p2
      refine ⟨R1, E1, ?_⟩
      unfold Dat
      exact ⟨a, vs, rfl, E1.ext _ _ p1, d1⟩
    | dic ds =>
      obtain ⟨⟨es, S1⟩, h1, h2⟩ := map_some' h
      cases h2
      unfold Dat at q
      obtain ⟨a, vs, rfl, p1, p2⟩ := q
      obtain ⟨R1, E1, d1⟩ := frzF_okK ih _ _ _ _ _ h1 R p2
      refine ⟨R1, E1, ?_⟩
      unfold Dat
      exact ⟨a, vs, rfl, E1.ext _ _ p1, d1⟩
    | ins C ds =>
      obtain ⟨⟨es, S1⟩, h1, h2⟩ := map_some' h
      cases h2
      unfold Dat at q
      obtain ⟨a, A, dx, vs, rfl, p0, p1, p2⟩ := q
      obtain ⟨R1, E1, d1⟩ := frzF_okF ih _ _ _ _ _ h1 R p2
      refine ⟨R1, E1, ?_⟩
      unfold Dat
      exact ⟨a, A, dx, vs, rfl, p0, E1.ext _ _ p1, d1⟩
    | oid n =>
      unfold Dat at q
      obtain ⟨a, rfl, ha⟩ := q
      simp only at h
      cases hS : S[n]? with
      | none => rw [hS] at h; cases h
      | some so =>
        rw [hS] at h
        have ok := R.ob n a so ha hS
        cases so with
        | lst ds =>
          obtain ⟨⟨es, S1⟩, h1, h2⟩ := map_some' h
          cases h2
          obtain ⟨vs, p1, p2⟩ := ok
          obtain ⟨R1, E1, d1⟩ := frzL_ok ih _ _ _ _ _ h1 R p2
          have dn : Dat K mg φ (gnd Z φ (S1.set n (.frz (.lst es))) H) (.lst es) (.ref a) := by
            unfold Dat
            exact ⟨a, vs, rfl, gnd_frz R1 ha p1, DatL.mono (List.prefix_refl _) evo_frz _ _ d1⟩
          obtain ⟨R2, E2⟩ := R1.freeze ha dn
          exact ⟨R2, E1.trans E2, dn⟩
        | dic ds =>
          obtain ⟨⟨es, S1⟩, h1, h2⟩ := map_some' h
          cases h2
          obtain ⟨vs, p1, p2⟩ := ok
          obtain ⟨R1, E1, d1⟩ := frzF_okK ih _ _ _ _ _ h1 R p2
          have dn : Dat K mg φ (gnd Z φ (S1.set n (.frz (.dic es))) H) (.dic es) (.ref a) := by
            unfold Dat
            exact ⟨a, vs, rfl, gnd_frz R1 ha p1, DatK.mono (List.prefix_refl _) evo_frz _ _ d1⟩
          obtain ⟨R2, E2⟩ := R1.freeze ha dn
          exact ⟨R2, E1.trans E2, dn⟩
        | ins C ds =>
          obtain ⟨⟨es, S1⟩, h1, h2⟩ := map_some' h
          cases h2
          obtain ⟨A, dx, vs, p0, p1, p2⟩ := ok
          obtain ⟨R1, E1, d1⟩ := frzF_okF ih _ _ _ _ _ h1 R p2
          have dn : Dat K mg φ (gnd Z φ (S1.set n (.frz (.ins C es))) H) (.ins C es) (.ref a) := by
            unfold Dat
            exact ⟨a, A, dx, vs, rfl, p0, gnd_frz R1 ha p1, DatF.mono (List.prefix_refl _) evo_frz _ _ d1⟩
          obtain ⟨R2, E2⟩ := R1.freeze ha dn
          exact ⟨R2, E1.trans E2, dn⟩
        | frz d => exact ih _ _ _ _ _ h R ok
        | tbl _ _ => cases h
        | dkt _ => cases h
    | non => cases h; exact ⟨R, Evo.refl, q⟩
    | bl _ => cases h; exact ⟨R, Evo.refl, q⟩
    | int _ => cases h; exact ⟨R, Evo.refl, q⟩
    | str _ => cases h; exact ⟨R, Evo.refl, q⟩
    | ty _ => cases h; exact ⟨R, Evo.refl, q⟩
    | cls _ => cases h; exact ⟨R, Evo.refl, q⟩
    | scr _ => cases h; exact ⟨R, Evo.refl, q⟩
    | exc _ _ => cases h; exact ⟨R, Evo.refl, q⟩
end
section
variable {X : Cx} {W : WX} {k : Nat} {e : Expr} {fe : FE}
def fFrzD (n : Nat) (f : FE) : FE := fun ρ S => (f ρ S).bind fun d S => match frzD n d S with
  | some (e, S) => .ok e S
  | none => .stuck
theorem de_frzD (n : Nat) (h : DE X W e fe) : DE X W e (fFrzD n fe) := by
  obtain ⟨t, p, q⟩ := h.ex
  refine .mk p (fun Z φ S ρ σ H Q R sl w => q Z φ S ρ σ H _ R sl (w.bind fun d S1 v φ1 H1 R1 E1 dd w1 => ?_))
  cases hz : frzD n d S1 with
  | none => simp only [hz] at w1; exact w1.elim
  | some p =>
    obtain ⟨e', S2⟩ := p
    simp only [hz] at w1
    obtain ⟨R2, E2, d2⟩ := frzD_ok n _ _ _ _ _ hz R1 dd
    exact w1 _ φ1 H1 R2 E2 d2
end
end DL

/-! The data layer, part 20: name = {k: v for ..}, the name a local that is not captured. -/
namespace DL
open PySem PySem.Spec PyProof.Rows L2
section
variable {X : Cx} {W : WX} {k : Nat}
end
end DL

/-! The data layer, part 21: a comprehension within a comprehension. -/
namespace DL
open PySem PySem.Spec PyProof.Rows L2
section
variable {X : Cx} {W : WX} {k : Nat}
end
end DL

/-! The data layer, part 22: list.pop, list(range(..)), zip, slices. -/
namespace DL
open PySem PySem.Spec PyProof.Rows L2
section
variable {X : Cx} {W : WX} {k : Nat} {o e : Expr} {fo fe : FE} {pos apos cpos p p2 : Pos}
/-! ### xs.pop(i), xs.pop() -/
/-! ### list(range(n)) -/
/-! ### zip -/
def zipD : List D → List D → List D := List.zipWith fun x y => .tup [x, y]
theorem gnd_some {Z φ : List Addr} {S : Store} {H : Hp} {a : Addr} {u : HO} (h : gnd Z φ S H a = some u) : H a = some u := (without_some.mp h).2
/-! ### slices -/
def cutD (xs : List D) (lo hi : Option Int) : List D := (xs.drop (HT.sIx xs.length 0 lo)).take (HT.sIx xs.length xs.length hi - HT.sIx xs.length 0 lo)
def gSl (x : D) (lo hi : Option Int) (S : Store) : Res D := match x with
  | .tup xs => if HT.sIx xs.length 0 lo = 0 ∧ HT.sIx xs.length xs.length hi = xs.length then .stuck else .ok (.tup (cutD xs lo hi)) S
  | d => match asL S d with
    | some xs => .ok (.lst (cutD xs lo hi)) S
    | none => .stuck
abbrev FO := EnvD → Store → Res (Option Int)
def fPartN : FO := fun _ S => .ok none S
def fPart (f : FE) : FO := fun ρ S => (f ρ S).bind fun d S => match d with
  | .int i => .ok (some i) S
  | _ => .stuck
def tDO (K : PySem.W.Frag) (mg : Str → Option Value) (W : WX) (f : FO) : TO := fun σ H Q => ∃ Z φ S ρ, Rel K mg Z φ S H ∧ Slots K mg φ (gnd Z φ S H) ρ σ ∧ Want K mg REq Z φ S H (f ρ S) Q (WE W σ)
def DO (X : Cx) (W : WX) (e : Option Expr) (f : FO) : Prop := PO X e (tDO X.K X.mg W f)
theorem do_none : DO X W none fPartN := ⟨fun pins s σ H Q I h => (po_none (X := X)).run pins s σ H Q I (by
  obtain ⟨Z, φ, S, ρ, R, sl, w⟩ := h
  exact w.now R rfl)⟩
theorem do_some (he : DE X W e fe) : DO X W (some e) (fPart fe) := by
  obtain ⟨t, pe, q⟩ := he.ex
  refine ⟨fun pins s σ H Q I h => (po_some pe).run pins s σ H Q I ?_⟩
  obtain ⟨Z, φ, S, ρ, R, sl, w⟩ := h
  refine q Z φ S ρ σ H _ R sl (w.bind fun d S1 v φ1 H1 R1 E1 dd w1 => ?_)
  cases d with
  | int i =>
    cases dInt dd
    exact ⟨i, rfl, w1.now R1 rfl⟩
  | _ => exact w1.elim
def fSl (fx : FE) (fl fh : FO) : FE := fun ρ S => (fx ρ S).bind fun x S => (fl ρ S).bind fun l S => (fh ρ S).bind fun h S => gSl x l h S
theorem cut_dat {φ : List Addr} {G : Hp} {xs : List D} {vs : List V} (h : DatL X.K X.mg φ G xs vs) (lo hi : Option Int) : DatL X.K X.mg φ G (cutD xs lo hi) (cutV vs lo hi) := by
  unfold cutD cutV
  rw [h.length]
  exact (h.drop _).take _
theorem de_slice {lo hi : Option Expr} {fl fh : FO} (hx : DE X W e fe) (hl : DO X W lo fl) (hh : DO X W hi fh) : DE X W (.Subscript e (.Slice lo hi none p2) pos) (fSl fe fl fh) := by
  obtain ⟨t, pe, q⟩ := hx.ex
  refine .mk (pe_slice (sl_tup.or sl_list) pe hl hh) fun Z φ S ρ σ H Q R sl w => q Z φ S ρ σ H _ R sl (w.bind fun x S1 v φ1 H1 R1 E1 d w1 => ?_)
  refine ⟨Z, φ1, S1, ρ, R1, sl.evo E1, w1.bind fun l S2 l' φ2 H2 R2 E2 el w2 => ?_⟩
  cases el
  refine ⟨Z, φ2, S2, ρ, R2, (sl.evo E1).evo E2, w2.bind fun h S3 h' φ3 H3 R3 E3 eh w3 => ?_⟩
  cases eh
  have d3 : Dat X.K X.mg φ3 (gnd Z φ3 S3 H3) x v := Dat.evo E3 (Dat.evo E2 d)
  unfold gSl at w3
  split at w3
  · rename_i xs
    by_cases hc : HT.sIx xs.length 0 l = 0 ∧ HT.sIx xs.length xs.length h = xs.length
    · rw [if_pos hc] at w3
      exact w3.elim
    · rw [if_neg hc] at w3
      unfold Dat at d3
      obtain ⟨a, vs, rfl, q1, q2⟩ := d3
      refine .inl ⟨a, vs, rfl, sqt_mono (fun b u hb => gnd_some hb) q1, by rw [q2.length]; exact hc, fun p hp => ?_⟩
      obtain ⟨r, e, g⟩ := dat_newT R3 (cut_dat q2 l h) hp
      exact w3 _ _ _ r e g
  · split at w3
    · rename_i xs hq
      obtain ⟨a, vs, rfl, q1, q2⟩ := asL_ok R3 d3 hq
      refine .inr ⟨a, vs, rfl, q1, fun p hp => ?_⟩
      obtain ⟨r, e, g⟩ := dat_newL R3 (cut_dat q2 l h) hp
      exact w3 _ _ _ r e g
    · exact w3.elim
end
end DL

/-! The data layer, part 23: dict.get. -/
namespace DL
open PySem PySem.Spec PyProof.Rows L2
section
variable {X : Cx} {W : WX} {k : Nat} {o e f : Expr} {fo fe ff : FE} {pos apos cpos p p2 : Pos}
def gGet (x y z : D) (S : Store) : Res D := match asD S x, keyD y with
  | some ks, some j => .ok ((valD ks j).getD z) S
  | _, _ => .stuck
def fGet1 (fo fe : FE) : FE := fun ρ S => (fo ρ S).bind fun x S => if (asD S x).isSome then (fe ρ S).bind fun y S => gGet x y .non S else .stuck
def fGet2 (fo fe ff : FE) : FE := fun ρ S => (fo ρ S).bind fun x S => if (asD S x).isSome then (fe ρ S).bind fun y S => (ff ρ S).bind fun z S => gGet x y z S else .stuck
end
end DL

/-! The data layer, part 24: a, b = e, f and a, b, c = e, f, g, all names locals that are not captured. -/
namespace DL
open PySem PySem.Spec PyProof.Rows L2
section
variable {X : Cx} {W : WX} {k : Nat} {a b c : Expr} {pos : Pos}
def gPar (i j : Nat) (fa : FA) : FS := fun ρ S => (fa ρ S).into ρ fun ds S => match ds with
  | [x, y] => .nx ((ρ.set i (some x)).set j (some y)) S
  | _ => .stuck
theorem ds_par (C : Cn X W k) {i j : Nat} {x y : Str} {fa : FA} {px py pt : Pos} {kt k2 pt2} (hi : X.N[i]? = some x) (hj : X.N[j]? = some y) (hij : i ≠ j)
    (hx : X.env.scope.names.lookup x = some .local) (hy : X.env.scope.names.lookup y = some .local) (ha : DA X W [a, b] fa)
    (hw : swappedStores [.Tuple [.Name x px, .Name y py] kt pt] (.Tuple [a, b] k2 pt2) X.env = pure (some [x, y]))
    (hs : swapsWithSole [.Tuple [.Name x px, .Name y py] kt pt] (.Tuple [a, b] k2 pt2) pos.line X.env = pure false := by rfl) :
    DS X W (.Assign [.Tuple [.Name x px, .Name y py] kt pt] (.Tuple [a, b] k2 pt2) pos) (gPar i j fa) := by
  obtain ⟨t, p, q⟩ := ha.ex
  refine .mk (ps_par C.calm C.nd hi hj hij hx hy p hw hs) fun Z φ S ρ σ H Dd R sl w => q Z φ S ρ σ H _ R sl (w.into sl fun ds S1 vs φ1 H1 R1 E1 d w1 => ?_)
  split at w1
  · obtain ⟨u, v, rfl, h1, h2⟩ := datL2 d
    exact ⟨u, v, rfl, w1 _ φ1 H1 R1 Evo.refl (((sl.evo E1).set h1).set h2)⟩
  · exact w1.elim
end
end DL

/-! The data layer, part 25: () + t. -/
namespace DL
open PySem PySem.Spec PyProof.Rows L2
theorem cat_tup0 {prog : Program} {w : World} {A : Around} {E : Value → Shared → Prop} {s : Shared} {t b : Addr} {ws : List Value} {Q : Value → Shared → Prop} (ht : IsTup s.heap t ([] : List Value).toArray) (hb : IsTup s.heap b ws.toArray)
    (h1 : Q (.ref b) s) : wpAny (model prog w) A (binaryOp .Add (.ref t) (.ref b)) Q E s := by
  obtain ⟨⟨cls, dd, data, sl⟩, ho, hc, n, hd⟩ := id ht
  obtain ⟨⟨cls2, dd2, data2, sl2⟩, ho2, hc2, n2, hd2⟩ := id hb
  simp only at hc hd hc2 hd2
  subst hc hd hc2 hd2
  exact concat_meets ⟨_, ho, rfl⟩ ⟨_, ho2, rfl⟩ noFill_tuple_add seq_tuple_add PySem.F.slot_tuple_add PySem.F.entry_tuple_add (PySem.F.args_tuple_add_2 _ _)
      (tuple_addW0 t b ([] : List Value).toArray ws.toArray n n2 dd dd2 sl sl2 (by simp)) ⟨ho, ho2, h1⟩
section
variable {X : Cx} {W : WX} {a b : Expr} {fa fb : FE} {pos : Pos}
def rCat0 (K : PySem.W.Frag) : R2 := fun x y H Q => ∃ a b ys, x = .ref a ∧ y = .ref b ∧ SqT K H a [] ∧ SqT K H b ys ∧ Q (.ref b) H
theorem op_cat0 : OpR X (binaryOp .Add) (rCat0 X.K) := by
  intro pins s σ H x y v u Q I rx ry h
  obtain ⟨a, b, ys, rfl, rfl, ha, hb, q⟩ := h
  cases rx
  cases ry
  obtain ⟨its, r1, p1, _⟩ := I.tuple ha
  obtain ⟨its2, r2, p2, _⟩ := I.tuple hb
  have e : its = [] := r1.nil_iff.mpr rfl
  subst e
  exact cat_tup0 p1 p2 ⟨.ref b, H, I, rfl, q⟩
def isE0 (x _ : D) (_ : Store) : Bool := match x with
  | .tup [] => true
  | _ => false
def gCat0 : G2 := fun x y S => match x, y with
  | .tup [], .tup ys => .ok (.tup ys) S
  | _, _ => .stuck
theorem opd_cat0 : OpD X (rCat0 X.K) gCat0 := fun Z φ S H x y u v Q E R dx dy w => by
  unfold gCat0 at w
  split at w
  · obtain ⟨p, vs, rfl, h1, h2⟩ := tupOf_ok dx rfl
    obtain ⟨q, us, rfl, h3, h4⟩ := tupOf_ok dy rfl
    have e : vs = [] := by
      unfold DatL at h2
      exact h2
    subst e
    exact ⟨p, q, us, rfl, rfl, sqt_mono (fun _ _ z => z) h1, h3, w.now R dy⟩
  · exact w.elim
def gAdd0 : G2 := fun x y S => if isE0 x y S then gCat0 x y S else gAdd x y S
theorem de_add0 (ha : DE X W a fa) (hb : DE X W b fb) : DE X W (.BinOp a .Add b pos) (fBin gAdd0 fa fb) :=
  de_bin (op_cat0.or (op_add.or (op_add_str.or (op_catT.or op_cat)))) (OpD.or isE0 opd_cat0 (OpD.or isI (opd_I0 fun _ _ _ _ => dat_int _) (OpD.or isS opd_addS (OpD.or isT opd_addT opd_addL)))) ha hb
end
end DL

/-! The data layer, part 26: len(x) by an own __len__. -/
namespace DL
open PySem PySem.Spec PyProof.Rows L2
section
variable {X : Cx} {W : WX} {k n : Nat} {e : Expr} {pos p : Pos} {C f : Addr} {fd : FuncData} {ps : List Str} {sem : Sem'}
def rLenO (X : Cx) (sem : Sem') (C : Addr) : List V → Hp → VK → Prop := fun xs H Q => ∃ a dx fs ds n S1, xs = [.ref a] ∧ H a = some (.ins C dx fs) ∧ DatL X.K X.mg [] H ds [.ref a] ∧ sem ds [] = .ok (.int n) S1 ∧ (0 ≤ n ∧ n < 1000) ∧ ∀ H', Ext H H' → Q (.int n) H'
theorem call_lenO (Cc : Cn X W k) (hm : Meth X.K C "__len__" f) (F : FnG X.prog X.w X.K X.mg X.base n f fd ps (spD X.K X.mg ps.length sem)) (hps : ps.length = 1) (hb : Binds X.K fd ps []) (hle : n + 1 ≤ k := by decide) :
    CallR X (.builtin "len") (rLenO X sem C) := by
  intro pins s σ H xs us Q I rx h
  obtain ⟨a, dx, fs, ds, i, S1, rfl, ha, hd, hs, ⟨i0, i1⟩, q⟩ := h
  obtain ⟨u, rfl, ru⟩ := vals1 rx
  cases ru
  obtain ⟨mA, J, _⟩ := ins_get I.hok ha
  obtain ⟨od, J, _⟩ := J.look
  obtain ⟨m, hF⟩ := I.fr
  refine PySem.W.len_K hF I.ok.mod.kin J hm.at_ hm.fn ?_
  have hsp : spD X.K X.mg ps.length sem [.ref a] H (fun v H' => v = .int i ∧ Ext H H') (WE W σ) := by
    refine ⟨by rw [hps]; rfl, [], [], [], ds, rel_nil, by rw [gnd_nil]; exact hd, ?_⟩
    rw [hs]
    intro v φ1 H1 R1 E1 dv
    unfold RDat Dat at dv
    exact ⟨dv, fun c o e => E1.out c o e fun h => nomatch h⟩
  have r2 : Vals [V.ref a] [Value.ref a] := .cons rfl .nil
  have hB := hb s [.ref a] I.kIn (by simp [hps])
  have t : wpAny (model X.prog X.w) X.A.in1 (call (.ref f) [.ref a] ([].zip [])) (EP X pins σ (fun v H' => v = .int i ∧ Ext H H')) X.xe s := by
    refine wpAny_call (codeAny_mono (F.run X.A.in1 X.stack s H _ [.ref a] [.ref a] _ (WE W σ) (Cc.room.mono hle).in1 Cc.gd I.env0.in1 (by simpa using hB) r2 hsp) fun res s' hq => ?_)
    cases res with
    | error e => exact L2N.passAt Cc.tk σ pins H s e s' I hq
    | ok fl => cases fl with
      | ret u => exact I.after hq
      | _ => exact hq.elim
  refine wpAny_mono t (fun r s' z => ?_) fun _ _ x => x
  obtain ⟨zv, H', I', rz, ez, ex⟩ := z
  subst ez
  obtain ⟨tk, rfl⟩ := rz
  refine ⟨⟨i0, by omega⟩, ?_⟩
  exact ⟨.int i, H', I'.tok _, ⟨_, rfl⟩, q H' ex⟩
/-- the mirror: a pure instance of c, the answer a small number -/
noncomputable def gLenO (c : Str) (sem : Sem') : GC := fun ds S => match ds with
  | [.ins c1 fs] => if c1 = c ∧ (D.ins c1 fs).pure = true then (match sem [.ins c1 fs] [] with
    | .ok (.int n) _ => @ite _ (0 ≤ n ∧ n < 1000) (Classical.propDecidable _) (.ok (.int n) S) .stuck
    | _ => .stuck) else .stuck
  | _ => .stuck
theorem cd_lenO {c : Str} (cl : ClsI X c C) : CallD X (rLenO X sem C) (gLenO c sem) := fun Z φ S H ds vs Q E R d w => by
  unfold gLenO at w
  split at w
  · rename_i c1 fs
    obtain ⟨v, rfl, dx⟩ := datL1 d
    obtain ⟨⟨rfl, p1⟩, w1⟩ := want_if w
    split at w1
    · rename_i i S1 hs
      have d1 : Dat X.K X.mg [] H (.ins c1 fs) v := Dat.pure p1 (Dat.mono (List.prefix_refl _) gnd_sub _ _ dx)
      obtain ⟨a, A, ex, fvs, rfl, q0, q1, _⟩ := asI_ok R dx rfl
      rw [cl.mg] at q0
      cases q0
      by_cases hi : 0 ≤ i ∧ i < 1000
      · rw [if_pos hi] at w1
        refine ⟨a, ex, fvs, _, i, S1, rfl, q1, .cons d1 DatL.nil, hs, hi, fun H' e => ?_⟩
        obtain ⟨r1, e1⟩ := R.same e
        exact w1 _ φ H' r1 e1 (dat_int _)
      · rw [if_neg hi] at w1
        exact w1.elim
    · exact w1.elim
  · exact w.elim
theorem de_lenO {c : Str} {fa : FA} (Cc : Cn X W k) (hm : Meth X.K C "__len__" f) (F : FnG X.prog X.w X.K X.mg X.base n f fd ps (spD X.K X.mg ps.length sem)) (hps : ps.length = 1) (hb : Binds X.K fd ps []) (cl : ClsI X c C) (hg : Gl X "len") (hmg : X.mg "len" = none) (ha : DA X W [e] fa)
    (hle : n + 1 ≤ k := by decide) (he : starEach [e] X.env = (false, eval e X.env) :: starEach [] X.env := by rfl) (hpl : (backTo pos (starEach [] X.env)).any (·.1) = false := by rfl) :
    DE X W (.Call (.Name "len" p) [e] [] pos) (fCB (gLenO c sem) fa) :=
  de_callB (call_lenO Cc hm F hps hb hle) (cd_lenO cl) hg hmg (by rfl) ha (by decide) (by decide) he hpl
/-- what it gives -/
theorem e_gLenO {c : Str} {fs : List (Str × D)} {i : Int} {S S1 : Store} (hp : (D.ins c fs).pure = true) (hs : sem [.ins c fs] [] = .ok (.int i) S1) (h0 : 0 ≤ i) (h1 : i < 1000) : gLenO c sem [.ins c fs] S = .ok (.int i) S := by
  unfold gLenO
  simp only [hp, and_self, if_true, hs]
  rw [if_pos ⟨h0, h1⟩]
end
end DL

/-! The data layer, part 27: list(zip(xs, ys)). -/
namespace PySem
open PySem.Spec PySem.Calls PyProof.Rows PySem.W L2
namespace F
end F
section
variable {prog : Program} {w : World} {A : Around} {E : Value → Shared → Prop} {s : Shared}
/-- an iterator that lays a new object at each turn -/
structure NewSrc (prog : Program) (w : World) (A : Around) (e : Addr) (wr fp : List Addr) (n : Nat) (PT : Nat → Obj → Prop) (St : Nat → Heap → Prop) : Prop where
  frame : ∀ i h h' S, St i h → S ∉ fp → (∀ b o, b ≠ S → h.get? b = some o → h'.get? b = some o) → (∀ o, h.get? S = some o → ∃ o', h'.get? S = some o') → St i h'
  item : ∀ i (s : Shared) (Q : Option Value → Shared → Prop) (E : Value → Shared → Prop), i < n → St i s.heap →
    (∀ h' tk o, PT i o → St (i + 1) h' → h'.get? s.heap.objs.size = some o → h'.objs.size = s.heap.objs.size + 1 → (∀ b o, b ∉ wr → s.heap.get? b = some o → h'.get? b = some o) → Q (some (.ref s.heap.objs.size)) { s with heap := h', toks := tk }) → wpAny (model prog w) A (pyNext (.ref e)) Q E s
  done : ∀ (s : Shared) (Q : Option Value → Shared → Prop) (E : Value → Shared → Prop), St n s.heap → (∀ h' tk, (∀ b o, b ∉ wr → s.heap.get? b = some o → h'.get? b = some o) → Q none { s with heap := h', toks := tk }) → wpAny (model prog w) A (pyNext (.ref e)) Q E s
  sub : ∀ b ∈ wr, b ∈ fp
/-- the objects laid so far -/
structure NwG (PT : Nat → Obj → Prop) (lo : Addr) (h : Heap) (as : List Addr) : Prop where
  asc : as.Pairwise (· < ·)
  above : ∀ a ∈ as, lo < a
  at_ : ∀ (j : Nat) (a : Addr), as[j]? = some a → ∃ o, PT j o ∧ h.get? a = some o
/-- a zip of two lists, at any turn -/
def ZpAt (z TI TO i1 i2 l1 l2 : Addr) (xs ys : Array Value) (i : Nat) (h : Heap) : Prop := IsPair h TI (.ref i1) (.ref i2) ∧ h.IsListIter i1 l1 i ∧ h.IsListIter i2 l2 i ∧ h.IsList l1 xs ∧ h.IsList l2 ys ∧
  ((IsZip h z TI TO .none ∧ ∃ a b, IsPair h TO a b) ∨ ∃ T f oT, IsZipHeld h z TI TO T f ∧ h.get? T = some oT ∧ T ≠ z ∧ T ≠ i1 ∧ T ≠ i2)
theorem ZpAt.type {z TI TO i1 i2 l1 l2 : Addr} {xs ys : Array Value} {i : Nat} (x : ZpAt z TI TO i1 i2 l1 l2 xs ys i s.heap) : s.TypeIs (.ref z) "zip" := by
  rcases x.2.2.2.2.2 with ⟨hz, _⟩ | ⟨T, f, oT, hz, _⟩ <;> exact ⟨_, hz, rfl⟩
end
end PySem

/-! The data layer, part 28: list(zip(xs, ys)) on data. -/
namespace DL
open PySem PySem.Spec PyProof.Rows L2
section
variable {K : PySem.W.Frag} {mg : Str → Option Value} {Z φ : List Addr} {S : Store}
end
section
variable {X : Cx} {W : WX} {k : Nat} {a b : Expr} {fa : FA} {pos p p2 q2 : Pos}
def gLZip : GC := fun ds S => match ds with
  | [.lst xs, .lst ys] => .ok (.lst (zipD xs ys)) S
  | _ => .stuck
@[simp] theorem e_gLZip (xs ys : List D) (S : Store) : gLZip [.lst xs, .lst ys] S = .ok (.lst (zipD xs ys)) S := rfl
end
end DL

/-! The data layer, part 29: the whole of a tuple as a slice; t[::-1]; int(truth). -/
namespace HT
open PySem PySem.Spec PyProof.Rows
section
variable {prog : Program} {w : World} {A : Around} {E : Value → Shared → Prop} {s : Shared}
theorem exact_ {t : Addr} {items : Array Value} {Q : Bool → Shared → Prop} (ht : IsTup s.heap t items) (h : Q true s) : wpAny (model prog w) A (Builtin.Tuple.tupleIsExact (.ref t)) Q E s := by
  unfold Builtin.Tuple.tupleIsExact
  refine wpAny_bind (wpAny_typeOf ht.typeIs (wpAny_pure ?_))
  simpa using h
theorem getItem_tuple_whole {t sl : Addr} {items : Array Value} {vl vu : Value} {lo hi : Option Int} {Q : Value → Shared → Prop} (ht : IsTup s.heap t items) (hs : s.heap.IsSliceOf sl vl vu .none) (pl : IsPart vl lo) (pu : IsPart vu hi)
    (h0 : sIx items.size 0 lo = 0) (h1 : sIx items.size items.size hi = items.size) (h : Q (.ref t) s) : wpAny (model prog w) A (getItem (.ref t) (.ref sl)) Q E s := by
  obtain ⟨os, hos, hcs, hds⟩ := id hs
  have hTs : s.TypeIs (.ref sl) "slice" := ⟨os, hos, hcs⟩
  unfold getItem
  try with_reducible refine wpAny_holding ?_
  first | refine wpAny_bind (wpAny_pure ?_) | skip
  refine wpAny_bind (wpAny_sequenceKey ht.typeIs (by decide) ?_)
  refine wpAny_bind (wpAny_callSpecial?_slot (name := Str.ofString "__getitem__") ht.typeIs PyProof.Rows.slot_tuple_getitem
    (wpAny_call_entry PyProof.Rows.slot_tuple_getitem ht.typeIs entry_tuple_getitem ?_ (args_tuple_getitem _ _)))
  show wpAny _ _ (Builtin.Tuple.tupleItemsOf (.ref t) >>= _) _ _ s
  refine wpAny_bind (tupleItemsOf_ ht ?_)
  refine wpAny_bind (wpAny_typeOf hTs ?_)
  rw [if_pos (by decide)]
  refine wpAny_bind (sliceApplied_gen hs pl pu ?_)
  rw [h0, h1]
  have hyes : (((0 : Nat) : Int) == 0 && (1 : Int) == 1 && (items.size - 0) == items.size) = true := by simp
  show wpAny _ _ (if (((0 : Nat) : Int) == 0 && (1 : Int) == 1 && (items.size - 0) == items.size) = true then _ else _) _ _ s
  rw [if_pos hyes]
  refine wpAny_bind (exact_ ht ?_)
  first
    | (simp only [if_true]; exact wpAny_bind (wpAny_rule (wpAny_pure ⟨_, rfl, wpAny_pure h⟩)))
    | (rw [if_pos rfl]; exact wpAny_bind (wpAny_rule (wpAny_pure ⟨_, rfl, wpAny_pure h⟩)))
    | (wp_walk; exact ⟨_, rfl, h⟩)
theorem sliceApplied_rev {sl : Addr} {vl vu vs : Value} {n : Nat} {Q : Int × Int × Nat → Shared → Prop} (hs : s.heap.IsSliceOf sl vl vu vs) (pl : IsPart vl none) (pu : IsPart vu none) (ps : IsPart vs (some (-1)))
    (h : Q ((n : Int) - 1, -1, n) s) : wpAny (model prog w) A (Builtin.Slice.sliceApplied (.ref sl) (pure (n : Int))) Q E s := by
  obtain ⟨os, hos, hcs, hds⟩ := id hs
  unfold Builtin.Slice.sliceApplied Builtin.Slice.sliceFields
  refine wpAny_bind (wpAny_bind (wpAny_field hos hds (x := vl) rfl (wpAny_bind (wpAny_field hos hds (x := vu) rfl (wpAny_bind (wpAny_field hos hds (x := vs) rfl (wpAny_pure ?_)))))))
  refine wpAny_bind (slicePart_ ps ?_)
  show wpAny _ _ (if ((-1 : Int) == 0) = true then _ else _) _ _ s
  rw [if_neg (by decide)]
  refine wpAny_bind (slicePart_ pl (wpAny_bind (slicePart_ pu (wpAny_bind (wpAny_pure ?_)))))
  have e1 : Builtin.Slice.sliceAdjust none none (-1) (n : Int) = ((n : Int) - 1, -1) := rfl
  have e2 : Builtin.Slice.slicePlaces ((n : Int) - 1) (-1) (-1) = n := by
    unfold Builtin.Slice.slicePlaces
    have h1 : ¬ ((-1 : Int) > 0) := by decide
    have e : (- (-1 : Int)) = 1 := by decide
    simp only [h1, if_false, e, Int.ediv_one]
    split <;> omega
  show wpAny _ _ (match Builtin.Slice.sliceAdjust none none (-1) (n : Int) with | (lo, hi) => pure (lo, (-1 : Int), Builtin.Slice.slicePlaces lo hi (-1))) _ _ s
  rw [e1]
  show wpAny _ _ (pure ((n : Int) - 1, (-1 : Int), Builtin.Slice.slicePlaces ((n : Int) - 1) (-1) (-1))) _ _ s
  rw [e2]
  exact wpAny_pure h
theorem pick_rev (xs : Array Value) : ((List.range xs.size).filterMap fun (m : Nat) => xs[((xs.size : Int) - 1 + (m : Int) * (-1)).toNat]?).toArray = xs.toList.reverse.toArray := by
  have e : (fun (m : Nat) => xs[((xs.size : Int) - 1 + (m : Int) * (-1)).toNat]?) = (fun i => xs[i]?) ∘ fun k => xs.size - 1 - k := by
    funext m
    show _ = xs[xs.size - 1 - m]?
    have : ((xs.size : Int) - 1 + (m : Int) * (-1)).toNat = xs.size - 1 - m := by omega
    rw [this]
  rw [e, ← List.filterMap_map, PySem.W.krv_range, List.filterMap_reverse, PySem.W.krv_all]
theorem getItem_tuple_rev {t sl : Addr} {items : Array Value} {vl vu vs : Value} {Q : Value → Shared → Prop} (ht : IsTup s.heap t items) (hs : s.heap.IsSliceOf sl vl vu vs) (pl : IsPart vl none) (pu : IsPart vu none) (ps : IsPart vs (some (-1)))
    (h : Q (.ref s.heap.objs.size) { s with heap := s.heap.push { cls := .type "tuple", data := .seq items.toList.reverse.toArray } })
    (hsz : items.size ≤ sizeLine) : wpAny (model prog w) A (getItem (.ref t) (.ref sl)) Q E s := by
  have htake : sizeOk (.seq items.toList.reverse.toArray) := by
    show items.toList.reverse.toArray.size ≤ sizeLine
    rw [List.size_toArray, List.length_reverse, Array.length_toList]
    exact hsz
  obtain ⟨os, hos, hcs, hds⟩ := id hs
  have hTs : s.TypeIs (.ref sl) "slice" := ⟨os, hos, hcs⟩
  unfold getItem
  try with_reducible refine wpAny_holding ?_
  first | refine wpAny_bind (wpAny_pure ?_) | skip
  refine wpAny_bind (wpAny_sequenceKey ht.typeIs (by decide) ?_)
  refine wpAny_bind (wpAny_callSpecial?_slot (name := Str.ofString "__getitem__") ht.typeIs PyProof.Rows.slot_tuple_getitem
    (wpAny_call_entry PyProof.Rows.slot_tuple_getitem ht.typeIs entry_tuple_getitem ?_ (args_tuple_getitem _ _)))
  show wpAny _ _ (Builtin.Tuple.tupleItemsOf (.ref t) >>= _) _ _ s
  refine wpAny_bind (tupleItemsOf_ ht ?_)
  refine wpAny_bind (wpAny_typeOf hTs ?_)
  rw [if_pos (by decide)]
  refine wpAny_bind (sliceApplied_rev hs pl pu ps ?_)
  have hno : ¬ (((((items.size : Int) - 1) == 0 && (-1 : Int) == 1 && items.size == items.size) = true)) := by
    have : ((-1 : Int) == 1) = false := by decide
    rw [this, Bool.and_false, Bool.false_and]
    exact Bool.false_ne_true
  show wpAny _ _ (if ((((items.size : Int) - 1) == 0 && (-1 : Int) == 1 && items.size == items.size) = true) then _ else _) _ _ s
  rw [if_neg hno, pick_rev]
  first
    | exact wpAny_bind (m := Builtin.Tuple.tupleExact _) (wpAny_newObj_type (wpAny_pure ⟨_, rfl, wpAny_pure h⟩) htake)
    | exact wpAny_bind (m := Builtin.Tuple.tupleExact _) (wpAny_newObj_type (wpAny_bind (wpAny_pure (wpAny_pure ⟨_, rfl, wpAny_pure h⟩))) htake)
    | exact wpAny_bind (wpAny_bind (m := Builtin.Tuple.tupleExact _) (wpAny_newObj_type (wpAny_pure (wpAny_pure ⟨_, rfl, wpAny_pure h⟩)) htake))
    | exact wpAny_bind (wpAny_bind (m := Builtin.Tuple.tupleExact _) (wpAny_newObj_type (wpAny_pure ⟨_, rfl, wpAny_pure h⟩) htake))
end
end HT
namespace L2
open PySem PySem.Spec PyProof.Rows
section
variable {X : Cx}
/-- the whole of a tuple -/
def rSlTW (K : PySem.W.Frag) : V → Option Int → Option Int → Hp → VK → Prop := fun x lo hi H Q => ∃ a xs, x = .ref a ∧ SqT K H a xs ∧ (HT.sIx xs.length 0 lo = 0 ∧ HT.sIx xs.length xs.length hi = xs.length) ∧ Q (.ref a) H
theorem sl_tupW : SlR X (rSlTW X.K) := by
  intro pins s σ H x v vl vu lo hi sl Q I rx hs pl pu h
  obtain ⟨a, xs, rfl, hx, hw, q⟩ := h
  cases rx
  obtain ⟨its, r, ht, hz⟩ := I.tuple hx
  have hlen : its.toArray.size = xs.length := by rw [List.size_toArray]; exact r.length.symm
  refine ⟨"tuple", _, PyProof.Rows.slot_tuple_getitem.lookup, ht.typeIs, ?_⟩
  exact HT.getItem_tuple_whole ht hs pl pu (by rw [hlen]; exact hw.1) (by rw [hlen]; exact hw.2) ⟨.ref a, H, I, rfl, q⟩
def tRevT (K : PySem.W.Frag) (te : TE) : TE := fun σ H Q => te σ H fun x H1 => ∃ a xs, x = .ref a ∧ SqT K H1 a xs ∧ ∀ p, H1 p = none → Q (.ref p) (upd H1 p (.tup xs.reverse))
theorem pe_revT {e : Expr} {te : TE} {k : Nat} {p1 p2 p3 pos : Pos} (he : PE X e te) : PE X (.Subscript e (.Slice none none (some (.UnaryOp .USub (.Constant (.int 1) k p1) p2)) p3) pos) (tRevT X.K te) := by
  refine ⟨fun pins s σ H Q I h => ?_⟩
  refine Subscript_ (thn (he.run pins s σ H _ I h) fun v s1 ⟨x, H1, I1, r1, q1⟩ => ?_)
  obtain ⟨a, xs, ex, hx, q⟩ := q1
  subst ex
  cases r1
  have hst : PO X (some (.UnaryOp .USub (.Constant (.int 1) k p1) p2)) (tPart (tUn (rU fun i => .int (-i)) (tC (.int 1)))) := po_some (pe_un un_neg pe_int)
  refine wpAny_Slice (thn (po_none.run pins s1 σ H1 (fun o H2 => o = none ∧ H2 = H1) I1 ⟨rfl, rfl⟩) fun vl s2 ⟨l, H2, I2, pl, el, e2⟩ => ?_)
  subst el e2
  refine thn (po_none.run pins s2 σ H2 (fun o H3 => o = none ∧ H3 = H2) I2 ⟨rfl, rfl⟩) fun vu s3 ⟨u, H3, I3, pu, eu, e3⟩ => ?_
  subst eu e3
  refine thn (hst.run pins s3 σ H3 (fun o H4 => o = some (-1) ∧ H4 = H3) I3 ⟨1, rfl, -1, rfl, rfl, rfl⟩) fun vs s4 ⟨o, H4, I4, ps, eo, e4⟩ => ?_
  subst eo e4
  have I5 : Inv X pins σ H4 { s4 with heap := s4.heap.push { cls := .type "slice", data := .fields #[vl, vu, vs] } } := I4.kept (t' := s4.toks) fun b ob q => Heap.get?_push_of_some _ q
  obtain ⟨its, r, ht, hz⟩ := I5.tuple hx
  have hlen : its.toArray.size = xs.length := by rw [List.size_toArray]; exact r.length.symm
  show wpAny (model X.prog X.w) X.A (subscriptTail e (.Slice none none (some (.UnaryOp .USub (.Constant (.int 1) k p1) p2)) p3) (.ref a) (.ref s4.heap.objs.size)) (EP X pins σ Q) X.xe { s4 with heap := s4.heap.push { cls := .type "slice", data := .fields #[vl, vu, vs] } }
  refine tail_any (ops := [.ref a, .ref s4.heap.objs.size]) ht.typeIs (PyProof.Rows.slot_tuple_getitem.lookup) ?_ (by with_unfolding_all rfl)
  refine HT.getItem_tuple_rev ht (Heap.IsSliceOf.new _ vl vu vs) pl pu ps ?_ (by rw [hlen]; exact hz)
  refine ⟨.ref _, _, I5.laid (t' := s4.toks) (o := .tup xs.reverse) (fun b ob q => Heap.get?_push_of_some _ q) (Nat.le_refl _) ?_, rfl, q _ (I5.hok.fresh (Nat.le_refl _))⟩
  exact ⟨by rw [List.length_reverse]; exact hz, _, r.reverse, IsTup.new _ _⟩
end
end L2
namespace DL
open PySem PySem.Spec PyProof.Rows L2
section
variable {X : Cx} {W : WX} {k : Nat} {e : Expr} {fe : FE} {pos p p1 p2 p3 : Pos}
def gRevT (x : D) (S : Store) : Res D := match x with
  | .tup xs => .ok (.tup xs.reverse) S
  | _ => .stuck
theorem datL_rev {φ : List Addr} {G : Hp} {xs : List D} {vs : List V} (h : DatL X.K X.mg φ G xs vs) : DatL X.K X.mg φ G xs.reverse vs.reverse := by
  induction xs generalizing vs with
  | nil =>
    unfold DatL at h
    subst h
    exact DatL.nil
  | cons d ds ih =>
    obtain ⟨v, r, rfl, h1, h2⟩ := h.uncons
    rw [List.reverse_cons, List.reverse_cons]
    exact (ih h2).append (.cons h1 DatL.nil)
theorem de_revT {j : Nat} (hx : DE X W e fe) : DE X W (.Subscript e (.Slice none none (some (.UnaryOp .USub (.Constant (.int 1) j p1) p2)) p3) pos) (fun ρ S => (fe ρ S).bind gRevT) := by
  obtain ⟨t, pe, q⟩ := hx.ex
  refine .mk (pe_revT pe) fun Z φ S ρ σ H Q R sl w => q Z φ S ρ σ H _ R sl (w.bind fun x S1 v φ1 H1 R1 E1 d w1 => ?_)
  unfold gRevT at w1
  split at w1
  · rename_i xs
    obtain ⟨a, vs, rfl, h1, h2⟩ := tupOf_ok d rfl
    refine ⟨a, vs, rfl, h1, fun p hp => ?_⟩
    obtain ⟨r, e, g⟩ := dat_newT R1 (datL_rev h2) hp
    exact w1 _ _ _ r e g
  · exact w1.elim
/-- slices, the whole of a tuple too -/
def gSlW (x : D) (lo hi : Option Int) (S : Store) : Res D := match x with
  | .tup xs => if HT.sIx xs.length 0 lo = 0 ∧ HT.sIx xs.length xs.length hi = xs.length then .ok (.tup xs) S else .ok (.tup (cutD xs lo hi)) S
  | d => match asL S d with
    | some xs => .ok (.lst (cutD xs lo hi)) S
    | none => .stuck
def fSlW (fx : FE) (fl fh : FO) : FE := fun ρ S => (fx ρ S).bind fun x S => (fl ρ S).bind fun l S => (fh ρ S).bind fun h S => gSlW x l h S
theorem de_sliceW {lo hi : Option Expr} {fl fh : FO} (hx : DE X W e fe) (hl : DO X W lo fl) (hh : DO X W hi fh) : DE X W (.Subscript e (.Slice lo hi none p2) pos) (fSlW fe fl fh) := by
  obtain ⟨t, pe, q⟩ := hx.ex
  refine .mk (pe_slice ((sl_tup.or sl_list).or sl_tupW) pe hl hh) fun Z φ S ρ σ H Q R sl w => q Z φ S ρ σ H _ R sl (w.bind fun x S1 v φ1 H1 R1 E1 d w1 => ?_)
  refine ⟨Z, φ1, S1, ρ, R1, sl.evo E1, w1.bind fun l S2 l' φ2 H2 R2 E2 el w2 => ?_⟩
  cases el
  refine ⟨Z, φ2, S2, ρ, R2, (sl.evo E1).evo E2, w2.bind fun h S3 h' φ3 H3 R3 E3 eh w3 => ?_⟩
  cases eh
  have d3 : Dat X.K X.mg φ3 (gnd Z φ3 S3 H3) x v := Dat.evo E3 (Dat.evo E2 d)
  unfold gSlW at w3
  split at w3
  · rename_i xs
    have d4 := d3
    unfold Dat at d3
    obtain ⟨a, vs, rfl, q1, q2⟩ := d3
    have q1' : SqT X.K H3 a vs := sqt_mono (fun b u hb => gnd_some hb) q1
    by_cases hc : HT.sIx xs.length 0 l = 0 ∧ HT.sIx xs.length xs.length h = xs.length
    · rw [if_pos hc] at w3
      exact .inr ⟨a, vs, rfl, q1', by rw [q2.length]; exact hc, w3.now R3 d4⟩
    · rw [if_neg hc] at w3
      refine .inl (.inl ⟨a, vs, rfl, q1', by rw [q2.length]; exact hc, fun p hp => ?_⟩)
      obtain ⟨r, e, g⟩ := dat_newT R3 (cut_dat q2 l h) hp
      exact w3 _ _ _ r e g
  · split at w3
    · rename_i xs hq
      obtain ⟨a, vs, rfl, q1, q2⟩ := asL_ok R3 d3 hq
      refine .inl (.inr ⟨a, vs, rfl, q1, fun p hp => ?_⟩)
      obtain ⟨r, e, g⟩ := dat_newL R3 (cut_dat q2 l h) hp
      exact w3 _ _ _ r e g
    · exact w3.elim
/-- int(truth) -/
def gIntB : GC := fun ds S => match ds with
  | [.int i] => .ok (.int i) S
  | [.bl b] => .ok (.int (if b then 1 else 0)) S
  | _ => .stuck
theorem de_intB {fa : FA} (hg : Gl X "int") (hm : X.mg "int" = none) (ha : DA X W [e] fa) (he : starEach [e] X.env = (false, eval e X.env) :: starEach [] X.env := by rfl) (hpl : (backTo pos (starEach [] X.env)).any (·.1) = false := by rfl) :
    DE X W (.Call (.Name "int" p) [e] [] pos) (fCB gIntB fa) :=
  de_callTy call_int1 (fun Z φ S H ds vs Q E R d w => by
    unfold gIntB at w
    split at w
    · obtain ⟨v, rfl, h1⟩ := datL1 d
      cases dInt h1
      exact .inl ⟨_, rfl, w.now R (dat_int _)⟩
    · obtain ⟨v, rfl, h1⟩ := datL1 d
      unfold Dat at h1
      subst h1
      exact .inr ⟨_, rfl, w.now R (dat_int _)⟩
    · exact w.elim) hg hm (by rfl) ha (by decide) (by decide) he hpl
@[simp] theorem e_gRevT (xs : List D) (S : Store) : gRevT (.tup xs) S = .ok (.tup xs.reverse) S := rfl
@[simp] theorem e_fSlW (fx : FE) (fl fh : FO) (ρ : EnvD) (S : Store) : fSlW fx fl fh ρ S = (fx ρ S).bind fun x S => (fl ρ S).bind fun l S => (fh ρ S).bind fun h S => gSlW x l h S := rfl
@[simp] theorem e_gIntB_b (b : Bool) (S : Store) : gIntB [.bl b] S = .ok (.int (if b then 1 else 0)) S := rfl
end
end DL

/-! The data layer, part 30: x in l, deep. -/
namespace DL
open PySem PySem.Spec PyProof.Rows L2
section
variable {X : Cx} {W : WX} {k : Nat}
end
end DL

/-! The data layer, part 31: texts: split, join, startswith, int(text), str(number), f'..', text[lo:hi]. -/
namespace DL
open PySem PySem.Spec PyProof.Rows L2
section
variable {X : Cx} {W : WX} {k : Nat} {o e : Expr} {fo fe : FE} {pos apos cpos p p2 : Pos}
theorem want_ifc {P : Prop} {α β : Type} {Rr : List Addr → Hp → α → β → Prop} {Z φ : List Addr} {S : Store} {H : Hp} {r : Res α} {Q : β → Hp → Prop} {E : XK} (w : Want X.K X.mg Rr Z φ S H (@ite _ P (Classical.propDecidable _) r .stuck) Q E) : P ∧ Want X.K X.mg Rr Z φ S H r Q E := by
  by_cases h : P
  · rw [if_pos h] at w
    exact ⟨h, w⟩
  · rw [if_neg h] at w
    exact w.elim
def strsOf : List D → Option (List Str)
  | [] => some []
  | .str i :: ds => (strsOf ds).map (i :: ·)
  | _ => none
theorem strsOf_ok {φ : List Addr} {G : Hp} : ∀ {ds : List D} {vs : List V} {ns : List Str}, DatL X.K X.mg φ G ds vs → strsOf ds = some ns → vs = ns.map V.str
  | [], vs, ns, d, e => by
    unfold DatL at d
    subst d
    cases e
    rfl
  | x :: ds, vs, ns, d, e => by
    obtain ⟨v, r, rfl, h1, h2⟩ := d.uncons
    cases x with
    | str i =>
      simp only [strsOf] at e
      cases q : strsOf ds with
      | none => rw [q] at e; cases e
      | some ms =>
        rw [q] at e
        cases e
        cases dStr h1
        rw [strsOf_ok h2 q]
        rfl
    | _ => cases e
noncomputable def gJoin : GM := fun x ds S => match x, ds with
  | .str a, [d] => (match (asQ S d).bind strsOf with
    | some ys => @ite _ ((ys.map (·.length)).sum + ys.length * a.length ≤ 16777216) (Classical.propDecidable _) (.ok (.str (Txt.join a ys)) S) .stuck
    | none => .stuck)
  | _, _ => .stuck
theorem md_join : MethD X (fun x xs H Q => ∃ a p, ∃ ys : List Str, x = .str a ∧ xs = [.ref p] ∧ (SqL X.K H p (ys.map V.str) ∨ SqT X.K H p (ys.map V.str)) ∧ (ys.map (·.length)).sum + ys.length * a.length ≤ 16777216 ∧ Q (.str (Txt.join a ys)) H) gJoin := fun Z φ S H x u ds vs Q E R dx d w => by
  unfold gJoin at w
  split at w
  · rename_i a d0
    cases dStr dx
    obtain ⟨v, rfl, h1⟩ := datL1 d
    split at w
    · rename_i ys e
      obtain ⟨xs, e1, e2⟩ := Option.bind_eq_some_iff.mp e
      obtain ⟨l, zs, rfl, h2, h3⟩ := asQ_ok R h1 e1
      obtain ⟨h, w1⟩ := want_ifc w
      rw [strsOf_ok h3 e2] at h2
      exact ⟨a, l, ys, rfl, rfl, h2, h, w1.now R (dat_str _)⟩
    · exact w.elim
  · exact w.elim
/-- str(number) -/
noncomputable def gStrI : GC := fun ds S => match ds with
  | [.int i] => @ite _ (i.natAbs.log2 < 1920) (Classical.propDecidable _) (.ok (.str (toString i)) S) .stuck
  | _ => .stuck
theorem cd_strI : CallD X (fun xs H Q => ∃ i, xs = [.int i] ∧ i.natAbs.log2 < 1920 ∧ Q (.str (toString i)) H) gStrI := fun Z φ S H ds vs Q E R d w => by
  unfold gStrI at w
  split at w
  · obtain ⟨h, w1⟩ := want_ifc w
    obtain ⟨v, rfl, h1⟩ := datL1 d
    cases dInt h1
    exact ⟨_, rfl, h, w1.now R (dat_str _)⟩
  · exact w.elim
theorem de_strI {fa : FA} (hg : Gl X "str") (hm : X.mg "str" = none) (ha : DA X W [e] fa) (he : starEach [e] X.env = (false, eval e X.env) :: starEach [] X.env := by rfl) (hpl : (backTo pos (starEach [] X.env)).any (·.1) = false := by rfl) :
    DE X W (.Call (.Name "str" p) [e] [] pos) (fCB gStrI fa) := de_callTy call_str_int cd_strI hg hm (by rfl) ha (by decide) (by decide) he hpl
end
end DL

/-! The data layer, part 32: texts, the derivations. -/
namespace DL
open PySem PySem.Spec PyProof.Rows L2
section
variable {X : Cx} {W : WX} {k : Nat} {o e : Expr} {fo fe : FE} {pos apos cpos p p2 : Pos} {fa : FA}
theorem de_join (ho : DE X W o fo) (ha : DA X W [e] fa) (hbase : attributeBase o "join" X.env (eval o X.env) = eval o X.env := by rfl)
    (hfew : ((backTo cpos (starEach [e] X.env)).all (fun x => !x.1) && (backToKw cpos (keywordEach [] X.env)).all (fun x => x.1.isSome) && decide ([e].length + ([] : List Keyword).length + (if ([] : List Keyword).isEmpty then 0 else 1) < 30)) = true := by rfl)
    (hline : (apos.endLine == cpos.line) = true := by rfl) (hs : starEach [e] X.env = (false, eval e X.env) :: starEach [] X.env := by rfl) (hplain : (backTo cpos (starEach [] X.env)).any (·.1) = false := by rfl) :
    DE X W (.Call (.Attribute o "join" apos) [e] [] cpos) (fBM "str" gJoin fo fa) := de_bm PySem.F.plainAttrs_str PySem.F.slot_str_join PySem.F.type_str_join mt_join md_join (.inr (.inr rfl)) ho ha hbase hfew hline hs hplain
end
end DL

/-! The data layer, part 33: text * number. -/
namespace DL
open PySem PySem.Spec PyProof.Rows L2
section
variable {X : Cx} {W : WX} {a b : Expr} {fa fb : FE} {pos : Pos}
end
end DL

/-! The data layer, part 34: the signs of a text walked over; split as a list that changes. -/
namespace DL
open PySem PySem.Spec PyProof.Rows L2
section
variable {X : Cx} {W : WX} {k : Nat} {o e tg : Expr} {fo fe : FE} {pos apos cpos p p2 : Pos} {fa : FA}
def signs (z : Str) : List D := z.cps.toList.map fun c => .str ⟨#[c]⟩
end
end DL

/-! The data layer, part 35: exceptions caught and kept. -/
namespace DL
open PySem PySem.Spec PyProof.Rows L2

theorem excV_ok {P : Program} {w : World} {H : Hp} {hp : Heap} {a : Addr} {cls : Value} {dd : Option Addr} {ob : Obj} {fs : Array Value} (e : hp.get? a = some ob) (z : L2N.Zn cls dd ob) (d : ob.data = .fields fs) : ObjOk P w H hp a (ExcV cls dd a) :=
  ⟨⟨ob, fs, e, z, d⟩, ⟨ob, e⟩, fun _ _ ⟨o, v, q, r⟩ kp => ⟨o, v, kp o q, r⟩⟩
section
variable {X : Cx} {pins : List (Addr × Obj)} {σ : L2.St} {H : Hp} {s : Shared}
/-- an object that wasn't there at the entry is tracked from now on -/
theorem inv_track {a : Addr} {o : HO} (I : L2.Inv X pins σ H s) (n0 : X.s_0.heap.get? a = none) (na : H a = none) (nl : a ≠ X.env.locals) (nc : ∀ x c, X.env.cells.lookup x = some c → c ≠ a)
    (np : ∀ p ∈ X.pn ++ pins, p.1 ≠ a) (ok : ObjOk X.prog X.w (upd H a o) s.heap a o) : L2.Inv X pins σ (upd H a o) s := by
  have n00 : ∀ b ob, X.s_0.heap.get? b = some ob → b ≠ a := fun b ob e z => by
    rw [z, n0] at e
    cases e
  refine ⟨I.ok, I.os, I.bare, ⟨I.base.keep, I.base.slot, fun b ob e n hx => ?_, I.base.there, fun b xs e => ?_, fun b ob u e => ?_, fun b ps e => ?_⟩, I.loc, I.cell, ?_, fun x c e => ?_, fun p hp => ?_, fun b u e => ?_, I.len⟩
  · rw [upd_ne (n00 b ob e)]
    exact I.base.free b ob e n hx
  · have q := I.base.tups b xs e
    rw [upd_ne (ne_of_none q na)]
    exact q
  · have q := I.base.frzs b ob u e
    rw [upd_ne (ne_of_none q na)]
    exact q
  · obtain ⟨more, q⟩ := I.base.tbls b ps e
    exact ⟨more, by rw [upd_ne (ne_of_none q na)]; exact q⟩
  · rw [upd_ne (fun z => nl z.symm)]
    exact I.free
  · rw [upd_ne (nc x c e)]
    exact I.freeC x c e
  · obtain ⟨q1, q2, q3⟩ := I.pin p hp
    exact ⟨q1, by rw [upd_ne (np p hp)]; exact q2, q3⟩
  · by_cases hb : b = a
    · subst hb
      rw [upd_same] at e
      cases e
      exact ok
    · rw [upd_ne hb] at e
      exact (I.hok b u e).stay (fun c v _ q => q) (fun c q => by rw [upd_ne (ne_of_none q na)]; exact q) fun c xs q => by rw [upd_ne (ne_of_none q na)]; exact q
theorem inv_toSuite (I : L2.Inv X pins σ H s) (a : Addr) : L2.Inv (X.suite a (X.pn ++ pins)) [] σ H s :=
  ⟨I.ok.suite _ _, I.os, I.bare, I.base, I.loc, I.cell, I.free, I.freeC, fun p hp => I.pin p (List.append_nil (X.pn ++ pins) ▸ hp), I.hok, I.len⟩
theorem inv_ofSuite {a : Addr} {pn' : List (Addr × Obj)} (I : L2.Inv (X.suite a (X.pn ++ pins)) pn' σ H s) (ok : X.Ok) : L2.Inv X pins σ H s :=
  ⟨ok, I.os, I.bare, I.base, I.loc, I.cell, I.free, I.freeC, fun p hp => I.pin p (List.mem_append_left _ hp), I.hok, I.len⟩
end
/-! ### try with clauses, each perhaps with a name -/
structure Hd where
  c : Value
  nm : Option Nat
  ts : Addr → Value → Option Addr → TS
def endsAt (nm : Option Nat) (Dd : Ends) : Ends := match nm with
  | none => Dd
  | some i => { nx := fun σ' H' => Dd.nx (σ'.set i none) H', rt := Dd.rt, bk := fun σ' H' => Dd.bk (σ'.set i none) H', ct := fun σ' H' => Dd.ct (σ'.set i none) H' }
def slotAt (nm : Option Nat) (a : Addr) (σ : L2.St) : L2.St := match nm with
  | none => σ
  | some i => σ.set i (some (.ref a))
/-- what the clauses want of what the body raises -/
def wHds (K : PySem.W.Frag) (Wo : WX) (Dd : Ends) : List Hd → WX
  | [] => Wo
  | q :: r => fun cls d σ H => ∃ b, PySem.W.exmOne K cls q.c = some b ∧ (b = true → ∀ a, H a = none → q.ts a cls d (endsAt q.nm Dd) (slotAt q.nm a σ) (upd H a (ExcV cls d a))) ∧ (b = false → wHds K Wo Dd r cls d σ H)
inductive HdsT (X : Cx) : List ExceptHandler → List Hd → Prop
  | nil : HdsT X [] []
  | plain {x : Str} {c : Value} {ts : Addr → Value → Option Addr → TS} {b0 : Stmt} {bs : List Stmt} {np hp : Pos} {hds : List ExceptHandler} {l : List Hd} (hc : Names X x c)
      (hs : ∀ (a : Addr) (cls : Value) (d : Option Addr) (pn : List (Addr × Obj)), PSs (X.suite a pn) (b0 :: bs) (ts a cls d)) (r : HdsT X hds l) : HdsT X (.ExceptHandler (some (.Name x np)) none (b0 :: bs) hp :: hds) (⟨c, none, ts⟩ :: l)
  | named {x n : Str} {i : Nat} {c : Value} {ts : Addr → Value → Option Addr → TS} {b0 : Stmt} {bs : List Stmt} {np hp : Pos} {hds : List ExceptHandler} {l : List Hd} (hc : Names X x c) (hN : X.N.Nodup) (hi : X.N[i]? = some n) (hn : X.env.kindOf n = some .local)
      (hs : ∀ (a : Addr) (cls : Value) (d : Option Addr) (pn : List (Addr × Obj)), PSs (X.suite a pn) (b0 :: bs) (ts a cls d)) (r : HdsT X hds l) : HdsT X (.ExceptHandler (some (.Name x np)) (some n) (b0 :: bs) hp :: hds) (⟨c, some i, ts⟩ :: l)
section
variable {X : Cx} {body : List Stmt} {h0 : ExceptHandler} {hds : List ExceptHandler} {l : List Hd} {pos : Pos} {tb : WX → TS} {Wo : WX}
theorem ps_try_T (stk : X.stack = X.env :: X.outer) (frm : X.env.frame = some X.env.locals) (nex : X.ex = []) (tk : L2N.Takes X Wo)
    (hb : ∀ (Wn : WX) (pn : List (Addr × Obj)) (xe : Value → Shared → Prop), L2N.Takes (X.tr pn xe) Wn → PassesOwn (model X.prog X.w) X.A X.env xe → PSs (X.tr pn xe) body (tb Wn))
    (hh : HdsT X (h0 :: hds) l) : PS X (.Try body (h0 :: hds) [] [] pos) (fun Dd σ H => tb (wHds X.K Wo Dd l) Dd σ H) := by
  refine ⟨fun pins s σ H Dd I h => ?_⟩
  have ok := I.ok
  have frs0 : X.A.frames = some (X.env :: X.outer) := ok.frames.trans (congrArg some stk)
  refine wpAny_Try_except ?_
  refine wpAny_mono ((hb (wHds X.K Wo Dd l) (X.pn ++ pins) (fun err t1 => wpAny (model X.prog X.w) X.A (noteFrame err X.env) (fun _ t2 => wpAny (model X.prog X.w) X.A (setFlight err none) (fun _ t3 =>
    wpAny (model X.prog X.w) X.A (handleBy err X.env (h0 :: hds)) (SP X pins Dd) X.xe t3) X.xe t2) X.xe t1) (fun u s2 caught => ?_) PassesOwn.looking).run [] s σ H Dd (I.toTry _) h) (fun fl s1 hsp => ?_) (fun _ _ z => z)
  · obtain ⟨a, B, sI, pins1, σ1, H1, cls, d, rfl, J0, nb, up, sky, na, os, ag, want⟩ := caught
    have J : L2.Inv X pins σ1 H1 sI := J0.ofTry ok
    rw [show (X.tr (X.pn ++ pins) _).stack = X.env :: X.outer from stk] at sky
    show wpAny (model X.prog X.w) X.A (noteFrame (.ref a) X.env) _ _ _
    refine L2N.Sky.land L2N.Zn.steady frs0 frm sky fun hp3 fly3 up3 => ?_
    have J3 : L2.Inv X pins σ1 H1 { s2 with heap := hp3 } := J.landed nb fly3.1 (up.trans up3) os ag
    have unfr : ∀ {hp : Heap} {ob : Obj} {vs : Array Value}, hp.FunFrames B (X.env :: X.outer) → hp.get? a = some ob → ob.data = .fields vs → a ∉ frs (X.env :: X.outer) := fun {hp ob vs} ff e dd hm => by
      obtain ⟨_, ob', e1, hnf⟩ := ff.mem hm
      rw [e] at e1
      cases e1
      exact hnf _ dd
    obtain ⟨oe3, vs3, at3, z3, dt3⟩ := fly3.there
    have offStack := unfr fly3.2.2.1 at3 dt3
    have offLocals : a ≠ X.env.locals := fun z => offStack (List.mem_filterMap.mpr ⟨X.env, List.mem_cons_self, by rw [frm, z]⟩)
    have newI : sI.heap.get? a = none := by
      cases e : sI.heap.get? a with
      | none => rfl
      | some ob =>
        have q := nb a ob e (by rw [show (X.tr (X.pn ++ pins) _).stack = X.env :: X.outer from stk]; exact offStack)
        rw [fly3.2.1] at q
        cases q
    have new0 : X.s_0.heap.get? a = none := by
      cases e : X.s_0.heap.get? a with
      | none => rfl
      | some ob =>
        obtain ⟨ob', q⟩ := J.base.there a ob e (by rw [nex]; exact fun z => nomatch z)
        rw [newI] at q
        cases q
    have offPins : ∀ p ∈ X.pn ++ pins, p.1 ≠ a := fun p hp z => by
      have q := (J.pin p hp).1
      rw [z, newI] at q
      cases q
    have offCells : ∀ x c, X.env.cells.lookup x = some c → c ≠ a := fun x c e z => by
      obtain ⟨v, ob, q, _⟩ := J.cell x c e
      rw [z, newI] at q
      cases q
    -- the state of a suite
    have begun : ∀ {hp4 : Heap}, HandSPX.FlyingZ B (X.env :: X.outer) a (L2N.Zn cls d) hp4 → sI.heap.UpToSlots hp4 → L2.Inv X pins σ1 (upd H1 a (ExcV cls d a)) { s2 with heap := hp4 } := fun {hp4} fly4 up4 => by
      have J4 : L2.Inv X pins σ1 H1 { s2 with heap := hp4 } := J.landed nb fly4.1 up4 os ag
      obtain ⟨oe4, vs4, at4, z4, dt4⟩ := fly4.there
      exact inv_track J4 new0 na offLocals offCells offPins (excV_ok at4 z4 dt4)
    -- the class that a clause names
    have named : ∀ {x : Str} {c : Value} {np : Pos} {Q E : Value → Shared → Prop}, Names X x c → Q c { s2 with heap := hp3 } → wpAny (model X.prog X.w) (X.A.mark (some (.ref a))) (eval (.Name x np) X.env) Q E { s2 with heap := hp3 } := fun {x c np Q E} hc q => by
      obtain ⟨hg, hdbg, hm | ⟨hm, hv, hnn⟩⟩ := hc
      · exact ld_glob (X := X.suite a (X.pn ++ pins)) (inv_toSuite J3 a) hg hm q hdbg
      · exact ld_blt (X := X.suite a (X.pn ++ pins)) (inv_toSuite J3 a) hg hm hv q hnn hdbg
    have TY : PySem.W.Looks (model X.prog X.w) hp3 (typeOf (.ref a)) cls := fun A' Q E t kp q => wpAny_typeOf_ref (kp _ _ at3) (by rw [z3.1]; exact q)
    have go : ∀ {hs' : List ExceptHandler} {l' : List Hd}, HdsT X hs' l' → wHds X.K Wo Dd l' cls d σ1 H1 →
        wpAny (model X.prog X.w) X.A (handleBy (.ref a) X.env hs') (SP X pins Dd) X.xe { s2 with heap := hp3 } := by
      intro hs' l' ht
      induction ht with
      | nil =>
        intro want
        refine wpAny_handleBy_nil ?_
        obtain ⟨_, _, _, ob, vs, T, oT, ts', q1, _, q2, q3, _⟩ := id fly3
        unfold PySem.passOn
        refine wpAny_bind (wpAny_field q1 q2 q3 ?_)
        rw [if_neg (show ¬ ((Value.ref T == Value.none) = true) from by simp)]
        have thrown : wpAny (model X.prog X.w) X.A (setFlight (.ref a) X.env.frame) (fun _ t => wpAny (model X.prog X.w) X.A (throw (.ref a) : Sem Flow) (SP X pins Dd) X.xe t) X.xe { s2 with heap := hp3 } := by
          rw [frm]
          refine HandSPX.setFlight_upZ fly3 fun hp4 held up4 => wpAny_throw (tk _ _ ?_)
          exact ⟨a, B, sI, pins, σ1, H1, cls, d, rfl, J, nb, (up.trans up3).trans up4, .inr (.inr (by rw [stk]; exact held)), na, os, ag, want⟩
        first
          | exact wpAny_bind thrown
          | exact wpAny_bind (wpAny_pure (wpAny_bind thrown))
      | @plain x c ts b0 bs np hpos hs2 l2 hc hsu _ ih =>
        rintro ⟨b, hb1, yes, no⟩
        refine wpAny_handleBy_cons (codeAny_handlers_test (named hc ((PySem.W.exm_one (M := model X.prog X.w) J3.kIn TY hb1).here ?_))) (by intro q; cases q)
        cases b with
        | false =>
          show wpAny _ X.A (handleBy (.ref a) X.env hs2) _ _ _
          exact ih (no rfl)
        | true =>
          refine codeAny_handlers_suite (HandSPX.lands_againZ fly3 fun hp4 fly4 up4 => ?_)
          refine wpAny_mono ((hsu a cls d (X.pn ++ pins)).run [] _ _ _ _ (inv_toSuite (begun fly4 ((up.trans up3).trans up4)) a) (yes rfl a na)) (fun fl s6 hsp => ?_) (fun _ _ z => False.elim z)
          cases fl with
          | next =>
            obtain ⟨σ6, H6, S6, q6⟩ := hsp
            exact ⟨_, _, inv_ofSuite S6 ok, q6⟩
          | brk =>
            obtain ⟨σ6, H6, S6, q6⟩ := hsp
            exact ⟨_, _, inv_ofSuite S6 ok, q6⟩
          | cont =>
            obtain ⟨σ6, H6, S6, q6⟩ := hsp
            exact ⟨_, _, inv_ofSuite S6 ok, q6⟩
          | ret u =>
            obtain ⟨v6, σ6, H6, S6, r6, q6⟩ := hsp
            exact ⟨_, _, _, inv_ofSuite S6 ok, r6, q6⟩
      | @named x n i c ts b0 bs np hpos hs2 l2 hc hN hi hln hsu _ ih =>
        rintro ⟨b, hb1, yes, no⟩
        refine wpAny_handleBy_cons (codeAny_handlers_test (named hc ((PySem.W.exm_one (M := model X.prog X.w) J3.kIn TY hb1).here ?_))) (by intro q; cases q)
        cases b with
        | false =>
          show wpAny _ X.A (handleBy (.ref a) X.env hs2) _ _ _
          exact ih (no rfl)
        | true =>
          refine codeAny_handlers_suite_as (HandSPX.lands_againZ fly3 fun hp4 fly4 up4 => ?_)
          refine store_ok (X := X.suite a (X.pn ++ pins)) (v := .ref a) (inv_toSuite (begun fly4 ((up.trans up3).trans up4)) a) hN hi (show Loc X.env.scope n from .inl hln) rfl (fun s5 S5 => ?_) (.inr hln)
          refine wpAny_mono ((hsu a cls d (X.pn ++ pins)).run [] s5 _ _ _ S5 (yes rfl a na)) (fun fl s6 hsp => ?_) (fun _ _ z => False.elim z)
          have behind : ∀ {σ6 : L2.St} {H6 : Hp} {Q : Shared → Prop}, L2.Inv (X.suite a (X.pn ++ pins)) [] σ6 H6 s6 → (∀ s7, L2.Inv X pins (σ6.set i none) H6 s7 → Q s7) →
              wpAny (model X.prog X.w) X.A (do bindName X.env n .none; unbindBehindTheSuite X.env n hpos) (fun _ s7 => Q s7) X.xe s6 := fun {σ6 H6 Q} S6 hq => gone_ok (inv_ofSuite S6 ok) hN hi hln hq
          cases fl with
          | next =>
            obtain ⟨σ6, H6, S6, q6⟩ := hsp
            exact behind S6 fun s7 J7 => ⟨_, _, J7, q6⟩
          | brk =>
            obtain ⟨σ6, H6, S6, q6⟩ := hsp
            exact behind S6 fun s7 J7 => ⟨_, _, J7, q6⟩
          | cont =>
            obtain ⟨σ6, H6, S6, q6⟩ := hsp
            exact behind S6 fun s7 J7 => ⟨_, _, J7, q6⟩
          | ret u =>
            obtain ⟨v6, σ6, H6, S6, r6, q6⟩ := hsp
            exact behind S6 fun s7 J7 => ⟨_, _, _, J7, r6, q6⟩
    exact go hh want
  · cases fl with
    | next =>
      obtain ⟨σ2, H2, J2, q⟩ := hsp
      exact wpAny_execs_nil ⟨σ2, H2, J2.ofTry ok, q⟩
    | brk =>
      obtain ⟨σ2, H2, J2, q⟩ := hsp
      exact ⟨σ2, H2, J2.ofTry ok, q⟩
    | cont =>
      obtain ⟨σ2, H2, J2, q⟩ := hsp
      exact ⟨σ2, H2, J2.ofTry ok, q⟩
    | ret u =>
      obtain ⟨v, σ2, H2, J2, r, q⟩ := hsp
      exact ⟨v, σ2, H2, J2.ofTry ok, r, q⟩
end
end DL

/-! The data layer, part 36: try, isinstance of exceptions, raise. -/
namespace DL
open PySem PySem.Spec PyProof.Rows L2

/-! ### mirrors -/
structure HM where
  c : List (Str × Bool)
  nm : Option Nat
  g : FS
def Out.undo (i : Nat) : Out → Out
  | .nx ρ S => .nx (ρ.set i none) S
  | .bk ρ S => .bk (ρ.set i none) S
  | .ct ρ S => .ct (ρ.set i none) S
  | .ex _ _ _ _ => .stuck
  | o => o
def Out.calm : Out → Out
  | .ex _ _ _ _ => .stuck
  | o => o
def hdM : List HM → Str → List (Str × D) → EnvD → Store → Out
  | [], C, fs, ρ, S => .ex C fs ρ S
  | q :: r, C, fs, ρ, S => match q.c.lookup C with
    | some true => (match q.nm with
      | none => (q.g ρ S).calm
      | some i => (q.g (ρ.set i (some (.exc C fs))) S).undo i)
    | some false => hdM r C fs ρ S
    | none => .stuck
def gTry (gb : FS) (hs : List HM) : FS := fun ρ S => match gb ρ S with
  | .ex C fs ρ' S' => hdM hs C fs ρ' S'
  | o => o
section
variable {X : Cx} {W : WX} {k : Nat} {pos : Pos}
theorem slots_unset {K : PySem.W.Frag} {mg : Str → Option Value} {φ : List Addr} {G : Hp} {ρ : EnvD} {σ : L2.St} (i : Nat) (h : Slots K mg φ G ρ σ) : Slots K mg φ G (ρ.set i none) (σ.set i none) := by
  refine ⟨by rw [List.length_set, List.length_set]; exact h.1, fun j d e => ?_⟩
  by_cases hj : j = i
  · subst hj
    by_cases hl : j < ρ.length
    · rw [List.getElem?_set_self hl] at e
      cases e
    · rw [List.getElem?_eq_none (by rw [List.length_set]; omega)] at e
      cases e
  · rw [List.getElem?_set_ne (fun z => hj z.symm)] at e ⊢
    exact h.2 j d e
/-- clauses and their mirrors -/
inductive HdsD (X : Cx) : List ExceptHandler → List HM → List Hd → Prop
  | nil : HdsD X [] [] []
  | plain {x : Str} {c : Value} {t : List (Str × Bool)} {g : FS} {b0 : Stmt} {bs : List Stmt} {np hp : Pos} {hds : List ExceptHandler} {ms : List HM} {l : List Hd} (hc : Names X x c) (ht : ∀ C b A, t.lookup C = some b → X.mg C = some (.ref A) → PySem.W.exmOne X.K (.ref A) c = some b)
      (hs : ∀ (a : Addr) (pn : List (Addr × Obj)), DSs (X.suite a pn) W0 (b0 :: bs) g) (r : HdsD X hds ms l) : HdsD X (.ExceptHandler (some (.Name x np)) none (b0 :: bs) hp :: hds) (⟨t, none, g⟩ :: ms) (⟨c, none, fun _ _ _ => tDS X W0 g⟩ :: l)
  | named {x n : Str} {i : Nat} {c : Value} {t : List (Str × Bool)} {g : FS} {b0 : Stmt} {bs : List Stmt} {np hp : Pos} {hds : List ExceptHandler} {ms : List HM} {l : List Hd} (hc : Names X x c) (hN : X.N.Nodup) (hi : X.N[i]? = some n) (hn : X.env.kindOf n = some .local)
      (ht : ∀ C b A, t.lookup C = some b → X.mg C = some (.ref A) → PySem.W.exmOne X.K (.ref A) c = some b)
      (hs : ∀ (a : Addr) (pn : List (Addr × Obj)), DSs (X.suite a pn) W0 (b0 :: bs) g) (r : HdsD X hds ms l) : HdsD X (.ExceptHandler (some (.Name x np)) (some n) (b0 :: bs) hp :: hds) (⟨t, some i, g⟩ :: ms) (⟨c, some i, fun _ _ _ => tDS X W0 g⟩ :: l)
theorem HdsD.toT : ∀ {hds : List ExceptHandler} {ms : List HM} {l : List Hd}, HdsD X hds ms l → HdsT X hds l
  | _, _, _, .nil => .nil
  | _, _, _, .plain hc _ hs r => .plain hc (fun a _ _ pn => hs a pn) r.toT
  | _, _, _, .named hc hN hi hn _ hs r => .named hc hN hi hn (fun a _ _ pn => hs a pn) r.toT
theorem HdsD.want {Dd : Ends} {Z φ : List Addr} {S : Store} {H : Hp} {ρ : EnvD} {σ : L2.St} {C : Str} {fs : List (Str × D)} {A : Addr} {dx : Option Addr} (hA : X.mg C = some (.ref A)) (R : Rel X.K X.mg Z φ S H) (sl : Slots X.K X.mg φ (gnd Z φ S H) ρ σ) (xd : ExD X.K X.mg φ (gnd Z φ S H) fs dx) :
    ∀ {hds : List ExceptHandler} {ms : List HM} {l : List Hd}, HdsD X hds ms l → WantS X W Z φ S H (hdM ms C fs ρ S) Dd → wHds X.K W Dd l (.ref A) dx σ H
  | _, _, _, .nil, w => w A dx σ φ H hA R Evo.refl sl xd
  | _, _, _, .plain (c := c) (t := t) (g := g) hc ht hs r, w => by
    unfold hdM at w
    cases e : t.lookup C with
    | none => simp only [e] at w; exact w.elim
    | some b =>
      simp only [e] at w
      refine ⟨b, ht C b A e hA, fun hb a na => ?_, fun hb => ?_⟩
      · subst hb
        obtain ⟨R1, E1, _⟩ := R.fresh (o := ExcV (.ref A) dx a) na
        refine ⟨Z, φ, S, ρ, R1, sl.evo E1, ?_⟩
        have w1 : WantS X W Z φ S (upd H a (ExcV (.ref A) dx a)) (g ρ S).calm Dd := WantS.go E1 w
        revert w1
        cases g ρ S <;> intro w1
        · exact w1
        · exact w1
        · exact w1
        · exact w1
        · exact w1.elim
        · exact w1
      · subst hb
        exact r.want hA R sl xd w
  | _, _, _, .named (c := c) (t := t) (g := g) (i := i) hc hN hi hn ht hs r, w => by
    unfold hdM at w
    cases e : t.lookup C with
    | none => simp only [e] at w; exact w.elim
    | some b =>
      simp only [e] at w
      refine ⟨b, ht C b A e hA, fun hb a na => ?_, fun hb => ?_⟩
      · subst hb
        obtain ⟨R1, E1, at1⟩ := R.fresh (o := ExcV (.ref A) dx a) na
        have da : Dat X.K X.mg φ (gnd Z φ S (upd H a (ExcV (.ref A) dx a))) (.exc C fs) (.ref a) := by
          unfold Dat
          refine ⟨a, A, dx, rfl, hA, at1, xd.imp id fun ⟨z, b, fvs, q0, q1, q2⟩ => ⟨z, b, fvs, q0, E1.ext _ _ q1, DatF.mono (List.prefix_refl _) E1.ext _ _ q2⟩⟩
        refine ⟨Z, φ, S, ρ.set i (some (.exc C fs)), R1, (sl.evo E1).set da, ?_⟩
        have w1 : WantS X W Z φ S (upd H a (ExcV (.ref A) dx a)) ((g (ρ.set i (some (.exc C fs))) S).undo i) Dd := WantS.go E1 w
        revert w1
        cases g (ρ.set i (some (.exc C fs))) S <;> intro w1
        · exact fun σ' φ' H' r1 e1 d => w1 (σ'.set i none) φ' H' r1 e1 (slots_unset i d)
        · exact w1
        · exact fun σ' φ' H' r1 e1 d => w1 (σ'.set i none) φ' H' r1 e1 (slots_unset i d)
        · exact fun σ' φ' H' r1 e1 d => w1 (σ'.set i none) φ' H' r1 e1 (slots_unset i d)
        · exact w1.elim
        · exact w1
      · subst hb
        exact r.want hA R sl xd w
/-- name = value, within a suite -/
theorem ds_setS {e : Expr} {fe : FE} (nd : X.N.Nodup) {i : Nat} {x : Str} {pos' : Pos} (hi : X.N[i]? = some x) (hx : Loc X.env.scope x) (he : DE X W e fe) (hs : swapsWith e (some (.Name x pos')) pos.line X.env = pure false := by rfl)
    (hf : X.fn x = true ∨ X.env.scope.names.lookup x = some .local := by first | exact .inl rfl | exact .inr rfl | assumption) : DS X W (.Assign [.Name x pos'] e pos) (gSet i fe) :=
  ds_setP (fun t p => ps_set nd hi hx p hs hf) he
end

/-! ### isinstance of an exception -/
/-- isinstance(e, c) of exceptions of the text's own classes without a dict -/
def rIsX (K : PySem.W.Frag) : List V → Hp → VK → Prop := fun xs H Q => ∃ (a A : Addr) (c : V) (cv : Value) (b : Bool), xs = [.ref a, c] ∧ H a = some (ExcV (.ref A) none a) ∧ (∀ u, RelV c u → u = cv) ∧ ExcC K A ∧ PySem.W.kitOne K (.ref A) cv = some b ∧ Q (.bl b) H
theorem call_isX {X : Cx} : CallR X (.builtin "isinstance") (rIsX X.K) := by
  intro pins s σ H xs us Q I rel h
  obtain ⟨a, A, c, cv, b, rfl, ha, hcv, EC, e, q⟩ := h
  cases rel with
  | cons r1 rest =>
    cases rest with
    | cons r2 rest =>
      cases rest
      cases r1
      cases hcv _ r2
      obtain ⟨⟨ob, vs, q1, q2, q3⟩, _, _⟩ := I.hok a _ ha
      have J : PySem.W.InstAt s.heap a ob A none := by
        obtain ⟨oc, od, oda, osl⟩ := ob
        obtain ⟨z1, z2, _⟩ := q2
        dsimp only at z1 z2 q3
        subst z1 z2 q3
        exact ⟨q1, rfl, rfl, trivial⟩
      exact PySem.W.kia_one (PySem.W.handS_kitx_exc EC.hg EC.hk EC.hs EC.hd EC.ha EC.hn EC.ht EC.hm) I.kIn J e (fun z => nomatch z) fun tk => ⟨.bl b, H, I.kept (t' := tk) fun _ _ z => z, rfl, q⟩
section
variable {X : Cx} {W : WX} {k : Nat} {e b : Expr} {pos p : Pos}
/-- the second one: an own class, or a built-in one -/
def isArg : D → D → Bool
  | .cls c, .cls c' => decide (c = c')
  | .ty n, .ty m => decide (n = m)
  | _, _ => false
def gIsX (t : List (Str × Bool)) (c : D) : GC := fun ds S => match ds with
  | [.exc C [], c'] => if isArg c c' then (match t.lookup C with
    | some b => .ok (.bl b) S
    | none => .stuck) else .stuck
  | _ => .stuck
theorem cd_isX {t : List (Str × Bool)} {c : D} {cv : Value} (hc : (∃ x A, c = .cls x ∧ X.mg x = some (.ref A) ∧ cv = .ref A) ∨ ∃ n, c = .ty n ∧ cv = .type n) (ht : ∀ C b A, t.lookup C = some b → X.mg C = some (.ref A) → ExcC X.K A ∧ PySem.W.kitOne X.K (.ref A) cv = some b) :
    CallD X (rIsX X.K) (gIsX t c) := fun Z φ S H ds vs Q E R d w => by
  unfold gIsX at w
  split at w
  · rename_i C c'
    obtain ⟨v, u, rfl, h1, h2⟩ := datL2 d
    obtain ⟨hi, w1⟩ := want_if w
    cases e : t.lookup C with
    | none => simp only [e] at w1; exact w1.elim
    | some b =>
      simp only [e] at w1
      unfold Dat at h1
      obtain ⟨a, A, dx, rfl, hA, ha, hx⟩ := h1
      have ex : dx = none := hx.elim (·.2) fun z => absurd rfl z.1
      subst ex
      obtain ⟨h3, h4⟩ := ht C b A e hA
      refine ⟨a, A, u, cv, b, rfl, gnd_sub _ _ ha, fun w' hw' => ?_, h3, h4, w1.now R (dat_bl _)⟩
      rcases hc with ⟨x, A', rfl, hm, rfl⟩ | ⟨n, rfl, rfl⟩
      · cases c' <;> simp only [isArg, Bool.false_eq_true, decide_eq_true_eq] at hi
        subst hi
        unfold Dat at h2
        obtain ⟨A2, rfl, q⟩ := h2
        rw [hm] at q
        cases q
        exact hw'
      · cases c' <;> simp only [isArg, Bool.false_eq_true, decide_eq_true_eq] at hi
        subst hi
        unfold Dat at h2
        subst h2
        exact hw'
  · exact w.elim
end
end DL

/-! The data layer, part 37: a lambda without parameters handed to a def that calls it once. -/
namespace DL
open PySem PySem.Spec PyProof.Rows L2

/-! ### the lambda is made -/
theorem upd_comm {H : Hp} {a b : Addr} {o u : HO} (h : a ≠ b) : upd (upd H a o) b u = upd (upd H b u) a o := by
  funext c
  unfold upd
  by_cases h1 : c = b
  · rw [if_pos h1, if_pos h1, if_neg (fun z => h (z.symm.trans h1))]
  · rw [if_neg h1, if_neg h1]
section
variable {X : Cx} {W : WX} {pins : List (Addr × Obj)} {σ : L2.St} {H : Hp} {s : Shared} {Z φ : List Addr} {S : Store}
theorem set_self {α : Type} : ∀ {l : List α} {i : Nat} {a : α}, l[i]? = some a → l.set i a = l
  | [], _, _, h => by cases h
  | b :: l, 0, a, h => by cases h; rfl
  | b :: l, i + 1, a, h => by rw [List.set_cons_succ, set_self (l := l) h]
/-- one more row of a table, with the code object that it tells of -/
theorem rel_row (R : Rel X.K X.mg Z φ S H) {p : He.Defn} {q : Str} {j : Nat} {a c : Addr} {ps more : Array Value} (hS : S[j]? = some (.tbl p q)) (hφ : φ[j]? = some a) (hP : H a = some (.tbl ps)) (hc : H c = none) (hT : TriplesOk (ps ++ more).toList)
    (hm : ∀ (pos : Pos) (cv : Value), codeAmong pos (ps ++ more).toList = some cv → codeAmong pos ps.toList = some cv ∨ cv = .ref c) :
    Rel X.K X.mg Z φ S (upd (upd H a (.tbl (ps ++ more))) c (LamX.CodeO c q)) ∧ Evo Z φ S H φ S (upd (upd H a (.tbl (ps ++ more))) c (LamX.CodeO c q)) ∧ gnd Z φ S (upd (upd H a (.tbl (ps ++ more))) c (LamX.CodeO c q)) c = some (LamX.CodeO c q) := by
  obtain ⟨R1, E1, at1⟩ := R.fresh (o := LamX.CodeO c q) hc
  have ne : a ≠ c := ne_of_none hP hc
  obtain ⟨ea, ps', e1, e2, e3⟩ := R.ob j a _ hφ hS
  rw [hP] at e1
  cases e1
  have ok : SOk X.K X.mg φ (gnd Z φ S (upd H c (LamX.CodeO c q))) (upd (upd H c (LamX.CodeO c q)) a (.tbl (ps ++ more))) a (.tbl p q) := by
    refine ⟨ea, _, upd_same, hT, fun pos cv hcv => ?_⟩
    rcases hm pos cv hcv with z | z
    · obtain ⟨c0, q1, q2⟩ := e3 pos cv z
      exact ⟨c0, q1, E1.ext _ _ q2⟩
    · exact ⟨c, z, at1⟩
  obtain ⟨R2, E2⟩ := R1.mutate (u := .tbl p q) (ho := .tbl (ps ++ more)) hφ hS rfl rfl ok
  have eg := gnd_mut (Z := Z) (H := upd H c (LamX.CodeO c q)) (ho := .tbl (ps ++ more)) hφ hS (u := .tbl p q) rfl rfl
  rw [set_self hS, ← upd_comm ne] at R2 E2 eg
  exact ⟨R2, E1.trans E2, by rw [eg]; exact at1⟩
theorem lam_makeD {p : He.Defn} {j : Nat} {params : Arguments} {body : Expr} {scope : Scope} {pos : Pos} {E Q : Value → Shared → Prop} (I : L2.Inv X pins σ H s) (R : Rel X.K X.mg Z φ S H) (hS : S[j]? = some (.tbl p (X.env.qual ++ "<lambda>")))
    (hcode : X.env.code = .ref (He.cT X.K p).1) (TB : LamX.TabB X.base X.mg (He.cT X.K p).1 (He.cT X.K p).2) (hdef : defaultsOf params X.env = ([], [])) (hfree : ∀ y ∈ scope.names, y.2 = .free → ∃ c, X.env.cells.lookup y.1 = some c)
    (h : ∀ (f c : Addr) (pm ctv : Value) (H1 : Hp) (s1 : Shared), L2.Inv X pins σ H1 s1 → Rel X.K X.mg Z φ S H1 → Evo Z φ S H φ S H1 →
      s1.heap.get? f = some (PySem.W.kla_obj "<lambda>" (X.env.qual ++ "<lambda>") params body scope (cloFrom X.env.cells scope.names []) pm c ctv) → H1 f = none → f ∉ frs X.stack → gnd Z φ S H1 c = some (LamX.CodeO c (X.env.qual ++ "<lambda>")) → Q (.ref f) s1) :
    wpAny (model X.prog X.w) X.A (eval (.Lambda params body scope pos) X.env) Q E s := by
  obtain ⟨a, hφ, _⟩ := rel_get R hS
  obtain ⟨ea, ps, hP, ht, codes⟩ := R.ob j a _ hφ hS
  subst ea
  refine PySem.W.kla_eval hdef ?_
  have atP : s.heap.get? (He.cT X.K p).2 = some { cls := .none, data := .fields ps } := I.hok _ _ hP
  have away : ∀ f, s.heap.objs.size ≤ f → f ∉ frs X.stack := fun f hf z => by
    rcases List.mem_cons.mp (I.stkSub _ z) with e | e
    · have q := I.lt
      rw [← e] at q
      exact absurd (Nat.lt_of_lt_of_le q hf) (Nat.lt_irrefl _)
    · exact I.nofs hf e
  cases hc : codeAmong pos ps.toList with
  | some cv =>
    obtain ⟨c, e, hco⟩ := codes pos cv hc
    subst e
    refine PySem.W.kla_makeFunctionHit (ps := ps) (P := (He.cT X.K p).2) (c := (He.cT X.K p).1) (mg := X.mg) (closure_ok hfree) I.ok.glob (I.mod.glob.keeps I.bk) hcode (TB.code.keeps I.bk) atP ht hc (TB.bm.keeps I.bk) fun ctv hp tk grows old => ?_
    have I1 := I.kept (t' := tk) (h' := hp.push (PySem.W.kla_obj "<lambda>" (X.env.qual ++ "<lambda>") params body scope (cloFrom X.env.cells scope.names []) ((X.mg "__name__").getD .none) c ctv)) fun b o e => Heap.get?_push_of_some _ (grows b o e)
    exact h hp.objs.size c ((X.mg "__name__").getD .none) ctv H _ I1 R Evo.refl (Heap.get?_push_size _ rfl) (I.hok.fresh old) (away _ old) hco
  | none =>
    refine PySem.W.kla_makeFunction (ps := ps) (P := (He.cT X.K p).2) (c := (He.cT X.K p).1) (mg := X.mg) (closure_ok hfree) I.ok.glob (I.mod.glob.keeps I.bk) hcode (TB.code.keeps I.bk) atP ht hc TB.gP (TB.bm.keeps I.bk) fun c ctv hp tk grows fresh below record table => ?_
    obtain ⟨c2, oc, vs, t, e2, hoc, hd, hv⟩ := record
    cases e2
    have old : s.heap.objs.size ≤ hp.objs.size := Nat.le_trans fresh (Nat.le_of_lt below)
    have nc : H c = none := I.hok.fresh fresh
    have I1 := LamX.inv_table (t' := tk) (more := #[rawInt pos.line, rawInt pos.col, .ref c]) (h' := hp.push (PySem.W.kla_obj "<lambda>" (X.env.qual ++ "<lambda>") params body scope (cloFrom X.env.cells scope.names []) ((X.mg "__name__").getD .none) c ctv)) I hP
      (fun b o hb e => Heap.get?_push_of_some _ (grows b o hb e)) (Heap.get?_push_of_some _ table) fresh ⟨oc, vs, t, Heap.get?_push_of_some _ hoc, hd, hv⟩
    have el : (ps ++ #[rawInt pos.line, rawInt pos.col, .ref c]).toList = ps.toList ++ [rawInt pos.line, rawInt pos.col, .ref c] := by simp
    obtain ⟨R1, E1, at1⟩ := rel_row (more := #[rawInt pos.line, rawInt pos.col, .ref c]) R hS hφ hP nc (by rw [el]; exact PySem.TriplesOk_snoc _ _ _ _ ht) fun pos' cv hcv => LamX.among_app _ ht (by rw [← el]; exact hcv)
    refine h hp.objs.size c ((X.mg "__name__").getD .none) ctv _ _ I1 R1 E1 (Heap.get?_push_size _ rfl) ?_ (away _ old) at1
    have n1 : hp.objs.size ≠ c := Nat.ne_of_gt below
    have n2 : hp.objs.size ≠ (He.cT X.K p).2 := Nat.ne_of_gt (Nat.lt_of_lt_of_le (Heap.lt_size atP) old)
    rw [upd_ne n1, upd_ne n2]
    exact I.hok.fresh old
end

/-! ### the context of a lambda's body; exceptions in the air have no context -/
theorem inv_xe {X : Cx} {pins : List (Addr × Obj)} {σ : L2.St} {H : Hp} {s : Shared} {xe : Value → Shared → Prop} (J : L2.Inv X pins σ H s) : L2.Inv { X with xe := xe } pins σ H s :=
  ⟨⟨J.ok.mod, J.ok.kind, J.ok.glob, J.ok.blt, J.ok.above, J.ok.inj, J.ok.has, J.ok.cab, J.ok.hd, J.ok.frames, J.ok.stk, J.ok.exf, J.ok.bs, J.ok.bsz, J.ok.noex, J.ok.exfs, J.ok.funs, J.ok.frf⟩, J.os, J.bare, J.base, J.loc, J.cell, J.free, J.freeC, J.pin, J.hok, J.len⟩
def lamCxN (X : Cx) (A : Around) (outer : List Env) (s : Shared) (H : Hp) (E : XK) (scope : Scope) (f c' : Addr) : Cx :=
  { LamX.lamCx X A outer s H E scope f c' with xe := fun e s' => wpAny (model X.prog X.w) (A.deeper (LamX.lamEnv X scope s.heap.objs.size f c')) (leaving (LamX.lamEnv X scope s.heap.objs.size f c') e) (fun _ s'' => L2N.CX X.prog X.w outer H s E e s'') (fun e' s'' => L2N.CX X.prog X.w outer H s E e' s'') s' }

/-! ### the lambda is called -/
section
variable {X : Cx} {pins : List (Addr × Obj)} {σ : L2.St} {H : Hp} {s : Shared}
/-- x(), in the def that was handed the lambda; what is raised is wished for at that def's slots -/
theorem pe_actD {CXg : CXT} {Eg : XK} {Ng : List Str} {qg : Str} {sg : Scope} {g f c : Addr} {cdg pm ctv : Value} {params : Arguments} {body : Expr} {scope : Scope} {k i : Nat} {a : Str} {pn : List (Addr × Obj)} {xe : Value → Shared → Prop} {Wt : WX} {tb : XK → TE} {p1 p2 : Pos}
    (I : L2.Inv X pins σ H s) (L : LamX.LamS X.env.scope scope) (hf : s.heap.get? f = some (PySem.W.kla_obj "<lambda>" (X.env.qual ++ "<lambda>") params body scope (cloFrom X.env.cells scope.names []) pm c ctv)) (hfn : H f = none) (hfr : f ∉ frs X.stack)
    (hbind : bindArgs (PySem.W.kla_fn "<lambda>" (X.env.qual ++ "<lambda>") params body scope (cloFrom X.env.cells scope.names []) pm (.ref c) ctv) ⟨[], []⟩ = pure [])
    (tk : L2N.Takes ((cxOf CXg X.prog X.w X.K X.mg X.base Ng qg sg g cdg X.A X.stack s H Eg).tr pn xe) Wt) (hr : Room (k + 1) (X.A.deeper (envOfC qg sg s.heap.objs.size g cdg)))
    (hbody : ∀ (A : Around) (outer : List Env) (t : Shared) (Ht : Hp) (E : XK), Room k (A.deeper (LamX.lamEnv X scope t.heap.objs.size f c)) → A.guards = X.A.guards → PE (lamCxN X A outer t Ht E scope f c) body (tb E))
    (hN : Ng[i]? = some a) (hv : Vis sg a) (hd : (a == ("__debug__" : Str)) = false := by decide) (hcd : (a == ("__classdict__" : Str)) = false := by decide) :
    PE ((cxOf CXg X.prog X.w X.K X.mg X.base Ng qg sg g cdg X.A X.stack s H Eg).tr pn xe) (.Call (.Name a p1) [] [] p2)
      (fun σ1 H1 Q => σ1[i]? = some (some (.ref f)) ∧ H1 c = some (LamX.CodeO c (X.env.qual ++ "<lambda>")) ∧ tb (fun cls d H2 => Wt cls d σ1 H2) σ H1 Q) := by
  refine ⟨fun pins1 t1 σ1 H1 Q I1 ⟨slot, code, rd⟩ => ?_⟩
  refine wpAny_Call_Name_kw (thn ((pe_var (pos := p1) (i := i) hN hv hd hcd).run pins1 t1 σ1 H1 (fun v H2 => v = .ref f ∧ H2 = H1) I1 ⟨.ref f, slot, rfl, rfl⟩) fun u t2 ⟨v, H2, I2, rel, same⟩ => ?_)
  obtain ⟨e1, e2⟩ := same
  subst e1
  rw [e2] at I2
  obtain rfl : u = Value.ref f := rel
  have thunk : t2.heap.get? f = some (PySem.W.kla_obj "<lambda>" (X.env.qual ++ "<lambda>") params body scope (cloFrom X.env.cells scope.names []) pm c ctv) := I2.base.keep f _ hf hfn hfr (fun z => nomatch (show f ∈ ([] : List Addr) from z))
  refine PySem.W.callWith_F0 ⟨_, _, _, _, thunk⟩ ?_
  have kept : Un (frs X.stack) [] H H1 s.heap t2.heap := I2.base
  obtain ⟨⟨oc, vs, t, q1, q2, q3⟩, _, _⟩ := I2.hok c _ code
  have room := hr
  refine wpAny_call (codeAny_mono (R := CR (L2N.CX X.prog X.w) (envOfC qg sg s.heap.objs.size g cdg :: X.stack) X.prog X.w H1 t2 Q (fun cls d H2 => Wt cls d σ1 H2)) ?_ fun res t3 hq => ?_)
  · refine PySem.W.kla_callFunE room.depth thunk rfl L.co L.gen rfl ⟨c, oc, vs, t, rfl, q1, q2, q3⟩ ?_
    rw [show bindArgs (PySem.W.kla_fn "<lambda>" (X.env.qual ++ "<lambda>") params body scope (cloFrom X.env.cells scope.names []) pm (.ref c) ctv) ⟨([] : List Value) ++ [], []⟩ = pure [] from hbind]
    refine wpAny_pure (wpAny_newFunctionEnv (fun y hy => (L.own y hy).2) (fun y hy => absurd hy (by simp)) (fun hp names sub => ⟨I2.nolimit.fresh _ sub, ?_⟩) L.kind)
    show codeAny _ _ (.expr body (LamX.lamEnv X scope t2.heap.objs.size f c)) _ _
    have grows : ∀ b o, t2.heap.get? b = some o → hp.get? b = some o := fun b o e => sub.extBut b o (Nat.ne_of_lt (Heap.lt_size e)) (Heap.get?_push_of_some _ e)
    have J := inv_xe (xe := fun e s' => wpAny (model X.prog X.w) ((X.A.deeper (envOfC qg sg s.heap.objs.size g cdg)).deeper (LamX.lamEnv X scope t2.heap.objs.size f c)) (leaving (LamX.lamEnv X scope t2.heap.objs.size f c) e) (fun _ s'' => L2N.CX X.prog X.w (envOfC qg sg s.heap.objs.size g cdg :: X.stack) H1 t2 (fun cls d H2 => Wt cls d σ1 H2) e s'') (fun e' s'' => L2N.CX X.prog X.w (envOfC qg sg s.heap.objs.size g cdg :: X.stack) H1 t2 (fun cls d H2 => Wt cls d σ1 H2) e' s'') s') <| LamX.lam_start2 (A := X.A.deeper (envOfC qg sg s.heap.objs.size g cdg)) (outer := envOfC qg sg s.heap.objs.size g cdg :: X.stack) (E := fun cls d H2 => Wt cls d σ1 H2) (f := f) (c' := c) (tk := t2.toks + ([] : List (Str × Value)).length) I L I2.env0 room.hd kept names grows
    refine PySem.W.kla_codeExpr (wpAny_mono ((hbody _ _ t2 H1 _ (room.deeper _) rfl).run [] _ _ H1 Q J rd) (fun v t3 hq => ?_) fun _ _ z => z)
    obtain ⟨w', H3, J3, rv, q⟩ := hq
    exact ⟨w', H3, J3.os, J3.bare, J3.base, J3.hok, rv, q⟩
  · cases res with
    | error e => exact tk e t3 (L2N.XE.of_call I2 (fun _ _ _ z => z) hq)
    | ok fl =>
      cases fl with
      | ret u => exact I2.after hq
      | next => exact hq.elim
      | brk => exact hq.elim
      | cont => exact hq.elim
end

/-! ### the def that calls it -/
/-- the def's statements, th what the lambda answers -/
def TsD (Y : Cx) (W : WX) (f c : Addr) (q : Str) (tl : XK → Hp → VK → Prop) (sts : List Stmt) (m : (Store → Res D) → FS) : Prop :=
  ∃ t : TS, PSs Y sts t ∧ ∀ (th : Store → Res D) (Z φ : List Addr) (S : Store) (ρ : EnvD) (σ : L2.St) (H : Hp) (Dd : Ends), Rel Y.K Y.mg Z φ S H → Slots Y.K Y.mg φ (gnd Z φ S H) ρ σ → σ[0]? = some (some (.ref f)) → H c = some (LamX.CodeO c q) →
    (∀ (Q : VK) (E : XK), Want Y.K Y.mg (RDat Y.K Y.mg) Z φ S H (th S) Q E → tl E H Q) → WantS Y W Z φ S H (m th ρ S) Dd → t Dd σ H
/-- the lambda's call in the def -/
def Act (Y : Cx) (f c : Addr) (q : Str) (tl : XK → Hp → VK → Prop) (a : Str) : Prop := ∀ (Wt : WX) (pn : List (Addr × Obj)) (xe : Value → Shared → Prop) (p1 p2 : Pos), L2N.Takes (Y.tr pn xe) Wt →
  PE (Y.tr pn xe) (.Call (.Name a p1) [] [] p2) (fun σ1 H1 Q => σ1[0]? = some (some (.ref f)) ∧ H1 c = some (LamX.CodeO c q) ∧ tl (fun cls d H2 => Wt cls d σ1 H2) H1 Q)
section
variable {Y : Cx} {W : WX} {k : Nat} {f c : Addr} {q : Str} {tl : XK → Hp → VK → Prop} {a : Str} {sts : List Stmt} {m : (Store → Res D) → FS} {pos : Pos}
/-- name = constant -/
theorem ts_const (C : Cn Y W k) {i : Nat} {x : Str} {e : Expr} {v : V} {d : D} {pos' : Pos} (hi0 : (i == 0) = false) (hi : Y.N[i]? = some x) (hx : Loc Y.env.scope x) (he : PE Y e (L2.tC v)) (hd : ∀ φ G, Dat Y.K Y.mg φ G d v) (r : TsD Y W f c q tl sts m)
    (hs : swapsWith e (some (.Name x pos')) pos.line Y.env = pure false := by rfl) (hf : Y.fn x = true ∨ Y.env.scope.names.lookup x = some .local := by first | exact .inl rfl | exact .inr rfl | assumption) :
    TsD Y W f c q tl (.Assign [.Name x pos'] e pos :: sts) (fun th => gSeq (gSet i (fC d)) (m th)) := by
  obtain ⟨t, pt, qt⟩ := r
  refine ⟨_, pss_cons (ps_set C.nd hi hx he hs hf) pt, fun th Z φ S ρ σ H Dd R sl h0 hc hth w => ?_⟩
  refine qt th Z φ S (ρ.set i (some d)) (σ.set i (some v)) H Dd R (sl.set (hd _ _)) ?_ hc hth w
  rw [List.getElem?_set_ne (fun z => by rw [z] at hi0; cases hi0)]
  exact h0
/-- the try; what follows it -/
theorem ts_try (C : Cn Y W k) (stk : Y.stack = Y.env :: Y.outer) (frm : Y.env.frame = some Y.env.locals) (nex : Y.ex = []) {body : List Stmt} {h0 : ExceptHandler} {hds : List ExceptHandler} {gb : (Store → Res D) → FS} {ms : List HM} {l : List Hd} {g : FS} {tb : WX → TS}
    (hb : ∀ (Wn : WX) (pn : List (Addr × Obj)) (xe : Value → Shared → Prop), L2N.Takes (Y.tr pn xe) Wn → PSs (Y.tr pn xe) body (tb Wn))
    (hi : ∀ (Wn : WX) (th : Store → Res D) (Z φ : List Addr) (S : Store) (ρ : EnvD) (σ : L2.St) (H : Hp) (Dd : Ends), Rel Y.K Y.mg Z φ S H → Slots Y.K Y.mg φ (gnd Z φ S H) ρ σ → σ[0]? = some (some (.ref f)) → H c = some (LamX.CodeO c q) →
      (∀ (Q : VK) (E : XK), Want Y.K Y.mg (RDat Y.K Y.mg) Z φ S H (th S) Q E → tl E H Q) → WantS Y Wn Z φ S H (gb th ρ S) Dd → tb Wn Dd σ H)
    (hh : HdsD Y (h0 :: hds) ms l) (r : DSs Y W sts g) : TsD Y W f c q tl (.Try body (h0 :: hds) [] [] pos :: sts) (fun th => gSeq (gTry (gb th) ms) g) := by
  refine ⟨_, pss_cons (ps_try_T stk frm nex C.tk (fun Wn pn xe tk _ => hb Wn pn xe tk) hh.toT) r, fun th Z φ S ρ σ H Dd R sl hs hc hth w => ?_⟩
  have w0 : WantS Y W Z φ S H (gTry (gb th) ms ρ S) { Dd with nx := tDS Y W g Dd } := by
    have w1 : WantS Y W Z φ S H ((gTry (gb th) ms ρ S).seq g) Dd := w
    cases e : gTry (gb th) ms ρ S with
    | nx ρ1 S1 =>
      rw [e] at w1
      exact fun σ1 φ1 H1 R1 E1 sl1 => ⟨Z, φ1, S1, ρ1, R1, sl1, WantS.go E1 w1⟩
    | rt d S1 => rw [e] at w1; exact w1
    | bk ρ1 S1 => rw [e] at w1; exact w1
    | ct ρ1 S1 => rw [e] at w1; exact w1
    | ex C fs ρ1 S1 => rw [e] at w1; exact w1
    | stuck => rw [e] at w1; exact w1
  refine hi _ th Z φ S ρ σ H _ R sl hs hc hth ?_
  unfold gTry at w0
  cases e : gb th ρ S with
  | ex C fs ρ1 S1 =>
    rw [e] at w0
    exact fun A dx σ1 φ1 H1 m R1 E1 sl1 xd => hh.want m R1 sl1 xd (WantS.go E1 w0)
  | nx ρ1 S1 => rw [e] at w0; exact w0
  | rt d S1 => rw [e] at w0; exact w0
  | bk ρ1 S1 => rw [e] at w0; exact w0
  | ct ρ1 S1 => rw [e] at w0; exact w0
  | stuck => rw [e] at w0; exact w0
/-- name = a() -/
def gActSet (i : Nat) (th : Store → Res D) : FS := fun ρ S => (th S).into ρ fun d S => .nx (ρ.set i (some d)) S
theorem ts_trySet (act : Act Y f c q tl a) (C : Cn Y W k) (stk : Y.stack = Y.env :: Y.outer) (frm : Y.env.frame = some Y.env.locals) (nex : Y.ex = []) {i : Nat} {x : Str} {p1 p2 pa pb : Pos} {h0 : ExceptHandler} {hds : List ExceptHandler} {ms : List HM} {l : List Hd} {g : FS}
    (hi : Y.N[i]? = some x) (hx : Loc Y.env.scope x) (hh : HdsD Y (h0 :: hds) ms l) (r : DSs Y W sts g) (hs : swapsWith (.Call (.Name a p1) [] [] p2) (some (.Name x pa)) pb.line Y.env = pure false := by rfl)
    (hf : Y.fn x = true ∨ Y.env.scope.names.lookup x = some .local := by first | exact .inl rfl | exact .inr rfl | assumption) :
    TsD Y W f c q tl (.Try [.Assign [.Name x pa] (.Call (.Name a p1) [] [] p2) pb] (h0 :: hds) [] [] pos :: sts) (fun th => gSeq (gTry (gActSet i th) ms) g) :=
  ts_try C stk frm nex (fun Wn pn xe tk => pss_one (ps_set (X := Y.tr pn xe) C.nd hi hx (act Wn pn xe p1 p2 tk) hs hf))
    (fun Wn th Z φ S ρ σ H Dd R sl h0 hc hth w => ⟨h0, hc, hth _ _ (WantS.into (W := Wn) sl w fun d S1 v φ1 H1 R1 E1 dd w1 => w1 _ φ1 H1 R1 Evo.refl ((sl.evo E1).set dd))⟩) hh r
end

/-! ### its promise -/
structure FnT (P : Program) (w : World) (K : PySem.W.Frag) (mg : Str → Option Value) (base : Heap) (k : Nat) (x : Str) (sg : Scope) (g : Addr) (fd : FuncData) (a : Str) (Ng : List Str) (m : (Store → Res D) → FS) : Prop where
  slot : Ng[0]? = some a
  vis : Vis sg a
  run : ∀ (A : Around) (outer : List Env) (s : Shared) (H : Hp) (f c : Addr) (q : Str) (tl : XK → Hp → VK → Prop) (Q : VK) (E : XK) (th : Store → Res D) (Z φ : List Addr) (S : Store), Room (k + 1) A → A.guards = some [] → Env0 P w K mg base A outer s H →
    (∀ cdv : Value, Room k (A.deeper (envOfC x sg s.heap.objs.size g cdv)) → Act (cxOf (L2N.CX P w) P w K mg base Ng x sg g cdv A outer s H E) f c q tl a) → H c = some (LamX.CodeO c q) → Rel K mg Z φ S H →
    (∀ (Q : VK) (E : XK), Want K mg (RDat K mg) Z φ S H (th S) Q E → tl E H Q) → Want K mg (RDat K mg) Z φ S H (m th (List.replicate Ng.length none) S).res Q E →
    codeAny (model P w) A (.call (.ref g) ⟨[.ref f], []⟩) (CR (L2N.CX P w) outer P w H s Q E) s
theorem slots_none {K : PySem.W.Frag} {mg : Str → Option Value} {φ : List Addr} {G : Hp} {σ : L2.St} : Slots K mg φ G (List.replicate σ.length none) σ :=
  ⟨List.length_replicate, fun i d e => by
    have h := (List.getElem?_eq_some_iff.mp e)
    obtain ⟨h1, h2⟩ := h
    rw [List.getElem_replicate] at h2
    cases h2⟩
theorem fnT {P : Program} {w : World} {K : PySem.W.Frag} {mg : Str → Option Value} {base : Heap} {x : Str} {params : Arguments} {body : List Stmt} {scope : Scope} {kws : List (Str × V)} {g : Addr} {fd : FuncData} {Ng : List Str} {a : Str} {k : Nat} {m : (Store → Res D) → FS}
    (F : FunD K x x params body scope [] kws g fd) (Sc : FnScope Ng [a] scope) (hslot : Ng[0]? = some a) (hvis : Vis scope a) (hbd : ∀ (s : Shared) (u : Value), BindsTo s fd ⟨[u], []⟩ [(a, u)])
    (hb : ∀ (cdv : Value) (A : Around) (outer : List Env) (s : Shared) (H : Hp) (E : XK) (f c : Addr) (q : Str) (tl : XK → Hp → VK → Prop), Cn (cxOf (L2N.CX P w) P w K mg base Ng x scope g cdv A outer s H E) (fun c d _ H' => E c d H') k →
      Act (cxOf (L2N.CX P w) P w K mg base Ng x scope g cdv A outer s H E) f c q tl a → TsD (cxOf (L2N.CX P w) P w K mg base Ng x scope g cdv A outer s H E) (fun c d _ H' => E c d H') f c q tl body m) : FnT P w K mg base k x scope g fd a Ng m := by
  obtain ⟨oc, od, dV, kV, doc, pm, an, cdv, ct, osl, rfl, lk, hcd, _, _⟩ := F.ex
  refine ⟨hslot, hvis, fun A outer s H f c q tl Q E th Z φ S hr hgd e0 act hc R hth want => ?_⟩
  refine LamX.run_ofS (N := Ng) (ps := [a]) (us := [.ref f]) (vs := [.ref f]) lk hcd Sc hr e0 (hbd s (.ref f)) (.cons rfl .nil) rfl fun hr' => ?_
  obtain ⟨t, pt, qt⟩ := hb cdv A outer s H E f c q tl ⟨hr', hgd, rfl, Sc.nd, passes_of rfl, L2N.takes_of rfl rfl rfl rfl⟩ (act cdv hr')
  refine ⟨t, pt, ?_⟩
  have len : (L2.start Ng [V.ref f]).length = Ng.length := by
    unfold L2.start
    have h1 : 0 < Ng.length := (List.getElem?_eq_some_iff.mp hslot).1
    simp [List.length_append, List.length_replicate]
    omega
  have sl : Slots K mg φ (gnd Z φ S H) (List.replicate Ng.length none) (L2.start Ng [V.ref f]) := by
    rw [← len]
    exact slots_none
  refine qt th Z φ S (List.replicate Ng.length none) (L2.start Ng [.ref f]) H _ R sl (by unfold L2.start; rfl) hc hth ?_
  cases e : m th (List.replicate Ng.length none) S with
  | nx ρ S1 =>
    rw [e] at want
    exact fun σ φ1 H1 R1 E1 _ => want .non φ1 H1 R1 E1 (by unfold RDat Dat; rfl)
  | rt d S1 =>
    rw [e] at want
    exact want
  | ex C fs ρ S1 =>
    rw [e] at want
    exact fun A1 dx σ φ1 H1 m1 R1 E1 _ xd => want A1 dx φ1 H1 m1 R1 E1 xd
  | bk ρ S1 => rw [e] at want; exact want.elim
  | ct ρ S1 => rw [e] at want; exact want.elim
  | stuck => rw [e] at want; exact want.elim
/-- fnG, the def's own code object told -/
theorem fnGx {P : Program} {w : World} {K : PySem.W.Frag} {mg : Str → Option Value} {base : Heap} {x qual : Str} {params : Arguments} {body : List Stmt} {scope : Scope} {dvs : List V} {kws : List (Str × V)} {f : Addr} {fd : FuncData} {N ps : List Str} {k : Nat} {g : FS}
    (F : FunD K x qual params body scope dvs kws f fd) (S : FnScope N ps scope)
    (hb : ∀ (cdv : Value) (A : Around) (outer : List Env) (s : Shared) (H : Hp) (E : XK), (∃ oc od dV kV doc pm an ct osl, K.lookup f = some ⟨oc, od, .func (PySem.W.fnOf x qual params body scope dV kV doc pm an cdv ct), osl⟩ ∧ PySem.W.codeIn K cdv qual = true) → Cn (cxOf (L2N.CX P w) P w K mg base N qual scope f cdv A outer s H E) (fun c d _ H' => E c d H') k →
      DSs (cxOf (L2N.CX P w) P w K mg base N qual scope f cdv A outer s H E) (fun c d _ H' => E c d H') body g) : FnG P w K mg base (k + 1) f fd ps (spD K mg ps.length (semOf N.length g)) := by
  obtain ⟨oc, od, dV, kV, doc, pm, an, cdv, ct, osl, rfl, lk, hcd, _, _⟩ := F.ex
  refine ⟨fun vs H Q E h => h.1, fun A outer s H args us vs Q E hr hgd e0 hbd r hsp => ?_⟩
  have hl : us.length = ps.length := r.length.symm.trans hsp.1
  have keep : ∀ b o, base.get? b = some o → s.heap.get? b = some o := fun b o e => (e0.bs b o e).1
  have inK : K.In s.heap := e0.mod.kin.keeps keep
  have par : ∀ y ∈ ps.zip us, scope.names.lookup y.1 = some .local ∨
      (scope.names.lookup y.1 = some .cell ∧ ((cellsFrom (s.heap.objs.size + 1) scope.names []).lookup y.1).isSome = true) := by
    rintro ⟨n, v⟩ hy
    exact (S.par n (List.of_mem_zip hy).1).imp id fun q => ⟨q, PySem.W.cellsFrom_some _ _ _ (.inl q)⟩
  refine codeAny_call_function hr.depth (inK _ _ lk) rfl S.co S.gen rfl
    (PySem.W.codeRec_of inK hcd) (hbd _ _ _ _ ?_)
  refine wpAny_newFunctionEnv_cells S.kind par fun env he s1 entered => ?_
  subst he
  refine ⟨(e0.mod.nolimit.keeps keep).keeps entered.toInCall.keep, codeAny_func ?_⟩
  -- the body's own context
  have body' := hb cdv A outer s H E ⟨oc, od, dV, kV, doc, pm, an, ct, osl, lk, hcd⟩ ⟨hr.deeper _, hgd, rfl, S.nd, passes_of rfl, L2N.takes_of rfl rfl rfl rfl⟩
  obtain ⟨hlen, Z, φ, S0, ds, R, dl, w0⟩ := hsp
  have I0 := inv_start (CX := L2N.CX P w) (mg := mg) (base := base) (cd := cdv) (qual := qual) (f := f) (E := E) S hr.hd e0 hlen r entered
  have q0 : tDS (cxOf (L2N.CX P w) P w K mg base N qual scope f cdv A outer s H E) (fun c d _ H' => E c d H') g { nx := fun _ H' => Q .non H', rt := Q } (L2.start N vs) H := by
    refine ⟨Z, φ, S0, startD N.length ds, R, slots_start dl, ?_⟩
    unfold semOf at w0
    cases hg : g (startD N.length ds) S0 with
    | nx ρ S1 =>
      rw [hg] at w0
      exact fun σ φ1 H1 R1 E1 _ => w0 .non φ1 H1 R1 E1 (by unfold RDat Dat; rfl)
    | rt d S1 =>
      rw [hg] at w0
      exact w0
    | ex C fs ρ S1 =>
      rw [hg] at w0
      exact fun A1 dx σ φ1 H1 m R1 E1 _ x => w0 A1 dx φ1 H1 m R1 E1 x
    | _ =>
      rw [hg] at w0
      exact w0.elim
  refine wpAny_mono (PSs.run body' [] s1 (L2.start N vs) H _ I0 q0) (fun fl s' hs => ?_) fun _ _ z => z
  have fin : ∀ {σ' : L2.St} {H' : Hp} {v : V} {u : Value}, Inv (cxOf (L2N.CX P w) P w K mg base N qual scope f cdv A outer s H E) [] σ' H' s' → RelV v u →
      Q v H' → CE outer P w H s Q u s' := fun J rv q => ⟨_, _, J.os, J.bare, J.base, J.hok, rv, q⟩
  cases fl with
  | ret u =>
    obtain ⟨v, σ', H', J, rv, q⟩ := hs
    exact fin J rv q
  | next =>
    obtain ⟨σ', H', J, q⟩ := hs
    exact fin (v := .non) J rfl q
  | brk => exact hs.choose_spec.choose_spec.2.elim
  | cont => exact hs.choose_spec.choose_spec.2.elim
/-- a def whose body makes lambdas: its code object is known -/
theorem fnGc {P : Program} {w : World} {K : PySem.W.Frag} {mg : Str → Option Value} {base : Heap} {x qual : Str} {params : Arguments} {body : List Stmt} {scope : Scope} {dvs : List V} {kws : List (Str × V)} {at_ : He.Defn} {fd : FuncData} {N ps : List Str} {k : Nat} {g : FS}
    (F : FunD K x qual params body scope dvs kws (He.fAd K at_) fd) (Sc : FnScope N ps scope)
    (hb : ∀ (cdv : Value) (A : Around) (outer : List Env) (s : Shared) (H : Hp) (E : XK), cdv = .ref (He.cT K at_).1 → Cn (cxOf (L2N.CX P w) P w K mg base N qual scope (He.fAd K at_) cdv A outer s H E) (fun c d _ H' => E c d H') k →
      DSs (cxOf (L2N.CX P w) P w K mg base N qual scope (He.fAd K at_) cdv A outer s H E) (fun c d _ H' => E c d H') body g) : FnG P w K mg base (k + 1) (He.fAd K at_) fd ps (spD K mg ps.length (semOf N.length g)) := by
  refine fnGx F Sc fun cdv A outer s H E hl C => hb cdv A outer s H E ?_ C
  obtain ⟨oc, od, dV, kV, doc, pm, an, ct, osl, lk, hcd⟩ := hl
  obtain ⟨c0, ec⟩ := He.codeIn_ref hcd
  rw [ec]
  exact congrArg Value.ref (He.codeOf_eq lk ec).symm

/-! ### the caller -/
def isTab (p : He.Defn) (q : Str) : SO → Bool
  | .tbl p' q' => decide (p' = p) && decide (q' = q)
  | _ => false
theorem tab_at {p : He.Defn} {q : Str} : ∀ {S : Store}, S.any (isTab p q) = true → ∃ j : Nat, S[j]? = some (SO.tbl p q)
  | [], h => by cases h
  | o :: S, h => by
    rw [List.any_cons, Bool.or_eq_true] at h
    rcases h with h | h
    · cases o with
      | tbl p' q' =>
        unfold isTab at h
        rw [Bool.and_eq_true, decide_eq_true_eq, decide_eq_true_eq] at h
        exact ⟨0, by rw [h.1, h.2]; rfl⟩
      | _ => cases h
    · obtain ⟨j, e⟩ := tab_at h
      exact ⟨j + 1, e⟩
/-- x(lambda: body) -/
def fTold (p : He.Defn) (q : Str) (n : Nat) (m : (Store → Res D) → FS) (fb : FE) : FE := fun ρ S => if S.any (isTab p q) = true then (m (fun S => fb ρ S) (List.replicate n none) S).res else .stuck
section
variable {X : Cx} {W : WX} {k k' : Nat}
theorem de_told {x a : Str} {g : Addr} {fd : FuncData} {sg : Scope} {Ng : List Str} {m : (Store → Res D) → FS} {at_ : He.Defn} {q : Str} {params : Arguments} {body : Expr} {scope : Scope} {fb : FE} {p lpos pos : Pos} (F : FnT X.prog X.w X.K X.mg X.base k x sg g fd a Ng m) (C : Cn X W k') (hg : Gl X x) (hm : X.mg x = some (.ref g))
    (hkp : PySem.W.keepIn X.K (.ref g) = true) (hq : X.env.qual ++ "<lambda>" = q) (hcode : X.env.code = .ref (He.cT X.K at_).1) (TB : LamX.TabB X.base X.mg (He.cT X.K at_).1 (He.cT X.K at_).2) (L : LamX.LamS X.env.scope scope) (hdef : defaultsOf params X.env = ([], []))
    (hbind : ∀ (q : Str) (cl : List (Str × Addr)) (pm cv ctv : Value), bindArgs (PySem.W.kla_fn "<lambda>" q params body scope cl pm cv ctv) ⟨[], []⟩ = pure []) {j : Nat} (hj : k = j + 1) (hle : k + 1 ≤ k')
    (hbody : ∀ (A : Around) (outer : List Env) (t : Shared) (H : Hp) (E : XK) (f c : Addr), Cn (lamCxN X A outer t H E scope f c) (fun c d _ H' => E c d H') j → DE (lamCxN X A outer t H E scope f c) (fun c d _ H' => E c d H') body fb)
    (hdb : (x == ("__debug__" : Str)) = false := by decide) (hd : (a == ("__debug__" : Str)) = false := by decide) (hcd : (a == ("__classdict__" : Str)) = false := by decide) :
    DE X W (.Call (.Name x p) [.Lambda params body scope lpos] [] pos) (fTold at_ q Ng.length m fb) := by
  refine ⟨fun pins s σ H Q I ⟨Z, φ, S, ρ, R, sl, w⟩ => ?_⟩
  unfold fTold at w
  obtain ⟨ht, w1⟩ := want_if w
  obtain ⟨j', hS⟩ := tab_at ht
  subst hq
  refine wpAny_Call_Name_kw (ld_glob I hg hm ?_ hdb)
  refine PySem.W.callWith_K (h₀ := X.base) I.ok.mod.kin hkp ?_ (by rfl) (by rfl)
  show wpAny _ _ (spliced ((false, eval (.Lambda params body scope lpos) X.env) :: backTo pos (starEach [] X.env))) _ _ s
  refine Calls.spliced_cons (lam_makeD I R hS hcode TB hdef (L.has I.ok) fun f c pm ctv H1 s1 I1 R1 E1 hf hfn hfr hc => ?_)
  refine Calls.spliced_nil ⟨I1.kIn, ?_⟩
  have sl1 := sl.evo E1
  have room : Room (k + 1) X.A := C.room.mono hle
  refine wpAny_call (codeAny_mono (F.run X.A X.stack s1 H1 f c _ (fun E H' Q' => tD X.K X.mg (fun cls d _ H2 => E cls d H2) fb σ H' Q') Q (WE W σ) (fun S => fb ρ S) Z φ S room C.gd I1.env0 (fun cdv hr Wt pn xe p1 p2 tk => ?_) (gnd_sub _ _ hc) R1
    (fun Q' E' w' => ⟨Z, φ, S, ρ, R1, sl1, w'⟩) (w1.go E1)) fun res s2 hq2 => ?_)
  · subst hj
    exact pe_actD (tb := fun E => tD X.K X.mg (fun cls d _ H2 => E cls d H2) fb) (Ng := Ng) (sg := sg) (i := 0) (k := j) I1 L hf hfn hfr (hbind _ _ _ _ _) tk hr (fun A outer t Ht E hr2 hgd => hbody A outer t Ht E f c ⟨hr2, hgd.trans C.gd, rfl, C.nd, passes_of rfl, L2N.takes_of rfl rfl rfl rfl⟩) F.slot F.vis hd hcd
  · cases res with
    | error e => exact L2N.passAt C.tk σ pins H1 s1 e s2 I1 hq2
    | ok fl =>
      cases fl with
      | ret u => exact I1.after hq2
      | next => exact hq2.elim
      | brk => exact hq2.elim
      | cont => exact hq2.elim
end
end DL

/-! The data layer, part 38: the law's end where defs make lambdas. -/
namespace DL
open PySem PySem.Spec PyProof.Rows L2

def tabS (tq : List (He.Defn × Str)) : Store := tq.map fun p => .tbl p.1 p.2
theorem tabA_mem {K : PySem.W.Frag} {tq : List (He.Defn × Str)} {b : Addr} (h : b ∈ tabA K tq) : ∃ p ∈ tq, (He.cT K p.1).2 = b := List.mem_map.mp h
theorem rel_tabs {K : PySem.W.Frag} {mg : Str → Option Value} {H : Hp} {tq : List (He.Defn × Str)} (nd : (tabA K tq).Nodup) (hH : ∀ b ∈ tabA K tq, H b = some (.tbl #[])) : Rel K mg [] (tabA K tq) (tabS tq) H := by
  refine ⟨by simp [tabA, tabS], nd, (fun _ _ z => (nomatch z)), (fun _ z => (nomatch z)), fun b hb => ?_, fun n b o h1 h2 => ?_⟩
  · rw [hH b hb]
    exact fun z => nomatch z
  · have hb := List.mem_of_getElem? h1
    unfold tabA at h1
    unfold tabS at h2
    rw [List.getElem?_map] at h1 h2
    cases e : tq[n]? with
    | none => rw [e] at h1; cases h1
    | some p =>
      rw [e] at h1 h2
      cases h1
      cases h2
      exact ⟨rfl, #[], hH _ hb, trivial, fun pos cv z => by simp [codeAmong] at z⟩
theorem live_tabs {K : PySem.W.Frag} : ∀ tq : List (He.Defn × Str), liveA (tabA K tq) (tabS tq) = tabA K tq
  | [] => rfl
  | p :: r => by
    show liveA ((He.cT K p.1).2 :: tabA K r) (.tbl p.1 p.2 :: tabS r) = _
    unfold liveA
    rw [if_pos (show (SO.tbl p.1 p.2).live = true from rfl), live_tabs r]
    rfl
/-- the law's call, from its mirror; tq: the defs that make lambdas, and what these are called -/
theorem law_runsT {P : Program} {w : World} {K : PySem.W.Frag} {mg mb : Str → Option Value} {k : Nat} {fa a : Addr} {fd : FuncData} {x : Str} {sem : Sem'} {s1 : Shared} {vs : List Value} {ns : List Int} {tq : List (He.Defn × Str)}
    (kin : K.In s1.heap) (hns : s1.heap.Ns mainGlobals mg) (hb : s1.heap.Ns builtinsNs mb) (hbb : ∀ x : Str, x ≠ "__name__" → mb x = bootBuiltins x) (hlim : s1.heap.NoLimit) (gens : s1.gens = #[])
    (tabs : ∀ p ∈ tq, s1.heap.get? (He.cT K p.1).2 = some { cls := .none, data := .fields #[] }) (out : ∀ p ∈ tq, K.lookup (He.cT K p.1).2 = none) (heads : ∀ p ∈ tq, PySem.W.CodeHd s1.heap (He.cT K p.1).1 (He.cT K p.1).2) (nd : (tabA K tq).Nodup)
    (hbm : ∃ (bm : Addr) (ob : Obj), mg "__builtins__" = some (.ref bm) ∧ bm ≠ builtinsNs ∧ s1.heap.get? bm = some ob ∧ ob.cls = .type "module" ∧ ob.dict = some builtinsNs ∧ ob.data = .plain)
    (ha : s1.heap.get? a = some { cls := .type "list", data := .seq vs.toArray }) (hi : IntsAre vs ns) (hl : ns.length ≤ sizeLine) (room : Room k callerA)
    (F : ∀ base : Heap, K.In base → base.Ns mainGlobals mg → (∀ p ∈ tq, LamX.TabB base mg (He.cT K p.1).1 (He.cT K p.1).2) → FnG P w K mg base k fa fd [x] (spD K mg 1 sem)) (hbind : ∀ (s : Shared) (u : Value), BindsTo s fd ⟨[u], []⟩ [(x, u)])
    (good : ∃ S, sem [.scr (ns.map D.int)] (tabS tq) = .ok (.bl true) S) :
    codeAny (model P w) callerA (.call (.ref fa) ⟨[.ref a], []⟩) (fun r s' => r = .ok (.ret (.bool true)) ∧ OldK s1.heap s'.heap ∧ s'.os = s1.os ∧ AllBare s'.gens) s1 := by
  have rv := vals_ints hi
  have empty : ∀ b ∈ tabA K tq, s1.heap.get? b = some { cls := .none, data := .fields #[] } := fun b hb => by
    obtain ⟨p, hp, e⟩ := tabA_mem hb
    rw [← e]
    exact tabs p hp
  have notTab : a ∉ tabA K tq := fun z => by
    have q := empty a z
    rw [ha] at q
    exact nomatch (show Data.seq vs.toArray _ = Data.fields #[] from congrArg Obj.data (Option.some.inj q))
  have inTab : ∀ p ∈ tq, (He.cT K p.1).2 ∈ tabA K tq := fun p hp => List.mem_map.mpr ⟨p, hp, rfl⟩
  have spq : ∀ H : Hp, (∀ b ∈ tabA K tq, H b = some (.tbl #[])) → SqL K H a (ns.map V.int) → spD K mg 1 sem [.ref a] H (fun v _ => v = .bl true) fun _ _ _ => False := fun H hT hq => by
    refine ⟨rfl, [], tabA K tq, tabS tq, [.scr (ns.map D.int)], rel_tabs nd hT, .cons ?_ DatL.nil, ?_⟩
    · unfold Dat
      refine ⟨a, _, rfl, ?_, dat_ints ns⟩
      have keep : ∀ o, H a = some o → gnd [] (tabA K tq) (tabS tq) H a = some o := fun o e => without_some.mpr ⟨by rw [live_tabs, List.nil_append]; exact notTab, e⟩
      exact hq.imp (fun r => r.imp (keep _) fun ⟨ob, q⟩ => ⟨ob, keep _ q⟩) id
    · obtain ⟨S, e⟩ := good
      rw [e]
      intro v φ' H' _ _ d
      unfold RDat Dat at d
      exact d
  -- what may be tracked: the script, the tables
  have main : ∀ H : Hp, (∀ b ∈ tabA K tq, H b = some (.tbl #[])) → (∀ b, H b = none ∨ b ∈ tabA K tq ∨ ∃ ob xs, H b = some (.frz ob (.lst xs))) → SqL K H a (ns.map V.int) → HOk P w H s1.heap → (∀ b, H b ≠ none → b = a ∨ b ∈ tabA K tq) → (H a ≠ none → K.lookup a = none) →
      codeAny (model P w) callerA (.call (.ref fa) ⟨[.ref a], []⟩) (fun r s' => r = .ok (.ret (.bool true)) ∧ OldK s1.heap s'.heap ∧ s'.os = s1.os ∧ AllBare s'.gens) s1 := by
    intro H hT only hq hok alone free
    have plain : ∀ {b : Addr} {o : Obj}, s1.heap.get? b = some o → (∀ l n, o.data ≠ .seq l n) → o.data ≠ .fields #[] → H b = none := fun {b o} e n1 n2 => by
      cases q : H b with
      | none => rfl
      | some u =>
        rcases alone b (by rw [q]; exact fun z => nomatch z) with z | z
        · subst z
          rw [ha] at e
          cases e
          exact absurd rfl (n1 _ _)
        · rw [empty b z] at e
          cases e
          exact absurd rfl n2
    have dic : ∀ {b : Addr} {o : Obj} {es : Array DictEntry} {ep : Nat}, s1.heap.get? b = some o → o.data = .dict es ep → H b = none := fun {b o es ep} e d =>
      plain e (fun l n z => nomatch d.symm.trans z) fun z => nomatch d.symm.trans z
    have ns2 : ∀ {b : Addr} {m : Str → Option Value}, s1.heap.Ns b m → (hidT s1.heap H).Ns b m := fun {b m} ⟨o, es, ep, e, d, r⟩ => ⟨o, es, ep, hidT_get e (dic e d), d, r⟩
    have kin2 : K.In (hidT s1.heap H) := fun b o e => hidT_get (kin b o e) (by
      cases q : H b with
      | none => rfl
      | some u =>
        rcases alone b (by rw [q]; exact fun z => nomatch z) with z | z
        · subst z
          rw [free (by rw [q]; exact fun z => nomatch z)] at e
          cases e
        · obtain ⟨p, hp, ep⟩ := tabA_mem z
          rw [← ep, out p hp] at e
          cases e)
    obtain ⟨mc, c1, c2⟩ := hlim
    have TB : ∀ p ∈ tq, LamX.TabB (hidT s1.heap H) mg (He.cT K p.1).1 (He.cT K p.1).2 := fun p hp => by
      refine ⟨?_, ?_, fun z => ?_⟩
      · obtain ⟨o, us, v1, v2, v3, v4, v5, v6, v7, q0, q9, q1, q2, q3⟩ := heads p hp
        refine ⟨o, us, v1, v2, v3, v4, v5, v6, v7, hidT_get q0 (plain q0 (fun l n z => nomatch q1.symm.trans z) fun z => ?_), q9, q1, q2, q3⟩
        have z2 : us = #[] := Data.fields.inj (q1.symm.trans z)
        rw [z2] at q2
        cases q2
      · obtain ⟨bm, ob, b1, b2, b3, b4, b5, b6⟩ := hbm
        refine ⟨bm, ob, b1, b2, fun z => ?_, fun z => ?_, hidT_get b3 (plain b3 (fun l n z => nomatch b6.symm.trans z) fun z => nomatch b6.symm.trans z), b4, b5, b6⟩
        · obtain ⟨o, es, ep, e, d, _⟩ := hns
          rw [z, e] at b3
          cases b3
          exact nomatch d.symm.trans b6
        · rw [z, tabs p hp] at b3
          cases b3
          exact nomatch b6
      · obtain ⟨o, es, ep, e, d, _⟩ := hns
        rw [z, tabs p hp] at e
        cases e
        exact nomatch d
    have env0 : Env0 P w K mg (hidT s1.heap H) callerA [] s1 H := ⟨rfl, ⟨kin2, ns2 hns, ⟨mb, ns2 hb, hbb⟩, ⟨mc, ns2 c1, c2⟩⟩, fun b o e => of_hidT e, Nat.le_of_eq (hidT_size _ _), trivial, fun b z => absurd (show b ∈ ([] : List Addr) from z) (by simp), hok, .of_eq gens⟩
    refine codeAny_mono ((F _ kin2 (ns2 hns) TB).run callerA [] s1 H ⟨[.ref a], []⟩ [.ref a] [.ref a] _ _ room rfl env0 (hbind s1 (.ref a)) (.cons rfl .nil) (spq H hT hq)) fun r s' h => ?_
    match r, h with
    | .error e, ⟨_, _, _, _, _, _, _, _, _, _, _, _, z⟩ => exact z.elim
    | .ok (.ret u), ⟨v, H', os, bare, un, hok', rr, q⟩ =>
      cases (show v = .bl true from q)
      obtain rfl : u = Value.bool true := rr
      have stays : ∀ b o, b ∉ tabA K tq → s1.heap.get? b = some o → s'.heap.get? b = some o := fun b o nb e => by
        rcases only b with z | z | ⟨ob, xs, z⟩
        · exact un.keep b o e z (fun y => absurd (show b ∈ ([] : List Addr) from y) (by simp)) (by simp)
        · exact absurd z nb
        · obtain ⟨e1, _⟩ := hok b _ z
          obtain ⟨e2, _⟩ := hok' b _ (un.frzs b ob _ z)
          rw [e] at e1
          cases e1
          exact e2
      have longer : ∀ b ∈ tabA K tq, ∃ rows : Array Value, s'.heap.get? b = some { cls := .none, data := .fields rows } := fun b hb => by
        obtain ⟨rows, z⟩ := un.tbls b #[] (hT b hb)
        exact ⟨_, hok' b _ z⟩
      refine ⟨rfl, ⟨fun b o e => ?_, fun b o e => ?_⟩, os, bare⟩
      · by_cases q : b ∈ tabA K tq
        · obtain ⟨p, hp, ep⟩ := tabA_mem q
          obtain ⟨rows, hm⟩ := longer b q
          subst ep
          rw [tabs p hp] at e
          cases e
          exact .inr (.inl ⟨((heads p hp).tab (tabs p hp)).isCodeTable, rfl, #[], rows, rfl, by rw [Array.empty_append]; exact hm⟩)
        · exact .inl (stays b o q e)
      · by_cases q : b ∈ tabA K tq
        · exact ⟨_, (longer b q).choose_spec⟩
        · exact ⟨o, stays b o q e⟩
  cases kl : K.lookup a with
  | some o =>
    have e := kin a o kl
    rw [ha] at e
    cases e
    have at_ : ∀ b, b ∈ tabA K tq → (fun b => if b ∈ tabA K tq then some (HO.tbl #[]) else none : Hp) b = some (.tbl #[]) := fun b hb => if_pos hb
    have no_ : ∀ b, b ∉ tabA K tq → (fun b => if b ∈ tabA K tq then some (HO.tbl #[]) else none : Hp) b = none := fun b hb => if_neg hb
    refine main (fun b => if b ∈ tabA K tq then some (.tbl #[]) else none) at_ (fun b => ?_) (.inr ⟨_, vs.toArray, _, kl, rfl, rfl, rfl, by rw [List.size_toArray, hi.length]; exact hl, by simpa using rv⟩) (fun b u z => ?_) (fun b z => ?_) fun z => absurd (no_ a notTab) z
    · by_cases q : b ∈ tabA K tq
      · exact .inr (.inl q)
      · exact .inl (no_ b q)
    · by_cases q : b ∈ tabA K tq
      · cases (at_ b q).symm.trans z
        exact empty b q
      · cases (no_ b q).symm.trans z
    · by_cases q : b ∈ tabA K tq
      · exact .inr q
      · exact absurd (no_ b q) z
  | none =>
    have at_a : (fun b => if b = a then some (HO.frz { cls := .type "list", data := .seq vs.toArray } (.lst (ns.map V.int))) else if b ∈ tabA K tq then some (.tbl #[]) else none : Hp) a = some (HO.frz { cls := .type "list", data := .seq vs.toArray } (.lst (ns.map V.int))) := if_pos rfl
    have at_ : ∀ b, b ∈ tabA K tq → (fun b => if b = a then some (HO.frz { cls := .type "list", data := .seq vs.toArray } (.lst (ns.map V.int))) else if b ∈ tabA K tq then some (.tbl #[]) else none : Hp) b = some (.tbl #[]) := fun b hb => (if_neg (show ¬ b = a from fun z => notTab (by rw [← z]; exact hb))).trans (if_pos hb)
    have no_ : ∀ b, b ≠ a → b ∉ tabA K tq → (fun b => if b = a then some (HO.frz { cls := .type "list", data := .seq vs.toArray } (.lst (ns.map V.int))) else if b ∈ tabA K tq then some (.tbl #[]) else none : Hp) b = none := fun b hb hb2 => (if_neg hb).trans (if_neg hb2)
    refine main (fun b => if b = a then some (.frz { cls := .type "list", data := .seq vs.toArray } (.lst (ns.map V.int))) else if b ∈ tabA K tq then some (.tbl #[]) else none) at_ (fun b => ?_) (.inl (.inr ⟨_, at_a⟩)) (fun b u z => ?_) (fun b z => ?_) fun _ => kl
    · by_cases q : b = a
      · exact .inr (.inr ⟨_, _, if_pos q⟩)
      · by_cases q2 : b ∈ tabA K tq
        · exact .inr (.inl q2)
        · exact .inl (no_ b q q2)
    · by_cases q : b = a
      · subst q
        cases at_a.symm.trans z
        exact ⟨ha, by rw [List.length_map]; exact hl, vs, _, rv, ha⟩
      · by_cases q2 : b ∈ tabA K tq
        · cases (at_ b q2).symm.trans z
          exact empty b q2
        · cases (no_ b q q2).symm.trans z
    · by_cases q : b = a
      · exact .inl q
      · by_cases q2 : b ∈ tabA K tq
        · exact .inr q2
        · exact absurd (no_ b q q2) z
/-- a law over a head by facts -/
theorem walk_ofGT {l : PySem.W.OpenLaw} {n k : Nat} {q : Program} {loose : List Str} {XP : (Str → Option Value) → Heap → Prop} {YP : World → Heap → Prop} {d : DefRec} {x : Str} {sem : Sem'} {tq : List (He.Defn × Str)}
    (hn : l.most = some n) (hn2 : n ≤ sizeLine) (hdf : d.params.defaults = []) (room : Room k callerA) (good : ∀ ns : List Int, ns.length ≤ n → ∃ S, sem [.scr (ns.map D.int)] (tabS tq) = .ok (.bl true) S)
    (F : ∀ (w : World) (mg : Str → Option Value) (fa : Addr) (h : Heap), YP w h → h.Ns mainGlobals mg → mg d.name = some (.ref fa) →
      ∃ (K : PySem.W.Frag) (fd : FuncData), K.In h ∧ (∀ p ∈ tq, h.get? (He.cT K p.1).2 = some { cls := .none, data := .fields #[] }) ∧ (∀ p ∈ tq, K.lookup (He.cT K p.1).2 = none) ∧ (∀ p ∈ tq, PySem.W.codeHdIn K (He.cT K p.1).1 (He.cT K p.1).2 = true) ∧ (tabA K tq).Nodup ∧
        (∀ (s : Shared) (u : Value), BindsTo s fd ⟨[u], []⟩ [(x, u)]) ∧
        ∀ base : Heap, K.In base → base.Ns mainGlobals mg → (∀ p ∈ tq, LamX.TabB base mg (He.cT K p.1).1 (He.cT K p.1).2) → FnG l.prog w K mg base k fa fd [x] (spD K mg 1 sem)) :
    PySem.W.WalkO q loose XP YP l.row.toRowW d [] (fun f vs => PySem.call f vs) := by
  refine Att.attach_call hn hdf fun w s0 s1 mg mb fa o pm cd doc a vs ns G Y ho hd hcd hmg hob hints hlen gens => ?_
  obtain ⟨K, fd, kin, t1, t2, t3, t4, hb, hF⟩ := F w mg fa _ Y G.T.g hmg
  exact law_runsT kin G.T.g G.T.b G.T.builtins G.T.nolimit gens t1 t2 (fun p hp => PySem.W.codeHd_of_K kin (t3 p hp)) t4 G.T.bmain hob hints (Nat.le_trans hlen hn2) room hF hb (good ns hlen)

/-! ### the head -/
/-! ### facts of exception classes -/
/-- an own class over ValueError without an own __init__: what raise asks -/
structure RaiC (K : PySem.W.Frag) (C : Addr) : Prop where
  ex : PySem.W.excIn K C bmV "ValueError.__new__" = true
  kp : PySem.W.keepIn K (.ref C) = true
  sb : PySem.W.subIn K (.ref C) (.type "BaseException") = some true
  ty : PySem.W.typeIn K (.ref C) = some (.type "type")
theorem raiB_ok {K : PySem.W.Frag} {c : Str} (h : raiB K c = true) : RaiC K (He.ga K c) := by
  obtain ⟨h1, h⟩ := He.ba h
  obtain ⟨h2, h⟩ := He.ba h
  obtain ⟨h3, h4⟩ := He.ba h
  exact ⟨h1, h2, of_decide_eq_true h3, eq_of_beq h4⟩
theorem ds_raiseC {X : Cx} {W : WX} {k : Nat} {x : Str} {C : Addr} {msg : Str} {j : Nat} {p p2 apos pos : Pos} (Cc : Cn X W k) (q : RaiC X.K C) (gC : X.mg x = some (.ref C)) (hg : Gl X x) (hdb : (x == ("__debug__" : Str)) = false := by decide) :
    DS X W (.Raise (some (.Call (.Name x p) [.Constant (.str msg) j p2] [] apos)) none pos) (fun ρ S => .ex x [] ρ S) :=
  ds_raise Cc PySem.F.excBase_ValueError q.ex gC q.kp (raises_own q.sb q.ty) hg hdb
theorem iseB_ok {K : PySem.W.Frag} {c : Str} (h : iseB K c = true) : ExcC K (He.ga K c) := by
  obtain ⟨h1, h⟩ := He.ba h
  obtain ⟨h2, h⟩ := He.ba h
  obtain ⟨h3, h⟩ := He.ba h
  obtain ⟨h4, h⟩ := He.ba h
  obtain ⟨h5, h⟩ := He.ba h
  obtain ⟨h6, h⟩ := He.ba h
  obtain ⟨h7, h8⟩ := He.ba h
  exact ⟨He.eqO_ok h1, He.eqO_ok h2, of_decide_eq_true h3, h4, He.eqO_ok h5, He.eqO_ok h6, of_decide_eq_true h7, of_decide_eq_true h8⟩
theorem lookup_mem' {α : Type} {x : Str} {b : α} : ∀ {t : List (Str × α)}, t.lookup x = some b → (x, b) ∈ t
  | [], h => by cases h
  | (y, c) :: r, h => by
    rw [List.lookup_cons] at h
    cases e : x == y with
    | true =>
      rw [e] at h
      cases h
      rw [eq_of_beq e]
      exact List.mem_cons_self
    | false =>
      rw [e] at h
      exact List.mem_cons_of_mem _ (lookup_mem' h)
theorem exmT_ok {K : PySem.W.Frag} {mg : Str → Option Value} {c : Value} {t : List (Str × Bool)} (h : exmT K c t = true) (hg : ∀ q ∈ t, mg q.1 = some (.ref (He.ga K q.1))) : ∀ C b A, t.lookup C = some b → mg C = some (.ref A) → PySem.W.exmOne K (.ref A) c = some b := fun C b A e hA => by
  have m := lookup_mem' e
  have q := hg _ m
  rw [hA] at q
  cases q
  exact of_decide_eq_true (List.all_eq_true.mp h _ m)
theorem kitT_ok {K : PySem.W.Frag} {mg : Str → Option Value} {c : Value} {t : List (Str × Bool)} (h : kitT K c t = true) (hg : ∀ q ∈ t, mg q.1 = some (.ref (He.ga K q.1))) (hc : ∀ q ∈ t, ExcC K (He.ga K q.1)) : ∀ C b A, t.lookup C = some b → mg C = some (.ref A) → ExcC K A ∧ PySem.W.kitOne K (.ref A) c = some b := fun C b A e hA => by
  have m := lookup_mem' e
  have q := hg _ m
  rw [hA] at q
  cases q
  exact ⟨hc _ m, of_decide_eq_true (List.all_eq_true.mp h _ m)⟩
section
variable {X : Cx} {W : WX} {k : Nat} {e b : Expr} {pos p : Pos} {fa : FA}
/-- isinstance(e, C), C an own class -/
theorem de_isX {c : Str} {A : Addr} {t : List (Str × Bool)} (hg : Gl X "isinstance") (hm : X.mg "isinstance" = none) (hA : X.mg c = some (.ref A)) (ht : ∀ C b A', t.lookup C = some b → X.mg C = some (.ref A') → ExcC X.K A' ∧ PySem.W.kitOne X.K (.ref A') (.ref A) = some b) (ha : DA X W [e, b] fa)
    (he : starEach [e, b] X.env = (false, eval e X.env) :: starEach [b] X.env := by rfl) (hpl : (backTo pos (starEach [b] X.env)).any (·.1) = false := by rfl) : DE X W (.Call (.Name "isinstance" p) [e, b] [] pos) (fCB (gIsX t (.cls c)) fa) :=
  de_callB call_isX (cd_isX (.inl ⟨c, A, rfl, hA, rfl⟩) ht) hg hm (by rfl) ha (by decide) (by decide) he hpl
/-- isinstance(e, ValueError) -/
theorem de_isXT {n : String} {t : List (Str × Bool)} (hg : Gl X "isinstance") (hm : X.mg "isinstance" = none) (ht : ∀ C b A', t.lookup C = some b → X.mg C = some (.ref A') → ExcC X.K A' ∧ PySem.W.kitOne X.K (.ref A') (.type n) = some b) (ha : DA X W [e, b] fa)
    (he : starEach [e, b] X.env = (false, eval e X.env) :: starEach [b] X.env := by rfl) (hpl : (backTo pos (starEach [b] X.env)).any (·.1) = false := by rfl) : DE X W (.Call (.Name "isinstance" p) [e, b] [] pos) (fCB (gIsX t (.ty n)) fa) :=
  de_callB call_isX (cd_isX (.inr ⟨n, rfl, rfl⟩) ht) hg hm (by rfl) ha (by decide) (by decide) he hpl
end
end DL

/-! The data layer, part 39: // with a great divisor. -/
namespace DL
open PySem L2
section
variable {X : Cx} {W : WX} {a b : Expr} {fa fb : FE} {pos : Pos}
end
end DL

/-! The data layer, part 40: for k in f(..), where f gives a new dict. -/
namespace DL
open PySem PySem.Spec PyProof.Rows L2
section
variable {X : Cx} {W : WX} {k k' np : Nat} {f : Addr} {fd : FuncData} {ps ks : List Str} {sem : Sem'} {x : Str} {p pos : Pos} {e : Expr} {es : List Expr} {kws : List Keyword} {fa fk : FA} {gD : List D → List D → List D} {tg : Expr}
end
end DL

/-! The data layer, part 41: dict displays with entries, as objects. -/
namespace DL
open PySem PySem.Spec PyProof.Rows L2
abbrev FP := EnvD → Store → Res (List (D × D))
def fPs0 : FP := fun _ S => .ok [] S
def fPs (fk fv : FE) (fr : FP) : FP := fun ρ S => (fk ρ S).bind fun x S => (fv ρ S).bind fun y S => (fr ρ S).bind fun ps S => .ok ((x, y) :: ps) S
section
variable {X : Cx} {W : WX} {pos : Pos}
def keysK : List (D × D) → Option (List (Key × D))
  | [] => some []
  | (x, y) :: r => match keyD x, keysK r with
    | some k, some ks => some ((k, y) :: ks)
    | _, _ => none
def mergeD (ks more : List (Key × D)) : List (Key × D) := more.foldl (fun acc kv => putKD acc kv.1 kv.2) ks
def dispAt (n : Nat) (ps : List (D × D)) (S : Store) : Res D := match keysK ps, S[n]? with
  | some kds, some (.dic []) => if kds.length ≤ 15 then .ok (.oid n) (S.set n (.dic (mergeD [] kds))) else .stuck
  | _, _ => .stuck
/-- {k: v, ..}, an object -/
def fDisp (fp : FP) : FE := fun ρ S => (fp ρ (S ++ [.dic []])).bind fun ps S' => dispAt S.length ps S'
end
end DL

/-! The data layer, part 42: the least of a list of pairs of numbers. -/
namespace PySem.W
open PySem PySem.SeqAt PyProof.Rows
section
variable {prog : Program} {w : World} {A : Around} {E : Value → Shared → Prop} {s : Shared}
end
end PySem.W
namespace DL
open PySem PySem.Spec PySem.W PySem.SeqAt PyProof.Rows L2
section
variable {X : Cx} {W : WX} {k : Nat} {pos : Pos}
end
end DL

/-! The data layer, part 43: d.get(None, x); dict(a list of pairs). -/
namespace DL
open PySem PySem.Spec PyProof.Rows L2
section
variable {X : Cx} {W : WX} {k : Nat} {o e f : Expr} {fo fe ff : FE} {p pos apos cpos : Pos} {td ty tx : TE}
/-! ### dict(pairs) -/
end
end DL

/-! The data layer, part 44: list * number, d[k] //= n, C.m(self, ..), constants that are tuples of texts. -/
namespace DL
open PySem PySem.Spec PyProof.Rows L2
/-! ### list * number -/
section
variable {X : Cx} {W : WX} {a b : Expr} {fa fb : FE} {pos : Pos}
end
/-! ### d[k] op= n -/
section
variable {X : Cx} {W : WX} {k : Nat} {o i e : Expr} {fo fi fe : FE} {pos tpos : Pos}
end
end DL

/-! The data layer, part 45: C.m(self, ..), constants that are tuples of texts. -/
namespace DL
open PySem PySem.Spec PyProof.Rows L2
/-! ### a def of a class, called by the class's name -/
structure CCl (K : PySem.W.Frag) (C : Addr) (m : Str) (f : Addr) : Prop where
  rd : ClX.CRead K C (.type "type")
  cv : ClX.CVal K C (.type "type") m (.ref f) (.ref f)
  kp : PySem.W.keepIn K (.ref f) = true
section
variable {X : Cx} {W : WX} {k k' np : Nat} {f C : Addr} {fd : FuncData} {ps ks : List Str} {sem cs : Sem'} {x m : Str} {p pos apos : Pos} {e : Expr} {es : List Expr} {kws : List Keyword} {fa fk : FA} {gD : List D → List D → List D}
end
/-! ### a module's tuple of texts -/
section
variable {X : Cx} {W : WX} {pos : Pos}
end
end DL

/-! The data layer, part 46: list.count. -/
namespace DL
open PySem PySem.Spec PyProof.Rows L2
section
variable {X : Cx} {W : WX} {k : Nat} {o e : Expr} {fo fe : FE} {pos apos cpos : Pos}
end
end DL

/-! The data layer, part 47: len({x for x in xs}) of a list of ints. -/
namespace DL
open PySem PySem.Spec PyProof.Rows L2
section
variable {prog : Program} {w : World} {A : Around} {E : Value → Shared → Prop} {env : Env} {s : Shared}
end
end DL

/-! The data layer, part 48: len({x for x in xs}), as a mirror. -/
namespace DL
open PySem PySem.Spec PyProof.Rows L2
section
variable {X : Cx} {W : WX} {k : Nat} {iter : Expr} {ta : TE} {fi : FE} {y : Str} {p pa pe cpos pos : Pos} {scope : Scope}
end
end DL

/-! The data layer, part 49: a head's facts with the statics in sight. -/
namespace DL
open PySem PySem.Spec PyProof.Rows L2
end DL

/-! The data layer, part 50: list.extend with a list. -/
namespace DL
open PySem PySem.Spec PyProof.Rows L2
section
variable {X : Cx} {W : WX} {k : Nat} {o e : Expr} {fo fe : FE} {pos apos cpos : Pos}
end
end DL

/-! The data layer, part 51: != by an own __eq__. -/
namespace DL
open PySem PySem.Spec PyProof.Rows L2
/-- what != asks of a class that has no __ne__ of its own -/
structure NeC (K : PySem.W.Frag) (C : Addr) : Prop where
  hn : PySem.W.findIn K (.ref C) "__ne__" = some (some (.builtin "object.__ne__"))
  hm : PySem.W.mroIn K C (.type "object") = some true
section
variable {prog : Program} {w : World} {A : Around} {E : Value → Shared → Prop} {s : Shared} {K : PySem.W.Frag} {x y C L f : Addr} {h₀ : Heap} {m : Str → Option Value} {ox oy : Obj} {od od' : Option Obj}
theorem objNe_K (X : K.In s.heap) (I : PySem.W.InstAt s.heap x ox C od) (he : PySem.W.findIn K (.ref C) "__eq__" = some (some (.ref f))) (hf : PySem.W.isFn K (.ref f) = true) (hu : A.units < cLine) {Q : Fin → Shared → Prop}
    (hcall : wpAny (model prog w) A (call (.ref f) [.ref x, .ref y]) (fun v s' => ∃ b, v = .bool b ∧ Q (.done (.ret (.bool (!b)))) s') E s) :
    wpAny (model prog w) A (Builtin.«object.__ne__» ⟨[.ref x, .ref y], []⟩) Q E s := by
  unfold Builtin.«object.__ne__»
  repeat (first
    | with_reducible refine wpAny_cRoomFor hu ?_
    | (refine wpAny_bind (m := callSpecialIfBound? (.ref x) (Str.ofString "__eq__") [.ref y])
        (PySem.W.ifBound_K X I he hf (wpAny_mono hcall (fun r s' hr => by
          obtain ⟨b, rfl, hq⟩ := hr
          repeat (first | exact hq | exact wpAny_pure hq | exact wpAny_truthy_bool hq | (refine wpAny_bind (m := truthy (.bool _)) (wpAny_truthy_bool ?_)) | wp_step)) fun _ _ e => e)))
    | wp_step)
end
section
variable {X : Cx} {W : WX} {k : Nat}
end
end DL

/-! The data layer, part 52: what the module's names reach, told by a number's bits (no list is searched). -/
namespace DL
open PySem PySem.Spec PyProof.Rows L2
end DL

/-! The data layer, part 53: a, b = a list or a tuple. -/
namespace DL
open PySem L2
def mSeqT (n : Nat) (ms : List D → EnvD → Store → Option EnvD) : FG := fun d ρ S => match asQ S d with
  | some ds => if ds.length = n then ms ds ρ S else none
  | none => none
@[simp] theorem e_mSeqT (n : Nat) (ms : List D → EnvD → Store → Option EnvD) (ds : List D) (d : D) (ρ : EnvD) (S : Store) (h : asQ S d = some ds) : mSeqT n ms d ρ S = if ds.length = n then ms ds ρ S else none := by
  unfold mSeqT
  rw [h]
end DL

/-! The data layer, part 54: zip of two tuples, and of a list that may change with a list. -/
namespace DL
open PySem L2
def zipA : List D → Store → Res ItD := fun ds S => match ds with
  | [.lst xs, .lst ys] => .ok ⟨zipD xs ys, none⟩ S
  | [.tup xs, .tup ys] => .ok ⟨zipD xs ys, none⟩ S
  | [.oid n, .lst ys] => (match asL S (.oid n) with
    | some xs => .ok ⟨zipD xs ys, some (.oid n, xs)⟩ S
    | none => .stuck)
  | _ => .stuck
def fZipA (fa : FA) : FI := fun ρ S => (fa ρ S).bind zipA
section
variable {X : Cx} {W : WX} {k : Nat} {pos p : Pos}
@[simp] theorem e_fZipA (fa : FA) (ρ : EnvD) (S : Store) : fZipA fa ρ S = (fa ρ S).bind zipA := rfl
end
end DL

/-! The data layer, part 55: x is True, x is not True; sorted of a tuple of numbers. -/
namespace DL
open PySem PySem.Spec PyProof.Rows L2
/-! ### is a truth -/
section
variable {X : Cx}
def isBl : D → Bool → Bool
  | .bl c, b => c == b
  | _, _ => false
def gIsBl : G2 := fun x y S => match y with
  | .bl b => .ok (.bl (isBl x b)) S
  | _ => .stuck
def gNotBl : G2 := fun x y S => match y with
  | .bl b => .ok (.bl (!isBl x b)) S
  | _ => .stuck
@[simp] theorem e_gIsBl (b c : Bool) (S : Store) : gIsBl (.bl c) (.bl b) S = .ok (.bl (c == b)) S := rfl
@[simp] theorem e_gNotBl (b c : Bool) (S : Store) : gNotBl (.bl c) (.bl b) S = .ok (.bl (!(c == b))) S := rfl
/-! ### sorted of a tuple -/
end
end DL
namespace SrtO
open PySem PyProof.Rows Srt
section
variable {prog : Program} {w : World} {A : Around} {E : Value → Shared → Prop} {s : Shared}
end
end SrtO
namespace DL
open PySem PySem.Spec PyProof.Rows L2
section
variable {X : Cx} {W : WX} {k : Nat} {e : Expr} {pos p : Pos}
end
end DL

/-! The data layer, part 56: xs[::-1] of a list. -/
namespace DL
open PySem PySem.Spec PyProof.Rows L2
section
variable {X : Cx} {W : WX} {k : Nat} {e : Expr} {fe : FE} {pos p p1 p2 p3 : Pos}
def gRevL (x : D) (S : Store) : Res D := match asL S x with
  | some xs => .ok (.lst xs.reverse) S
  | none => .stuck
theorem de_revL {j : Nat} (hx : DE X W e fe) : DE X W (.Subscript e (.Slice none none (some (.UnaryOp .USub (.Constant (.int 1) j p1) p2)) p3) pos) (fun ρ S => (fe ρ S).bind gRevL) := by
  obtain ⟨t, pe, q⟩ := hx.ex
  refine .mk (pe_revL pe) fun Z φ S ρ σ H Q R sl w => q Z φ S ρ σ H _ R sl (w.bind fun x S1 v φ1 H1 R1 E1 d w1 => ?_)
  unfold gRevL at w1
  split at w1
  · rename_i xs hq
    obtain ⟨a, vs, rfl, h1, h2⟩ := asL_ok R1 d hq
    refine ⟨a, vs, rfl, h1, fun p hp => ?_⟩
    obtain ⟨r, e, g⟩ := dat_newL R1 (datL_rev h2) hp
    exact w1 _ _ _ r e g
  · exact w1.elim
@[simp] theorem e_gRevL (xs : List D) (S : Store) : gRevL (.lst xs) S = .ok (.lst xs.reverse) S := rfl
end
end DL

/-! The data layer, part 57: tuple * number, nought and one too. -/
namespace L2
open PySem PySem.Spec PyProof.Rows
section
variable {X : Cx}
end
end L2
namespace DL
open PySem PySem.Spec PyProof.Rows L2
section
variable {X : Cx} {W : WX} {a b : Expr} {fa fb : FE} {pos : Pos}
end
end DL

/-! The data layer, part 58: isinstance(x, P) of an instance of a class under P. -/
namespace DL
open PySem PySem.Spec PyProof.Rows L2
structure IsuC (K : PySem.W.Frag) (C P : Addr) : Prop where
  isi : IsiC K C
  one : PySem.W.kitOne K (.ref C) (.ref P) = some true
section
variable {X : Cx} {W : WX} {k : Nat} {e b : Expr} {pos p : Pos}
end
end DL

/-! The data layer, part 59: tables of the top (dicts with text keys that stand in the written part): in, not in, t[k]. -/
namespace DL
open PySem PySem.Spec PyProof.Rows L2
def dVal (K : PySem.W.Frag) : D → V
  | .str x => .str x
  | .int i => .int i
  | .bl b => .bl b
  | .cls c => .ref (He.ga K c)
  | _ => .non
/-- what stands at a: a table -/
structure TabC (K : PySem.W.Frag) (mg : Str → Option Value) (w : World) (a : Addr) (tab : List (Str × D)) : Prop where
  kd : ∃ es n, KDict K w a es n
  at_ : ∀ z d, tab.lookup z = some d → ∃ u, PySem.W.nsIn K a z = some (some u) ∧ RelV (dVal K d) u ∧ ∀ (φ : List Addr) (G : Hp), Dat K mg φ G d (dVal K d)
  out : ∀ z, tab.lookup z = none → PySem.W.nsIn K a z = some none
section
variable {X : Cx} {W : WX} {a b : Expr} {fa fb : FE} {pos : Pos}
theorem TabC.ns {K : PySem.W.Frag} {mg : Str → Option Value} {w : World} {A : Addr} {tab : List (Str × D)} (T : TabC K mg w A tab) (z : Str) : ∃ r, PySem.W.nsIn K A z = some r ∧ r.isSome = (tab.lookup z).isSome := by
  cases h : tab.lookup z with
  | none => exact ⟨none, T.out z h, rfl⟩
  | some d =>
    obtain ⟨u, e, _⟩ := T.at_ z d h
    exact ⟨some u, e, rfl⟩
end
end DL

/-! The data layer, part 60: a head's hook with tables of the top. -/
namespace DL
open PySem PySem.Spec PyProof.Rows L2
end DL

/-! The data layer, part 61: o.f, o.g = a, b. -/
namespace L2
open PySem PySem.Spec PyProof.Rows
section
variable {X : Cx}
end
end L2
namespace DL
open PySem PySem.Spec PyProof.Rows L2
section
variable {X : Cx} {W : WX} {pos : Pos}
end
end DL

/-! The data layer, part 62: xs[::2], xs[1::2] of a list. -/
namespace L2
open PySem PySem.Spec PyProof.Rows
section
variable {X : Cx}
end
end L2
namespace DL
open PySem PySem.Spec PyProof.Rows L2
section
variable {X : Cx} {W : WX} {e : Expr} {fe : FE} {pos p1 p3 : Pos}
end
end DL

/-! The data layer, part 63: zip of a list and a text. -/
namespace L2
open PySem PySem.Spec PyProof.Rows
section
variable {prog : Program} {w : World} {A : Around}
end
end L2
namespace DL
open PySem PySem.Spec PyProof.Rows L2
def signsD (x : Str) : List D := x.cps.toList.map fun c => D.str ⟨#[c]⟩
def zipS : List D → Store → Res ItD := fun ds S => match ds with
  | [d, .str x] => (match asL S d with
    | some xs => .ok ⟨zipD xs (signsD x), some (d, xs)⟩ S
    | none => .stuck)
  | _ => .stuck
def fZipS (fa : FA) : FI := fun ρ S => (fa ρ S).bind zipS
section
variable {X : Cx} {W : WX} {k : Nat} {pos p : Pos}
@[simp] theorem e_fZipS (fa : FA) (ρ : EnvD) (S : Store) : fZipS fa ρ S = (fa ρ S).bind zipS := rfl
end
end DL

/-! The data layer, part 64: t.get(k) of tables of the top; a call of a name that holds one of several defs; xs[i] op= e; o.f op= e. -/
namespace DL
open PySem PySem.Spec PyProof.Rows L2
section
variable {X : Cx} {W : WX} {k k' : Nat} {o e f : Expr} {fo fe ff : FE} {apos cpos pos : Pos}
/-! ### a name that holds one of several defs -/
inductive DspT (X : Cx) (sel : List (Nat × Nat)) (np k' : Nat) : List (Str × Sem') → Prop
  | nil : DspT X sel np k' []
  | cons {c : Str} {sem : Sem'} {l : List (Str × Sem')} {k : Nat} {f : Addr} {fd : FuncData} {ps : List Str} (F : FnG X.prog X.w X.K X.mg X.base k f fd ps (spD X.K X.mg ps.length sem)) (hm : X.mg c = some (.ref f)) (hk : PySem.W.keepIn X.K (.ref f) = true)
      (hb : KB X.K fd ps np [] (fun ds es => pick sel ds es [])) (r : DspT X sel np k' l) (hle : k ≤ k' := by decide) (hl : ps.length = np := by rfl) : DspT X sel np k' ((c, sem) :: l)
theorem DspT.get {sel : List (Nat × Nat)} {np : Nat} {l : List (Str × Sem')} {c : Str} {sem : Sem'} {f : Addr} (h : DspT X sel np k' l) (e : l.lookup c = some sem) (hm : X.mg c = some (.ref f)) :
    ∃ (k : Nat) (fd : FuncData) (ps : List Str), FnG X.prog X.w X.K X.mg X.base k f fd ps (spD X.K X.mg ps.length sem) ∧ k ≤ k' ∧ PySem.W.keepIn X.K (.ref f) = true ∧ ps.length = np ∧ KB X.K fd ps np [] (fun ds es => pick sel ds es []) := by
  induction h with
  | nil => cases e
  | @cons c' sem' l k f' fd ps F hm' hk hb r hle hl ih =>
    rw [List.lookup_cons] at e
    by_cases q : (c == c') = true
    · rw [q] at e
      cases e
      obtain rfl : c = c' := beq_iff_eq.mp q
      rw [hm] at hm'
      cases hm'
      exact ⟨k, fd, ps, F, hle, hk, hl, hb⟩
    · have q : (c == c') = false := by simpa using q
      rw [q] at e
      exact ih e
/-! ### xs[i] op= e, o.f op= e -/
end
end DL

/-! The data layer, part 65: a, *b = t, of a tuple. -/
namespace PySem
open PySem.Spec PySem.Calls PyProof.Rows PySem.W L2
section
variable {prog : Program} {w : World} {A : Around} {E : Value → Shared → Prop} {s : Shared}
end
end PySem
namespace DL
open PySem L2
section
variable {X : Cx} {W : WX} {k : Nat} {e : Expr} {fe : FE} {pos : Pos}
end
end DL

/-! The data layer, part 66: a head's hook with tables of the top, where defs make lambdas. -/
namespace DL
open PySem PySem.Spec PyProof.Rows L2
end DL

/-! The data layer, part 67: {None: .., "x": ..}.get(e, f): a display of constants asked at once. -/
namespace DL
open PySem PySem.Spec PyProof.Rows L2
def lfV : Leaf → V
  | .none => .non
  | .num i => .int i
  | .text x => .str x
def mergeL (kvs more : List (Leaf × V)) : List (Leaf × V) := more.foldl (fun acc kv => putK acc kv.1 kv.2) kvs
theorem KV.mergeL : ∀ {more : List (Leaf × V)} {rs : List (Leaf × Value)} {kvs : List (Leaf × V)} {vs : List (Leaf × Value)}, KV more rs → KV kvs vs → KV (DL.mergeL kvs more) (merged vs rs) := by
  intro more rs kvs vs r
  unfold KV at r
  induction r generalizing kvs vs with
  | nil => intro q; exact q
  | @cons p q ps qs h t ih =>
    intro r0
    have e : KV (putK kvs p.1 p.2) (stored vs q.1 q.2) := by
      have := r0.put p.1 h.2
      rw [← h.1]; exact this
    exact ih e
section
variable {X : Cx} {W : WX} {pos apos cpos : Pos} {keys : List (Option Expr)} {values : List Expr} {kvs : List (Leaf × V)} {e f : Expr} {fe ff : FE} {k : Nat}
/-! ### constants -/
def cnV : D → Option V
  | .int i => some (.int i)
  | .str x => some (.str x)
  | _ => none
def lookL (tab : List (Leaf × D)) (j : Leaf) : Option D := (tab.find? fun q => decide (q.1 = j)).map (·.2)
/-- the values of a table of constants -/
inductive CnT : List (Leaf × D) → List (Leaf × V) → Prop
  | nil : CnT [] []
  | cons {j : Leaf} {d : D} {v : V} {r : List (Leaf × D)} {s : List (Leaf × V)} (h : cnV d = some v) (t : CnT r s) : CnT ((j, d) :: r) ((j, v) :: s)
theorem CnT.look {tab : List (Leaf × D)} {l : List (Leaf × V)} (h : CnT tab l) (j : Leaf) : (lookL tab j = none ∧ valV l j = none) ∨ ∃ d v, lookL tab j = some d ∧ valV l j = some v ∧ cnV d = some v := by
  induction h with
  | nil => exact .inl ⟨rfl, rfl⟩
  | @cons i d v r s h t ih =>
    by_cases e : i = j
    · exact .inr ⟨d, v, by simp [lookL, List.find?_cons, e], by simp [valV, List.find?_cons, e], h⟩
    · rcases ih with ⟨a, b⟩ | ⟨d', v', a, b, c⟩
      · exact .inl ⟨by simpa [lookL, List.find?_cons, e] using a, by simpa [valV, List.find?_cons, e] using b⟩
      · exact .inr ⟨d', v', by simpa [lookL, List.find?_cons, e] using a, by simpa [valV, List.find?_cons, e] using b, c⟩
/-- the display's text: keys and values as the table has them -/
structure CDs (X : Cx) (pos : Pos) (keys : List (Option Expr)) (values : List Expr) (tab : List (Leaf × D)) : Prop where
  ex : ∃ kvs : List (Leaf × V), CnT tab kvs ∧ PPs X pos keys values (kvs.map fun kv => (tC (lfV kv.1), tC kv.2))
end
end DL

/-! The data layer, part 68: d["x"] += n. -/
namespace DL
open PySem PySem.Spec PyProof.Rows L2
end DL

/-! The data layer, part 69: within an except suite: iterators' ends, all(..). -/
namespace DL
open PySem PySem.Spec PyProof.Rows L2
/-! ### an iterator's end while an exception is handled -/
section
variable {prog : Program} {w : World} {A : Around} {E : Value → Shared → Prop} {s : Shared}
end
/-! ### where an exception is handled -/
/-- the handled exception's object p stands in every state, out of the reach of what is tracked -/
structure HotK (X : Cx) (p : Addr × Obj) : Prop where
  hot : L2H.Hot1 X.A p
  pin : ∀ {pins : List (Addr × Obj)} {σ : L2.St} {H : Hp} {s : Shared}, L2.Inv X pins σ H s → L2H.PinOk X.stack H s p
section
variable {X : Cx} {p : Addr × Obj} {pins : List (Addr × Obj)} {σ : L2.St} {H : Hp} {s : Shared}
theorem HotK.at (h : HotK X p) (J : L2.Inv X pins σ H s) : HotX.HotAt X.A p.1 s.heap := by
  obtain ⟨a, vs, b, c⟩ := h.hot
  exact ⟨a, p.2, vs, (h.pin J).get, b, c⟩
theorem HotK.of_pin (h : L2H.Hot1 X.A p) (hp : p ∈ X.pn) : HotK X p := ⟨h, fun J => by
  obtain ⟨a, b, c, d, e⟩ := J.pin p (List.mem_append_left _ hp)
  exact ⟨a, b, fun z => (List.mem_cons.mp (J.stkSub p.1 z)).elim c d, e⟩⟩
theorem HotK.blk (h : HotK X p) (J : L2.Inv X pins σ H s) {scope : Scope} {ce : Env} {fp : List Addr} (hf : p.1 ∉ fp) : HotK (X.blk s H scope ce fp) p := by
  have P := h.pin J
  refine ⟨h.hot, fun {pins' σ' H' s'} K => ⟨?_, ?_, P.nofs, P.nocell⟩⟩
  · exact K.base.keep p.1 p.2 P.get P.free P.nofs hf
  · exact K.base.free p.1 p.2 P.get P.free hf
end
end DL

/-! The data layer, part 70: loops and list comprehensions within an except suite. -/
namespace DL
open PySem PySem.Spec PyProof.Rows L2
/-- an iterator's turns while an exception is handled -/
structure TurnQ (P : Program) (w : World) (K : PySem.W.Frag) (tg : Expr) (J : It) (fp : List Addr) (it : Addr) (tn : Nat → Heap → Prop) : Prop where
  obj : ∀ i h, tn i h → ∀ b ∈ fp, ∃ o, h.get? b = some o ∧ ∀ v, o.data ≠ .cell v
  keep : ∀ i h h', tn i h → (∀ b ∈ fp, ∀ o, h.get? b = some o → h'.get? b = some o) → tn i h'
  item : ∀ (X : Cx), X.prog = P → X.w = w → X.K = K → ∀ (i : Nat) (pins : List (Addr × Obj)) (s : Shared) (σ : L2.St) (H : Hp) (E : Value → Shared → Prop), L2.Inv X pins σ H s → (∀ b ∈ fp, FpOk X pins H b) → tn i s.heap → J.go i H →
    wpAny (model P w) X.A (pyNext (.ref it)) (fun r t => ∃ u, r = some u ∧
      wpAny (model P w) X.A (letOwnedTupleGo tg (.ref it) u) (fun _ t' => ∃ x H', L2.Inv X pins σ H' t' ∧ RelV x u ∧ J.yld i H x H' ∧ tn (i + 1) t'.heap ∧ ∀ b ∈ fp, H' b = none) E t) E s
  done : ∀ (X : Cx), X.prog = P → X.w = w → X.K = K → ∀ (x1 : Addr), x1 ∉ fp → ∀ (i : Nat) (pins : List (Addr × Obj)) (s : Shared) (σ : L2.St) (H : Hp) (E : Value → Shared → Prop), HotX.HotAt X.A x1 s.heap → L2.Inv X pins σ H s → (∀ b ∈ fp, FpOk X pins H b) → tn i s.heap → J.stop i H →
    wpAny (model P w) X.A (pyNext (.ref it)) (fun r t => r = none ∧ L2.Inv X pins σ H t) E s
  self : ∀ (A : Around) (i : Nat) (s : Shared) (Q : Value → Shared → Prop) (E : Value → Shared → Prop), tn i s.heap → Q (.ref it) s → wpAny (model P w) A (pyIter (.ref it)) Q E s
section
variable {P : Program} {w : World} {K : PySem.W.Frag} {tg : Expr}
end
/-- an iterator has come, apart from p -/
def PIEQ (X : Cx) (pins : List (Addr × Obj)) (σ : L2.St) (tg : Expr) (p : Addr × Obj) (R : It → Hp → Prop) (itv : Value) (t : Shared) : Prop :=
  ∃ (it : Addr) (fp : List Addr) (tn : Nat → Heap → Prop) (J : It) (H' : Hp), itv = .ref it ∧ L2.Inv X pins σ H' t ∧ TurnQ X.prog X.w X.K tg J fp it tn ∧ tn 0 t.heap ∧ (∀ b ∈ fp, FpOk X pins H' b) ∧ p.1 ∉ fp ∧ R J H'
structure PIQ (X : Cx) (p : Addr × Obj) (tg iter : Expr) (wi : TI) : Prop where
  run : ∀ (pins : List (Addr × Obj)) (s : Shared) (σ : L2.St) (H : Hp) (R : It → Hp → Prop), L2.Inv X pins σ H s → wi σ H R →
    wpAny (model X.prog X.w) X.A (eval iter X.env) (fun v t => wpAny (model X.prog X.w) X.A (pyIter v) (PIEQ X pins σ tg p R) X.xe t) X.xe s
section
variable {X : Cx} {p : Addr × Obj} {tg : Expr}
theorem PIQ.weak {iter : Expr} {t t' : TI} (h : PIQ X p tg iter t) (i : ∀ σ H R, t' σ H R → t σ H R) : PIQ X p tg iter t' := ⟨fun pins s σ H R I q => h.run pins s σ H R I (i _ _ _ q)⟩
theorem PIQ.or {iter : Expr} {t t' : TI} (h : PIQ X p tg iter t) (h' : PIQ X p tg iter t') : PIQ X p tg iter (fun σ H R => t σ H R ∨ t' σ H R) := ⟨fun pins s σ H R I q => q.elim (h.run pins s σ H R I) (h'.run pins s σ H R I)⟩
end
end DL

/-! The data layer, part 71: within an except suite: the rules that ask what is under way around the code; calls; try with such suites. -/
namespace DL
open PySem PySem.Spec PyProof.Rows L2
/-- what is known of a context in which an exception is handled -/
structure CnQ (X : Cx) (W : WX) (k : Nat) : Prop where
  room : L2H.RoomH k X.A
  gd : X.A.guards = some []
  hot : ∃ p, HotK X p
  nd : X.N.Nodup
  po : PassesOwn (model X.prog X.w) X.A X.env X.xe
  tk : L2N.Takes X W
/-- a def's promise where an exception is handled -/
structure FnGQ (P : Program) (w : World) (K : PySem.W.Frag) (mg : Str → Option Value) (base : Heap) (k : Nat) (f : Addr) (fd : FuncData) (ps : List Str) (sp : Sp) : Prop where
  len : ∀ vs H Q E, sp vs H Q E → vs.length = ps.length
  run : ∀ (A : Around) (outer : List Env) (s : Shared) (H : Hp) (args : Args) (us : List Value) (vs : List V) (Q : VK) (E : XK) (p : Addr × Obj), L2H.RoomH k A → A.guards = some [] → L2H.Hot1 A p → L2H.PinOk outer H s p → Env0 P w K mg base A outer s H →
    BindsTo s fd args (ps.zip us) → Vals vs us → sp vs H Q E → codeAny (model P w) A (.call (.ref f) args) (CR (L2N.CX P w) outer P w H s Q E) s
section
variable {X : Cx} {W : WX} {k k' n np : Nat} {f C : Addr} {fd : FuncData} {ps ks : List Str} {sp : Sp} {sem cs : Sem'} {x m : Str} {p pos apos : Pos} {e o : Expr} {es : List Expr} {kws : List Keyword} {fa fk : FA} {fo fe : FE} {g : FS} {gD : List D → List D → List D}
/-! ### what is walked -/
end
end DL

/-! The data layer, part 72: within an except suite: loops; try whose suites hold calls. -/
namespace DL
open PySem PySem.Spec PyProof.Rows L2
section
variable {X : Cx} {W : WX} {k : Nat} {g : FS} {pos : Pos}
end
/-! ### clauses without names, whose suites know the handled exception -/
structure HdQ where
  c : Value
  ts : TS
def wHdsQ (K : PySem.W.Frag) (Wo : WX) (Dd : Ends) : List HdQ → WX
  | [] => Wo
  | q :: r => fun cls d σ H => ∃ b, PySem.W.exmOne K cls q.c = some b ∧ (b = true → q.ts Dd σ H) ∧ (b = false → wHdsQ K Wo Dd r cls d σ H)
inductive HdsQ (X : Cx) : List ExceptHandler → List HdQ → Prop
  | nil : HdsQ X [] []
  | plain {x : Str} {c : Value} {ts : TS} {b0 : Stmt} {bs : List Stmt} {np hp : Pos} {hds : List ExceptHandler} {l : List HdQ} (hc : Names X x c)
      (hs : ∀ (a : Addr) (ob : Obj) (pn : List (Addr × Obj)), L2H.Hot1 (X.suite a ((a, ob) :: pn)).A (a, ob) → PSs (X.suite a ((a, ob) :: pn)) (b0 :: bs) ts) (r : HdsQ X hds l) : HdsQ X (.ExceptHandler (some (.Name x np)) none (b0 :: bs) hp :: hds) (⟨c, ts⟩ :: l)
section
variable {X : Cx} {body : List Stmt} {h0 : ExceptHandler} {hds : List ExceptHandler} {l : List HdQ} {pos : Pos} {tb : WX → TS} {Wo : WX}
end
section
variable {X : Cx} {W : WX} {k : Nat} {pos : Pos}
/-- such clauses and their mirrors -/
inductive HdsDQ (X : Cx) (k : Nat) : List ExceptHandler → List HM → List HdQ → Prop
  | nil : HdsDQ X k [] [] []
  | plain {x : Str} {c : Value} {t : List (Str × Bool)} {g : FS} {b0 : Stmt} {bs : List Stmt} {np hp : Pos} {hds : List ExceptHandler} {ms : List HM} {l : List HdQ} (hc : Names X x c) (ht : ∀ C b A, t.lookup C = some b → X.mg C = some (.ref A) → PySem.W.exmOne X.K (.ref A) c = some b)
      (hs : ∀ (a : Addr) (pn : List (Addr × Obj)), CnQ (X.suite a pn) W0 k → DSs (X.suite a pn) W0 (b0 :: bs) g) (r : HdsDQ X k hds ms l) : HdsDQ X k (.ExceptHandler (some (.Name x np)) none (b0 :: bs) hp :: hds) (⟨t, none, g⟩ :: ms) (⟨c, tDS X W0 g⟩ :: l)
theorem Cn.hot (C : Cn X W k) {a : Addr} {ob : Obj} {pn : List (Addr × Obj)} (h : L2H.Hot1 (X.suite a ((a, ob) :: pn)).A (a, ob)) : CnQ (X.suite a ((a, ob) :: pn)) W0 k :=
  ⟨⟨C.room.dp, C.room.un⟩, C.gd, ⟨_, HotK.of_pin h List.mem_cons_self⟩, C.nd, PassesOwn.never, takes0N⟩
theorem HdsDQ.toT (C : Cn X W k) : ∀ {hds : List ExceptHandler} {ms : List HM} {l : List HdQ}, HdsDQ X k hds ms l → HdsQ X hds l
  | _, _, _, .nil => .nil
  | _, _, _, .plain hc _ hs r => .plain hc (fun a ob pn h => hs a ((a, ob) :: pn) (C.hot h)) (r.toT C)
theorem HdsDQ.want {Dd : Ends} {Z φ : List Addr} {S : Store} {H : Hp} {ρ : EnvD} {σ : L2.St} {Cl : Str} {fs : List (Str × D)} {A : Addr} {dx : Option Addr} (hA : X.mg Cl = some (.ref A)) (R : Rel X.K X.mg Z φ S H) (sl : Slots X.K X.mg φ (gnd Z φ S H) ρ σ) (xd : ExD X.K X.mg φ (gnd Z φ S H) fs dx) :
    ∀ {hds : List ExceptHandler} {ms : List HM} {l : List HdQ}, HdsDQ X k hds ms l → WantS X W Z φ S H (hdM ms Cl fs ρ S) Dd → wHdsQ X.K W Dd l (.ref A) dx σ H
  | _, _, _, .nil, w => w A dx σ φ H hA R Evo.refl sl xd
  | _, _, _, .plain (c := c) (t := t) (g := g) hc ht hs r, w => by
    unfold hdM at w
    cases e : t.lookup Cl with
    | none => simp only [e] at w; exact w.elim
    | some b =>
      simp only [e] at w
      refine ⟨b, ht Cl b A e hA, fun hb => ?_, fun hb => ?_⟩
      · subst hb
        refine ⟨Z, φ, S, ρ, R, sl, ?_⟩
        have w1 : WantS X W Z φ S H (g ρ S).calm Dd := w
        revert w1
        cases g ρ S <;> intro w1
        · exact w1
        · exact w1
        · exact w1
        · exact w1
        · exact w1.elim
        · exact w1
      · subst hb
        exact r.want hA R sl xd w
end
end DL

/-! The data layer, part 73: a sum of lists that is changed later. -/
namespace DL
open PySem PySem.Spec PyProof.Rows L2
section
variable {X : Cx} {W : WX} {a b : Expr} {fa fb : FE} {pos : Pos}
def gAddO : G2 := fun x y S => match asLt S x, asLt S y with
  | some xs, some ys => if short (xs.length + ys.length) then .ok (.oid S.length) (S ++ [.lst (xs ++ ys)]) else .stuck
  | _, _ => .stuck
theorem opd_addO : OpD X rCat gAddO := fun Z φ S H x y u v Q E R dx dy w => by
  unfold gAddO at w
  split at w
  · rename_i xs ys e1 e2
    obtain ⟨hl, w1⟩ := want_if w
    obtain ⟨p, vs, rfl, h1, h2⟩ := asLt_ok R dx e1
    obtain ⟨q, us, rfl, h3, h4⟩ := asLt_ok R dy e2
    refine ⟨p, q, vs, us, rfl, rfl, h1, h3, by rw [h2.length, h4.length]; exact of_decide_eq_true hl, fun t ht => ?_⟩
    obtain ⟨r, e, g⟩ := dat_newO R (h2.append h4) ht
    exact w1 _ _ _ r e g
  · exact w.elim
theorem de_addO (ha : DE X W a fa) (hb : DE X W b fb) : DE X W (.BinOp a .Add b pos) (fBin gAddO fa fb) := de_bin op_cat opd_addO ha hb
end
end DL

/-! The data layer, part 74: list.clear. -/
namespace DL
open PySem PySem.Spec PyProof.Rows L2
section
variable {X : Cx} {W : WX} {o : Expr} {fo : FE} {pos apos cpos : Pos}
end
end DL

/-! The data layer, part 75: a loop over the zip of two lists that are objects. -/
namespace DL
open PySem PySem.Spec PyProof.Rows L2
section
variable {X : Cx} {W : WX} {k : Nat} {g : FS} {pos p : Pos}
end
end DL

/-! The data layer, part 76: dicts whose keys are tuples of whole numbers and truths. -/
namespace DL
open PySem PySem.Spec PyProof.Rows L2
section
variable {X : Cx} {W : WX} {k0 : Nat} {pins : List (Addr × Obj)} {σ : L2.St} {H : Hp} {s : Shared}
/-! ### the layer -/
variable {φ : List Addr} {G : Hp} {Z : List Addr} {S : Store}
end
end DL

/-! The data layer, part 77: list(range(a, b)). -/
namespace DL
open PySem PySem.Spec PyProof.Rows L2
section
variable {X : Cx} {W : WX} {k : Nat} {a b : Expr} {fa fb : FE} {p p2 pos cpos : Pos}
end
end DL

/-! The data layer, part 78: own exceptions whose own __init__ keeps its arguments; e.f of a caught one. -/
namespace DL
open PySem PySem.Spec PyProof.Rows L2
/-! ### the class -/
/-- C keeps its arguments as fs; B, over it, has no __init__ of its own -/
structure XiC (K : PySem.W.Frag) (C B fI : Addr) (fs : List Str) : Prop where
  oc : OexC K C
  rd : ClX.CRead K B (.type "type")
  iv : PySem.W.findCls K (.ref B) (.type "type") "__init__" = some (.val (.builtin "ValueError.__init__"))
  no : ∀ f ∈ fs, PySem.W.findIn K (.ref C) f = some none
  ini : PySem.W.findIn K (.ref C) "__init__" = some (some (.ref fI))
  tI : PySem.W.typeIn K (.ref fI) = some (.type "function")
  xf : XfC K C
/-! ### its __init__ -/
section
variable {X : Cx} {e : Expr} {es : List Expr} {ta : TA} {x : Str} {B : Addr} {p p1 p2 pos : Pos}
end
/-! ### raise C(e, ..) -/
section
variable {X : Cx} {W : WX} {k k' : Nat} {C B fI : Addr} {fs ps : List Str} {fd : FuncData} {x : Str} {e : Expr} {es : List Expr} {fa : FA} {p pos pos' : Pos}
end
/-! ### e.f of a caught one -/
section
variable {X : Cx} {W : WX} {o : Expr} {fo : FE} {f : Str} {pos : Pos} {cs : List Str}
end
end DL

/-! The data layer, part 79: deep `not in`. -/
namespace DL
open PySem PySem.Spec PyProof.Rows L2
section
variable {X : Cx}
end
end DL

/-! The data layer, part 80: dict.update with a dict. -/
namespace DL
open PySem PySem.Spec PyProof.Rows L2
section
variable {X : Cx} {W : WX} {o e : Expr} {fo : FE} {pos apos cpos : Pos}
end
end DL

/-! The data layer, part 81: isinstance of own exceptions that have fields. -/
namespace DL
open PySem PySem.Spec PyProof.Rows L2
section
variable {X : Cx} {W : WX} {k : Nat} {e b : Expr} {pos p : Pos}
end
end DL

/-! The data layer, part 82: a head's run told in two parts (half of the defs' facts each): less memory a theorem. -/
namespace DL
open PySem PySem.Spec PyProof.Rows L2
end DL

/-! The data layer, part 83: list.insert. -/
namespace DL
open PySem PySem.Spec PyProof.Rows L2
section
variable {X : Cx} {W : WX} {o e : Expr} {es : List Expr} {fo : FE} {fa : FA} {pos apos cpos : Pos}
end
end DL

/-! The data layer, part 84: an instance made by keywords alone. -/
namespace DL
open PySem PySem.Spec PyProof.Rows L2
section
variable {X : Cx} {W : WX} {k k' : Nat} {ks ps : List Str} {kws : List Keyword} {fk : FA} {gD : List D → List D → List D} {sem : Sem'} {fd : FuncData} {f C : Addr} {pos p : Pos}
theorem de_make0 {c : Str} {mk : MakeT} (M : Mk X.K C f) (F : FnG X.prog X.w X.K X.mg X.base k f fd ps (spD X.K X.mg ps.length sem)) (hmk : MakeOk X c ps.length sem gD mk) (Cc : Cn X W k') (hg : Gl X c) (hm : X.mg c = some (.ref C)) (hb : KB X.K fd ps (0 + 1) ks gD)
    (hkw : DKw X W kws fk) (hle : k + 1 ≤ k' := by decide) (hall : (backToKw pos (keywordEach kws X.env)).all (·.1.isSome) = true := by rfl) (hks : (backToKw pos (keywordEach kws X.env)).filterMap (·.1) = ks := by rfl)
    (hdb : (c == ("__debug__" : Str)) = false := by decide)
    (hpl : ((backTo pos (starEach [] X.env)).any (·.1) || (backToKw pos (keywordEach kws X.env)).any (·.1.isNone)) = false := by rfl) :
    DE X W (.Call (.Name c p) [] kws pos) (fMake mk 0 ks.length (fun _ S => .ok [] S) fk) := by
  obtain ⟨tk, pk, qk⟩ := hkw.ex
  obtain ⟨g, gV, hB, hN⟩ := hb.ex
  refine .mk (t := fun σ H Q => tk σ H fun zs H2 => zs.length = ks.length ∧ ∀ x dx, H2 x = none → H2 dx = none → dx ≠ x → spD X.K X.mg ps.length sem (gV (.ref x :: []) zs) (upd (upd H2 dx (.own x)) x (.ins C dx [])) (fun v H2 => v = .non ∧ Q (.ref x) H2) (WE W σ)) ⟨fun pins s σ H Q I h => ?_⟩
    (fun Z φ S ρ σ H Q R sl w => ?_)
  · refine wpAny_Call_Name_kw (ld_glob I hg hm ?_ hdb)
    refine PySem.W.callWith_KW0 (first := []) (h₀ := X.base) I.ok.mod.kin M.kp hall ?_ hpl
    refine thn (pk.run pos pins s σ H _ I h) fun ws s2 ⟨zs, H2, I2, rz, l2, q2⟩ => ⟨I2.kIn, ?_⟩
    rw [hks]
    exact run_makeG (vs := []) M F Cc hle hB I2 .nil rz rfl l2 q2
  · have w : Want X.K X.mg (RDat X.K X.mg) Z φ S H ((fk ρ S).bind fun es S => if ([] : List D).length = 0 ∧ es.length = ks.length then mk [] es S else .stuck) Q (WE W σ) := w
    refine qk Z φ S ρ σ H _ R sl (w.bind fun es S2 zs φ2 H2 R2 E2 d2 w2 => ?_)
    obtain ⟨⟨l1, l2⟩, w3⟩ := want_if w2
    exact ⟨by rw [d2.length, l2], fun x dx hx hd hne => hmk C gV Z φ2 S2 H2 [] es [] zs Q _ hm hN R2 DatL.nil d2 w3 x dx hx hd hne⟩
end
end DL

/-! The data layer, part 85: dict(d), sorted(d) of texts, d.pop(k). -/
namespace DL
open PySem PySem.Spec PyProof.Rows L2
section
variable {X : Cx} {W : WX} {k : Nat} {e o : Expr} {fo fe : FE} {p pos apos cpos : Pos}
/-! ### dict(d) -/
/-! ### sorted(d), d's keys texts -/
/-! ### d.pop(k) -/
end
end DL

/-! The data layer, part 86: o.f = p.g = e; o.f, p.g, q.h = a, b, c. -/
namespace DL
open PySem PySem.Spec PyProof.Rows L2
section
variable {X : Cx} {W : WX} {pos : Pos}
end
end DL

/-! The data layer, part 87: {k: v for k, v in d.items() if k != x}. -/
namespace L2
open PySem PySem.Spec PyProof.Rows
section
variable {X : Cx}
theorem wipe_set {σ : St} {i : Nat} {x : Option V} : ∀ {vs : List Nat}, i ∈ vs → wipe (σ.set i x) vs = wipe σ vs
  | [], h => by cases h
  | v :: vs, h => by
    unfold wipe
    by_cases hv : i ∈ vs
    · rw [wipe_set hv]
    · have e : i = v := (List.mem_cons.mp h).resolve_right hv
      subst e
      have gen : ∀ vs : List Nat, i ∉ vs → wipe (σ.set i x) vs = (wipe σ vs).set i x := by
        intro vs
        induction vs with
        | nil => intro _; rfl
        | cons u us ih =>
          intro h
          unfold wipe
          rw [ih fun z => h (List.mem_cons_of_mem _ z), List.set_comm _ _ (fun z => h (by rw [z]; exact List.mem_cons_self))]
      rw [gen vs hv, List.set_set]
theorem wipe_wipe (σ : St) : ∀ vs : List Nat, wipe (wipe σ vs) vs = wipe σ vs := fun vs => by
  apply List.ext_getElem?
  intro i
  by_cases h : i ∈ vs
  · have key : ∀ τ : St, ∀ us : List Nat, i ∈ us → τ.length = σ.length → (wipe τ us)[i]? = if i < σ.length then some none else none := by
      intro τ us
      induction us with
      | nil => intro h; cases h
      | cons u us ih =>
        intro h hl
        unfold wipe
        by_cases hu : u = i
        · subst hu
          rw [List.getElem?_set]
          simp only [wipe_length, hl, if_true]
        · rw [List.getElem?_set_ne hu]
          exact ih ((List.mem_cons.mp h).resolve_left fun z => hu z.symm) hl
    rw [key _ vs h (wipe_length σ vs), key σ vs h rfl]
  · rw [wipe_out h]
end
end L2
namespace DL
open PySem PySem.Spec PyProof.Rows L2
section
variable {X : Cx} {W : WX} {k : Nat}
end
end DL

/-! The data layer, part 88: texts compared; sorted(d) as an object; a keyword's default that is the empty tuple. -/
namespace DL
open PySem PySem.Spec PyProof.Rows L2
section
variable {X : Cx} {W : WX} {k : Nat} {e : Expr} {p pos : Pos}
end
/-! ### a keyword's default that is the empty tuple -/
/-! ### bool(x) -/
section
variable {X : Cx} {W : WX} {k : Nat} {e : Expr} {p pos : Pos}
end
end DL

/-! The data layer, part 89: len(x) by an own __len__, x an object of the store. -/
namespace DL
open PySem PySem.Spec PyProof.Rows L2
section
variable {X : Cx} {W : WX} {k n : Nat} {e : Expr} {pos p : Pos} {C f : Addr} {fd : FuncData} {ps : List Str} {sem : Sem'}
end
end DL

/-! The data layer, part 90: calls, the lengths as numbers of their own. -/
namespace DL
open PySem PySem.Spec PyProof.Rows L2
section
variable {X : Cx} {W : WX} {k k' np : Nat} {f C : Addr} {fd : FuncData} {ps ks : List Str} {sem cs : Sem'} {x m : Str} {p pos apos : Pos} {o e : Expr} {es : List Expr} {kws : List Keyword} {fo : FE} {fa fk : FA} {gD : List D → List D → List D}
theorem de_callL {nk nn : Nat} (F : FnG X.prog X.w X.K X.mg X.base k f fd ps (spD X.K X.mg ps.length sem)) (hcs : CallOk X.K X.mg ps.length sem cs) (C : Cn X W k') (hg : Gl X x) (hm : X.mg x = some (.ref f)) (hk : PySem.W.keepIn X.K (.ref f) = true) (hb : KB X.K fd ps np ks gD)
    (ha : DA X W (e :: es) fa) (hkw : DKw X W kws fk) (hle : k ≤ k' := by decide) (hall : (backToKw pos (keywordEach kws X.env)).all (·.1.isSome) = true := by rfl) (hks : (backToKw pos (keywordEach kws X.env)).filterMap (·.1) = ks := by rfl)
    (hdb : (x == ("__debug__" : Str)) = false := by decide) (he : starEach (e :: es) X.env = (false, eval e X.env) :: starEach es X.env := by rfl)
    (hpl : ((backTo pos (starEach (e :: es) X.env)).any (·.1) || (backToKw pos (keywordEach kws X.env)).any (·.1.isNone)) = false := by rfl) (hnk : ks.length = nk := by rfl) (hnn : ps.length = nn := by rfl) :
    DE X W (.Call (.Name x p) (e :: es) kws pos) (fCall cs gD np nk nn fa fk) := by
  subst hnk
  subst hnn
  exact de_call F hcs C hg hm hk hb ha hkw hle hall hks hdb he hpl
theorem de_meth0L {nk nn : Nat} {pl : Sem Bool} {c : Str} (ho : DE X W o fo) (cl : ClsI X c C) (hm : Meth X.K C m f) (F : FnG X.prog X.w X.K X.mg X.base k f fd ps (spD X.K X.mg ps.length sem)) (hcs : CallOk X.K X.mg ps.length sem cs) (Cc : Cn X W k') (hb : KB X.K fd ps 1 ks gD)
    (hkw : DKw X W kws fk) (hle : k ≤ k' := by decide) (hall : (backToKw pos (keywordEach kws X.env)).all (·.1.isSome) = true := by rfl) (hks : (backToKw pos (keywordEach kws X.env)).filterMap (·.1) = ks := by rfl)
    (hpl : ((backTo pos (starEach [] X.env)).any (·.1) || (backToKw pos (keywordEach kws X.env)).any (·.1.isNone)) = false := by rfl)
    (ht : eval (.Call (.Attribute o m apos) [] kws pos) X.env = (do
      let ov ← eval o X.env
      standAt apos.atName
      let (f, first) ← holding [ov] (getMethod ov m pl)
      callWith pos f first (backTo pos (starEach [] X.env)) (backToKw pos (keywordEach kws X.env))) := by rfl) (hnk : ks.length = nk := by rfl) (hnn : ps.length = nn := by rfl) :
    DE X W (.Call (.Attribute o m apos) [] kws pos) (fMeth cs gD c m 1 nk nn fo (fun _ S => .ok [] S) fk) := by
  subst hnk
  subst hnn
  exact de_meth0 ho cl hm F hcs Cc hb hkw hle hall hks hpl ht
theorem de_makeL {nk : Nat} {c : Str} {mk : MakeT} (M : Mk X.K C f) (F : FnG X.prog X.w X.K X.mg X.base k f fd ps (spD X.K X.mg ps.length sem)) (hmk : MakeOk X c ps.length sem gD mk) (Cc : Cn X W k') (hg : Gl X c) (hm : X.mg c = some (.ref C)) (hb : KB X.K fd ps (np + 1) ks gD)
    (ha : DA X W (e :: es) fa) (hkw : DKw X W kws fk) (hle : k + 1 ≤ k' := by decide) (hall : (backToKw pos (keywordEach kws X.env)).all (·.1.isSome) = true := by rfl) (hks : (backToKw pos (keywordEach kws X.env)).filterMap (·.1) = ks := by rfl)
    (hdb : (c == ("__debug__" : Str)) = false := by decide) (he : starEach (e :: es) X.env = (false, eval e X.env) :: starEach es X.env := by rfl)
    (hpl : ((backTo pos (starEach (e :: es) X.env)).any (·.1) || (backToKw pos (keywordEach kws X.env)).any (·.1.isNone)) = false := by rfl) (hnk : ks.length = nk := by rfl) :
    DE X W (.Call (.Name c p) (e :: es) kws pos) (fMake mk np nk fa fk) := by
  subst hnk
  exact de_make M F hmk Cc hg hm hb ha hkw hle hall hks hdb he hpl
theorem de_make0L {nk : Nat} {c : Str} {mk : MakeT} (M : Mk X.K C f) (F : FnG X.prog X.w X.K X.mg X.base k f fd ps (spD X.K X.mg ps.length sem)) (hmk : MakeOk X c ps.length sem gD mk) (Cc : Cn X W k') (hg : Gl X c) (hm : X.mg c = some (.ref C)) (hb : KB X.K fd ps (0 + 1) ks gD)
    (hkw : DKw X W kws fk) (hle : k + 1 ≤ k' := by decide) (hall : (backToKw pos (keywordEach kws X.env)).all (·.1.isSome) = true := by rfl) (hks : (backToKw pos (keywordEach kws X.env)).filterMap (·.1) = ks := by rfl)
    (hdb : (c == ("__debug__" : Str)) = false := by decide)
    (hpl : ((backTo pos (starEach [] X.env)).any (·.1) || (backToKw pos (keywordEach kws X.env)).any (·.1.isNone)) = false := by rfl) (hnk : ks.length = nk := by rfl) :
    DE X W (.Call (.Name c p) [] kws pos) (fMake mk 0 nk (fun _ S => .ok [] S) fk) := by
  subst hnk
  exact de_make0 M F hmk Cc hg hm hb hkw hle hall hks hdb hpl
end
end DL

/-! The data layer, part 91: sorted(a list of texts). -/
namespace DL
open PySem PySem.Spec PyProof.Rows L2
section
variable {X : Cx} {W : WX} {k : Nat} {e : Expr} {pos p : Pos}
end
end DL

/-! The data layer, part 92: [e for x in d.values() if t], d an object of the store; test and element read x alone. -/
namespace DL
open PySem PySem.Spec PyProof.Rows L2
section
variable {X : Cx} {W : WX} {k : Nat}
end
end DL

/-! The data layer, part 93: for k in f(..), where f gives a dict, all objects are handed to it. -/
namespace DL
open PySem PySem.Spec PyProof.Rows L2
section
variable {X : Cx} {W : WX} {k k' np : Nat} {f : Addr} {fd : FuncData} {ps ks : List Str} {sem : Sem'} {x : Str} {p pos : Pos} {e : Expr} {es : List Expr} {kws : List Keyword} {fa fk : FA} {gD : List D → List D → List D} {tg : Expr}
end
end DL

/-! The data layer, part 94: str(x) by an own __str__. -/
namespace DL
open PySem PySem.Spec PyProof.Rows L2
section
variable {X : Cx} {W : WX} {k n : Nat} {e : Expr} {pos p : Pos} {C f : Addr} {fd : FuncData} {ps : List Str} {sem : Sem'}
end
end DL

/-! The data layer, part 95: x[i], y[j] = a, b. -/
namespace DL
open PySem PySem.Spec PyProof.Rows L2
section
variable {X : Cx} {W : WX} {k : Nat} {pos : Pos}
def gPut2 (fo fi fp fj fe : FE) : FS := fun ρ S => (fe ρ S).into ρ fun d S => match d with
  | .tup [d1, d2] => (fo ρ S).into ρ fun x S => (fi ρ S).into ρ fun y S => (match storeAt x y d1 S with
    | some S => (fp ρ S).into ρ fun x S => (fj ρ S).into ρ fun y S => (match storeAt x y d2 S with
      | some S => .nx ρ S
      | none => .stuck)
    | none => .stuck)
  | _ => .stuck
theorem ds_put2 (C : Cn X W k) {o i p j e : Expr} {fo fi fp fj fe : FE} {n : Nat} {p1 p2 pt : Pos} (ho : DE X W o fo) (hi : DE X W i fi) (hp : DE X W p fp) (hj : DE X W j fj) (he : DE X W e fe)
    (ha : ∀ v, assign (.Subscript o i p1) X.env v = (do
      let ov ← holding [v] (eval o X.env)
      let iv ← holding [v, ov] (eval i X.env)
      standAt p1
      holding [v, ov, iv] (setItem ov iv v)
      release [v, ov, iv] []) := by intro _; rfl)
    (hb : ∀ v, assign (.Subscript p j p2) X.env v = (do
      let ov ← holding [v] (eval p X.env)
      let iv ← holding [v, ov] (eval j X.env)
      standAt p2
      holding [v, ov, iv] (setItem ov iv v)
      release [v, ov, iv] []) := by intro _; rfl)
    (hs : swapsWithSole [.Tuple [.Subscript o i p1, .Subscript p j p2] n pt] e pos.line X.env = pure false := by rfl) (hw : swappedStores [.Tuple [.Subscript o i p1, .Subscript p j p2] n pt] e X.env = pure none := by rfl)
    (h1 : (assignEach [.Tuple [.Subscript o i p1, .Subscript p j p2] n pt] X.env).map (·.2) = [assign (.Tuple [.Subscript o i p1, .Subscript p j p2] n pt) X.env] := by rfl)
    (hn : (assignEach [.Subscript o i p1, .Subscript p j p2] X.env).length = 2 := by rfl) (hst : (assignEach [.Subscript o i p1, .Subscript p j p2] X.env).findIdx? (·.1) = none := by rfl)
    (e1 : (assignEach [.Subscript o i p1, .Subscript p j p2] X.env).map (·.2) = assign (.Subscript o i p1) X.env :: (assignEach [.Subscript p j p2] X.env).map (·.2) := by rfl)
    (e2 : (assignEach [.Subscript p j p2] X.env).map (·.2) = assign (.Subscript p j p2) X.env :: (assignEach [] X.env).map (·.2) := by rfl) :
    DS X W (.Assign [.Tuple [.Subscript o i p1, .Subscript p j p2] n pt] e pos) (gPut2 fo fi fp fj fe) := by
  obtain ⟨to, po, qo⟩ := ho.ex
  obtain ⟨ti, pi, qi⟩ := hi.ex
  obtain ⟨tp, pp, qp⟩ := hp.ex
  obtain ⟨tj, pj, qj⟩ := hj.ex
  obtain ⟨te, pe, qe⟩ := he.ex
  refine .mk (ps_asg pe (pg_tup C.calm (pgs_cons (pg_sub po pi (set_any C) ha) (pgs_cons (pg_sub pp pj (set_any C) hb) pgs_nil e2) e1) hn hst) hs hw h1) fun Z φ S ρ σ H Dd R sl w => qe Z φ S ρ σ H _ R sl (w.into sl fun d S1 v φ1 H1 R1 E1 dd w1 => ?_)
  split at w1
  · rename_i d1 d2
    unfold RDat Dat at dd
    obtain ⟨a, vs, rfl, s1, ds⟩ := dd
    obtain ⟨v1, r, rfl, dv1, ds⟩ := ds.uncons
    obtain ⟨v2, r, rfl, dv2, ds⟩ := ds.uncons
    unfold DatL at ds
    subst ds
    refine ⟨a, [v1, v2], rfl, sqt_mono (fun b u hb => gnd_some hb) s1, rfl, v1, [v2], rfl, ?_⟩
    refine qo Z φ1 S1 ρ σ H1 _ R1 (sl.evo E1) (w1.into (sl.evo E1) fun x S2 ov φ2 H2 R2 E2 dx w2 => ?_)
    refine qi Z φ2 S2 ρ σ H2 _ R2 ((sl.evo E1).evo E2) (w2.into ((sl.evo E1).evo E2) fun y S3 iv φ3 H3 R3 E3 dy w3 => ?_)
    cases hst : storeAt x y d1 S3 with
    | none => rw [hst] at w3; exact w3.elim
    | some S4 =>
      rw [hst] at w3
      simp only at w3
      refine storeAt_ok R3 (Dat.evo E3 dx) dy (Dat.evo E3 (Dat.evo E2 dv1)) hst fun H4 R4 E4 => ?_
      refine ⟨v2, [], rfl, ?_⟩
      have sl4 := (((sl.evo E1).evo E2).evo E3).evo E4
      refine qp Z φ3 S4 ρ σ H4 _ R4 sl4 ((w3.go E4).into sl4 fun x2 S5 ov2 φ5 H5 R5 E5 dx2 w5 => ?_)
      refine qj Z φ5 S5 ρ σ H5 _ R5 (sl4.evo E5) (w5.into (sl4.evo E5) fun y2 S6 iv2 φ6 H6 R6 E6 dy2 w6 => ?_)
      cases hst2 : storeAt x2 y2 d2 S6 with
      | none => rw [hst2] at w6; exact w6.elim
      | some S7 =>
        rw [hst2] at w6
        simp only at w6
        refine storeAt_ok R6 (Dat.evo E6 dx2) dy2 (Dat.evo E6 (Dat.evo E5 (Dat.evo E4 (Dat.evo E3 (Dat.evo E2 dv2))))) hst2 fun H7 R7 E7 => ⟨rfl, ?_⟩
        exact w6 σ φ6 H7 R7 E7 (((sl4.evo E5).evo E6).evo E7)
  · exact w1.elim
end
end DL

/-! The data layer, part 96: dict displays of more than 17 entries: what the machine does. -/
namespace DL96
open PySem PySem.Spec PyProof.Rows L2
section
variable {prog : Program} {w : World} {K : Type} [DecidableEq K] {knd : KeyKind prog w K} {A : Around} {E : Value → Shared → Prop} {s : Shared}
end
end DL96

/-! The data layer, part 96: dict displays of more than 17 entries: the two runs. -/
namespace DL96
open PySem PySem.Spec PyProof.Rows L2
end DL96

/-! The data layer, part 96: dict displays of more than 17 entries, in the heap of kinds. -/
namespace L2
open PySem PySem.Spec PyProof.Rows
def tPutAll (a : Addr) : List (TE × TE) → St → Hp → (Hp → Prop) → Prop
  | [], _, H, Q => Q H
  | (tk, tv) :: r, σ, H, Q => tk σ H fun x H1 => tv σ H1 fun y H2 => ∃ (kvs : List (Key × V)) (k : Key), x = kV k ∧ H2 a = some (.dK kvs) ∧ kvs.length < sizeLine ∧ tPutAll a r σ (upd H2 a (.dK (putK kvs k y))) Q
section
variable {X : Cx} {pos : Pos}
abbrev putBody (d : Addr) : Sem Value × Sem Value → PUnit → Sem (ForInStep PUnit) := fun x _ => match x with
  | (k, v) => (do
    let kv ← k
    let vv ← holding [kv] v
    holding [kv, vv] (dictSet d kv vv)
    pure (ForInStep.yield PUnit.unit))
structure PLs (X : Cx) (pos : Pos) (keys : List (Option Expr)) (values : List Expr) (trs : List (TE × TE)) : Prop where
  run : ∀ (pins : List (Addr × Obj)) (s : Shared) (σ : St) (H : Hp) (Q : Hp → Prop) (d : Addr), Inv X pins σ H s → tPutAll d trs σ H Q →
    wpAny (model X.prog X.w) X.A (forIn (pairTrees keys values X.env pos) PUnit.unit (putBody d)) (fun _ s' => ∃ H', Inv X pins σ H' s' ∧ Q H') X.xe s
end
end L2

/-! The data layer, part 96: dict displays of 18 to 32 entries, as objects (the second run's own dict stays in the store). -/
namespace DL
open PySem PySem.Spec PyProof.Rows L2
section
variable {X : Cx} {W : WX} {pos : Pos}
end
end DL

/-! The data layer, part 97: for k, v in f(..).items(), where f gives a dict, all objects are handed to it. -/
namespace DL
open PySem PySem.Spec PyProof.Rows L2
section
variable {X : Cx} {W : WX} {k k' np : Nat} {f : Addr} {fd : FuncData} {ps ks : List Str} {sem : Sem'} {x : Str} {p pos : Pos} {e : Expr} {es : List Expr} {kws : List Keyword} {fa fk : FA} {gD : List D → List D → List D} {tg : Expr}
end
end DL

/-! The data layer, part 98: xs == [], whatever stands in the list. -/
namespace L2
open PySem PySem.Spec PyProof.Rows
end L2
namespace DL
open PySem PySem.Spec PyProof.Rows L2
section
variable {X : Cx}
end
end DL

/-! The data layer, part 99: str(x), x a number or a text. -/
namespace DL
open PySem PySem.Spec PyProof.Rows L2
section
variable {X : Cx} {W : WX} {e : Expr} {p pos : Pos}
end
end DL

/-! The data layer, part 100: zip of a list with a tuple. -/
namespace L2
open PySem PySem.Spec PyProof.Rows
section
variable {prog : Program} {w : World} {A : Around}
end
end L2
namespace DL
open PySem PySem.Spec PyProof.Rows L2
def zipLT : List D → Store → Res ItD := fun ds S => match ds with
  | [.lst xs, .tup ys] => .ok ⟨zipD xs ys, none⟩ S
  | _ => .stuck
def fZipLT (fa : FA) : FI := fun ρ S => (fa ρ S).bind zipLT
section
variable {X : Cx} {W : WX} {k : Nat} {pos p : Pos}
@[simp] theorem e_fZipLT (fa : FA) (ρ : EnvD) (S : Store) : fZipLT fa ρ S = (fa ρ S).bind zipLT := rfl
end
end DL

/-! The data layer, part 101: enumerate of a list or a tuple. -/
namespace L2
open PySem PySem.Spec PyProof.Rows
section
variable {prog : Program} {w : World} {A : Around} {E : Value → Shared → Prop} {s : Shared}
end
end L2
namespace DL
open PySem PySem.Spec PyProof.Rows L2
def enumQ : List D → Store → Res ItD := fun ds S => match ds with
  | [.lst ds] => .ok ⟨enumD 0 ds, none⟩ S
  | [.tup ds] => .ok ⟨enumD 0 ds, none⟩ S
  | [d] => match asL S d with
    | some ds => .ok ⟨enumD 0 ds, some (d, ds)⟩ S
    | none => .stuck
  | _ => .stuck
def fEnumQ (fa : FA) : FI := fun ρ S => (fa ρ S).bind enumQ
section
variable {X : Cx} {W : WX} {k : Nat} {pos p : Pos}
@[simp] theorem e_fEnumQ (fa : FA) (ρ : EnvD) (S : Store) : fEnumQ fa ρ S = (fa ρ S).bind enumQ := rfl
end
end DL

/-! The data layer, part 102: zip of a text with a tuple. -/
namespace L2
open PySem PySem.Spec PyProof.Rows
end L2
namespace DL
open PySem PySem.Spec PyProof.Rows L2
def zipST : List D → Store → Res ItD := fun ds S => match ds with
  | [.str x, .tup ys] => .ok ⟨zipD (signsD x) ys, none⟩ S
  | _ => .stuck
def fZipST (fa : FA) : FI := fun ρ S => (fa ρ S).bind zipST
section
variable {X : Cx} {W : WX} {k : Nat} {pos p : Pos}
@[simp] theorem e_fZipST (fa : FA) (ρ : EnvD) (S : Store) : fZipST fa ρ S = (fa ρ S).bind zipST := rfl
end
end DL

/-! The data layer, part 103: for k in f(), a new dict, f called without arguments. -/
namespace DL
open PySem PySem.Spec PyProof.Rows L2
section
variable {X : Cx} {W : WX} {k k' : Nat} {f : Addr} {fd : FuncData} {ps ks : List Str} {sem : Sem'} {gD : List D → List D → List D} {x : Str} {kws : List Keyword} {fk : FA} {pos p : Pos} {tg : Expr}
end
end DL

/-! The data layer, part 104: d[k] //= a great divisor. -/
namespace DL
open PySem PySem.Spec PyProof.Rows L2
section
variable {X : Cx}
end
end DL

/-! The data layer, part 105: bits: shifts by small numbers, masks, or. -/
namespace DL
open PySem PySem.Spec PyProof.Rows L2
section
variable {X : Cx} {W : WX} {a b : Expr} {fa fb : FE} {pos : Pos}
end
end DL

/-! The data layer, part 106: comprehensions with two fors. -/
namespace DL
open PySem PySem.Spec PyProof.Rows L2
theorem wipe_wipe (σ : L2.St) (own : List Nat) : wipe (wipe σ own) own = wipe σ own := by
  have ww : ∀ vs : List Nat, (∀ i ∈ vs, i ∈ own) → wipe (wipe σ own) vs = wipe σ own := by
    intro vs
    induction vs with
    | nil => intro _; rfl
    | cons v vs ih =>
      intro hv
      show (wipe (wipe σ own) vs).set v none = wipe σ own
      rw [ih fun i hi => hv i (List.mem_cons_of_mem _ hi)]
      have hv' := hv v List.mem_cons_self
      have gen : ∀ own : List Nat, v ∈ own → (wipe σ own).set v none = wipe σ own := by
        intro own
        induction own with
        | nil => intro h; simp at h
        | cons u us ih2 =>
          intro h
          unfold wipe
          by_cases hu : v = u
          · subst hu
            rw [List.set_set]
          · rw [List.set_comm _ _ (fun z => hu z.symm), ih2 ((List.mem_cons.mp h).resolve_left hu)]
      exact gen own hv'
  exact ww own fun _ h => h
section
variable {X : Cx} {W : WX} {k : Nat}
theorem WantI.noEx {Z φ : List Addr} {S : Store} {H : Hp} {r : Res ItD} {Q : It → Hp → Prop} {E : XK} (hn : r.noEx ≠ .stuck)
    (f : ∀ it S1 J φ1 H1, r = .ok it S1 → Rel X.K X.mg Z φ1 S1 H1 → Evo Z φ S H φ1 S1 H1 → RI X.K X.mg Z φ1 S1 H1 it J → Q J H1) : WantI X.K X.mg Z φ S H r Q E := by
  cases r with
  | ok it S1 => exact fun J φ1 H1 r1 e1 d => f it S1 J φ1 H1 rfl r1 e1 d
  | _ => exact absurd rfl hn
end
end DL

/-! The data layer, part 107: a name and an attribute at once: x, o.f = e, e. -/
namespace DL
open PySem PySem.Spec PyProof.Rows L2
section
variable {X : Cx} {W : WX} {k : Nat}
end
end DL

/-! The data layer, part 108: for v in d.values(), d an object that nobody looks at any more. -/
namespace DL
open PySem PySem.Spec PyProof.Rows L2
section
variable {X : Cx} {W : WX} {k : Nat} {tg e : Expr} {fe : FE}
end
end DL

/-! The data layer, part 109: sorted(d), d's keys whole numbers, fewer than 64; xs != []. -/
namespace DL
open PySem PySem.Spec PyProof.Rows L2
section
variable {X : Cx} {W : WX} {k : Nat} {e : Expr} {fe : FE} {p pos : Pos}
end
end DL

/-! The data layer, part 110: xs * k, a new list of up to ten thousand. -/
namespace DL
open PySem PySem.Spec PyProof.Rows L2
section
variable {X : Cx} {W : WX} {a b : Expr} {fa fb : FE} {pos : Pos}
end
end DL

/-! The data layer, part 111: x in a tuple, of things of any depth. -/
namespace L2
open PySem PySem.Spec PyProof.Rows
section
variable {X : Cx}
end
end L2
namespace DL
open PySem PySem.Spec PyProof.Rows L2
section
variable {X : Cx}
end
end DL

/-! The data layer, part 112: for k in d, d an object that nobody looks at any more. -/
namespace DL
open PySem PySem.Spec PyProof.Rows L2
section
variable {X : Cx} {W : WX} {k : Nat} {tg e : Expr} {fe : FE}
end
end DL

/-! The data layer, part 113: isinstance(x, T), T a type, x an instance of an own class (then it is none) or a thing whose type is known. -/
namespace DL
open PySem PySem.Spec PyProof.Rows L2
structure IsnC (K : PySem.W.Frag) (C : Addr) (T : String) : Prop where
  isi : IsiC K C
  one : PySem.W.kitOne K (.ref C) (.type T) = some false
section
variable {X : Cx} {W : WX} {k : Nat} {e b : Expr} {pos p : Pos}
end
end DL

/-! The data layer, part 114: s.upper(). -/
namespace DL
open PySem PySem.Spec PyProof.Rows L2
section
variable {X : Cx} {W : WX} {k : Nat} {o : Expr} {fo : FE} {apos cpos : Pos}
def gUpper : GM := fun x ds S => match x, ds with
  | .str a, [] => if a.length ≤ 5000000 then .ok (.str (Txt.upper a)) S else .stuck
  | _, _ => .stuck
theorem md_upper : MethD X (fun x xs H Q => ∃ a, x = .str a ∧ xs = [] ∧ a.length ≤ 5592405 ∧ Q (.str (Txt.upper a)) H) gUpper := fun Z φ S H x u ds vs Q E R dx d w => by
  unfold gUpper at w
  split at w
  · unfold DatL at d
    subst d
    cases dStr dx
    obtain ⟨h, w1⟩ := want_if w
    exact ⟨_, rfl, rfl, by omega, w1.now R (dat_str _)⟩
  · exact w.elim
theorem de_upper (ho : DE X W o fo) (hbase : attributeBase o "upper" X.env (eval o X.env) = eval o X.env := by rfl) (hline : (apos.endLine == cpos.line) = true := by rfl) :
    DE X W (.Call (.Attribute o "upper" apos) [] [] cpos) (fBM "str" gUpper fo (fun _ S => .ok [] S)) := de_bm0 PySem.F.plainAttrs_str PySem.F.slot_str_upper PySem.F.type_str_upper mt_upper md_upper (.inr (.inr rfl)) ho hbase hline
end
end DL

/-! The data layer, part 115: an expression with two mirrors (by what a name holds); xs[::-1], a new list. -/
namespace DL
open PySem PySem.Spec PyProof.Rows L2
section
variable {X : Cx} {W : WX} {k : Nat} {e : Expr} {fe : FE} {p1 p2 p3 pos : Pos}
def gRevO (x : D) (S : Store) : Res D := match asL S x with
  | some xs => .ok (.oid S.length) (S ++ [.lst xs.reverse])
  | none => .stuck
theorem de_revO {j : Nat} (hx : DE X W e fe) : DE X W (.Subscript e (.Slice none none (some (.UnaryOp .USub (.Constant (.int 1) j p1) p2)) p3) pos) (fun ρ S => (fe ρ S).bind gRevO) := by
  obtain ⟨t, pe, q⟩ := hx.ex
  refine .mk (pe_revL pe) fun Z φ S ρ σ H Q R sl w => q Z φ S ρ σ H _ R sl (w.bind fun x S1 v φ1 H1 R1 E1 d w1 => ?_)
  unfold gRevO at w1
  split at w1
  · rename_i xs hq
    obtain ⟨a, vs, rfl, h1, h2⟩ := asL_ok R1 d hq
    refine ⟨a, vs, rfl, h1, fun p hp => ?_⟩
    obtain ⟨r, e, g⟩ := dat_newO R1 (datL_rev h2) hp
    exact w1 _ _ _ r e g
  · exact w1.elim
end
end DL

/-! The data layer, part 116: x != y of an instance with its own __eq__. -/
namespace PySem.W
open PySem PySem.Calls PyProof.Rows
section
variable {prog : Program} {w : World} {A : Around} {E : Value → Shared → Prop} {s : Shared} {K : Frag} {x C L f : Addr} {h₀ : Heap} {m : Str → Option Value} {ox : Obj} {od : Option Obj} {name : Str} {b tb : Value}
theorem check_slot_K {M : Model} {id owner n : String} {rest : List Value} {Q : Unit → Shared → Prop} (X : K.In s.heap) (hk : builtinKind id = some .slot) (hs : splitId id = some (owner, n)) (ha : argsOk id ⟨.ref x :: rest, []⟩)
    (I : InstAt s.heap x ox C od) (hsub : subIn K (.ref C) (.type owner) = some true) (hq : Q () s) : wpAny M A (checkBuiltinCall id ⟨.ref x :: rest, []⟩) Q E s := by
  have step : ∀ Q' : Bool → Shared → Prop, Q' true s → wpAny M A (isInstance (.ref x) (.type owner)) Q' E s := fun Q' h' => by
    unfold isInstance
    exact wpAny_bind (I.type.here ((looks_subIn X hsub).here h'))
  simp only [checkBuiltinCall, hk, hs]
  refine wpAny_bind (step _ ?_)
  simp only [Bool.not_true, Bool.false_eq_true, if_false]
  cases hsig : Manifest.signature? id with
  | none => exact wpAny_pure hq
  | some sig =>
    simp only [argsOk, hsig] at ha
    have h2 : Bind.checkArgs id sig ⟨.ref x :: rest, []⟩ = pure () := ha
    show wpAny M A (Bind.checkArgs id sig ⟨.ref x :: rest, []⟩) Q E _
    rw [h2]; exact wpAny_pure hq
theorem objNe_K {Q : Fin → Shared → Prop} (hu : A.units < cLine) (X : K.In s.heap) (I : InstAt s.heap x ox C od) (hs : findIn K (.ref C) "__eq__" = some (some (.ref f))) (hf : isFn K (.ref f) = true)
    (h : wpAny (model prog w) A (call (.ref f) [.ref x, b]) (fun r s' => ∃ k, r = .bool k ∧ Q (.done (.ret (.bool (!k)))) s') E s) :
    wpAny (model prog w) A (Builtin.«object.__ne__» ⟨[.ref x, b], []⟩) Q E s := by
  unfold Builtin.«object.__ne__»
  refine wpAny_bind (wpAny_pure ?_)
  refine wpAny_bind (wpAny_cRoomFor hu ?_)
  refine wpAny_bind (ifBound_K X I hs hf (wpAny_mono h (fun r s' z => ?_) fun _ _ e => e))
  obtain ⟨k, rfl, q⟩ := z
  exact wpAny_bind (wpAny_pure (wpAny_pure q))
theorem ifBoundB_K {M : Model} {id : String} {T : String} {args : List Value} {Q : Option Value → Shared → Prop} (X : K.In s.heap) (I : InstAt s.heap x ox C od) (hs : findIn K (.ref C) name = some (some (.builtin id))) (Sl : Slot T name id)
    (h : wpAny M A (call (.builtin id) (.ref x :: args)) (fun v => Q (some v)) E s) : wpAny M A (callSpecialIfBound? (.ref x) name args) Q E s := by
  simp only [callSpecialIfBound?, bindSpecialIfBound?]
  refine wpAny_holding (wpAny_bind (wpAny_bind (wpAny_bind (I.type.here ((looks_findIn X hs).here ?_)))))
  simp only [Sl.bind]
  refine wpAny_bind (wpAny_askSetting (wpAny_ite ?_))
  have fin : wpAny M A (call (.builtin id) ([.ref x] ++ args) >>= fun v => pure (some v)) Q E s := wpAny_bind (wpAny_mono h (fun v s' h' => wpAny_pure h') fun _ _ h' => h')
  split
  · exact wpAny_bind (wpAny_pure (wpAny_pure fin))
  · exact wpAny_tryCatch (wpAny_bind (wpAny_pure (wpAny_pure fin)))
theorem ne_K {Q : Value → Shared → Prop} (hu : A.units + 1 < cLine) (F : Fr h₀ L s.heap m) (X₀ : K.In h₀) (I : InstAt s.heap x ox C od) (hb : Looks (model prog w) s.heap (typeOf b) tb) (hn : notFirst K C tb = true)
    (hne : findIn K (.ref C) "__ne__" = some (some (.builtin "object.__ne__"))) (hob : subIn K (.ref C) (.type "object") = some true)
    (hs : findIn K (.ref C) "__eq__" = some (some (.ref f))) (hf : isFn K (.ref f) = true)
    (h : wpAny (model prog w) A.in1 (call (.ref f) [.ref x, b]) (fun r s' => ∃ k, r = .bool k ∧ Q (.bool (!k)) s') E s) : wpAny (model prog w) A (richCompare .NotEq (.ref x) b) Q E s := by
  have X := X₀.keeps F.keep
  have FB := PySem.F.cmp_object
  have one : wpAny (model prog w) A (tryCompare (.ref x) (cmpInfo .NotEq).2.1 b) (fun r s' => ∃ v, r = some v ∧ Q v s') E s := by
    unfold tryCompare
    refine wpAny_bind (ifBoundB_K X I hne FB.ne (wpAny_call (codeAny_call_builtin FB.ne.plain PySem.F.cmpEntry_ne (check_slot_K X PySem.F.cmpKind_ne PySem.F.cmpSplit_ne (PySem.F.cmpArgs_ne _ _) I hob (objNe_K (A := A.in1) (by show A.units + 1 < cLine; omega) X I hs hf (wpAny_mono h (fun r s' z => ?_) fun _ _ e => e))))))
    obtain ⟨k, rfl, q⟩ := z
    exact ⟨k, rfl, wpAny_pure ⟨_, rfl, q⟩⟩
  unfold richCompare
  simp only [oneThing_ref]
  refine wpAny_holding (wpAny_bind (wpAny_cRoomFor (by omega) ?_))
  refine wpAny_bind (I.type.here (wpAny_bind (hb.here ?_)))
  split
  · rename_i q
    have e : subIn K tb (.ref C) = some false := by
      rcases Bool.or_eq_true_iff.mp hn with e | e
      · rw [beq_iff_eq.mp e] at q; simp at q
      · exact beq_iff_eq.mp e
    refine wpAny_bind ((looks_subIn X e).here ?_)
    simp only [Bool.false_eq_true, if_false]
    refine wpAny_bind (wpAny_mono one (fun r s' z => ?_) fun _ _ e => e)
    obtain ⟨v, rfl, hq⟩ := z
    exact wpAny_pure hq
  · refine wpAny_bind (wpAny_pure ?_)
    simp only [Bool.false_eq_true, if_false]
    refine wpAny_bind (wpAny_mono one (fun r s' z => ?_) fun _ _ e => e)
    obtain ⟨v, rfl, hq⟩ := z
    exact wpAny_pure hq
end
end PySem.W

/-! The data layer, part 117: == and != of instances of a class with its own __eq__, whatever it answers. -/
namespace DL
open PySem PySem.Spec PyProof.Rows L2
section
variable {X : Cx} {W : WX} {k k' : Nat} {f : Addr} {fd : FuncData} {ps ks : List Str} {sp : Sp}
/-- a call one unit deeper -/
theorem run_fnG1 {pins : List (Addr × Obj)} {σ : L2.St} {H : Hp} {s : Shared} {Q : VK} {us ws : List Value} {bs : List Value} {vs : List V} (F : FnG X.prog X.w X.K X.mg X.base k f fd ps sp) (C : Cn X W k') (hk : k + 1 ≤ k') (I : L2.Inv X pins σ H s)
    (hb : BindsTo s fd ⟨us, ks.zip ws⟩ (ps.zip bs)) (r : Vals vs bs) (h : sp vs H Q (WE W σ)) : wpAny (model X.prog X.w) X.A.in1 (call (.ref f) us (ks.zip ws)) (EP X pins σ Q) X.xe s := by
  have e0 := I.env0
  refine wpAny_call (codeAny_mono (F.run X.A.in1 X.stack s H _ bs vs Q (WE W σ) (C.room.mono hk).in1 C.gd ⟨e0.frames, e0.mod, e0.bs, e0.bsz, e0.funs, e0.frf, e0.hok, e0.bare⟩ hb r h) fun res s' hq => ?_)
  cases res with
  | error e => exact L2N.passAt C.tk σ pins H s e s' I hq
  | ok fl => cases fl with
    | ret u => exact I.after hq
    | _ => exact hq.elim
end
end DL

/-! The data layer, part 118: x == y and x != y by x's own __eq__, y any thing whose type is known, either answer. -/
namespace DL
open PySem PySem.Spec PyProof.Rows L2
structure OwB (K : PySem.W.Frag) (C : Addr) : Prop where
  isi : IsiC K C
  nf : ∀ T ∈ tysO, PySem.W.subIn K (.type T) (.ref C) = some false
  hn : PySem.W.findIn K (.ref C) "__ne__" = some (some (.builtin "object.__ne__"))
  ob : PySem.W.subIn K (.ref C) (.type "object") = some true
theorem owB_ok {K : PySem.W.Frag} {c : Str} (h : owB K c = true) : OwB K (He.ga K c) := by
  obtain ⟨h1, h2⟩ := He.ba h
  obtain ⟨h2, h3⟩ := He.ba h2
  obtain ⟨h3, h4⟩ := He.ba h3
  exact ⟨isiB_ok h1, fun T m => of_decide_eq_true (List.all_eq_true.mp h2 T m), He.eqO_ok h3, of_decide_eq_true h4⟩
section
variable {X : Cx} {W : WX} {k : Nat}
/-- b negated when n -/
def rOwnB (X : Cx) (sem : Sem') (C : Addr) (n : Bool) : V → V → Hp → VK → Prop := fun x y H Q => ∃ a dx fs t Z φ S ds, x = .ref a ∧ H a = some (.ins C dx fs) ∧ TyX X.K H y t ∧ PySem.W.notFirst X.K C t = true ∧ Rel X.K X.mg Z φ S H ∧ DatL X.K X.mg φ (gnd Z φ S H) ds [x, y] ∧
  ∀ E, Want X.K X.mg (RDat X.K X.mg) Z φ S H (sem ds S) (fun v H' => ∃ b, v = .bl b ∧ Q (.bl (b != n)) H') E
theorem op_ownB {n : Nat} {C f : Addr} {fd : FuncData} {ps : List Str} {sem : Sem'} (Cc : Cn X W k) (hm : Meth X.K C "__eq__" f) (F : FnG X.prog X.w X.K X.mg X.base n f fd ps (spD X.K X.mg ps.length sem)) (hps : ps.length = 2) (hb : Binds X.K fd ps []) (hle : n ≤ k := by decide) :
    OpR X (compareOp .Eq) (rOwnB X sem C false) := by
  intro pins s σ H x y v u Q I rx ry h
  obtain ⟨a, dx, fs, t, Z, φ, S, ds, rfl, ha, ty, nf, R, hd, q⟩ := h
  cases rx
  obtain ⟨mA, J, _⟩ := ins_get I.hok ha
  obtain ⟨od, J, _⟩ := J.look
  obtain ⟨P, kx, hp, _⟩ := kit_of I ry ty
  obtain ⟨m, hF⟩ := I.fr
  show wpAny (model X.prog X.w) X.A (richCompare .Eq (.ref a) u) (EP X pins σ Q) X.xe s
  refine PySem.W.cmp_K (op := .Eq) (tb := t) Cc.room.units0 hF I.ok.mod.kin J (kx.ty _ _ I.kIn hp) nf hm.at_ hm.fn ?_
  have hsp : spD X.K X.mg ps.length sem [.ref a, y] H (fun v H' => ∃ b, v = .bl b ∧ Q (.bl (b != false)) H') (WE W σ) := ⟨by rw [hps]; rfl, Z, φ, S, ds, R, hd, q _⟩
  have r2 : Vals [V.ref a, y] [Value.ref a, u] := .cons rfl (.cons ry .nil)
  have hB := hb s [.ref a, u] I.kIn (by simp [hps])
  have t := run_fnG (us := [.ref a, u]) (ws := []) (ks := []) (bs := [.ref a, u]) F Cc hle I (by simpa using hB) r2 hsp
  refine wpAny_mono t (fun r s' z => ?_) fun _ _ x => x
  obtain ⟨zv, H', I', rz, b, ez, ex⟩ := z
  subst ez
  obtain rfl : r = Value.bool b := rz
  exact ⟨_, H', I', by cases b <;> rfl, ex⟩
theorem op_ownBN {n : Nat} {C f : Addr} {fd : FuncData} {ps : List Str} {sem : Sem'} (Cc : Cn X W k) (hm : Meth X.K C "__eq__" f) (N : OwB X.K C) (F : FnG X.prog X.w X.K X.mg X.base n f fd ps (spD X.K X.mg ps.length sem)) (hps : ps.length = 2) (hb : Binds X.K fd ps []) (hle : n + 1 ≤ k := by decide) :
    OpR X (compareOp .NotEq) (rOwnB X sem C true) := by
  intro pins s σ H x y v u Q I rx ry h
  obtain ⟨a, dx, fs, t, Z, φ, S, ds, rfl, ha, ty, nf, R, hd, q⟩ := h
  cases rx
  obtain ⟨mA, J, _⟩ := ins_get I.hok ha
  obtain ⟨od, J, _⟩ := J.look
  obtain ⟨P, kx, hp, _⟩ := kit_of I ry ty
  obtain ⟨m, hF⟩ := I.fr
  show wpAny (model X.prog X.w) X.A (richCompare .NotEq (.ref a) u) (EP X pins σ Q) X.xe s
  refine PySem.W.ne_K (tb := t) (by have := Cc.room.units; omega) hF I.ok.mod.kin J (kx.ty _ _ I.kIn hp) nf N.hn N.ob hm.at_ hm.fn ?_
  have hsp : spD X.K X.mg ps.length sem [.ref a, y] H (fun v H' => ∃ b, v = .bl b ∧ Q (.bl (b != true)) H') (WE W σ) := ⟨by rw [hps]; rfl, Z, φ, S, ds, R, hd, q _⟩
  have r2 : Vals [V.ref a, y] [Value.ref a, u] := .cons rfl (.cons ry .nil)
  have hB := hb s [.ref a, u] I.kIn (by simp [hps])
  have t := run_fnG1 (us := [.ref a, u]) (ws := []) (ks := []) (bs := [.ref a, u]) F Cc hle I (by simpa using hB) r2 hsp
  refine wpAny_mono t (fun r s' z => ?_) fun _ _ x => x
  obtain ⟨zv, H', I', rz, b, ez, ex⟩ := z
  subst ez
  obtain rfl : r = Value.bool b := rz
  exact ⟨b, rfl, _, H', I', by cases b <;> rfl, ex⟩
/-- y is a thing of a known type, or an instance of c -/
def knO (c : Str) (S : Store) (y : D) : Bool := match asI S y with
  | some (c', _) => c' == c
  | none => match tyS S y with
    | some T => tysO.contains T
    | none => false
/-- the mirror: what c's own __eq__ says of x and y -/
def gOwnB (c : Str) (sem : Sem') (n : Bool) : G2 := fun x y S => match asI S x with
  | some (c1, _) => if c1 = c ∧ knO c S y = true then (match sem [x, y] S with
    | .ok (.bl b) S' => .ok (.bl (b != n)) S'
    | _ => .stuck) else .stuck
  | none => .stuck
theorem opd_ownB {c : Str} {C : Addr} {sem : Sem'} {n : Bool} (cl : ClsI X c C) (N : OwB X.K C) : OpD X (rOwnB X sem C n) (gOwnB c sem n) := fun Z φ S H x y u v Q E R dx dy w => by
  unfold gOwnB at w
  split at w
  · rename_i c1 fs hx
    obtain ⟨⟨rfl, kn⟩, w1⟩ := want_if w
    split at w1
    · rename_i b S' hs
      obtain ⟨a, A, ex, fvs, rfl, q0, q1, _⟩ := asI_ok R dx hx
      rw [cl.mg] at q0
      cases q0
      have ty : ∃ t, TyX X.K H v t ∧ PySem.W.notFirst X.K C t = true := by
        unfold knO at kn
        split at kn
        · rename_i c' gs hy
          obtain ⟨b', B, ey, gvs, rfl, r0, r1, _⟩ := asI_ok R dy hy
          obtain rfl := beq_iff_eq.mp kn
          rw [cl.mg] at r0
          cases r0
          exact ⟨_, .base (.ins r1 cl.cls N.isi.ha N.isi.hn N.isi.htk N.isi.hm), by simp [PySem.W.notFirst]⟩
        · split at kn
          · rename_i T hT
            exact ⟨_, tyS_ok R dy hT, by simp [PySem.W.notFirst, N.nf T (List.contains_iff_mem.mp kn)]⟩
          · cases kn
      obtain ⟨t, ty, nf⟩ := ty
      refine ⟨a, ex, fvs, t, Z, φ, S, _, rfl, q1, ty, nf, R, .cons dx (.cons dy DatL.nil), fun E' => ?_⟩
      rw [hs]
      intro z φ1 H1 R1 E1 dv
      unfold RDat Dat at dv
      exact ⟨b, dv, w1 _ φ1 H1 R1 E1 (dat_bl _)⟩
    · exact w1.elim
  · exact w.elim
end
end DL

/-! The data layer, part 119: isinstance(x, C), C an own class, x an instance of C or a thing of a built-in type. -/
namespace DL
open PySem PySem.Spec PyProof.Rows L2
structure IswC (K : PySem.W.Frag) (C : Addr) : Prop where
  isi : IsiC K C
  no : ∀ T ∈ tysO, PySem.W.kitOne K (.type T) (.ref C) = some false
theorem iswB_ok {K : PySem.W.Frag} {c : Str} (h : iswB K c = true) : IswC K (He.ga K c) := by
  obtain ⟨h1, h2⟩ := He.ba h
  exact ⟨isiB_ok h1, fun T m => of_decide_eq_true (List.all_eq_true.mp h2 T m)⟩
section
variable {X : Cx} {W : WX} {k : Nat} {e b : Expr} {pos p : Pos}
def gIsiW (c : Str) : GC := fun ds S => match ds with
  | [x, .cls c'] => if c' = c then (match asI S x with
    | some (c'', _) => if c'' = c then .ok (.bl true) S else .stuck
    | none => match tyS S x with
      | some T => if T ∈ tysO then .ok (.bl false) S else .stuck
      | none => .stuck) else .stuck
  | _ => .stuck
theorem cd_isiW {c : Str} {C : Addr} (cl : ClsI X c C) (i : IswC X.K C) : CallD X (rIsi X.K) (gIsiW c) := fun Z φ S H ds vs Q E R d w => by
  unfold gIsiW at w
  split at w
  · obtain ⟨v, u, rfl, h1, h2⟩ := datL2 d
    obtain ⟨rfl, w⟩ := want_if w
    unfold Dat at h2
    obtain ⟨A', rfl, q3⟩ := h2
    rw [cl.mg] at q3
    cases q3
    split at w
    · rename_i hi
      obtain ⟨rfl, w1⟩ := want_if w
      obtain ⟨a, A, dx, fvs, rfl, q0, q1, q2⟩ := asI_ok R h1 hi
      rw [cl.mg] at q0
      cases q0
      exact ⟨.ref a, .ref C, .ref C, .ref C, true, rfl, .own C, .base (.ins q1 cl.cls i.isi.ha i.isi.hn i.isi.htk i.isi.hm), by unfold PySem.W.kitOne; simp, w1.now R (dat_bl _)⟩
    · split at w
      · rename_i T hT
        obtain ⟨hm, w1⟩ := want_if w
        exact ⟨v, .ref C, .type T, .ref C, false, rfl, .own C, tyS_ok R h1 hT, i.no T hm, w1.now R (dat_bl _)⟩
      · exact w.elim
  · exact w.elim
theorem de_isiW {fa : FA} {c : Str} {C : Addr} (hg : Gl X "isinstance") (hm : X.mg "isinstance" = none) (cl : ClsI X c C) (i : IswC X.K C) (ha : DA X W [e, b] fa) (he : starEach [e, b] X.env = (false, eval e X.env) :: starEach [b] X.env := by rfl) (hpl : (backTo pos (starEach [b] X.env)).any (·.1) = false := by rfl) :
    DE X W (.Call (.Name "isinstance" p) [e, b] [] pos) (fCB (gIsiW c) fa) := de_callB call_isi (cd_isiW cl i) hg hm (by rfl) ha (by decide) (by decide) he hpl
end
end DL

namespace K03
open PySem PySem.Spec PyProof.Rows L2 DL
/-! ### _law_state -/
abbrev N_p_law_state : List Str := ["_law_script", "_law_k", "_law_cell_here", "_law_primes", "_law_found", "_law_j", "_law_prime", "_law_one"]
noncomputable def m_p_law_state : FS := (gSeq (gSet 2 (fIf (toB (fBin gNe (fVar 0) (fLst (fun _ S => .ok [] S)))) (fCB gAbs (fCons (fBin gIx (fVar 0) (fBin gMod (fVar 1) (fCB gLen (fCons (fVar 0) (fun _ S => .ok [] S))))) (fun _ S => .ok [] S))) (fC (.int 0)))) (gSeq (gIf (fAndT (toB (fBin gGe (fVar 2) (fBin gPow (fC (.int 10)) (fC (.int 18))))) (toB (fBin gLt (fVar 1) (fCB gLen (fCons (fVar 0) (fun _ S => .ok [] S)))))) (gRet (fLstO (fCons (fBin gSub (fVar 2) (fBin gPow (fC (.int 10)) (fC (.int 18)))) (fun _ S => .ok [] S)))) gNil) (gSeq (gSet 3 (fLst (fCons (fC (.int 2147483629)) (fCons (fC (.int 2147483587)) (fCons (fC (.int 2147483579)) (fCons (fC (.int 2147483563)) (fCons (fC (.int 2147483549)) (fCons (fC (.int 2147483543)) (fCons (fC (.int 2147483497)) (fCons (fC (.int 2147483489)) (fun _ S => .ok [] S))))))))))) (gSeq (gSet 3 (fBin gAdd (fVar 3) (fLst (fCons (fC (.int 2147483477)) (fCons (fC (.int 2147483423)) (fCons (fC (.int 2147483399)) (fCons (fC (.int 2147483353)) (fCons (fC (.int 2147483323)) (fCons (fC (.int 2147483269)) (fCons (fC (.int 2147483249)) (fun _ S => .ok [] S))))))))))) (gSeq (gSet 4 (fC (.int 0))) (gSeq (gFor (fEnum (fCons (fVar 3) (fun _ S => .ok [] S))) (mTup 2 (mCons (mName 5) (mCons (mName 6) (fun ds ρ _ => match ds with | [] => some ρ | _ => none)))) (gSeq (gSet 7 (fBin gMod (fBin gAdd (fBin gAdd (fBin gAdd (fVar 2) (fBin gMul (fC (.int 104729)) (fVar 1))) (fBin gMul (fC (.int 1299709)) (fVar 5))) (fC (.int 17))) (fVar 6))) (gSet 4 (fBin gAdd (fBin gMul (fVar 4) (fC (.int 2147483647))) (fBin gMod (fBin gMul (fVar 7) (fBin gAdd (fBin gAdd (fBin gMul (fVar 7) (fVar 7)) (fBin gMul (fC (.int 2)) (fVar 5))) (fC (.int 3)))) (fVar 6)))))) (gRet (fLstO (fCons (fVar 4) (fun _ S => .ok [] S))))))))))
noncomputable def S_p_law_state : Sem' := semOf 8 m_p_law_state
/-! ### _law_next -/
abbrev N_p_law_next : List Str := ["_law_state_here", "_law_many", "_law_found"]
noncomputable def m_p_law_next : FS := (gSeq (gSet 2 (fBin gMod (fBin gIx (fVar 0) (fC (.int 0))) (fVar 1))) (gSeq (gPut (fVar 0) (fC (.int 0)) (fBin gDiv (fBin gIx (fVar 0) (fC (.int 0))) (fVar 1))) (gRet (fVar 2))))
noncomputable def S_p_law_next : Sem' := semOf 3 m_p_law_next
/-! ### _law_value -/
abbrev N_p_law_value : List Str := ["_law_state_here", "_law_many", "_law_way", "_law_number", "_law_at"]
noncomputable def m_p_law_value : FS := (gSeq (gSet 2 (fCall S_p_law_next (fun ds es => pick [(0, 0), (0, 1)] ds es []) 2 0 2 (fCons (fVar 0) (fCons (fC (.int 6)) (fun _ S => .ok [] S))) (fun _ S => .ok [] S))) (gSeq (gSet 3 (fBin gIx (fLst (fCons (fBin gSub (fCall S_p_law_next (fun ds es => pick [(0, 0), (0, 1)] ds es []) 2 0 2 (fCons (fVar 0) (fCons (fC (.int 7)) (fun _ S => .ok [] S))) (fun _ S => .ok [] S)) (fC (.int 3))) (fCons (fBin gSub (fBin gPow (fC (.int 10)) (fC (.int 9))) (fCall S_p_law_next (fun ds es => pick [(0, 0), (0, 1)] ds es []) 2 0 2 (fCons (fVar 0) (fCons (fC (.int 2)) (fun _ S => .ok [] S))) (fun _ S => .ok [] S))) (fCons (fUn gNeg (fBin gPow (fC (.int 10)) (fC (.int 9)))) (fCons (fC (.int 0)) (fun _ S => .ok [] S)))))) (fCall S_p_law_next (fun ds es => pick [(0, 0), (0, 1)] ds es []) 2 0 2 (fCons (fVar 0) (fCons (fC (.int 4)) (fun _ S => .ok [] S))) (fun _ S => .ok [] S)))) (gSeq (gSet 4 (fCall S_p_law_next (fun ds es => pick [(0, 0), (0, 1)] ds es []) 2 0 2 (fCons (fVar 0) (fCons (fCB gMax (fCons (fC (.int 1)) (fCons (fVar 1) (fun _ S => .ok [] S)))) (fun _ S => .ok [] S))) (fun _ S => .ok [] S))) (gSeq (gIf (fAndT (toB (fBin gGt (fVar 2) (fC (.int 2)))) (toB (fBin gGt (fVar 1) (fC (.int 0))))) (gRet (fTup (fCons (fC (.str "at")) (fCons (fVar 4) (fun _ S => .ok [] S))))) gNil) (gRet (fIf (toB (fBin gEq (fVar 2) (fC (.int 0)))) (fC .non) (fVar 3)))))))
noncomputable def S_p_law_value : Sem' := semOf 5 m_p_law_value
/-! ### _law_cell -/
abbrev N_p_law_cell : List Str := ["_law_state_here", "_law_many", "_law_sort", "_law_target", "_law_size", "_law_k"]
noncomputable def m_p_law_cell : FS := (gSeq (gSet 2 (fBin gIx (fLst (fCons (fC (.str "cell")) (fCons (fC (.str "cell")) (fCons (fC (.str "last")) (fCons (fC (.str "tie")) (fun _ S => .ok [] S)))))) (fCall S_p_law_next (fun ds es => pick [(0, 0), (0, 1)] ds es []) 2 0 2 (fCons (fVar 0) (fCons (fC (.int 4)) (fun _ S => .ok [] S))) (fun _ S => .ok [] S)))) (gSeq (gIf (toB (fBin gEq (fVar 2) (fC (.str "tie")))) (gSeq (gSet 3 (fCall S_p_law_next (fun ds es => pick [(0, 0), (0, 1)] ds es []) 2 0 2 (fCons (fVar 0) (fCons (fBin gAdd (fVar 1) (fC (.int 1))) (fun _ S => .ok [] S))) (fun _ S => .ok [] S))) (gRet (fTup (fCons (fVar 2) (fCons (fIf (toB (fBin gLt (fVar 3) (fVar 1))) (fVar 3) (fC .non)) (fun _ S => .ok [] S)))))) gNil) (gSeq (gSet 4 (fBin gIx (fLst (fCons (fC (.int 1)) (fCons (fC (.int 2)) (fCons (fC (.int 3)) (fCons (fC (.int 0)) (fCons (fC (.int 2)) (fCons (fC (.int 4)) (fCons (fC (.int 6)) (fCons (fC (.int 5)) (fun _ S => .ok [] S)))))))))) (fCall S_p_law_next (fun ds es => pick [(0, 0), (0, 1)] ds es []) 2 0 2 (fCons (fVar 0) (fCons (fC (.int 8)) (fun _ S => .ok [] S))) (fun _ S => .ok [] S)))) (gRet (fTup (fCons (fVar 2) (fCons (fCB gTuple (fCons (fComp (fRng1 (fCons (fVar 4) (fun _ S => .ok [] S))) (mName 5) fYes (fCall S_p_law_value (fun ds es => pick [(0, 0), (0, 1)] ds es []) 2 0 2 (fCons (fVar 0) (fCons (fVar 1) (fun _ S => .ok [] S))) (fun _ S => .ok [] S)) ([("_law_k", 5)].map (·.2)) finL) (fun _ S => .ok [] S))) (fun _ S => .ok [] S))))))))
noncomputable def S_p_law_cell : Sem' := semOf 6 m_p_law_cell
/-! ### _law_web -/
abbrev N_p_law_web : List Str := ["_law_state_here", "_law_most", "_law_many", "_law_stuff", "_law_k"]
noncomputable def m_p_law_web : FS := (gSeq (gSet 2 (fBin gMod (fBin gAdd (fVar 1) (fCall S_p_law_next (fun ds es => pick [(0, 0), (0, 1)] ds es []) 2 0 2 (fCons (fVar 0) (fCons (fBin gAdd (fVar 1) (fC (.int 1))) (fun _ S => .ok [] S))) (fun _ S => .ok [] S))) (fBin gAdd (fVar 1) (fC (.int 1))))) (gSeq (gSet 3 (fComp (fRng1 (fCons (fVar 2) (fun _ S => .ok [] S))) (mName 4) fYes (fCall S_p_law_cell (fun ds es => pick [(0, 0), (0, 1)] ds es []) 2 0 2 (fCons (fVar 0) (fCons (fVar 2) (fun _ S => .ok [] S))) (fun _ S => .ok [] S)) ([("_law_k", 4)].map (·.2)) finO)) (gRet (fTup (fCons (fVar 3) (fCons (fComp (fRng1 (fCons (fBin gMod (fBin gAdd (fC (.int 2)) (fCall S_p_law_next (fun ds es => pick [(0, 0), (0, 1)] ds es []) 2 0 2 (fCons (fVar 0) (fCons (fC (.int 5)) (fun _ S => .ok [] S))) (fun _ S => .ok [] S))) (fC (.int 5))) (fun _ S => .ok [] S))) (mName 4) fYes (fCall S_p_law_value (fun ds es => pick [(0, 0), (0, 1)] ds es []) 2 0 2 (fCons (fVar 0) (fCons (fVar 2) (fun _ S => .ok [] S))) (fun _ S => .ok [] S)) ([("_law_k", 4)].map (·.2)) finO) (fun _ S => .ok [] S)))))))
noncomputable def S_p_law_web : Sem' := semOf 5 m_p_law_web
/-! ### _law_odd -/
abbrev N_p_law_odd : List Str := ["_law_state_here", "_law_some"]
noncomputable def m_p_law_odd : FS := (gSeq (gSet 1 (fLst (fCons (fC (.bl true)) (fCons (fC (.bl false)) (fCons (fC .non) (fCons (fC (.str "1")) (fCons (fC (.str "")) (fCons (fTup (fCons (fC (.int 1)) (fun _ S => .ok [] S))) (fCons (fLst (fCons (fC (.int 0)) (fun _ S => .ok [] S))) (fCons (fFrz fDict0) (fCons (fTup (fCons (fC (.str "at")) (fCons (fC (.int 0)) (fun _ S => .ok [] S)))) (fCons (fBin gAdd (fBin gPow (fC (.int 10)) (fC (.int 12))) (fCall S_p_law_next (fun ds es => pick [(0, 0), (0, 1)] ds es []) 2 0 2 (fCons (fVar 0) (fCons (fBin gPow (fC (.int 10)) (fC (.int 9))) (fun _ S => .ok [] S))) (fun _ S => .ok [] S))) (fCons (fUn gNeg (fC (.int 7))) (fCons (fC (.str "tie")) (fun _ S => .ok [] S))))))))))))))) (gRet (fBin gIx (fVar 1) (fCall S_p_law_next (fun ds es => pick [(0, 0), (0, 1)] ds es []) 2 0 2 (fCons (fVar 0) (fCons (fC (.int 12)) (fun _ S => .ok [] S))) (fun _ S => .ok [] S)))))
noncomputable def S_p_law_odd : Sem' := semOf 2 m_p_law_odd
/-! ### _law_other -/
abbrev N_p_law_other : List Str := ["_law_state_here", "_law_thing", "_law_way", "_law_odd_here", "_law_at", "_law_some"]
noncomputable def m_p_law_other : FS := (gSeq (gSet 2 (fCall S_p_law_next (fun ds es => pick [(0, 0), (0, 1)] ds es []) 2 0 2 (fCons (fVar 0) (fCons (fC (.int 8)) (fun _ S => .ok [] S))) (fun _ S => .ok [] S))) (gSeq (gSet 3 (fCall S_p_law_odd (fun ds es => pick [(0, 0)] ds es []) 1 0 1 (fCons (fVar 0) (fun _ S => .ok [] S)) (fun _ S => .ok [] S))) (gSeq (gIf (toB (fCB gIsi (fCons (fVar 1) (fCons (fTup (fCons (fC (.ty "list")) (fCons (fC (.ty "tuple")) (fun _ S => .ok [] S)))) (fun _ S => .ok [] S))))) (gSeq (gSet 4 (fCall S_p_law_next (fun ds es => pick [(0, 0), (0, 1)] ds es []) 2 0 2 (fCons (fVar 0) (fCons (fBin gAdd0 (fCB gLen (fCons (fVar 1) (fun _ S => .ok [] S))) (fC (.int 1))) (fun _ S => .ok [] S))) (fun _ S => .ok [] S))) (gSeq (gSet 5 (fLst (fCons (fVar 3) (fCons (fCB gList (fCons (fVar 1) (fun _ S => .ok [] S))) (fCons (fCB gTuple (fCons (fVar 1) (fun _ S => .ok [] S))) (fCons (fBin gAdd0 (fSlW (fVar 1) fPartN (fPart (fVar 4))) (fSlW (fVar 1) (fPart (fBin gAdd0 (fVar 4) (fC (.int 1)))) fPartN)) (fCons (fun ρ S => ((fVar 1) ρ S).bind gRevT) (fCons (fBin gAdd0 (fVar 1) (fVar 1)) (fun _ S => .ok [] S))))))))) (gRet (fBin gIx (fBin gAdd0 (fVar 5) (fLst (fCons (fBin gAdd0 (fVar 1) (fSlW (fVar 1) fPartN (fPart (fVar 4)))) (fCons (fBin gAdd0 (fBin gAdd0 (fSlW (fVar 1) fPartN (fPart (fVar 4))) (fSlW (fVar 1) (fPart (fVar 4)) (fPart (fBin gAdd0 (fVar 4) (fC (.int 1)))))) (fSlW (fVar 1) (fPart (fVar 4)) fPartN)) (fun _ S => .ok [] S))))) (fVar 2))))) gNil) (gSeq (gIf (toB (fCB gIsi (fCons (fVar 1) (fCons (fC (.ty "str")) (fun _ S => .ok [] S))))) (gRet (fBin gIx (fLst (fCons (fVar 3) (fCons (fBin gAdd0 (fVar 1) (fC (.str "s"))) (fCons (fC (.str "cell")) (fCons (fC (.str "last")) (fCons (fC (.str "tie")) (fCons (fC (.str "at")) (fCons (fBM "str" gUpper (fVar 1) (fun _ S => .ok [] S)) (fCons (fTup (fCons (fVar 1) (fun _ S => .ok [] S))) (fun _ S => .ok [] S)))))))))) (fVar 2))) gNil) (gSeq (gIf (toB (fCB gIsi (fCons (fVar 1) (fCons (fC (.ty "int")) (fun _ S => .ok [] S))))) (gRet (fBin gIx (fLst (fCons (fVar 3) (fCons (fBin gAdd0 (fVar 1) (fC (.int 1))) (fCons (fBin gSub (fVar 1) (fC (.int 1))) (fCons (fBin gAdd0 (fC (.int 7)) (fVar 1)) (fCons (fBin gAdd0 (fBin gPow (fC (.int 10)) (fC (.int 9))) (fC (.int 1))) (fCons (fBin gSub (fUn gNeg (fBin gPow (fC (.int 10)) (fC (.int 9)))) (fC (.int 1))) (fCons (fCB gStrI (fCons (fVar 1) (fun _ S => .ok [] S))) (fCons (fTup (fCons (fC (.str "at")) (fCons (fVar 1) (fun _ S => .ok [] S)))) (fun _ S => .ok [] S)))))))))) (fVar 2))) gNil) (gRet (fBin gIx (fLst (fCons (fVar 3) (fCons (fC (.int 0)) (fCons (fTup (fCons (fC (.str "at")) (fCons (fC (.int 0)) (fun _ S => .ok [] S)))) (fCons (fTup (fCons (fC (.str "at")) (fCons (fC (.int 7)) (fun _ S => .ok [] S)))) (fCons (fC (.str "cell")) (fCons (fTup (fun _ S => .ok [] S)) (fCons (fTup (fCons (fC (.str "cell")) (fCons (fTup (fun _ S => .ok [] S)) (fun _ S => .ok [] S)))) (fCons (fTup (fCons (fC (.str "tie")) (fCons (fC .non) (fun _ S => .ok [] S)))) (fun _ S => .ok [] S)))))))))) (fVar 2))))))))
noncomputable def S_p_law_other : Sem' := semOf 6 m_p_law_other
/-! ### _law_bent@r5 -/
abbrev N_p_law_bent_r5 : List Str := ["_law_state_here", "_law_thing", "_law_at", "_law_inner"]
noncomputable def m_p_law_bent_r5 : FS := (gSeq (gIf (fAndT (toB (fCB gIsi (fCons (fVar 1) (fCons (fTup (fCons (fC (.ty "list")) (fCons (fC (.ty "tuple")) (fun _ S => .ok [] S)))) (fun _ S => .ok [] S))))) (fAndT (toB (fBin gGt (fCB gLen (fCons (fVar 1) (fun _ S => .ok [] S))) (fC (.int 0)))) (toB (fBin gGt (fCall S_p_law_next (fun ds es => pick [(0, 0), (0, 1)] ds es []) 2 0 2 (fCons (fVar 0) (fCons (fC (.int 5)) (fun _ S => .ok [] S))) (fun _ S => .ok [] S)) (fC (.int 0)))))) (gSeq (gSet 2 (fCall S_p_law_next (fun ds es => pick [(0, 0), (0, 1)] ds es []) 2 0 2 (fCons (fVar 0) (fCons (fCB gLen (fCons (fVar 1) (fun _ S => .ok [] S))) (fun _ S => .ok [] S))) (fun _ S => .ok [] S))) (gSeq (gSet 3 (fun _ _ => .stuck)) (gRet (fBin gAdd0 (fBin gAdd0 (fSlW (fVar 1) fPartN (fPart (fVar 2))) (fIf (toB (fCB gIsi (fCons (fVar 1) (fCons (fC (.ty "list")) (fun _ S => .ok [] S))))) (fLst (fCons (fVar 3) (fun _ S => .ok [] S))) (fTup (fCons (fVar 3) (fun _ S => .ok [] S))))) (fSlW (fVar 1) (fPart (fBin gAdd0 (fVar 2) (fC (.int 1)))) fPartN))))) gNil) (gRet (fCall S_p_law_other (fun ds es => pick [(0, 0), (0, 1)] ds es []) 2 0 2 (fCons (fVar 0) (fCons (fVar 1) (fun _ S => .ok [] S))) (fun _ S => .ok [] S))))
noncomputable def S_p_law_bent_r5 : Sem' := semOf 4 m_p_law_bent_r5
/-! ### _law_bent@r4 -/
abbrev N_p_law_bent_r4 : List Str := ["_law_state_here", "_law_thing", "_law_at", "_law_inner"]
noncomputable def m_p_law_bent_r4 : FS := (gSeq (gIf (fAndT (toB (fCB gIsi (fCons (fVar 1) (fCons (fTup (fCons (fC (.ty "list")) (fCons (fC (.ty "tuple")) (fun _ S => .ok [] S)))) (fun _ S => .ok [] S))))) (fAndT (toB (fBin gGt (fCB gLen (fCons (fVar 1) (fun _ S => .ok [] S))) (fC (.int 0)))) (toB (fBin gGt (fCall S_p_law_next (fun ds es => pick [(0, 0), (0, 1)] ds es []) 2 0 2 (fCons (fVar 0) (fCons (fC (.int 5)) (fun _ S => .ok [] S))) (fun _ S => .ok [] S)) (fC (.int 0)))))) (gSeq (gSet 2 (fCall S_p_law_next (fun ds es => pick [(0, 0), (0, 1)] ds es []) 2 0 2 (fCons (fVar 0) (fCons (fCB gLen (fCons (fVar 1) (fun _ S => .ok [] S))) (fun _ S => .ok [] S))) (fun _ S => .ok [] S))) (gSeq (gSet 3 (fCall S_p_law_bent_r5 (fun ds es => pick [(0, 0), (0, 1)] ds es []) 2 0 2 (fCons (fVar 0) (fCons (fBin gIx (fVar 1) (fVar 2)) (fun _ S => .ok [] S))) (fun _ S => .ok [] S))) (gRet (fBin gAdd0 (fBin gAdd0 (fSlW (fVar 1) fPartN (fPart (fVar 2))) (fIf (toB (fCB gIsi (fCons (fVar 1) (fCons (fC (.ty "list")) (fun _ S => .ok [] S))))) (fLst (fCons (fVar 3) (fun _ S => .ok [] S))) (fTup (fCons (fVar 3) (fun _ S => .ok [] S))))) (fSlW (fVar 1) (fPart (fBin gAdd0 (fVar 2) (fC (.int 1)))) fPartN))))) gNil) (gRet (fCall S_p_law_other (fun ds es => pick [(0, 0), (0, 1)] ds es []) 2 0 2 (fCons (fVar 0) (fCons (fVar 1) (fun _ S => .ok [] S))) (fun _ S => .ok [] S))))
noncomputable def S_p_law_bent_r4 : Sem' := semOf 4 m_p_law_bent_r4
/-! ### _law_bent@r3 -/
abbrev N_p_law_bent_r3 : List Str := ["_law_state_here", "_law_thing", "_law_at", "_law_inner"]
noncomputable def m_p_law_bent_r3 : FS := (gSeq (gIf (fAndT (toB (fCB gIsi (fCons (fVar 1) (fCons (fTup (fCons (fC (.ty "list")) (fCons (fC (.ty "tuple")) (fun _ S => .ok [] S)))) (fun _ S => .ok [] S))))) (fAndT (toB (fBin gGt (fCB gLen (fCons (fVar 1) (fun _ S => .ok [] S))) (fC (.int 0)))) (toB (fBin gGt (fCall S_p_law_next (fun ds es => pick [(0, 0), (0, 1)] ds es []) 2 0 2 (fCons (fVar 0) (fCons (fC (.int 5)) (fun _ S => .ok [] S))) (fun _ S => .ok [] S)) (fC (.int 0)))))) (gSeq (gSet 2 (fCall S_p_law_next (fun ds es => pick [(0, 0), (0, 1)] ds es []) 2 0 2 (fCons (fVar 0) (fCons (fCB gLen (fCons (fVar 1) (fun _ S => .ok [] S))) (fun _ S => .ok [] S))) (fun _ S => .ok [] S))) (gSeq (gSet 3 (fCall S_p_law_bent_r4 (fun ds es => pick [(0, 0), (0, 1)] ds es []) 2 0 2 (fCons (fVar 0) (fCons (fBin gIx (fVar 1) (fVar 2)) (fun _ S => .ok [] S))) (fun _ S => .ok [] S))) (gRet (fBin gAdd0 (fBin gAdd0 (fSlW (fVar 1) fPartN (fPart (fVar 2))) (fIf (toB (fCB gIsi (fCons (fVar 1) (fCons (fC (.ty "list")) (fun _ S => .ok [] S))))) (fLst (fCons (fVar 3) (fun _ S => .ok [] S))) (fTup (fCons (fVar 3) (fun _ S => .ok [] S))))) (fSlW (fVar 1) (fPart (fBin gAdd0 (fVar 2) (fC (.int 1)))) fPartN))))) gNil) (gRet (fCall S_p_law_other (fun ds es => pick [(0, 0), (0, 1)] ds es []) 2 0 2 (fCons (fVar 0) (fCons (fVar 1) (fun _ S => .ok [] S))) (fun _ S => .ok [] S))))
noncomputable def S_p_law_bent_r3 : Sem' := semOf 4 m_p_law_bent_r3
/-! ### _law_bent@r2 -/
abbrev N_p_law_bent_r2 : List Str := ["_law_state_here", "_law_thing", "_law_at", "_law_inner"]
noncomputable def m_p_law_bent_r2 : FS := (gSeq (gIf (fAndT (toB (fCB gIsi (fCons (fVar 1) (fCons (fTup (fCons (fC (.ty "list")) (fCons (fC (.ty "tuple")) (fun _ S => .ok [] S)))) (fun _ S => .ok [] S))))) (fAndT (toB (fBin gGt (fCB gLen (fCons (fVar 1) (fun _ S => .ok [] S))) (fC (.int 0)))) (toB (fBin gGt (fCall S_p_law_next (fun ds es => pick [(0, 0), (0, 1)] ds es []) 2 0 2 (fCons (fVar 0) (fCons (fC (.int 5)) (fun _ S => .ok [] S))) (fun _ S => .ok [] S)) (fC (.int 0)))))) (gSeq (gSet 2 (fCall S_p_law_next (fun ds es => pick [(0, 0), (0, 1)] ds es []) 2 0 2 (fCons (fVar 0) (fCons (fCB gLen (fCons (fVar 1) (fun _ S => .ok [] S))) (fun _ S => .ok [] S))) (fun _ S => .ok [] S))) (gSeq (gSet 3 (fCall S_p_law_bent_r3 (fun ds es => pick [(0, 0), (0, 1)] ds es []) 2 0 2 (fCons (fVar 0) (fCons (fBin gIx (fVar 1) (fVar 2)) (fun _ S => .ok [] S))) (fun _ S => .ok [] S))) (gRet (fBin gAdd0 (fBin gAdd0 (fSlW (fVar 1) fPartN (fPart (fVar 2))) (fIf (toB (fCB gIsi (fCons (fVar 1) (fCons (fC (.ty "list")) (fun _ S => .ok [] S))))) (fLst (fCons (fVar 3) (fun _ S => .ok [] S))) (fTup (fCons (fVar 3) (fun _ S => .ok [] S))))) (fSlW (fVar 1) (fPart (fBin gAdd0 (fVar 2) (fC (.int 1)))) fPartN))))) gNil) (gRet (fCall S_p_law_other (fun ds es => pick [(0, 0), (0, 1)] ds es []) 2 0 2 (fCons (fVar 0) (fCons (fVar 1) (fun _ S => .ok [] S))) (fun _ S => .ok [] S))))
noncomputable def S_p_law_bent_r2 : Sem' := semOf 4 m_p_law_bent_r2
/-! ### _law_bent@r1 -/
abbrev N_p_law_bent_r1 : List Str := ["_law_state_here", "_law_thing", "_law_at", "_law_inner"]
noncomputable def m_p_law_bent_r1 : FS := (gSeq (gIf (fAndT (toB (fCB gIsi (fCons (fVar 1) (fCons (fTup (fCons (fC (.ty "list")) (fCons (fC (.ty "tuple")) (fun _ S => .ok [] S)))) (fun _ S => .ok [] S))))) (fAndT (toB (fBin gGt (fCB gLen (fCons (fVar 1) (fun _ S => .ok [] S))) (fC (.int 0)))) (toB (fBin gGt (fCall S_p_law_next (fun ds es => pick [(0, 0), (0, 1)] ds es []) 2 0 2 (fCons (fVar 0) (fCons (fC (.int 5)) (fun _ S => .ok [] S))) (fun _ S => .ok [] S)) (fC (.int 0)))))) (gSeq (gSet 2 (fCall S_p_law_next (fun ds es => pick [(0, 0), (0, 1)] ds es []) 2 0 2 (fCons (fVar 0) (fCons (fCB gLen (fCons (fVar 1) (fun _ S => .ok [] S))) (fun _ S => .ok [] S))) (fun _ S => .ok [] S))) (gSeq (gSet 3 (fCall S_p_law_bent_r2 (fun ds es => pick [(0, 0), (0, 1)] ds es []) 2 0 2 (fCons (fVar 0) (fCons (fBin gIx (fVar 1) (fVar 2)) (fun _ S => .ok [] S))) (fun _ S => .ok [] S))) (gRet (fBin gAdd0 (fBin gAdd0 (fSlW (fVar 1) fPartN (fPart (fVar 2))) (fIf (toB (fCB gIsi (fCons (fVar 1) (fCons (fC (.ty "list")) (fun _ S => .ok [] S))))) (fLst (fCons (fVar 3) (fun _ S => .ok [] S))) (fTup (fCons (fVar 3) (fun _ S => .ok [] S))))) (fSlW (fVar 1) (fPart (fBin gAdd0 (fVar 2) (fC (.int 1)))) fPartN))))) gNil) (gRet (fCall S_p_law_other (fun ds es => pick [(0, 0), (0, 1)] ds es []) 2 0 2 (fCons (fVar 0) (fCons (fVar 1) (fun _ S => .ok [] S))) (fun _ S => .ok [] S))))
noncomputable def S_p_law_bent_r1 : Sem' := semOf 4 m_p_law_bent_r1
/-! ### _law_odd@o -/
abbrev N_p_law_odd_o : List Str := ["_law_state_here", "_law_some"]
noncomputable def m_p_law_odd_o : FS := (gSeq (gSet 1 (fLst (fCons (fC (.bl true)) (fCons (fC (.bl false)) (fCons (fC .non) (fCons (fC (.str "1")) (fCons (fC (.str "")) (fCons (fTup (fCons (fC (.int 1)) (fun _ S => .ok [] S))) (fCons (fLstO (fCons (fC (.int 0)) (fun _ S => .ok [] S))) (fCons (fFrz fDict0) (fCons (fTup (fCons (fC (.str "at")) (fCons (fC (.int 0)) (fun _ S => .ok [] S)))) (fCons (fBin gAdd (fBin gPow (fC (.int 10)) (fC (.int 12))) (fCall S_p_law_next (fun ds es => pick [(0, 0), (0, 1)] ds es []) 2 0 2 (fCons (fVar 0) (fCons (fBin gPow (fC (.int 10)) (fC (.int 9))) (fun _ S => .ok [] S))) (fun _ S => .ok [] S))) (fCons (fUn gNeg (fC (.int 7))) (fCons (fC (.str "tie")) (fun _ S => .ok [] S))))))))))))))) (gRet (fBin gIx (fVar 1) (fCall S_p_law_next (fun ds es => pick [(0, 0), (0, 1)] ds es []) 2 0 2 (fCons (fVar 0) (fCons (fC (.int 12)) (fun _ S => .ok [] S))) (fun _ S => .ok [] S)))))
noncomputable def S_p_law_odd_o : Sem' := semOf 2 m_p_law_odd_o
/-! ### _law_other@o -/
abbrev N_p_law_other_o : List Str := ["_law_state_here", "_law_thing", "_law_way", "_law_odd_here", "_law_at", "_law_some"]
noncomputable def m_p_law_other_o : FS := (gSeq (gSet 2 (fCall S_p_law_next (fun ds es => pick [(0, 0), (0, 1)] ds es []) 2 0 2 (fCons (fVar 0) (fCons (fC (.int 8)) (fun _ S => .ok [] S))) (fun _ S => .ok [] S))) (gSeq (gSet 3 (fCall S_p_law_odd_o (fun ds es => pick [(0, 0)] ds es []) 1 0 1 (fCons (fVar 0) (fun _ S => .ok [] S)) (fun _ S => .ok [] S))) (gSeq (gIf (toB (fCB gIsi (fCons (fVar 1) (fCons (fTup (fCons (fC (.ty "list")) (fCons (fC (.ty "tuple")) (fun _ S => .ok [] S)))) (fun _ S => .ok [] S))))) (gSeq (gSet 4 (fCall S_p_law_next (fun ds es => pick [(0, 0), (0, 1)] ds es []) 2 0 2 (fCons (fVar 0) (fCons (fBin gAdd (fCB gLen (fCons (fVar 1) (fun _ S => .ok [] S))) (fC (.int 1))) (fun _ S => .ok [] S))) (fun _ S => .ok [] S))) (gSeq (gSet 5 (fLst (fCons (fVar 3) (fCons (fCB gListO (fCons (fVar 1) (fun _ S => .ok [] S))) (fCons (fCB gTuple (fCons (fVar 1) (fun _ S => .ok [] S))) (fCons (fBin gAddO (fSl (fVar 1) fPartN (fPart (fVar 4))) (fSl (fVar 1) (fPart (fBin gAdd (fVar 4) (fC (.int 1)))) fPartN)) (fCons (fun ρ S => ((fVar 1) ρ S).bind gRevO) (fCons (fBin gAddO (fVar 1) (fVar 1)) (fun _ S => .ok [] S))))))))) (gRet (fBin gIx (fBin gAdd (fVar 5) (fLst (fCons (fBin gAddO (fVar 1) (fSl (fVar 1) fPartN (fPart (fVar 4)))) (fCons (fBin gAddO (fBin gAdd (fSl (fVar 1) fPartN (fPart (fVar 4))) (fSl (fVar 1) (fPart (fVar 4)) (fPart (fBin gAdd (fVar 4) (fC (.int 1)))))) (fSl (fVar 1) (fPart (fVar 4)) fPartN)) (fun _ S => .ok [] S))))) (fVar 2))))) gNil) (gSeq (gIf (toB (fCB gIsi (fCons (fVar 1) (fCons (fC (.ty "str")) (fun _ S => .ok [] S))))) (gRet (fBin gIx (fLst (fCons (fVar 3) (fCons (fBin gAdd (fVar 1) (fC (.str "s"))) (fCons (fC (.str "cell")) (fCons (fC (.str "last")) (fCons (fC (.str "tie")) (fCons (fC (.str "at")) (fCons (fBM "str" gUpper (fVar 1) (fun _ S => .ok [] S)) (fCons (fTup (fCons (fVar 1) (fun _ S => .ok [] S))) (fun _ S => .ok [] S)))))))))) (fVar 2))) gNil) (gSeq (gIf (toB (fCB gIsi (fCons (fVar 1) (fCons (fC (.ty "int")) (fun _ S => .ok [] S))))) (gRet (fBin gIx (fLst (fCons (fVar 3) (fCons (fBin gAdd (fVar 1) (fC (.int 1))) (fCons (fBin gSub (fVar 1) (fC (.int 1))) (fCons (fBin gAdd (fC (.int 7)) (fVar 1)) (fCons (fBin gAdd (fBin gPow (fC (.int 10)) (fC (.int 9))) (fC (.int 1))) (fCons (fBin gSub (fUn gNeg (fBin gPow (fC (.int 10)) (fC (.int 9)))) (fC (.int 1))) (fCons (fCB gStrI (fCons (fVar 1) (fun _ S => .ok [] S))) (fCons (fTup (fCons (fC (.str "at")) (fCons (fVar 1) (fun _ S => .ok [] S)))) (fun _ S => .ok [] S)))))))))) (fVar 2))) gNil) (gRet (fBin gIx (fLst (fCons (fVar 3) (fCons (fC (.int 0)) (fCons (fTup (fCons (fC (.str "at")) (fCons (fC (.int 0)) (fun _ S => .ok [] S)))) (fCons (fTup (fCons (fC (.str "at")) (fCons (fC (.int 7)) (fun _ S => .ok [] S)))) (fCons (fC (.str "cell")) (fCons (fTup (fun _ S => .ok [] S)) (fCons (fTup (fCons (fC (.str "cell")) (fCons (fTup (fun _ S => .ok [] S)) (fun _ S => .ok [] S)))) (fCons (fTup (fCons (fC (.str "tie")) (fCons (fC .non) (fun _ S => .ok [] S)))) (fun _ S => .ok [] S)))))))))) (fVar 2))))))))
noncomputable def S_p_law_other_o : Sem' := semOf 6 m_p_law_other_o
/-! ### _law_bent -/
abbrev N_p_law_bent : List Str := ["_law_state_here", "_law_thing", "_law_at", "_law_inner"]
noncomputable def m_p_law_bent : FS := (gSeq (gIf (fAndT (toB (fCB gIsi (fCons (fVar 1) (fCons (fTup (fCons (fC (.ty "list")) (fCons (fC (.ty "tuple")) (fun _ S => .ok [] S)))) (fun _ S => .ok [] S))))) (fAndT (toB (fBin gGt (fCB gLen (fCons (fVar 1) (fun _ S => .ok [] S))) (fC (.int 0)))) (toB (fBin gGt (fCall S_p_law_next (fun ds es => pick [(0, 0), (0, 1)] ds es []) 2 0 2 (fCons (fVar 0) (fCons (fC (.int 5)) (fun _ S => .ok [] S))) (fun _ S => .ok [] S)) (fC (.int 0)))))) (gSeq (gSet 2 (fCall S_p_law_next (fun ds es => pick [(0, 0), (0, 1)] ds es []) 2 0 2 (fCons (fVar 0) (fCons (fCB gLen (fCons (fVar 1) (fun _ S => .ok [] S))) (fun _ S => .ok [] S))) (fun _ S => .ok [] S))) (gSeq (gSet 3 (fCall S_p_law_bent_r1 (fun ds es => pick [(0, 0), (0, 1)] ds es []) 2 0 2 (fCons (fVar 0) (fCons (fBin gIx (fVar 1) (fVar 2)) (fun _ S => .ok [] S))) (fun _ S => .ok [] S))) (gRet (fBin gAddO (fBin gAdd (fSl (fVar 1) fPartN (fPart (fVar 2))) (fIf (toB (fCB gIsi (fCons (fVar 1) (fCons (fC (.ty "list")) (fun _ S => .ok [] S))))) (fLst (fCons (fVar 3) (fun _ S => .ok [] S))) (fTup (fCons (fVar 3) (fun _ S => .ok [] S))))) (fSl (fVar 1) (fPart (fBin gAdd (fVar 2) (fC (.int 1)))) fPartN))))) gNil) (gRet (fCall S_p_law_other_o (fun ds es => pick [(0, 0), (0, 1)] ds es []) 2 0 2 (fCons (fVar 0) (fCons (fVar 1) (fun _ S => .ok [] S))) (fun _ S => .ok [] S))))
noncomputable def S_p_law_bent : Sem' := semOf 4 m_p_law_bent
/-! ### _law_whole -/
abbrev N_p_law_whole : List Str := ["_law_thing", "_law_low", "_law_most"]
noncomputable def m_p_law_whole : FS := (gRet (fAndV (fCB gIsi (fCons (fVar 0) (fCons (fC (.ty "int")) (fun _ S => .ok [] S)))) (fAndV (fNotV (fCB gIsi (fCons (fVar 0) (fCons (fC (.ty "bool")) (fun _ S => .ok [] S))))) (fChain gLe gLe (fVar 1) (fVar 0) (fVar 2)))))
noncomputable def S_p_law_whole : Sem' := semOf 3 m_p_law_whole
/-! ### _law_is_value -/
abbrev N_p_law_is_value : List Str := ["_law_thing", "_law_many"]
noncomputable def m_p_law_is_value : FS := (gSeq (gIf (toB (fCB gIsi (fCons (fVar 0) (fCons (fC (.ty "tuple")) (fun _ S => .ok [] S))))) (gRet (fAndV (fBin gEq (fCB gLen (fCons (fVar 0) (fun _ S => .ok [] S))) (fC (.int 2))) (fAndV (fCB gIsi (fCons (fBin gIx (fVar 0) (fC (.int 0))) (fCons (fC (.ty "str")) (fun _ S => .ok [] S)))) (fAndV (fBin gEq (fBin gIx (fVar 0) (fC (.int 0))) (fC (.str "at"))) (fCall (callSub S_p_law_whole) (fun ds es => pick [(0, 0), (0, 1), (0, 2)] ds es []) 3 0 3 (fCons (fBin gIx (fVar 0) (fC (.int 1))) (fCons (fC (.int 0)) (fCons (fBin gSub (fVar 1) (fC (.int 1))) (fun _ S => .ok [] S)))) (fun _ S => .ok [] S)))))) gNil) (gRet (fOrV (fBin gIs (fVar 0) (fC .non)) (fCall (callSub S_p_law_whole) (fun ds es => pick [(0, 0), (0, 1), (0, 2)] ds es []) 3 0 3 (fCons (fVar 0) (fCons (fUn gNeg (fBin gPow (fC (.int 10)) (fC (.int 9)))) (fCons (fBin gPow (fC (.int 10)) (fC (.int 9))) (fun _ S => .ok [] S)))) (fun _ S => .ok [] S)))))
noncomputable def S_p_law_is_value : Sem' := semOf 2 m_p_law_is_value
/-! ### _law_is_cell -/
abbrev N_p_law_is_cell : List Str := ["_law_thing", "_law_many", "_law_sort", "_law_inner", "_law_one"]
noncomputable def m_p_law_is_cell : FS := (gSeq (gIf (fOrT (fNotT (toB (fCB gIsi (fCons (fVar 0) (fCons (fC (.ty "tuple")) (fun _ S => .ok [] S)))))) (fOrT (toB (fBin gNe (fCB gLen (fCons (fVar 0) (fun _ S => .ok [] S))) (fC (.int 2)))) (fNotT (toB (fCB gIsi (fCons (fBin gIx (fVar 0) (fC (.int 0))) (fCons (fC (.ty "str")) (fun _ S => .ok [] S)))))))) (gRet (fC (.bl false))) gNil) (gSeq (gAsg (mTup 2 (mCons (mName 2) (mCons (mName 3) (fun ds ρ _ => match ds with | [] => some ρ | _ => none)))) (fVar 0)) (gSeq (gIf (toB (fBin gEq (fVar 2) (fC (.str "tie")))) (gRet (fOrV (fBin gIs (fVar 3) (fC .non)) (fCall (callSub S_p_law_whole) (fun ds es => pick [(0, 0), (0, 1), (0, 2)] ds es []) 3 0 3 (fCons (fVar 3) (fCons (fC (.int 0)) (fCons (fBin gSub (fVar 1) (fC (.int 1))) (fun _ S => .ok [] S)))) (fun _ S => .ok [] S)))) gNil) (gSeq (gIf (fOrT (fAndT (toB (fBin gNe (fVar 2) (fC (.str "cell")))) (toB (fBin gNe (fVar 2) (fC (.str "last"))))) (fOrT (fNotT (toB (fCB gIsi (fCons (fVar 3) (fCons (fC (.ty "tuple")) (fun _ S => .ok [] S)))))) (toB (fBin gGt (fCB gLen (fCons (fVar 3) (fun _ S => .ok [] S))) (fC (.int 6)))))) (gRet (fC (.bl false))) gNil) (gRet (fCB (gAllAny true) (fCons (fComp (fSeq (fVar 3)) (mName 4) fYes (fCall (callSub S_p_law_is_value) (fun ds es => pick [(0, 0), (0, 1)] ds es []) 2 0 2 (fCons (fVar 4) (fCons (fVar 1) (fun _ S => .ok [] S))) (fun _ S => .ok [] S)) ([("_law_one", 4)].map (·.2)) finL) (fun _ S => .ok [] S))))))))
noncomputable def S_p_law_is_cell : Sem' := semOf 5 m_p_law_is_cell
/-! ### _law_is_web -/
abbrev N_p_law_is_web : List Str := ["_law_stuff", "_law_holds", "_law_one"]
noncomputable def m_p_law_is_web : FS := (gSeq (gIf (fOrT (fNotT (toB (fCB gIsi (fCons (fVar 0) (fCons (fTup (fCons (fC (.ty "list")) (fCons (fC (.ty "tuple")) (fun _ S => .ok [] S)))) (fun _ S => .ok [] S)))))) (fNotT (toB (fCB gIsi (fCons (fVar 1) (fCons (fTup (fCons (fC (.ty "list")) (fCons (fC (.ty "tuple")) (fun _ S => .ok [] S)))) (fun _ S => .ok [] S))))))) (gRet (fC (.bl false))) gNil) (gSeq (gIf (fNotT (toB (fCB (gAllAny true) (fCons (fComp (fSeq (fVar 0)) (mName 2) fYes (fCall (callSub S_p_law_is_cell) (fun ds es => pick [(0, 0), (0, 1)] ds es []) 2 0 2 (fCons (fVar 2) (fCons (fCB gLen (fCons (fVar 0) (fun _ S => .ok [] S))) (fun _ S => .ok [] S))) (fun _ S => .ok [] S)) ([("_law_one", 2)].map (·.2)) finL) (fun _ S => .ok [] S))))) (gRet (fC (.bl false))) gNil) (gRet (fCB (gAllAny true) (fCons (fComp (fSeq (fVar 1)) (mName 2) fYes (fCall (callSub S_p_law_is_value) (fun ds es => pick [(0, 0), (0, 1)] ds es []) 2 0 2 (fCons (fVar 2) (fCons (fCB gLen (fCons (fVar 0) (fun _ S => .ok [] S))) (fun _ S => .ok [] S))) (fun _ S => .ok [] S)) ([("_law_one", 2)].map (·.2)) finL) (fun _ S => .ok [] S))))))
noncomputable def S_p_law_is_web : Sem' := semOf 3 m_p_law_is_web
/-! ### _law_classes -/
abbrev N_p_law_classes : List Str := ["_law_error", "_law_marks", "_law_name", "_law_there"]
noncomputable def m_p_law_classes : FS := (gSeq (gSet 1 (fLst (fCons (fTup (fCons (fC (.str "BadWeb")) (fCons (fCB (gIsX tb_BadWeb (.cls "BadWeb")) (fCons (fVar 0) (fCons (fC (.cls "BadWeb")) (fun _ S => .ok [] S)))) (fun _ S => .ok [] S)))) (fCons (fTup (fCons (fC (.str "BadGround")) (fCons (fCB (gIsX tb_BadGround (.cls "BadGround")) (fCons (fVar 0) (fCons (fC (.cls "BadGround")) (fun _ S => .ok [] S)))) (fun _ S => .ok [] S)))) (fCons (fTup (fCons (fC (.str "BadNumber")) (fCons (fCB (gIsX tb_BadNumber (.cls "BadNumber")) (fCons (fVar 0) (fCons (fC (.cls "BadNumber")) (fun _ S => .ok [] S)))) (fun _ S => .ok [] S)))) (fCons (fTup (fCons (fC (.str "NoPeg")) (fCons (fCB (gIsX tb_NoPeg (.cls "NoPeg")) (fCons (fVar 0) (fCons (fC (.cls "NoPeg")) (fun _ S => .ok [] S)))) (fun _ S => .ok [] S)))) (fCons (fTup (fCons (fC (.str "NoCell")) (fCons (fCB (gIsX tb_NoCell (.cls "NoCell")) (fCons (fVar 0) (fCons (fC (.cls "NoCell")) (fun _ S => .ok [] S)))) (fun _ S => .ok [] S)))) (fCons (fTup (fCons (fC (.str "NoField")) (fCons (fCB (gIsX tb_NoField (.cls "NoField")) (fCons (fVar 0) (fCons (fC (.cls "NoField")) (fun _ S => .ok [] S)))) (fun _ S => .ok [] S)))) (fCons (fTup (fCons (fC (.str "NoHand")) (fCons (fCB (gIsX tb_NoHand (.cls "NoHand")) (fCons (fVar 0) (fCons (fC (.cls "NoHand")) (fun _ S => .ok [] S)))) (fun _ S => .ok [] S)))) (fCons (fTup (fCons (fC (.str "NoTurn")) (fCons (fCB (gIsX tb_NoTurn (.cls "NoTurn")) (fCons (fVar 0) (fCons (fC (.cls "NoTurn")) (fun _ S => .ok [] S)))) (fun _ S => .ok [] S)))) (fCons (fTup (fCons (fC (.str "NoRoom")) (fCons (fCB (gIsX tb_NoRoom (.cls "NoRoom")) (fCons (fVar 0) (fCons (fC (.cls "NoRoom")) (fun _ S => .ok [] S)))) (fun _ S => .ok [] S)))) (fCons (fTup (fCons (fC (.str "NoDeed")) (fCons (fCB (gIsX tb_NoDeed (.cls "NoDeed")) (fCons (fVar 0) (fCons (fC (.cls "NoDeed")) (fun _ S => .ok [] S)))) (fun _ S => .ok [] S)))) (fCons (fTup (fCons (fC (.str "TooMany")) (fCons (fCB (gIsX tb_TooMany (.cls "TooMany")) (fCons (fVar 0) (fCons (fC (.cls "TooMany")) (fun _ S => .ok [] S)))) (fun _ S => .ok [] S)))) (fCons (fTup (fCons (fC (.str "BadProgram")) (fCons (fCB (gIsX tb_BadProgram (.cls "BadProgram")) (fCons (fVar 0) (fCons (fC (.cls "BadProgram")) (fun _ S => .ok [] S)))) (fun _ S => .ok [] S)))) (fCons (fTup (fCons (fC (.str "BadWeaving")) (fCons (fCB (gIsX tb_BadWeaving (.cls "BadWeaving")) (fCons (fVar 0) (fCons (fC (.cls "BadWeaving")) (fun _ S => .ok [] S)))) (fun _ S => .ok [] S)))) (fCons (fTup (fCons (fC (.str "BadPicture")) (fCons (fCB (gIsX tb_BadPicture (.cls "BadPicture")) (fCons (fVar 0) (fCons (fC (.cls "BadPicture")) (fun _ S => .ok [] S)))) (fun _ S => .ok [] S)))) (fCons (fTup (fCons (fC (.str "BadText")) (fCons (fCB (gIsX tb_BadText (.cls "BadText")) (fCons (fVar 0) (fCons (fC (.cls "BadText")) (fun _ S => .ok [] S)))) (fun _ S => .ok [] S)))) (fCons (fTup (fCons (fC (.str "BadName")) (fCons (fCB (gIsX tb_BadName (.cls "BadName")) (fCons (fVar 0) (fCons (fC (.cls "BadName")) (fun _ S => .ok [] S)))) (fun _ S => .ok [] S)))) (fCons (fTup (fCons (fC (.str "NoName")) (fCons (fCB (gIsX tb_NoName (.cls "NoName")) (fCons (fVar 0) (fCons (fC (.cls "NoName")) (fun _ S => .ok [] S)))) (fun _ S => .ok [] S)))) (fCons (fTup (fCons (fC (.str "Unlawful")) (fCons (fCB (gIsX tb_Unlawful (.cls "Unlawful")) (fCons (fVar 0) (fCons (fC (.cls "Unlawful")) (fun _ S => .ok [] S)))) (fun _ S => .ok [] S)))) (fun _ S => .ok [] S))))))))))))))))))))) (gRet (fIf (toB (fCB (gIsX tb_ValueError (.ty "ValueError")) (fCons (fVar 0) (fCons (fC (.ty "ValueError")) (fun _ S => .ok [] S))))) (fBM "str" gJoin (fC (.str " ")) (fCons (fComp (fSeq (fVar 1)) (mTup 2 (mCons (mName 2) (mCons (mName 3) (fun ds ρ _ => match ds with | [] => some ρ | _ => none)))) (toB (fVar 3)) (fVar 2) ([("_law_name", 2), ("_law_there", 3)].map (·.2)) finL) (fun _ S => .ok [] S))) (fC (.str "none")))))
noncomputable def S_p_law_classes : Sem' := semOf 4 m_p_law_classes
/-! ### _law_told -/
abbrev N_p_law_told : List Str := ["_law_work", "_law_found", "_law_error", "e"]
noncomputable def m_p_law_told : (Store → Res D) → FS := fun th => (gSeq (gSet 1 (fC .non)) (gSeq (gSet 2 (fC .non)) (gSeq (gTry (gActSet 1 th) (⟨tb_YardError, some 3, (gSet 2 (fVar 3))⟩ :: [])) (gRet (fIf (toB (fBin gIs (fVar 2) (fC .non))) (fTup (fCons (fC (.str "told")) (fCons (fVar 1) (fun _ S => .ok [] S)))) (fTup (fCons (fC (.str "refused")) (fCons (fCall (callSub S_p_law_classes) (fun ds es => pick [(0, 0)] ds es []) 1 0 1 (fCons (fVar 2) (fun _ S => .ok [] S)) (fun _ S => .ok [] S)) (fun _ S => .ok [] S)))))))))
/-! ### is_row -/
abbrev N_is_row : List Str := ["thing"]
noncomputable def m_is_row : FS := (gRet (fCB gIsi (fCons (fVar 0) (fCons (fTup (fCons (fC (.ty "list")) (fCons (fC (.ty "tuple")) (fun _ S => .ok [] S)))) (fun _ S => .ok [] S)))))
noncomputable def S_is_row : Sem' := semOf 1 m_is_row
/-! ### is_whole -/
abbrev N_is_whole : List Str := ["thing", "least", "most"]
noncomputable def m_is_whole : FS := (gRet (fAndV (fCB gIsi (fCons (fVar 0) (fCons (fC (.ty "int")) (fun _ S => .ok [] S)))) (fAndV (fNotV (fCB gIsi (fCons (fVar 0) (fCons (fC (.ty "bool")) (fun _ S => .ok [] S))))) (fChain gLe gLe (fVar 1) (fVar 0) (fVar 2)))))
noncomputable def S_is_whole : Sem' := semOf 3 m_is_whole
/-! ### is_number -/
abbrev N_is_number : List Str := ["thing"]
noncomputable def m_is_number : FS := (gRet (fCall (callSub S_is_whole) (fun ds es => pick [(0, 0), (0, 1), (0, 2)] ds es []) 3 0 3 (fCons (fVar 0) (fCons (fUn gNeg (fC (.int (1000000000)))) (fCons (fC (.int (1000000000))) (fun _ S => .ok [] S)))) (fun _ S => .ok [] S)))
noncomputable def S_is_number : Sem' := semOf 1 m_is_number
/-! ### is_at -/
abbrev N_is_at : List Str := ["thing", "least"]
noncomputable def m_is_at : FS := (gSeq (gIf (fOrT (fNotT (toB (fCB gIsi (fCons (fVar 0) (fCons (fC (.ty "tuple")) (fun _ S => .ok [] S)))))) (fOrT (toB (fBin gNe (fCB gLen (fCons (fVar 0) (fun _ S => .ok [] S))) (fC (.int 2)))) (fOrT (fNotT (toB (fCB gIsi (fCons (fBin gIx (fVar 0) (fC (.int 0))) (fCons (fC (.ty "str")) (fun _ S => .ok [] S)))))) (toB (fBin gNe (fBin gIx (fVar 0) (fC (.int 0))) (fC (.str "at"))))))) (gRet (fC (.bl false))) gNil) (gRet (fAndV (fCB gIsi (fCons (fBin gIx (fVar 0) (fC (.int 1))) (fCons (fC (.ty "int")) (fun _ S => .ok [] S)))) (fAndV (fNotV (fCB gIsi (fCons (fBin gIx (fVar 0) (fC (.int 1))) (fCons (fC (.ty "bool")) (fun _ S => .ok [] S))))) (fBin gGe (fBin gIx (fVar 0) (fC (.int 1))) (fVar 1))))))
noncomputable def S_is_at : Sem' := semOf 2 m_is_at
/-! ### is_value -/
abbrev N_is_value : List Str := ["thing", "cells"]
noncomputable def m_is_value : FS := (gRet (fOrV (fBin gIs (fVar 0) (fC .non)) (fOrV (fCall (callSub S_is_number) (fun ds es => pick [(0, 0)] ds es []) 1 0 1 (fCons (fVar 0) (fun _ S => .ok [] S)) (fun _ S => .ok [] S)) (fAndV (fCall (callSub S_is_at) (fun ds es => pick [(0, 0), (0, 1)] ds es []) 2 0 2 (fCons (fVar 0) (fCons (fC (.int 0)) (fun _ S => .ok [] S))) (fun _ S => .ok [] S)) (fBin gLt (fBin gIx (fVar 0) (fC (.int 1))) (fVar 1))))))
noncomputable def S_is_value : Sem' := semOf 2 m_is_value
/-! ### is_cell -/
abbrev N_is_cell : List Str := ["thing", "cells", "one"]
noncomputable def m_is_cell : FS := (gSeq (gIf (fOrT (fNotT (toB (fCB gIsi (fCons (fVar 0) (fCons (fC (.ty "tuple")) (fun _ S => .ok [] S)))))) (fOrT (toB (fBin gNe (fCB gLen (fCons (fVar 0) (fun _ S => .ok [] S))) (fC (.int 2)))) (fNotT (toB (fCB gIsi (fCons (fBin gIx (fVar 0) (fC (.int 0))) (fCons (fC (.ty "str")) (fun _ S => .ok [] S)))))))) (gRet (fC (.bl false))) gNil) (gSeq (gIf (toB (fBin gEq (fBin gIx (fVar 0) (fC (.int 0))) (fC (.str "tie")))) (gRet (fOrV (fBin gIs (fBin gIx (fVar 0) (fC (.int 1))) (fC .non)) (fCall (callSub S_is_whole) (fun ds es => pick [(0, 0), (0, 1), (0, 2)] ds es []) 3 0 3 (fCons (fBin gIx (fVar 0) (fC (.int 1))) (fCons (fC (.int 0)) (fCons (fBin gSub (fVar 1) (fC (.int 1))) (fun _ S => .ok [] S)))) (fun _ S => .ok [] S)))) gNil) (gSeq (gIf (fOrT (toB (fBin gNotIn (fBin gIx (fVar 0) (fC (.int 0))) (fTup (fCons (fC (.str "cell")) (fCons (fC (.str "last")) (fun _ S => .ok [] S)))))) (fOrT (fNotT (toB (fCB gIsi (fCons (fBin gIx (fVar 0) (fC (.int 1))) (fCons (fC (.ty "tuple")) (fun _ S => .ok [] S)))))) (toB (fBin gGt (fCB gLen (fCons (fBin gIx (fVar 0) (fC (.int 1))) (fun _ S => .ok [] S))) (fC (.int (6))))))) (gRet (fC (.bl false))) gNil) (gRet (fCB (gAllAny true) (fCons (fComp (fSeq (fBin gIx (fVar 0) (fC (.int 1)))) (mName 2) fYes (fCall (callSub S_is_value) (fun ds es => pick [(0, 0), (1, 0)] ds es []) 1 1 2 (fCons (fVar 2) (fun _ S => .ok [] S)) (fCons (fVar 1) (fun _ S => .ok [] S))) ([("one", 2)].map (·.2)) finL) (fun _ S => .ok [] S)))))))
noncomputable def S_is_cell : Sem' := semOf 3 m_is_cell
/-! ### is_web -/
abbrev N_is_web : List Str := ["cells", "pegs", "many", "one"]
noncomputable def m_is_web : FS := (gSeq (gIf (fOrT (fNotT (toB (fCall S_is_row (fun ds es => pick [(0, 0)] ds es []) 1 0 1 (fCons (fVar 0) (fun _ S => .ok [] S)) (fun _ S => .ok [] S)))) (fNotT (toB (fCall S_is_row (fun ds es => pick [(0, 0)] ds es []) 1 0 1 (fCons (fVar 1) (fun _ S => .ok [] S)) (fun _ S => .ok [] S))))) (gRet (fC (.bl false))) gNil) (gSeq (gSet 2 (fCB gLen (fCons (fVar 0) (fun _ S => .ok [] S)))) (gRet (fAndV (fCB (gAllAny true) (fCons (fComp (fSeq (fVar 0)) (mName 3) fYes (fCall (callSub S_is_cell) (fun ds es => pick [(0, 0), (1, 0)] ds es []) 1 1 2 (fCons (fVar 3) (fun _ S => .ok [] S)) (fCons (fVar 2) (fun _ S => .ok [] S))) ([("one", 3)].map (·.2)) finL) (fun _ S => .ok [] S))) (fCB (gAllAny true) (fCons (fComp (fSeq (fVar 1)) (mName 3) fYes (fCall (callSub S_is_value) (fun ds es => pick [(0, 0), (1, 0)] ds es []) 1 1 2 (fCons (fVar 3) (fun _ S => .ok [] S)) (fCons (fVar 2) (fun _ S => .ok [] S))) ([("one", 3)].map (·.2)) finL) (fun _ S => .ok [] S)))))))
noncomputable def S_is_web : Sem' := semOf 4 m_is_web
/-! ### Web.init -/
abbrev N_Web_init : List Str := ["self", "cells", "pegs"]
noncomputable def m_Web_init : FS := (gSeq (gIf (fNotT (toB (fCall S_is_web (fun ds es => pick [(0, 0), (0, 1)] ds es []) 2 0 2 (fCons (fVar 1) (fCons (fVar 2) (fun _ S => .ok [] S))) (fun _ S => .ok [] S)))) (fun ρ S => .ex "BadWeb" [] ρ S) gNil) (gSeq (gFld ["Web"] "all_cells" (fVar 0) (fCB gList (fCons (fVar 1) (fun _ S => .ok [] S)))) (gFld ["Web"] "all_pegs" (fVar 0) (fCB gList (fCons (fVar 2) (fun _ S => .ok [] S))))))
noncomputable def S_Web_init : Sem' := semOf 3 m_Web_init
/-! ### _law_near -/
abbrev N_p_law_near : List Str := ["_law_state_here", "_law_stuff", "_law_holds", "_law_way", "_law_value_here", "_law_other_here", "_law_at", "_law_peg", "_law_second", "_law_turned"]
noncomputable def m_p_law_near : FS := (gSeq (gSet 3 (fCall S_p_law_next (fun ds es => pick [(0, 0), (0, 1)] ds es []) 2 0 2 (fCons (fVar 0) (fCons (fC (.int 8)) (fun _ S => .ok [] S))) (fun _ S => .ok [] S))) (gSeq (gSet 4 (fCall S_p_law_value (fun ds es => pick [(0, 0), (0, 1)] ds es []) 2 0 2 (fCons (fVar 0) (fCons (fCB gLen (fCons (fVar 1) (fun _ S => .ok [] S))) (fun _ S => .ok [] S))) (fun _ S => .ok [] S))) (gSeq (gSet 5 (fCall S_p_law_cell (fun ds es => pick [(0, 0), (0, 1)] ds es []) 2 0 2 (fCons (fVar 0) (fCons (fCB gLen (fCons (fVar 1) (fun _ S => .ok [] S))) (fun _ S => .ok [] S))) (fun _ S => .ok [] S))) (gSeq (gSet 6 (fCall S_p_law_next (fun ds es => pick [(0, 0), (0, 1)] ds es []) 2 0 2 (fCons (fVar 0) (fCons (fCB gMax (fCons (fC (.int 1)) (fCons (fCB gLen (fCons (fVar 1) (fun _ S => .ok [] S))) (fun _ S => .ok [] S)))) (fun _ S => .ok [] S))) (fun _ S => .ok [] S))) (gSeq (gSet 7 (fCall S_p_law_next (fun ds es => pick [(0, 0), (0, 1)] ds es []) 2 0 2 (fCons (fVar 0) (fCons (fCB gMax (fCons (fC (.int 1)) (fCons (fCB gLen (fCons (fVar 2) (fun _ S => .ok [] S))) (fun _ S => .ok [] S)))) (fun _ S => .ok [] S))) (fun _ S => .ok [] S))) (gSeq (gSet 8 (fCall S_p_law_next (fun ds es => pick [(0, 0), (0, 1)] ds es []) 2 0 2 (fCons (fVar 0) (fCons (fCB gMax (fCons (fC (.int 1)) (fCons (fCB gLen (fCons (fVar 1) (fun _ S => .ok [] S))) (fun _ S => .ok [] S)))) (fun _ S => .ok [] S))) (fun _ S => .ok [] S))) (gSeq (gIf (toB (fBin gEq (fVar 3) (fC (.int 1)))) (gRet (fTup (fCons (fBin gAdd (fBin gAdd (fSl (fVar 1) fPartN (fPart (fVar 6))) (fLst (fCons (fVar 5) (fun _ S => .ok [] S)))) (fSl (fVar 1) (fPart (fBin gAdd (fVar 6) (fC (.int 1)))) fPartN)) (fCons (fVar 2) (fun _ S => .ok [] S))))) gNil) (gSeq (gIf (toB (fBin gEq (fVar 3) (fC (.int 2)))) (gRet (fTup (fCons (fVar 1) (fCons (fBin gAdd (fBin gAdd (fSl (fVar 2) fPartN (fPart (fVar 7))) (fLst (fCons (fVar 4) (fun _ S => .ok [] S)))) (fSl (fVar 2) (fPart (fBin gAdd (fVar 7) (fC (.int 1)))) fPartN)) (fun _ S => .ok [] S))))) gNil) (gSeq (gIf (toB (fBin gEq (fVar 3) (fC (.int 3)))) (gRet (fTup (fCons (fBin gAdd (fVar 1) (fLst (fCons (fVar 5) (fun _ S => .ok [] S)))) (fCons (fVar 2) (fun _ S => .ok [] S))))) gNil) (gSeq (gIf (toB (fBin gEq (fVar 3) (fC (.int 4)))) (gRet (fTup (fCons (fVar 1) (fCons (fBin gAdd (fVar 2) (fLst (fCons (fVar 4) (fun _ S => .ok [] S)))) (fun _ S => .ok [] S))))) gNil) (gSeq (gIf (fAndT (toB (fBin gEq (fVar 3) (fC (.int 5)))) (toB (fBin gNe (fVar 1) (fLst (fun _ S => .ok [] S))))) (gSeq (gSet 9 (fCB gListO (fCons (fVar 1) (fun _ S => .ok [] S)))) (gSeq (gPut2 (fVar 9) (fVar 6) (fVar 9) (fVar 8) (fTup (fCons (fBin gIx (fVar 1) (fVar 8)) (fCons (fBin gIx (fVar 1) (fVar 6)) (fun _ S => .ok [] S))))) (gRet (fTup (fCons (fFrz (fVar 9)) (fCons (fVar 2) (fun _ S => .ok [] S))))))) gNil) (gSeq (gIf (toB (fBin gEq (fVar 3) (fC (.int 6)))) (gRet (fTup (fCons (fVar 1) (fCons (fun ρ S => ((fVar 2) ρ S).bind gRevL) (fun _ S => .ok [] S))))) gNil) (gSeq (gIf (fAndT (toB (fBin gEq (fVar 3) (fC (.int 7)))) (fAndT (toB (fBin gNe (fVar 1) (fLst (fun _ S => .ok [] S)))) (toB (fBin gNe (fBin gIx (fBin gIx (fVar 1) (fVar 6)) (fC (.int 0))) (fC (.str "tie")))))) (gRet (fTup (fCons (fBin gAdd (fBin gAdd (fSl (fVar 1) fPartN (fPart (fVar 6))) (fLst (fCons (fTup (fCons (fBin gIx (fLst (fCons (fC (.str "last")) (fCons (fC (.str "cell")) (fun _ S => .ok [] S)))) (fCB gIntB (fCons (fBin gEq (fBin gIx (fBin gIx (fVar 1) (fVar 6)) (fC (.int 0))) (fC (.str "last"))) (fun _ S => .ok [] S)))) (fCons (fBin gIx (fBin gIx (fVar 1) (fVar 6)) (fC (.int 1))) (fun _ S => .ok [] S)))) (fun _ S => .ok [] S)))) (fSl (fVar 1) (fPart (fBin gAdd (fVar 6) (fC (.int 1)))) fPartN)) (fCons (fVar 2) (fun _ S => .ok [] S))))) gNil) (gRet (fTup (fCons (fCB gList (fCons (fVar 1) (fun _ S => .ok [] S))) (fCons (fCB gList (fCons (fVar 2) (fun _ S => .ok [] S))) (fun _ S => .ok [] S))))))))))))))))))
noncomputable def S_p_law_near : Sem' := semOf 10 m_p_law_near
/-! ### Web.__eq__ -/
abbrev N_Web_eq : List Str := ["self", "other"]
noncomputable def m_Web_eq : FS := (gSeq (gIf (fNotT (toB (fCB (gIsiW "Web") (fCons (fVar 1) (fCons (fC (.cls "Web")) (fun _ S => .ok [] S)))))) (gRet (fC (.bl false))) gNil) (gRet (fAndV (fBin gEq (fFld ["Web"] "all_cells" (fVar 0)) (fFld ["Web"] "all_cells" (fVar 1))) (fBin gEq (fFld ["Web"] "all_pegs" (fVar 0)) (fFld ["Web"] "all_pegs" (fVar 1))))))
noncomputable def S_Web_eq : Sem' := semOf 2 m_Web_eq
/-! ### _law_equal_right -/
abbrev N_p_law_equal_right : List Str := ["_law_state_here", "_law_house", "_law_stuff", "_law_holds", "_law_near_here", "_law_other_here", "_law_due", "_law_thing"]
noncomputable def m_p_law_equal_right : FS := (gSeq (gSet 4 (fCall S_p_law_near (fun ds es => pick [(0, 0), (0, 1), (0, 2)] ds es []) 3 0 3 (fCons (fVar 0) (fCons (fVar 2) (fCons (fVar 3) (fun _ S => .ok [] S)))) (fun _ S => .ok [] S))) (gSeq (gPar 5 6 (fCons (fMake (makeF S_Web_init (fun ds es => pick [(0, 0), (0, 1), (0, 2)] ds es []) "Web" 3) 2 0 (fCons (fCB gTuple (fCons (fBin gIx (fVar 4) (fC (.int 0))) (fun _ S => .ok [] S))) (fCons (fCB gTuple (fCons (fBin gIx (fVar 4) (fC (.int 1))) (fun _ S => .ok [] S))) (fun _ S => .ok [] S))) (fun _ S => .ok [] S)) (fCons (fBin gEq (fLst (fCons (fVar 2) (fCons (fVar 3) (fun _ S => .ok [] S)))) (fLst (fCons (fBin gIx (fVar 4) (fC (.int 0))) (fCons (fBin gIx (fVar 4) (fC (.int 1))) (fun _ S => .ok [] S))))) (fun _ S => .ok [] S)))) (gSeq (gIf (toB (fBin gNe (fLst (fCons (fBin (gOwnB "Web" S_Web_eq false) (fVar 1) (fVar 5)) (fCons (fBin (gOwnB "Web" S_Web_eq false) (fVar 5) (fVar 1)) (fCons (fBin (gOwnB "Web" S_Web_eq false) (fVar 1) (fVar 1)) (fCons (fBin (gOwnB "Web" S_Web_eq false) (fMake (makeF S_Web_init (fun ds es => pick [(0, 0), (0, 1), (0, 2)] ds es []) "Web" 3) 2 0 (fCons (fVar 2) (fCons (fVar 3) (fun _ S => .ok [] S))) (fun _ S => .ok [] S)) (fVar 1)) (fun _ S => .ok [] S)))))) (fLst (fCons (fVar 6) (fCons (fVar 6) (fCons (fC (.bl true)) (fCons (fC (.bl true)) (fun _ S => .ok [] S)))))))) (gRet (fC (.bl false))) gNil) (gRet (fBin gEq (fComp (fSeq (fLst (fCons (fTup (fCons (fVar 2) (fCons (fVar 3) (fun _ S => .ok [] S)))) (fCons (fVar 2) (fCons (fC .non) (fCons fDict0 (fCons (fC (.int 0)) (fun _ S => .ok [] S)))))))) (mName 7) (fOrT (toB (fBin (gOwnB "Web" S_Web_eq false) (fVar 1) (fVar 7))) (fNotT (toB (fBin (gOwnB "Web" S_Web_eq true) (fVar 1) (fVar 7))))) (fVar 7) ([("_law_thing", 7)].map (·.2)) finL) (fLst (fun _ S => .ok [] S)))))))
noncomputable def S_p_law_equal_right : Sem' := semOf 8 m_p_law_equal_right
/-! ### Web.cells@o -/
abbrev N_Web_cells_o : List Str := ["self"]
noncomputable def m_Web_cells_o : FS := (gRet (fCB gListO (fCons (fFld ["Web"] "all_cells" (fVar 0)) (fun _ S => .ok [] S))))
noncomputable def S_Web_cells_o : Sem' := semOf 1 m_Web_cells_o
/-! ### Web.cells -/
abbrev N_Web_cells : List Str := ["self"]
noncomputable def m_Web_cells : FS := (gRet (fCB gList (fCons (fFld ["Web"] "all_cells" (fVar 0)) (fun _ S => .ok [] S))))
noncomputable def S_Web_cells : Sem' := semOf 1 m_Web_cells
/-! ### Web.pegs@o -/
abbrev N_Web_pegs_o : List Str := ["self"]
noncomputable def m_Web_pegs_o : FS := (gRet (fCB gListO (fCons (fFld ["Web"] "all_pegs" (fVar 0)) (fun _ S => .ok [] S))))
noncomputable def S_Web_pegs_o : Sem' := semOf 1 m_Web_pegs_o
/-! ### Web.pegs -/
abbrev N_Web_pegs : List Str := ["self"]
noncomputable def m_Web_pegs : FS := (gRet (fCB gList (fCons (fFld ["Web"] "all_pegs" (fVar 0)) (fun _ S => .ok [] S))))
noncomputable def S_Web_pegs : Sem' := semOf 1 m_Web_pegs
/-! ### Web.__len__ -/
abbrev N_Web_len : List Str := ["self"]
noncomputable def m_Web_len : FS := (gRet (fCB gLen (fCons (fFld ["Web"] "all_cells" (fVar 0)) (fun _ S => .ok [] S))))
noncomputable def S_Web_len : Sem' := semOf 1 m_Web_len
/-! ### law -/
abbrev N_law : List Str := ["_law_script", "_law_k", "_law_state_here", "_law_way", "_law_as_tuple", "_law_stuff", "_law_holds", "_law_due", "_law_found", "_law_first", "_law_second"]
noncomputable def m_law : FS := (gSeq (gFor (fRng1 (fCons (fCB gMax (fCons (fC (.int 1)) (fCons (fCB gLen (fCons (fVar 0) (fun _ S => .ok [] S))) (fun _ S => .ok [] S)))) (fun _ S => .ok [] S))) (mName 1) (gSeq (gSet 2 (fCall S_p_law_state (fun ds es => pick [(0, 0), (0, 1)] ds es []) 2 0 2 (fCons (fVar 0) (fCons (fVar 1) (fun _ S => .ok [] S))) (fun _ S => .ok [] S))) (gSeq (gSet 3 (fCall S_p_law_next (fun ds es => pick [(0, 0), (0, 1)] ds es []) 2 0 2 (fCons (fVar 2) (fCons (fC (.int 6)) (fun _ S => .ok [] S))) (fun _ S => .ok [] S))) (gSeq (gSet 4 (fCall S_p_law_next (fun ds es => pick [(0, 0), (0, 1)] ds es []) 2 0 2 (fCons (fVar 2) (fCons (fC (.int 4)) (fun _ S => .ok [] S))) (fun _ S => .ok [] S))) (gSeq (gAsg (mTup 2 (mCons (mName 5) (mCons (mName 6) (fun ds ρ _ => match ds with | [] => some ρ | _ => none)))) (fCall S_p_law_web (fun ds es => pick [(0, 0), (0, 1)] ds es []) 2 0 2 (fCons (fVar 2) (fCons (fC (.int 7)) (fun _ S => .ok [] S))) (fun _ S => .ok [] S))) (gSeq (gIf (toB (fBin gGt (fVar 3) (fC (.int 2)))) (gSet 5 (fCall S_p_law_bent (fun ds es => pick [(0, 0), (0, 1)] ds es []) 2 0 2 (fCons (fVar 2) (fCons (fVar 5) (fun _ S => .ok [] S))) (fun _ S => .ok [] S))) gNil) (gSeq (gIf (fOrT (toB (fBin gEq (fVar 3) (fC (.int 2)))) (toB (fBin gEq (fVar 3) (fC (.int 5))))) (gSet 6 (fCall S_p_law_bent (fun ds es => pick [(0, 0), (0, 1)] ds es []) 2 0 2 (fCons (fVar 2) (fCons (fVar 6) (fun _ S => .ok [] S))) (fun _ S => .ok [] S))) gNil) (gSeq (gIf (fAndT (toB (fBin gEq (fVar 4) (fC (.int 3)))) (fAndT (toB (fCB gIsi (fCons (fVar 5) (fCons (fC (.ty "list")) (fun _ S => .ok [] S))))) (toB (fCB gIsi (fCons (fVar 6) (fCons (fC (.ty "list")) (fun _ S => .ok [] S))))))) (gAsg (mTup 2 (mCons (mName 5) (mCons (mName 6) (fun ds ρ _ => match ds with | [] => some ρ | _ => none)))) (fTup (fCons (fCB gTuple (fCons (fVar 5) (fun _ S => .ok [] S))) (fCons (fCB gTuple (fCons (fVar 6) (fun _ S => .ok [] S))) (fun _ S => .ok [] S))))) gNil) (gSeq (gSet 7 (fCall S_p_law_is_web (fun ds es => pick [(0, 0), (0, 1)] ds es []) 2 0 2 (fCons (fVar 5) (fCons (fVar 6) (fun _ S => .ok [] S))) (fun _ S => .ok [] S))) (gSeq (gSet 8 (fTold ("law", none) ((("law" : Str) ++ ".<locals>.") ++ "<lambda>") 4 m_p_law_told (fFrzD 60 (fMake (makeO S_Web_init (fun ds es => pick [(0, 0), (1, 1), (1, 0)] ds es []) "Web" 3) 0 2 (fun _ S => .ok [] S) (fCons (fVar 6) (fCons (fVar 5) (fun _ S => .ok [] S))))))) (gSeq (gIf (fNotT (toB (fVar 7))) (gSeq (gIf (toB (fBin gNe (fVar 8) (fTup (fCons (fC (.str "refused")) (fCons (fC (.str "BadWeb")) (fun _ S => .ok [] S)))))) (gRet (fC (.bl false))) gNil) (fun ρ S => .ct ρ S)) gNil) (gSeq (gIf (toB (fBin gNe (fBin gIx (fVar 8) (fC (.int 0))) (fC (.str "told")))) (gRet (fC (.bl false))) gNil) (gSeq (gPar 9 10 (fCons (fCB gList (fCons (fVar 5) (fun _ S => .ok [] S))) (fCons (fCB gList (fCons (fVar 6) (fun _ S => .ok [] S))) (fun _ S => .ok [] S)))) (gSeq (gIf (fNotT (toB (fCall S_p_law_equal_right (fun ds es => pick [(0, 0), (0, 1), (0, 2), (0, 3)] ds es []) 4 0 4 (fCons (fVar 2) (fCons (fBin gIx (fVar 8) (fC (.int 1))) (fCons (fVar 9) (fCons (fVar 10) (fun _ S => .ok [] S))))) (fun _ S => .ok [] S)))) (gRet (fC (.bl false))) gNil) (gSeq (gIf (fAndT (toB (fCB gIsi (fCons (fVar 5) (fCons (fC (.ty "list")) (fun _ S => .ok [] S))))) (toB (fCB gIsi (fCons (fVar 6) (fCons (fC (.ty "list")) (fun _ S => .ok [] S)))))) (gSeq (gExpr (fBM "list" gApp (fVar 5) (fCons (fC (.str "more")) (fun _ S => .ok [] S)))) (gExpr (fBM "list" gApp (fVar 6) (fCons (fC (.str "more")) (fun _ S => .ok [] S))))) gNil) (gSeq (gExpr (fBM "list" gApp (fMeth S_Web_cells_o (fun ds es => pick [(0, 0)] ds es []) "Web" "cells" 1 0 1 (fBin gIx (fVar 8) (fC (.int 1))) (fun _ S => .ok [] S) (fun _ S => .ok [] S)) (fCons (fC (.str "more")) (fun _ S => .ok [] S)))) (gSeq (gExpr (fBM "list" gApp (fMeth S_Web_pegs_o (fun ds es => pick [(0, 0)] ds es []) "Web" "pegs" 1 0 1 (fBin gIx (fVar 8) (fC (.int 1))) (fun _ S => .ok [] S) (fun _ S => .ok [] S)) (fCons (fC (.str "more")) (fun _ S => .ok [] S)))) (gIf (toB (fBin gNe (fCB gRepr (fCons (fLst (fCons (fMeth (callSub S_Web_cells) (fun ds es => pick [(0, 0)] ds es []) "Web" "cells" 1 0 1 (fBin gIx (fVar 8) (fC (.int 1))) (fun _ S => .ok [] S) (fun _ S => .ok [] S)) (fCons (fMeth (callSub S_Web_pegs) (fun ds es => pick [(0, 0)] ds es []) "Web" "pegs" 1 0 1 (fBin gIx (fVar 8) (fC (.int 1))) (fun _ S => .ok [] S) (fun _ S => .ok [] S)) (fCons (fCB (gLenO "Web" S_Web_len) (fCons (fBin gIx (fVar 8) (fC (.int 1))) (fun _ S => .ok [] S))) (fun _ S => .ok [] S))))) (fun _ S => .ok [] S))) (fCB gRepr (fCons (fLst (fCons (fVar 9) (fCons (fVar 10) (fCons (fCB gLen (fCons (fVar 9) (fun _ S => .ok [] S))) (fun _ S => .ok [] S))))) (fun _ S => .ok [] S))))) (gRet (fC (.bl false))) gNil)))))))))))))))))) (gRet (fC (.bl true))))
noncomputable def S_law : Sem' := semOf 11 m_law
structure Txt (K : PySem.W.Frag) (mg : Str → Option Value) : Prop where
  says : He.SaysD fa fn K
  glo : ∀ {x : Str}, (He.Fa.glo x).ok K = true → mg x = some (.ref (He.ga K x))
  free : ∀ {x : Str}, (He.Fa.free x).ok K = true → mg x = none
  int : ∀ {x : Str} {i : Int}, (He.Fa.int x i).ok K = true → ∃ t, mg x = some (.int i t)
  str : ∀ {x z : Str}, (He.Fa.str x z).ok K = true → ∃ t, mg x = some (.str z t)
  ex : exB K = true
section
variable {K : PySem.W.Frag} {mg : Str → Option Value}
theorem txt_of {h : Heap} (X : K.In h) (G : h.Ns mainGlobals mg) (c : He.SaysD fa fn K) (cx : exB K = true) : Txt K mg := ⟨c, fun q => He.glo_ok X G q, fun q => He.free_ok X G q, fun q => He.int_ok X G q, fun q => He.str_ok X G q, cx⟩
theorem glo_p_law_state (T : Txt K mg) : mg "_law_state" = some (.ref (He.fAd K d_p_law_state.at_)) := T.glo (T.says.fact 0 (f := .glo "_law_state") rfl)
theorem glo_p_law_next (T : Txt K mg) : mg "_law_next" = some (.ref (He.fAd K d_p_law_next.at_)) := T.glo (T.says.fact 1 (f := .glo "_law_next") rfl)
theorem glo_p_law_value (T : Txt K mg) : mg "_law_value" = some (.ref (He.fAd K d_p_law_value.at_)) := T.glo (T.says.fact 2 (f := .glo "_law_value") rfl)
theorem glo_p_law_cell (T : Txt K mg) : mg "_law_cell" = some (.ref (He.fAd K d_p_law_cell.at_)) := T.glo (T.says.fact 3 (f := .glo "_law_cell") rfl)
theorem glo_p_law_web (T : Txt K mg) : mg "_law_web" = some (.ref (He.fAd K d_p_law_web.at_)) := T.glo (T.says.fact 4 (f := .glo "_law_web") rfl)
theorem glo_p_law_odd (T : Txt K mg) : mg "_law_odd" = some (.ref (He.fAd K d_p_law_odd.at_)) := T.glo (T.says.fact 5 (f := .glo "_law_odd") rfl)
theorem glo_p_law_other (T : Txt K mg) : mg "_law_other" = some (.ref (He.fAd K d_p_law_other.at_)) := T.glo (T.says.fact 6 (f := .glo "_law_other") rfl)
theorem glo_p_law_bent_r5 (T : Txt K mg) : mg "_law_bent" = some (.ref (He.fAd K d_p_law_bent_r5.at_)) := T.glo (T.says.fact 7 (f := .glo "_law_bent") rfl)
theorem glo_p_law_bent_r4 (T : Txt K mg) : mg "_law_bent" = some (.ref (He.fAd K d_p_law_bent_r4.at_)) := T.glo (T.says.fact 8 (f := .glo "_law_bent") rfl)
theorem glo_p_law_bent_r3 (T : Txt K mg) : mg "_law_bent" = some (.ref (He.fAd K d_p_law_bent_r3.at_)) := T.glo (T.says.fact 9 (f := .glo "_law_bent") rfl)
theorem glo_p_law_bent_r2 (T : Txt K mg) : mg "_law_bent" = some (.ref (He.fAd K d_p_law_bent_r2.at_)) := T.glo (T.says.fact 10 (f := .glo "_law_bent") rfl)
theorem glo_p_law_bent_r1 (T : Txt K mg) : mg "_law_bent" = some (.ref (He.fAd K d_p_law_bent_r1.at_)) := T.glo (T.says.fact 11 (f := .glo "_law_bent") rfl)
theorem glo_p_law_odd_o (T : Txt K mg) : mg "_law_odd" = some (.ref (He.fAd K d_p_law_odd_o.at_)) := T.glo (T.says.fact 12 (f := .glo "_law_odd") rfl)
theorem glo_p_law_other_o (T : Txt K mg) : mg "_law_other" = some (.ref (He.fAd K d_p_law_other_o.at_)) := T.glo (T.says.fact 13 (f := .glo "_law_other") rfl)
theorem glo_p_law_bent (T : Txt K mg) : mg "_law_bent" = some (.ref (He.fAd K d_p_law_bent.at_)) := T.glo (T.says.fact 14 (f := .glo "_law_bent") rfl)
theorem glo_p_law_whole (T : Txt K mg) : mg "_law_whole" = some (.ref (He.fAd K d_p_law_whole.at_)) := T.glo (T.says.fact 15 (f := .glo "_law_whole") rfl)
theorem glo_p_law_is_value (T : Txt K mg) : mg "_law_is_value" = some (.ref (He.fAd K d_p_law_is_value.at_)) := T.glo (T.says.fact 16 (f := .glo "_law_is_value") rfl)
theorem glo_p_law_is_cell (T : Txt K mg) : mg "_law_is_cell" = some (.ref (He.fAd K d_p_law_is_cell.at_)) := T.glo (T.says.fact 17 (f := .glo "_law_is_cell") rfl)
theorem glo_p_law_is_web (T : Txt K mg) : mg "_law_is_web" = some (.ref (He.fAd K d_p_law_is_web.at_)) := T.glo (T.says.fact 18 (f := .glo "_law_is_web") rfl)
theorem glo_p_law_classes (T : Txt K mg) : mg "_law_classes" = some (.ref (He.fAd K d_p_law_classes.at_)) := T.glo (T.says.fact 19 (f := .glo "_law_classes") rfl)
theorem glo_p_law_told (T : Txt K mg) : mg "_law_told" = some (.ref (He.fAd K d_p_law_told.at_)) := T.glo (T.says.fact 20 (f := .glo "_law_told") rfl)
theorem glo_is_row (T : Txt K mg) : mg "is_row" = some (.ref (He.fAd K d_is_row.at_)) := T.glo (T.says.fact 21 (f := .glo "is_row") rfl)
theorem glo_is_whole (T : Txt K mg) : mg "is_whole" = some (.ref (He.fAd K d_is_whole.at_)) := T.glo (T.says.fact 22 (f := .glo "is_whole") rfl)
theorem glo_is_number (T : Txt K mg) : mg "is_number" = some (.ref (He.fAd K d_is_number.at_)) := T.glo (T.says.fact 23 (f := .glo "is_number") rfl)
theorem glo_is_at (T : Txt K mg) : mg "is_at" = some (.ref (He.fAd K d_is_at.at_)) := T.glo (T.says.fact 24 (f := .glo "is_at") rfl)
theorem glo_is_value (T : Txt K mg) : mg "is_value" = some (.ref (He.fAd K d_is_value.at_)) := T.glo (T.says.fact 25 (f := .glo "is_value") rfl)
theorem glo_is_cell (T : Txt K mg) : mg "is_cell" = some (.ref (He.fAd K d_is_cell.at_)) := T.glo (T.says.fact 26 (f := .glo "is_cell") rfl)
theorem glo_is_web (T : Txt K mg) : mg "is_web" = some (.ref (He.fAd K d_is_web.at_)) := T.glo (T.says.fact 27 (f := .glo "is_web") rfl)
theorem glo_p_law_near (T : Txt K mg) : mg "_law_near" = some (.ref (He.fAd K d_p_law_near.at_)) := T.glo (T.says.fact 28 (f := .glo "_law_near") rfl)
theorem glo_p_law_equal_right (T : Txt K mg) : mg "_law_equal_right" = some (.ref (He.fAd K d_p_law_equal_right.at_)) := T.glo (T.says.fact 29 (f := .glo "_law_equal_right") rfl)
theorem glo_law (T : Txt K mg) : mg "law" = some (.ref (He.fAd K d_law.at_)) := T.glo (T.says.fact 30 (f := .glo "law") rfl)
theorem free_ValueError (T : Txt K mg) : mg "ValueError" = none := T.free (T.says.fact 31 (f := .free "ValueError") rfl)
theorem free_abs (T : Txt K mg) : mg "abs" = none := T.free (T.says.fact 32 (f := .free "abs") rfl)
theorem free_all (T : Txt K mg) : mg "all" = none := T.free (T.says.fact 33 (f := .free "all") rfl)
theorem free_bool (T : Txt K mg) : mg "bool" = none := T.free (T.says.fact 34 (f := .free "bool") rfl)
theorem free_enumerate (T : Txt K mg) : mg "enumerate" = none := T.free (T.says.fact 35 (f := .free "enumerate") rfl)
theorem free_int (T : Txt K mg) : mg "int" = none := T.free (T.says.fact 36 (f := .free "int") rfl)
theorem free_isinstance (T : Txt K mg) : mg "isinstance" = none := T.free (T.says.fact 37 (f := .free "isinstance") rfl)
theorem free_len (T : Txt K mg) : mg "len" = none := T.free (T.says.fact 38 (f := .free "len") rfl)
theorem free_list (T : Txt K mg) : mg "list" = none := T.free (T.says.fact 39 (f := .free "list") rfl)
theorem free_max (T : Txt K mg) : mg "max" = none := T.free (T.says.fact 40 (f := .free "max") rfl)
theorem free_range (T : Txt K mg) : mg "range" = none := T.free (T.says.fact 41 (f := .free "range") rfl)
theorem free_repr (T : Txt K mg) : mg "repr" = none := T.free (T.says.fact 42 (f := .free "repr") rfl)
theorem free_str (T : Txt K mg) : mg "str" = none := T.free (T.says.fact 43 (f := .free "str") rfl)
theorem free_tuple (T : Txt K mg) : mg "tuple" = none := T.free (T.says.fact 44 (f := .free "tuple") rfl)
theorem int_GREATEST (T : Txt K mg) : ∃ t, mg "GREATEST" = some (.int (1000000000) t) := T.int (T.says.fact 45 (f := .int "GREATEST" (1000000000)) rfl)
theorem int_MOST_FIELDS (T : Txt K mg) : ∃ t, mg "MOST_FIELDS" = some (.int (6) t) := T.int (T.says.fact 46 (f := .int "MOST_FIELDS" (6)) rfl)
theorem gloc_BadGround (T : Txt K mg) : mg "BadGround" = some (.ref (He.ga K "BadGround")) := T.glo (T.says.fact 47 (f := .glo "BadGround") rfl)
theorem gloc_BadName (T : Txt K mg) : mg "BadName" = some (.ref (He.ga K "BadName")) := T.glo (T.says.fact 48 (f := .glo "BadName") rfl)
theorem gloc_BadNumber (T : Txt K mg) : mg "BadNumber" = some (.ref (He.ga K "BadNumber")) := T.glo (T.says.fact 49 (f := .glo "BadNumber") rfl)
theorem gloc_BadPicture (T : Txt K mg) : mg "BadPicture" = some (.ref (He.ga K "BadPicture")) := T.glo (T.says.fact 50 (f := .glo "BadPicture") rfl)
theorem gloc_BadProgram (T : Txt K mg) : mg "BadProgram" = some (.ref (He.ga K "BadProgram")) := T.glo (T.says.fact 51 (f := .glo "BadProgram") rfl)
theorem gloc_BadText (T : Txt K mg) : mg "BadText" = some (.ref (He.ga K "BadText")) := T.glo (T.says.fact 52 (f := .glo "BadText") rfl)
theorem gloc_BadWeaving (T : Txt K mg) : mg "BadWeaving" = some (.ref (He.ga K "BadWeaving")) := T.glo (T.says.fact 53 (f := .glo "BadWeaving") rfl)
theorem gloc_BadWeb (T : Txt K mg) : mg "BadWeb" = some (.ref (He.ga K "BadWeb")) := T.glo (T.says.fact 54 (f := .glo "BadWeb") rfl)
theorem gloc_NoCell (T : Txt K mg) : mg "NoCell" = some (.ref (He.ga K "NoCell")) := T.glo (T.says.fact 55 (f := .glo "NoCell") rfl)
theorem gloc_NoDeed (T : Txt K mg) : mg "NoDeed" = some (.ref (He.ga K "NoDeed")) := T.glo (T.says.fact 56 (f := .glo "NoDeed") rfl)
theorem gloc_NoField (T : Txt K mg) : mg "NoField" = some (.ref (He.ga K "NoField")) := T.glo (T.says.fact 57 (f := .glo "NoField") rfl)
theorem gloc_NoHand (T : Txt K mg) : mg "NoHand" = some (.ref (He.ga K "NoHand")) := T.glo (T.says.fact 58 (f := .glo "NoHand") rfl)
theorem gloc_NoName (T : Txt K mg) : mg "NoName" = some (.ref (He.ga K "NoName")) := T.glo (T.says.fact 59 (f := .glo "NoName") rfl)
theorem gloc_NoPeg (T : Txt K mg) : mg "NoPeg" = some (.ref (He.ga K "NoPeg")) := T.glo (T.says.fact 60 (f := .glo "NoPeg") rfl)
theorem gloc_NoRoom (T : Txt K mg) : mg "NoRoom" = some (.ref (He.ga K "NoRoom")) := T.glo (T.says.fact 61 (f := .glo "NoRoom") rfl)
theorem gloc_NoTurn (T : Txt K mg) : mg "NoTurn" = some (.ref (He.ga K "NoTurn")) := T.glo (T.says.fact 62 (f := .glo "NoTurn") rfl)
theorem gloc_TooMany (T : Txt K mg) : mg "TooMany" = some (.ref (He.ga K "TooMany")) := T.glo (T.says.fact 63 (f := .glo "TooMany") rfl)
theorem gloc_Unlawful (T : Txt K mg) : mg "Unlawful" = some (.ref (He.ga K "Unlawful")) := T.glo (T.says.fact 64 (f := .glo "Unlawful") rfl)
theorem gloc_YardError (T : Txt K mg) : mg "YardError" = some (.ref (He.ga K "YardError")) := T.glo (T.says.fact 65 (f := .glo "YardError") rfl)
theorem gloc_Web (T : Txt K mg) : mg "Web" = some (.ref (He.ga K "Web")) := T.glo (T.says.fact 66 (f := .glo "Web") rfl)
theorem cls_Web (T : Txt K mg) : Cls K (He.ga K "Web") := He.cls_ok (T.says.fact 67 (f := .cls "Web") rfl)
theorem mkr_Web (T : Txt K mg) : Mk K (He.ga K "Web") (He.fAd K d_Web_init.at_) := He.mkr_ok (T.says.fact 68 (f := .mkr "Web") rfl)
theorem meth_Web___eq__ (T : Txt K mg) : Meth K (He.ga K "Web") "__eq__" (He.fAd K d_Web_eq.at_) := He.meth_ok (T.says.fact 69 (f := .meth "Web" "__eq__") rfl)
theorem meth_Web___len__ (T : Txt K mg) : Meth K (He.ga K "Web") "__len__" (He.fAd K d_Web_len.at_) := He.meth_ok (T.says.fact 70 (f := .meth "Web" "__len__") rfl)
theorem meth_Web_cells (T : Txt K mg) : Meth K (He.ga K "Web") "cells" (He.fAd K d_Web_cells.at_) := He.meth_ok (T.says.fact 71 (f := .meth "Web" "cells") rfl)
theorem meth_Web_pegs (T : Txt K mg) : Meth K (He.ga K "Web") "pegs" (He.fAd K d_Web_pegs.at_) := He.meth_ok (T.says.fact 72 (f := .meth "Web" "pegs") rfl)
theorem noat_Web_all_cells (T : Txt K mg) : NoAttr K (He.ga K "Web") "all_cells" := He.noat_ok (T.says.fact 73 (f := .noat "Web" "all_cells") rfl)
theorem noat_Web_all_pegs (T : Txt K mg) : NoAttr K (He.ga K "Web") "all_pegs" := He.noat_ok (T.says.fact 74 (f := .noat "Web" "all_pegs") rfl)
theorem owbc_Web (T : Txt K mg) : OwB K (He.ga K "Web") := owB_ok (He.ba T.ex).1
theorem iswc_Web (T : Txt K mg) : IswC K (He.ga K "Web") := iswB_ok (He.ba (He.ba T.ex).2).1
theorem raic_BadWeb (T : Txt K mg) : RaiC K (He.ga K "BadWeb") := raiB_ok (He.ba (He.ba (He.ba T.ex).2).2).1
theorem isec_BadWeb (T : Txt K mg) : L2.ExcC K (He.ga K "BadWeb") := iseB_ok (He.ba (He.ba (He.ba (He.ba T.ex).2).2).2).1
theorem exm0_YardError (T : Txt K mg) : exmT K (.ref (He.ga K "YardError")) tb_YardError = true := id (He.ba (He.ba (He.ba (He.ba (He.ba T.ex).2).2).2).2).1
theorem kit0_BadGround (T : Txt K mg) : kitT K (.ref (He.ga K "BadGround")) tb_BadGround = true := id (He.ba (He.ba (He.ba (He.ba (He.ba (He.ba T.ex).2).2).2).2).2).1
theorem kit0_BadName (T : Txt K mg) : kitT K (.ref (He.ga K "BadName")) tb_BadName = true := id (He.ba (He.ba (He.ba (He.ba (He.ba (He.ba (He.ba T.ex).2).2).2).2).2).2).1
theorem kit0_BadNumber (T : Txt K mg) : kitT K (.ref (He.ga K "BadNumber")) tb_BadNumber = true := id (He.ba (He.ba (He.ba (He.ba (He.ba (He.ba (He.ba (He.ba T.ex).2).2).2).2).2).2).2).1
theorem kit0_BadPicture (T : Txt K mg) : kitT K (.ref (He.ga K "BadPicture")) tb_BadPicture = true := id (He.ba (He.ba (He.ba (He.ba (He.ba (He.ba (He.ba (He.ba (He.ba T.ex).2).2).2).2).2).2).2).2).1
theorem kit0_BadProgram (T : Txt K mg) : kitT K (.ref (He.ga K "BadProgram")) tb_BadProgram = true := id (He.ba (He.ba (He.ba (He.ba (He.ba (He.ba (He.ba (He.ba (He.ba (He.ba T.ex).2).2).2).2).2).2).2).2).2).1
theorem kit0_BadText (T : Txt K mg) : kitT K (.ref (He.ga K "BadText")) tb_BadText = true := id (He.ba (He.ba (He.ba (He.ba (He.ba (He.ba (He.ba (He.ba (He.ba (He.ba (He.ba T.ex).2).2).2).2).2).2).2).2).2).2).1
theorem kit0_BadWeaving (T : Txt K mg) : kitT K (.ref (He.ga K "BadWeaving")) tb_BadWeaving = true := id (He.ba (He.ba (He.ba (He.ba (He.ba (He.ba (He.ba (He.ba (He.ba (He.ba (He.ba (He.ba T.ex).2).2).2).2).2).2).2).2).2).2).2).1
theorem kit0_BadWeb (T : Txt K mg) : kitT K (.ref (He.ga K "BadWeb")) tb_BadWeb = true := id (He.ba (He.ba (He.ba (He.ba (He.ba (He.ba (He.ba (He.ba (He.ba (He.ba (He.ba (He.ba (He.ba T.ex).2).2).2).2).2).2).2).2).2).2).2).2).1
theorem kit0_NoCell (T : Txt K mg) : kitT K (.ref (He.ga K "NoCell")) tb_NoCell = true := id (He.ba (He.ba (He.ba (He.ba (He.ba (He.ba (He.ba (He.ba (He.ba (He.ba (He.ba (He.ba (He.ba (He.ba T.ex).2).2).2).2).2).2).2).2).2).2).2).2).2).1
theorem kit0_NoDeed (T : Txt K mg) : kitT K (.ref (He.ga K "NoDeed")) tb_NoDeed = true := id (He.ba (He.ba (He.ba (He.ba (He.ba (He.ba (He.ba (He.ba (He.ba (He.ba (He.ba (He.ba (He.ba (He.ba (He.ba T.ex).2).2).2).2).2).2).2).2).2).2).2).2).2).2).1
theorem kit0_NoField (T : Txt K mg) : kitT K (.ref (He.ga K "NoField")) tb_NoField = true := id (He.ba (He.ba (He.ba (He.ba (He.ba (He.ba (He.ba (He.ba (He.ba (He.ba (He.ba (He.ba (He.ba (He.ba (He.ba (He.ba T.ex).2).2).2).2).2).2).2).2).2).2).2).2).2).2).2).1
theorem kit0_NoHand (T : Txt K mg) : kitT K (.ref (He.ga K "NoHand")) tb_NoHand = true := id (He.ba (He.ba (He.ba (He.ba (He.ba (He.ba (He.ba (He.ba (He.ba (He.ba (He.ba (He.ba (He.ba (He.ba (He.ba (He.ba (He.ba T.ex).2).2).2).2).2).2).2).2).2).2).2).2).2).2).2).2).1
theorem kit0_NoName (T : Txt K mg) : kitT K (.ref (He.ga K "NoName")) tb_NoName = true := id (He.ba (He.ba (He.ba (He.ba (He.ba (He.ba (He.ba (He.ba (He.ba (He.ba (He.ba (He.ba (He.ba (He.ba (He.ba (He.ba (He.ba (He.ba T.ex).2).2).2).2).2).2).2).2).2).2).2).2).2).2).2).2).2).1
theorem kit0_NoPeg (T : Txt K mg) : kitT K (.ref (He.ga K "NoPeg")) tb_NoPeg = true := id (He.ba (He.ba (He.ba (He.ba (He.ba (He.ba (He.ba (He.ba (He.ba (He.ba (He.ba (He.ba (He.ba (He.ba (He.ba (He.ba (He.ba (He.ba (He.ba T.ex).2).2).2).2).2).2).2).2).2).2).2).2).2).2).2).2).2).2).1
theorem kit0_NoRoom (T : Txt K mg) : kitT K (.ref (He.ga K "NoRoom")) tb_NoRoom = true := id (He.ba (He.ba (He.ba (He.ba (He.ba (He.ba (He.ba (He.ba (He.ba (He.ba (He.ba (He.ba (He.ba (He.ba (He.ba (He.ba (He.ba (He.ba (He.ba (He.ba T.ex).2).2).2).2).2).2).2).2).2).2).2).2).2).2).2).2).2).2).2).1
theorem kit0_NoTurn (T : Txt K mg) : kitT K (.ref (He.ga K "NoTurn")) tb_NoTurn = true := id (He.ba (He.ba (He.ba (He.ba (He.ba (He.ba (He.ba (He.ba (He.ba (He.ba (He.ba (He.ba (He.ba (He.ba (He.ba (He.ba (He.ba (He.ba (He.ba (He.ba (He.ba T.ex).2).2).2).2).2).2).2).2).2).2).2).2).2).2).2).2).2).2).2).2).1
theorem kit0_TooMany (T : Txt K mg) : kitT K (.ref (He.ga K "TooMany")) tb_TooMany = true := id (He.ba (He.ba (He.ba (He.ba (He.ba (He.ba (He.ba (He.ba (He.ba (He.ba (He.ba (He.ba (He.ba (He.ba (He.ba (He.ba (He.ba (He.ba (He.ba (He.ba (He.ba (He.ba T.ex).2).2).2).2).2).2).2).2).2).2).2).2).2).2).2).2).2).2).2).2).2).1
theorem kit0_Unlawful (T : Txt K mg) : kitT K (.ref (He.ga K "Unlawful")) tb_Unlawful = true := id (He.ba (He.ba (He.ba (He.ba (He.ba (He.ba (He.ba (He.ba (He.ba (He.ba (He.ba (He.ba (He.ba (He.ba (He.ba (He.ba (He.ba (He.ba (He.ba (He.ba (He.ba (He.ba (He.ba T.ex).2).2).2).2).2).2).2).2).2).2).2).2).2).2).2).2).2).2).2).2).2).2).1
theorem kit0_ValueError (T : Txt K mg) : kitT K (.type "ValueError") tb_ValueError = true := id (He.ba (He.ba (He.ba (He.ba (He.ba (He.ba (He.ba (He.ba (He.ba (He.ba (He.ba (He.ba (He.ba (He.ba (He.ba (He.ba (He.ba (He.ba (He.ba (He.ba (He.ba (He.ba (He.ba (He.ba T.ex).2).2).2).2).2).2).2).2).2).2).2).2).2).2).2).2).2).2).2).2).2).2).2).1
theorem exmc_YardError (T : Txt K mg) : ∀ C b A, tb_YardError.lookup C = some b → mg C = some (.ref A) → PySem.W.exmOne K (.ref A) (.ref (He.ga K "YardError")) = some b := exmT_ok (exm0_YardError T) (by intro q hq; rw [List.mem_singleton.mp hq]; exact gloc_BadWeb T)
theorem kitc_BadGround (T : Txt K mg) : ∀ C b A, tb_BadGround.lookup C = some b → mg C = some (.ref A) → L2.ExcC K A ∧ PySem.W.kitOne K (.ref A) (.ref (He.ga K "BadGround")) = some b := kitT_ok (kit0_BadGround T) (by intro q hq; rw [List.mem_singleton.mp hq]; exact gloc_BadWeb T) (by intro q hq; rw [List.mem_singleton.mp hq]; exact isec_BadWeb T)
theorem kitc_BadName (T : Txt K mg) : ∀ C b A, tb_BadName.lookup C = some b → mg C = some (.ref A) → L2.ExcC K A ∧ PySem.W.kitOne K (.ref A) (.ref (He.ga K "BadName")) = some b := kitT_ok (kit0_BadName T) (by intro q hq; rw [List.mem_singleton.mp hq]; exact gloc_BadWeb T) (by intro q hq; rw [List.mem_singleton.mp hq]; exact isec_BadWeb T)
theorem kitc_BadNumber (T : Txt K mg) : ∀ C b A, tb_BadNumber.lookup C = some b → mg C = some (.ref A) → L2.ExcC K A ∧ PySem.W.kitOne K (.ref A) (.ref (He.ga K "BadNumber")) = some b := kitT_ok (kit0_BadNumber T) (by intro q hq; rw [List.mem_singleton.mp hq]; exact gloc_BadWeb T) (by intro q hq; rw [List.mem_singleton.mp hq]; exact isec_BadWeb T)
theorem kitc_BadPicture (T : Txt K mg) : ∀ C b A, tb_BadPicture.lookup C = some b → mg C = some (.ref A) → L2.ExcC K A ∧ PySem.W.kitOne K (.ref A) (.ref (He.ga K "BadPicture")) = some b := kitT_ok (kit0_BadPicture T) (by intro q hq; rw [List.mem_singleton.mp hq]; exact gloc_BadWeb T) (by intro q hq; rw [List.mem_singleton.mp hq]; exact isec_BadWeb T)
theorem kitc_BadProgram (T : Txt K mg) : ∀ C b A, tb_BadProgram.lookup C = some b → mg C = some (.ref A) → L2.ExcC K A ∧ PySem.W.kitOne K (.ref A) (.ref (He.ga K "BadProgram")) = some b := kitT_ok (kit0_BadProgram T) (by intro q hq; rw [List.mem_singleton.mp hq]; exact gloc_BadWeb T) (by intro q hq; rw [List.mem_singleton.mp hq]; exact isec_BadWeb T)
theorem kitc_BadText (T : Txt K mg) : ∀ C b A, tb_BadText.lookup C = some b → mg C = some (.ref A) → L2.ExcC K A ∧ PySem.W.kitOne K (.ref A) (.ref (He.ga K "BadText")) = some b := kitT_ok (kit0_BadText T) (by intro q hq; rw [List.mem_singleton.mp hq]; exact gloc_BadWeb T) (by intro q hq; rw [List.mem_singleton.mp hq]; exact isec_BadWeb T)
theorem kitc_BadWeaving (T : Txt K mg) : ∀ C b A, tb_BadWeaving.lookup C = some b → mg C = some (.ref A) → L2.ExcC K A ∧ PySem.W.kitOne K (.ref A) (.ref (He.ga K "BadWeaving")) = some b := kitT_ok (kit0_BadWeaving T) (by intro q hq; rw [List.mem_singleton.mp hq]; exact gloc_BadWeb T) (by intro q hq; rw [List.mem_singleton.mp hq]; exact isec_BadWeb T)
theorem kitc_BadWeb (T : Txt K mg) : ∀ C b A, tb_BadWeb.lookup C = some b → mg C = some (.ref A) → L2.ExcC K A ∧ PySem.W.kitOne K (.ref A) (.ref (He.ga K "BadWeb")) = some b := kitT_ok (kit0_BadWeb T) (by intro q hq; rw [List.mem_singleton.mp hq]; exact gloc_BadWeb T) (by intro q hq; rw [List.mem_singleton.mp hq]; exact isec_BadWeb T)
theorem kitc_NoCell (T : Txt K mg) : ∀ C b A, tb_NoCell.lookup C = some b → mg C = some (.ref A) → L2.ExcC K A ∧ PySem.W.kitOne K (.ref A) (.ref (He.ga K "NoCell")) = some b := kitT_ok (kit0_NoCell T) (by intro q hq; rw [List.mem_singleton.mp hq]; exact gloc_BadWeb T) (by intro q hq; rw [List.mem_singleton.mp hq]; exact isec_BadWeb T)
theorem kitc_NoDeed (T : Txt K mg) : ∀ C b A, tb_NoDeed.lookup C = some b → mg C = some (.ref A) → L2.ExcC K A ∧ PySem.W.kitOne K (.ref A) (.ref (He.ga K "NoDeed")) = some b := kitT_ok (kit0_NoDeed T) (by intro q hq; rw [List.mem_singleton.mp hq]; exact gloc_BadWeb T) (by intro q hq; rw [List.mem_singleton.mp hq]; exact isec_BadWeb T)
theorem kitc_NoField (T : Txt K mg) : ∀ C b A, tb_NoField.lookup C = some b → mg C = some (.ref A) → L2.ExcC K A ∧ PySem.W.kitOne K (.ref A) (.ref (He.ga K "NoField")) = some b := kitT_ok (kit0_NoField T) (by intro q hq; rw [List.mem_singleton.mp hq]; exact gloc_BadWeb T) (by intro q hq; rw [List.mem_singleton.mp hq]; exact isec_BadWeb T)
theorem kitc_NoHand (T : Txt K mg) : ∀ C b A, tb_NoHand.lookup C = some b → mg C = some (.ref A) → L2.ExcC K A ∧ PySem.W.kitOne K (.ref A) (.ref (He.ga K "NoHand")) = some b := kitT_ok (kit0_NoHand T) (by intro q hq; rw [List.mem_singleton.mp hq]; exact gloc_BadWeb T) (by intro q hq; rw [List.mem_singleton.mp hq]; exact isec_BadWeb T)
theorem kitc_NoName (T : Txt K mg) : ∀ C b A, tb_NoName.lookup C = some b → mg C = some (.ref A) → L2.ExcC K A ∧ PySem.W.kitOne K (.ref A) (.ref (He.ga K "NoName")) = some b := kitT_ok (kit0_NoName T) (by intro q hq; rw [List.mem_singleton.mp hq]; exact gloc_BadWeb T) (by intro q hq; rw [List.mem_singleton.mp hq]; exact isec_BadWeb T)
theorem kitc_NoPeg (T : Txt K mg) : ∀ C b A, tb_NoPeg.lookup C = some b → mg C = some (.ref A) → L2.ExcC K A ∧ PySem.W.kitOne K (.ref A) (.ref (He.ga K "NoPeg")) = some b := kitT_ok (kit0_NoPeg T) (by intro q hq; rw [List.mem_singleton.mp hq]; exact gloc_BadWeb T) (by intro q hq; rw [List.mem_singleton.mp hq]; exact isec_BadWeb T)
theorem kitc_NoRoom (T : Txt K mg) : ∀ C b A, tb_NoRoom.lookup C = some b → mg C = some (.ref A) → L2.ExcC K A ∧ PySem.W.kitOne K (.ref A) (.ref (He.ga K "NoRoom")) = some b := kitT_ok (kit0_NoRoom T) (by intro q hq; rw [List.mem_singleton.mp hq]; exact gloc_BadWeb T) (by intro q hq; rw [List.mem_singleton.mp hq]; exact isec_BadWeb T)
theorem kitc_NoTurn (T : Txt K mg) : ∀ C b A, tb_NoTurn.lookup C = some b → mg C = some (.ref A) → L2.ExcC K A ∧ PySem.W.kitOne K (.ref A) (.ref (He.ga K "NoTurn")) = some b := kitT_ok (kit0_NoTurn T) (by intro q hq; rw [List.mem_singleton.mp hq]; exact gloc_BadWeb T) (by intro q hq; rw [List.mem_singleton.mp hq]; exact isec_BadWeb T)
theorem kitc_TooMany (T : Txt K mg) : ∀ C b A, tb_TooMany.lookup C = some b → mg C = some (.ref A) → L2.ExcC K A ∧ PySem.W.kitOne K (.ref A) (.ref (He.ga K "TooMany")) = some b := kitT_ok (kit0_TooMany T) (by intro q hq; rw [List.mem_singleton.mp hq]; exact gloc_BadWeb T) (by intro q hq; rw [List.mem_singleton.mp hq]; exact isec_BadWeb T)
theorem kitc_Unlawful (T : Txt K mg) : ∀ C b A, tb_Unlawful.lookup C = some b → mg C = some (.ref A) → L2.ExcC K A ∧ PySem.W.kitOne K (.ref A) (.ref (He.ga K "Unlawful")) = some b := kitT_ok (kit0_Unlawful T) (by intro q hq; rw [List.mem_singleton.mp hq]; exact gloc_BadWeb T) (by intro q hq; rw [List.mem_singleton.mp hq]; exact isec_BadWeb T)
theorem kitc_ValueError (T : Txt K mg) : ∀ C b A, tb_ValueError.lookup C = some b → mg C = some (.ref A) → L2.ExcC K A ∧ PySem.W.kitOne K (.ref A) (.type "ValueError") = some b := kitT_ok (kit0_ValueError T) (by intro q hq; rw [List.mem_singleton.mp hq]; exact gloc_BadWeb T) (by intro q hq; rw [List.mem_singleton.mp hq]; exact isec_BadWeb T)
theorem fun_p_law_state (T : Txt K mg) : ∃ fd, FunD K d_p_law_state.name d_p_law_state.qual d_p_law_state.params d_p_law_state.body d_p_law_state.scope (d_p_law_state.dvs K) (d_p_law_state.kws K) (He.fAd K d_p_law_state.at_) fd := T.says.def_ 0 (d := d_p_law_state) rfl
theorem fun_p_law_next (T : Txt K mg) : ∃ fd, FunD K d_p_law_next.name d_p_law_next.qual d_p_law_next.params d_p_law_next.body d_p_law_next.scope (d_p_law_next.dvs K) (d_p_law_next.kws K) (He.fAd K d_p_law_next.at_) fd := T.says.def_ 1 (d := d_p_law_next) rfl
theorem fun_p_law_value (T : Txt K mg) : ∃ fd, FunD K d_p_law_value.name d_p_law_value.qual d_p_law_value.params d_p_law_value.body d_p_law_value.scope (d_p_law_value.dvs K) (d_p_law_value.kws K) (He.fAd K d_p_law_value.at_) fd := T.says.def_ 2 (d := d_p_law_value) rfl
theorem fun_p_law_cell (T : Txt K mg) : ∃ fd, FunD K d_p_law_cell.name d_p_law_cell.qual d_p_law_cell.params d_p_law_cell.body d_p_law_cell.scope (d_p_law_cell.dvs K) (d_p_law_cell.kws K) (He.fAd K d_p_law_cell.at_) fd := T.says.def_ 3 (d := d_p_law_cell) rfl
theorem fun_p_law_web (T : Txt K mg) : ∃ fd, FunD K d_p_law_web.name d_p_law_web.qual d_p_law_web.params d_p_law_web.body d_p_law_web.scope (d_p_law_web.dvs K) (d_p_law_web.kws K) (He.fAd K d_p_law_web.at_) fd := T.says.def_ 4 (d := d_p_law_web) rfl
theorem fun_p_law_odd (T : Txt K mg) : ∃ fd, FunD K d_p_law_odd.name d_p_law_odd.qual d_p_law_odd.params d_p_law_odd.body d_p_law_odd.scope (d_p_law_odd.dvs K) (d_p_law_odd.kws K) (He.fAd K d_p_law_odd.at_) fd := T.says.def_ 5 (d := d_p_law_odd) rfl
theorem fun_p_law_other (T : Txt K mg) : ∃ fd, FunD K d_p_law_other.name d_p_law_other.qual d_p_law_other.params d_p_law_other.body d_p_law_other.scope (d_p_law_other.dvs K) (d_p_law_other.kws K) (He.fAd K d_p_law_other.at_) fd := T.says.def_ 6 (d := d_p_law_other) rfl
theorem fun_p_law_bent_r5 (T : Txt K mg) : ∃ fd, FunD K d_p_law_bent_r5.name d_p_law_bent_r5.qual d_p_law_bent_r5.params d_p_law_bent_r5.body d_p_law_bent_r5.scope (d_p_law_bent_r5.dvs K) (d_p_law_bent_r5.kws K) (He.fAd K d_p_law_bent_r5.at_) fd := T.says.def_ 7 (d := d_p_law_bent_r5) rfl
theorem fun_p_law_bent_r4 (T : Txt K mg) : ∃ fd, FunD K d_p_law_bent_r4.name d_p_law_bent_r4.qual d_p_law_bent_r4.params d_p_law_bent_r4.body d_p_law_bent_r4.scope (d_p_law_bent_r4.dvs K) (d_p_law_bent_r4.kws K) (He.fAd K d_p_law_bent_r4.at_) fd := T.says.def_ 8 (d := d_p_law_bent_r4) rfl
theorem fun_p_law_bent_r3 (T : Txt K mg) : ∃ fd, FunD K d_p_law_bent_r3.name d_p_law_bent_r3.qual d_p_law_bent_r3.params d_p_law_bent_r3.body d_p_law_bent_r3.scope (d_p_law_bent_r3.dvs K) (d_p_law_bent_r3.kws K) (He.fAd K d_p_law_bent_r3.at_) fd := T.says.def_ 9 (d := d_p_law_bent_r3) rfl
theorem fun_p_law_bent_r2 (T : Txt K mg) : ∃ fd, FunD K d_p_law_bent_r2.name d_p_law_bent_r2.qual d_p_law_bent_r2.params d_p_law_bent_r2.body d_p_law_bent_r2.scope (d_p_law_bent_r2.dvs K) (d_p_law_bent_r2.kws K) (He.fAd K d_p_law_bent_r2.at_) fd := T.says.def_ 10 (d := d_p_law_bent_r2) rfl
theorem fun_p_law_bent_r1 (T : Txt K mg) : ∃ fd, FunD K d_p_law_bent_r1.name d_p_law_bent_r1.qual d_p_law_bent_r1.params d_p_law_bent_r1.body d_p_law_bent_r1.scope (d_p_law_bent_r1.dvs K) (d_p_law_bent_r1.kws K) (He.fAd K d_p_law_bent_r1.at_) fd := T.says.def_ 11 (d := d_p_law_bent_r1) rfl
theorem fun_p_law_odd_o (T : Txt K mg) : ∃ fd, FunD K d_p_law_odd_o.name d_p_law_odd_o.qual d_p_law_odd_o.params d_p_law_odd_o.body d_p_law_odd_o.scope (d_p_law_odd_o.dvs K) (d_p_law_odd_o.kws K) (He.fAd K d_p_law_odd_o.at_) fd := T.says.def_ 12 (d := d_p_law_odd_o) rfl
theorem fun_p_law_other_o (T : Txt K mg) : ∃ fd, FunD K d_p_law_other_o.name d_p_law_other_o.qual d_p_law_other_o.params d_p_law_other_o.body d_p_law_other_o.scope (d_p_law_other_o.dvs K) (d_p_law_other_o.kws K) (He.fAd K d_p_law_other_o.at_) fd := T.says.def_ 13 (d := d_p_law_other_o) rfl
theorem fun_p_law_bent (T : Txt K mg) : ∃ fd, FunD K d_p_law_bent.name d_p_law_bent.qual d_p_law_bent.params d_p_law_bent.body d_p_law_bent.scope (d_p_law_bent.dvs K) (d_p_law_bent.kws K) (He.fAd K d_p_law_bent.at_) fd := T.says.def_ 14 (d := d_p_law_bent) rfl
theorem fun_p_law_whole (T : Txt K mg) : ∃ fd, FunD K d_p_law_whole.name d_p_law_whole.qual d_p_law_whole.params d_p_law_whole.body d_p_law_whole.scope (d_p_law_whole.dvs K) (d_p_law_whole.kws K) (He.fAd K d_p_law_whole.at_) fd := T.says.def_ 15 (d := d_p_law_whole) rfl
theorem fun_p_law_is_value (T : Txt K mg) : ∃ fd, FunD K d_p_law_is_value.name d_p_law_is_value.qual d_p_law_is_value.params d_p_law_is_value.body d_p_law_is_value.scope (d_p_law_is_value.dvs K) (d_p_law_is_value.kws K) (He.fAd K d_p_law_is_value.at_) fd := T.says.def_ 16 (d := d_p_law_is_value) rfl
theorem fun_p_law_is_cell (T : Txt K mg) : ∃ fd, FunD K d_p_law_is_cell.name d_p_law_is_cell.qual d_p_law_is_cell.params d_p_law_is_cell.body d_p_law_is_cell.scope (d_p_law_is_cell.dvs K) (d_p_law_is_cell.kws K) (He.fAd K d_p_law_is_cell.at_) fd := T.says.def_ 17 (d := d_p_law_is_cell) rfl
theorem fun_p_law_is_web (T : Txt K mg) : ∃ fd, FunD K d_p_law_is_web.name d_p_law_is_web.qual d_p_law_is_web.params d_p_law_is_web.body d_p_law_is_web.scope (d_p_law_is_web.dvs K) (d_p_law_is_web.kws K) (He.fAd K d_p_law_is_web.at_) fd := T.says.def_ 18 (d := d_p_law_is_web) rfl
theorem fun_p_law_classes (T : Txt K mg) : ∃ fd, FunD K d_p_law_classes.name d_p_law_classes.qual d_p_law_classes.params d_p_law_classes.body d_p_law_classes.scope (d_p_law_classes.dvs K) (d_p_law_classes.kws K) (He.fAd K d_p_law_classes.at_) fd := T.says.def_ 19 (d := d_p_law_classes) rfl
theorem fun_p_law_told (T : Txt K mg) : ∃ fd, FunD K d_p_law_told.name d_p_law_told.qual d_p_law_told.params d_p_law_told.body d_p_law_told.scope (d_p_law_told.dvs K) (d_p_law_told.kws K) (He.fAd K d_p_law_told.at_) fd := T.says.def_ 20 (d := d_p_law_told) rfl
theorem fun_is_row (T : Txt K mg) : ∃ fd, FunD K d_is_row.name d_is_row.qual d_is_row.params d_is_row.body d_is_row.scope (d_is_row.dvs K) (d_is_row.kws K) (He.fAd K d_is_row.at_) fd := T.says.def_ 21 (d := d_is_row) rfl
theorem fun_is_whole (T : Txt K mg) : ∃ fd, FunD K d_is_whole.name d_is_whole.qual d_is_whole.params d_is_whole.body d_is_whole.scope (d_is_whole.dvs K) (d_is_whole.kws K) (He.fAd K d_is_whole.at_) fd := T.says.def_ 22 (d := d_is_whole) rfl
theorem fun_is_number (T : Txt K mg) : ∃ fd, FunD K d_is_number.name d_is_number.qual d_is_number.params d_is_number.body d_is_number.scope (d_is_number.dvs K) (d_is_number.kws K) (He.fAd K d_is_number.at_) fd := T.says.def_ 23 (d := d_is_number) rfl
theorem fun_is_at (T : Txt K mg) : ∃ fd, FunD K d_is_at.name d_is_at.qual d_is_at.params d_is_at.body d_is_at.scope (d_is_at.dvs K) (d_is_at.kws K) (He.fAd K d_is_at.at_) fd := T.says.def_ 24 (d := d_is_at) rfl
theorem fun_is_value (T : Txt K mg) : ∃ fd, FunD K d_is_value.name d_is_value.qual d_is_value.params d_is_value.body d_is_value.scope (d_is_value.dvs K) (d_is_value.kws K) (He.fAd K d_is_value.at_) fd := T.says.def_ 25 (d := d_is_value) rfl
theorem fun_is_cell (T : Txt K mg) : ∃ fd, FunD K d_is_cell.name d_is_cell.qual d_is_cell.params d_is_cell.body d_is_cell.scope (d_is_cell.dvs K) (d_is_cell.kws K) (He.fAd K d_is_cell.at_) fd := T.says.def_ 26 (d := d_is_cell) rfl
theorem fun_is_web (T : Txt K mg) : ∃ fd, FunD K d_is_web.name d_is_web.qual d_is_web.params d_is_web.body d_is_web.scope (d_is_web.dvs K) (d_is_web.kws K) (He.fAd K d_is_web.at_) fd := T.says.def_ 27 (d := d_is_web) rfl
theorem fun_Web_init (T : Txt K mg) : ∃ fd, FunD K d_Web_init.name d_Web_init.qual d_Web_init.params d_Web_init.body d_Web_init.scope (d_Web_init.dvs K) (d_Web_init.kws K) (He.fAd K d_Web_init.at_) fd := T.says.def_ 28 (d := d_Web_init) rfl
theorem fun_p_law_near (T : Txt K mg) : ∃ fd, FunD K d_p_law_near.name d_p_law_near.qual d_p_law_near.params d_p_law_near.body d_p_law_near.scope (d_p_law_near.dvs K) (d_p_law_near.kws K) (He.fAd K d_p_law_near.at_) fd := T.says.def_ 29 (d := d_p_law_near) rfl
theorem fun_Web_eq (T : Txt K mg) : ∃ fd, FunD K d_Web_eq.name d_Web_eq.qual d_Web_eq.params d_Web_eq.body d_Web_eq.scope (d_Web_eq.dvs K) (d_Web_eq.kws K) (He.fAd K d_Web_eq.at_) fd := T.says.def_ 30 (d := d_Web_eq) rfl
theorem fun_p_law_equal_right (T : Txt K mg) : ∃ fd, FunD K d_p_law_equal_right.name d_p_law_equal_right.qual d_p_law_equal_right.params d_p_law_equal_right.body d_p_law_equal_right.scope (d_p_law_equal_right.dvs K) (d_p_law_equal_right.kws K) (He.fAd K d_p_law_equal_right.at_) fd := T.says.def_ 31 (d := d_p_law_equal_right) rfl
theorem fun_Web_cells_o (T : Txt K mg) : ∃ fd, FunD K d_Web_cells_o.name d_Web_cells_o.qual d_Web_cells_o.params d_Web_cells_o.body d_Web_cells_o.scope (d_Web_cells_o.dvs K) (d_Web_cells_o.kws K) (He.fAd K d_Web_cells_o.at_) fd := T.says.def_ 32 (d := d_Web_cells_o) rfl
theorem fun_Web_cells (T : Txt K mg) : ∃ fd, FunD K d_Web_cells.name d_Web_cells.qual d_Web_cells.params d_Web_cells.body d_Web_cells.scope (d_Web_cells.dvs K) (d_Web_cells.kws K) (He.fAd K d_Web_cells.at_) fd := T.says.def_ 33 (d := d_Web_cells) rfl
theorem fun_Web_pegs_o (T : Txt K mg) : ∃ fd, FunD K d_Web_pegs_o.name d_Web_pegs_o.qual d_Web_pegs_o.params d_Web_pegs_o.body d_Web_pegs_o.scope (d_Web_pegs_o.dvs K) (d_Web_pegs_o.kws K) (He.fAd K d_Web_pegs_o.at_) fd := T.says.def_ 34 (d := d_Web_pegs_o) rfl
theorem fun_Web_pegs (T : Txt K mg) : ∃ fd, FunD K d_Web_pegs.name d_Web_pegs.qual d_Web_pegs.params d_Web_pegs.body d_Web_pegs.scope (d_Web_pegs.dvs K) (d_Web_pegs.kws K) (He.fAd K d_Web_pegs.at_) fd := T.says.def_ 35 (d := d_Web_pegs) rfl
theorem fun_Web_len (T : Txt K mg) : ∃ fd, FunD K d_Web_len.name d_Web_len.qual d_Web_len.params d_Web_len.body d_Web_len.scope (d_Web_len.dvs K) (d_Web_len.kws K) (He.fAd K d_Web_len.at_) fd := T.says.def_ 36 (d := d_Web_len) rfl
theorem fun_law (T : Txt K mg) : ∃ fd, FunD K d_law.name d_law.qual d_law.params d_law.body d_law.scope (d_law.dvs K) (d_law.kws K) (He.fAd K d_law.at_) fd := T.says.def_ 37 (d := d_law) rfl
end
end K03

namespace K03
open PySem PySem.Spec PyProof.Rows L2 DL
/-! ### the head -/
end K03

namespace K03
open PySem PySem.Spec PyProof.Rows L2 DL
theorem kb0 {K : PySem.W.Frag} {fd : FuncData} (D_p_law_next : FunD K d_p_law_next.name d_p_law_next.qual d_p_law_next.params d_p_law_next.body d_p_law_next.scope (d_p_law_next.dvs K) (d_p_law_next.kws K) (He.fAd K d_p_law_next.at_) fd) : KB K fd ["_law_state_here", "_law_many"] 2 [] (fun ds es => pick [(0, 0), (0, 1)] ds es []) := kb_all D_p_law_next rfl 2 [] [(0, 0), (0, 1)] fun _ _ _ _ _ _ us ws l1 l2 => match us, ws, l1, l2 with | [_, _], [], _, _ => rfl
theorem kb1 {K : PySem.W.Frag} {fd : FuncData} (D_p_law_value : FunD K d_p_law_value.name d_p_law_value.qual d_p_law_value.params d_p_law_value.body d_p_law_value.scope (d_p_law_value.dvs K) (d_p_law_value.kws K) (He.fAd K d_p_law_value.at_) fd) : KB K fd ["_law_state_here", "_law_many"] 2 [] (fun ds es => pick [(0, 0), (0, 1)] ds es []) := kb_all D_p_law_value rfl 2 [] [(0, 0), (0, 1)] fun _ _ _ _ _ _ us ws l1 l2 => match us, ws, l1, l2 with | [_, _], [], _, _ => rfl
theorem kb2 {K : PySem.W.Frag} {fd : FuncData} (D_p_law_cell : FunD K d_p_law_cell.name d_p_law_cell.qual d_p_law_cell.params d_p_law_cell.body d_p_law_cell.scope (d_p_law_cell.dvs K) (d_p_law_cell.kws K) (He.fAd K d_p_law_cell.at_) fd) : KB K fd ["_law_state_here", "_law_many"] 2 [] (fun ds es => pick [(0, 0), (0, 1)] ds es []) := kb_all D_p_law_cell rfl 2 [] [(0, 0), (0, 1)] fun _ _ _ _ _ _ us ws l1 l2 => match us, ws, l1, l2 with | [_, _], [], _, _ => rfl
theorem kb3 {K : PySem.W.Frag} {fd : FuncData} (D_p_law_odd : FunD K d_p_law_odd.name d_p_law_odd.qual d_p_law_odd.params d_p_law_odd.body d_p_law_odd.scope (d_p_law_odd.dvs K) (d_p_law_odd.kws K) (He.fAd K d_p_law_odd.at_) fd) : KB K fd ["_law_state_here"] 1 [] (fun ds es => pick [(0, 0)] ds es []) := kb_all D_p_law_odd rfl 1 [] [(0, 0)] fun _ _ _ _ _ _ us ws l1 l2 => match us, ws, l1, l2 with | [_], [], _, _ => rfl
theorem kb4 {K : PySem.W.Frag} {fd : FuncData} (D_p_law_other : FunD K d_p_law_other.name d_p_law_other.qual d_p_law_other.params d_p_law_other.body d_p_law_other.scope (d_p_law_other.dvs K) (d_p_law_other.kws K) (He.fAd K d_p_law_other.at_) fd) : KB K fd ["_law_state_here", "_law_thing"] 2 [] (fun ds es => pick [(0, 0), (0, 1)] ds es []) := kb_all D_p_law_other rfl 2 [] [(0, 0), (0, 1)] fun _ _ _ _ _ _ us ws l1 l2 => match us, ws, l1, l2 with | [_, _], [], _, _ => rfl
theorem kb5 {K : PySem.W.Frag} {fd : FuncData} (D_p_law_bent_r5 : FunD K d_p_law_bent_r5.name d_p_law_bent_r5.qual d_p_law_bent_r5.params d_p_law_bent_r5.body d_p_law_bent_r5.scope (d_p_law_bent_r5.dvs K) (d_p_law_bent_r5.kws K) (He.fAd K d_p_law_bent_r5.at_) fd) : KB K fd ["_law_state_here", "_law_thing"] 2 [] (fun ds es => pick [(0, 0), (0, 1)] ds es []) := kb_all D_p_law_bent_r5 rfl 2 [] [(0, 0), (0, 1)] fun _ _ _ _ _ _ us ws l1 l2 => match us, ws, l1, l2 with | [_, _], [], _, _ => rfl
theorem kb6 {K : PySem.W.Frag} {fd : FuncData} (D_p_law_bent_r4 : FunD K d_p_law_bent_r4.name d_p_law_bent_r4.qual d_p_law_bent_r4.params d_p_law_bent_r4.body d_p_law_bent_r4.scope (d_p_law_bent_r4.dvs K) (d_p_law_bent_r4.kws K) (He.fAd K d_p_law_bent_r4.at_) fd) : KB K fd ["_law_state_here", "_law_thing"] 2 [] (fun ds es => pick [(0, 0), (0, 1)] ds es []) := kb_all D_p_law_bent_r4 rfl 2 [] [(0, 0), (0, 1)] fun _ _ _ _ _ _ us ws l1 l2 => match us, ws, l1, l2 with | [_, _], [], _, _ => rfl
theorem kb7 {K : PySem.W.Frag} {fd : FuncData} (D_p_law_bent_r3 : FunD K d_p_law_bent_r3.name d_p_law_bent_r3.qual d_p_law_bent_r3.params d_p_law_bent_r3.body d_p_law_bent_r3.scope (d_p_law_bent_r3.dvs K) (d_p_law_bent_r3.kws K) (He.fAd K d_p_law_bent_r3.at_) fd) : KB K fd ["_law_state_here", "_law_thing"] 2 [] (fun ds es => pick [(0, 0), (0, 1)] ds es []) := kb_all D_p_law_bent_r3 rfl 2 [] [(0, 0), (0, 1)] fun _ _ _ _ _ _ us ws l1 l2 => match us, ws, l1, l2 with | [_, _], [], _, _ => rfl
theorem kb8 {K : PySem.W.Frag} {fd : FuncData} (D_p_law_bent_r2 : FunD K d_p_law_bent_r2.name d_p_law_bent_r2.qual d_p_law_bent_r2.params d_p_law_bent_r2.body d_p_law_bent_r2.scope (d_p_law_bent_r2.dvs K) (d_p_law_bent_r2.kws K) (He.fAd K d_p_law_bent_r2.at_) fd) : KB K fd ["_law_state_here", "_law_thing"] 2 [] (fun ds es => pick [(0, 0), (0, 1)] ds es []) := kb_all D_p_law_bent_r2 rfl 2 [] [(0, 0), (0, 1)] fun _ _ _ _ _ _ us ws l1 l2 => match us, ws, l1, l2 with | [_, _], [], _, _ => rfl
theorem kb9 {K : PySem.W.Frag} {fd : FuncData} (D_p_law_odd_o : FunD K d_p_law_odd_o.name d_p_law_odd_o.qual d_p_law_odd_o.params d_p_law_odd_o.body d_p_law_odd_o.scope (d_p_law_odd_o.dvs K) (d_p_law_odd_o.kws K) (He.fAd K d_p_law_odd_o.at_) fd) : KB K fd ["_law_state_here"] 1 [] (fun ds es => pick [(0, 0)] ds es []) := kb_all D_p_law_odd_o rfl 1 [] [(0, 0)] fun _ _ _ _ _ _ us ws l1 l2 => match us, ws, l1, l2 with | [_], [], _, _ => rfl
theorem kb10 {K : PySem.W.Frag} {fd : FuncData} (D_p_law_bent_r1 : FunD K d_p_law_bent_r1.name d_p_law_bent_r1.qual d_p_law_bent_r1.params d_p_law_bent_r1.body d_p_law_bent_r1.scope (d_p_law_bent_r1.dvs K) (d_p_law_bent_r1.kws K) (He.fAd K d_p_law_bent_r1.at_) fd) : KB K fd ["_law_state_here", "_law_thing"] 2 [] (fun ds es => pick [(0, 0), (0, 1)] ds es []) := kb_all D_p_law_bent_r1 rfl 2 [] [(0, 0), (0, 1)] fun _ _ _ _ _ _ us ws l1 l2 => match us, ws, l1, l2 with | [_, _], [], _, _ => rfl
theorem kb11 {K : PySem.W.Frag} {fd : FuncData} (D_p_law_other_o : FunD K d_p_law_other_o.name d_p_law_other_o.qual d_p_law_other_o.params d_p_law_other_o.body d_p_law_other_o.scope (d_p_law_other_o.dvs K) (d_p_law_other_o.kws K) (He.fAd K d_p_law_other_o.at_) fd) : KB K fd ["_law_state_here", "_law_thing"] 2 [] (fun ds es => pick [(0, 0), (0, 1)] ds es []) := kb_all D_p_law_other_o rfl 2 [] [(0, 0), (0, 1)] fun _ _ _ _ _ _ us ws l1 l2 => match us, ws, l1, l2 with | [_, _], [], _, _ => rfl
theorem kb12 {K : PySem.W.Frag} {fd : FuncData} (D_p_law_whole : FunD K d_p_law_whole.name d_p_law_whole.qual d_p_law_whole.params d_p_law_whole.body d_p_law_whole.scope (d_p_law_whole.dvs K) (d_p_law_whole.kws K) (He.fAd K d_p_law_whole.at_) fd) : KB K fd ["_law_thing", "_law_low", "_law_most"] 3 [] (fun ds es => pick [(0, 0), (0, 1), (0, 2)] ds es []) := kb_all D_p_law_whole rfl 3 [] [(0, 0), (0, 1), (0, 2)] fun _ _ _ _ _ _ us ws l1 l2 => match us, ws, l1, l2 with | [_, _, _], [], _, _ => rfl
theorem kb13 {K : PySem.W.Frag} {fd : FuncData} (D_p_law_is_value : FunD K d_p_law_is_value.name d_p_law_is_value.qual d_p_law_is_value.params d_p_law_is_value.body d_p_law_is_value.scope (d_p_law_is_value.dvs K) (d_p_law_is_value.kws K) (He.fAd K d_p_law_is_value.at_) fd) : KB K fd ["_law_thing", "_law_many"] 2 [] (fun ds es => pick [(0, 0), (0, 1)] ds es []) := kb_all D_p_law_is_value rfl 2 [] [(0, 0), (0, 1)] fun _ _ _ _ _ _ us ws l1 l2 => match us, ws, l1, l2 with | [_, _], [], _, _ => rfl
theorem kb14 {K : PySem.W.Frag} {fd : FuncData} (D_p_law_is_cell : FunD K d_p_law_is_cell.name d_p_law_is_cell.qual d_p_law_is_cell.params d_p_law_is_cell.body d_p_law_is_cell.scope (d_p_law_is_cell.dvs K) (d_p_law_is_cell.kws K) (He.fAd K d_p_law_is_cell.at_) fd) : KB K fd ["_law_thing", "_law_many"] 2 [] (fun ds es => pick [(0, 0), (0, 1)] ds es []) := kb_all D_p_law_is_cell rfl 2 [] [(0, 0), (0, 1)] fun _ _ _ _ _ _ us ws l1 l2 => match us, ws, l1, l2 with | [_, _], [], _, _ => rfl
theorem kb15 {K : PySem.W.Frag} {fd : FuncData} (D_p_law_classes : FunD K d_p_law_classes.name d_p_law_classes.qual d_p_law_classes.params d_p_law_classes.body d_p_law_classes.scope (d_p_law_classes.dvs K) (d_p_law_classes.kws K) (He.fAd K d_p_law_classes.at_) fd) : KB K fd ["_law_error"] 1 [] (fun ds es => pick [(0, 0)] ds es []) := kb_all D_p_law_classes rfl 1 [] [(0, 0)] fun _ _ _ _ _ _ us ws l1 l2 => match us, ws, l1, l2 with | [_], [], _, _ => rfl
theorem kb16 {K : PySem.W.Frag} {fd : FuncData} (D_is_whole : FunD K d_is_whole.name d_is_whole.qual d_is_whole.params d_is_whole.body d_is_whole.scope (d_is_whole.dvs K) (d_is_whole.kws K) (He.fAd K d_is_whole.at_) fd) : KB K fd ["thing", "least", "most"] 3 [] (fun ds es => pick [(0, 0), (0, 1), (0, 2)] ds es []) := kb_all D_is_whole rfl 3 [] [(0, 0), (0, 1), (0, 2)] fun _ _ _ _ _ _ us ws l1 l2 => match us, ws, l1, l2 with | [_, _, _], [], _, _ => rfl
theorem kb17 {K : PySem.W.Frag} {fd : FuncData} (D_is_number : FunD K d_is_number.name d_is_number.qual d_is_number.params d_is_number.body d_is_number.scope (d_is_number.dvs K) (d_is_number.kws K) (He.fAd K d_is_number.at_) fd) : KB K fd ["thing"] 1 [] (fun ds es => pick [(0, 0)] ds es []) := kb_all D_is_number rfl 1 [] [(0, 0)] fun _ _ _ _ _ _ us ws l1 l2 => match us, ws, l1, l2 with | [_], [], _, _ => rfl
theorem kb18 {K : PySem.W.Frag} {fd : FuncData} (D_is_at : FunD K d_is_at.name d_is_at.qual d_is_at.params d_is_at.body d_is_at.scope (d_is_at.dvs K) (d_is_at.kws K) (He.fAd K d_is_at.at_) fd) : KB K fd ["thing", "least"] 2 [] (fun ds es => pick [(0, 0), (0, 1)] ds es []) := kb_all D_is_at rfl 2 [] [(0, 0), (0, 1)] fun _ _ _ _ _ _ us ws l1 l2 => match us, ws, l1, l2 with | [_, _], [], _, _ => rfl
theorem kb19 {K : PySem.W.Frag} {fd : FuncData} (D_is_value : FunD K d_is_value.name d_is_value.qual d_is_value.params d_is_value.body d_is_value.scope (d_is_value.dvs K) (d_is_value.kws K) (He.fAd K d_is_value.at_) fd) : KB K fd ["thing", "cells"] 1 ["cells"] (fun ds es => pick [(0, 0), (1, 0)] ds es []) := kb_all D_is_value rfl 1 ["cells"] [(0, 0), (1, 0)] fun _ _ _ _ _ _ us ws l1 l2 => match us, ws, l1, l2 with | [_], [_], _, _ => rfl
theorem kb20 {K : PySem.W.Frag} {fd : FuncData} (D_is_row : FunD K d_is_row.name d_is_row.qual d_is_row.params d_is_row.body d_is_row.scope (d_is_row.dvs K) (d_is_row.kws K) (He.fAd K d_is_row.at_) fd) : KB K fd ["thing"] 1 [] (fun ds es => pick [(0, 0)] ds es []) := kb_all D_is_row rfl 1 [] [(0, 0)] fun _ _ _ _ _ _ us ws l1 l2 => match us, ws, l1, l2 with | [_], [], _, _ => rfl
theorem kb21 {K : PySem.W.Frag} {fd : FuncData} (D_is_cell : FunD K d_is_cell.name d_is_cell.qual d_is_cell.params d_is_cell.body d_is_cell.scope (d_is_cell.dvs K) (d_is_cell.kws K) (He.fAd K d_is_cell.at_) fd) : KB K fd ["thing", "cells"] 1 ["cells"] (fun ds es => pick [(0, 0), (1, 0)] ds es []) := kb_all D_is_cell rfl 1 ["cells"] [(0, 0), (1, 0)] fun _ _ _ _ _ _ us ws l1 l2 => match us, ws, l1, l2 with | [_], [_], _, _ => rfl
theorem kb22 {K : PySem.W.Frag} {fd : FuncData} (D_is_web : FunD K d_is_web.name d_is_web.qual d_is_web.params d_is_web.body d_is_web.scope (d_is_web.dvs K) (d_is_web.kws K) (He.fAd K d_is_web.at_) fd) : KB K fd ["cells", "pegs"] 2 [] (fun ds es => pick [(0, 0), (0, 1)] ds es []) := kb_all D_is_web rfl 2 [] [(0, 0), (0, 1)] fun _ _ _ _ _ _ us ws l1 l2 => match us, ws, l1, l2 with | [_, _], [], _, _ => rfl
theorem kb23 {K : PySem.W.Frag} {fd : FuncData} (D_p_law_near : FunD K d_p_law_near.name d_p_law_near.qual d_p_law_near.params d_p_law_near.body d_p_law_near.scope (d_p_law_near.dvs K) (d_p_law_near.kws K) (He.fAd K d_p_law_near.at_) fd) : KB K fd ["_law_state_here", "_law_stuff", "_law_holds"] 3 [] (fun ds es => pick [(0, 0), (0, 1), (0, 2)] ds es []) := kb_all D_p_law_near rfl 3 [] [(0, 0), (0, 1), (0, 2)] fun _ _ _ _ _ _ us ws l1 l2 => match us, ws, l1, l2 with | [_, _, _], [], _, _ => rfl
theorem kb24 {K : PySem.W.Frag} {fd : FuncData} (D_Web_init : FunD K d_Web_init.name d_Web_init.qual d_Web_init.params d_Web_init.body d_Web_init.scope (d_Web_init.dvs K) (d_Web_init.kws K) (He.fAd K d_Web_init.at_) fd) : KB K fd ["self", "cells", "pegs"] 3 [] (fun ds es => pick [(0, 0), (0, 1), (0, 2)] ds es []) := kb_all D_Web_init rfl 3 [] [(0, 0), (0, 1), (0, 2)] fun _ _ _ _ _ _ us ws l1 l2 => match us, ws, l1, l2 with | [_, _, _], [], _, _ => rfl
theorem kb25 {K : PySem.W.Frag} {fd : FuncData} (D_p_law_state : FunD K d_p_law_state.name d_p_law_state.qual d_p_law_state.params d_p_law_state.body d_p_law_state.scope (d_p_law_state.dvs K) (d_p_law_state.kws K) (He.fAd K d_p_law_state.at_) fd) : KB K fd ["_law_script", "_law_k"] 2 [] (fun ds es => pick [(0, 0), (0, 1)] ds es []) := kb_all D_p_law_state rfl 2 [] [(0, 0), (0, 1)] fun _ _ _ _ _ _ us ws l1 l2 => match us, ws, l1, l2 with | [_, _], [], _, _ => rfl
theorem kb26 {K : PySem.W.Frag} {fd : FuncData} (D_p_law_web : FunD K d_p_law_web.name d_p_law_web.qual d_p_law_web.params d_p_law_web.body d_p_law_web.scope (d_p_law_web.dvs K) (d_p_law_web.kws K) (He.fAd K d_p_law_web.at_) fd) : KB K fd ["_law_state_here", "_law_most"] 2 [] (fun ds es => pick [(0, 0), (0, 1)] ds es []) := kb_all D_p_law_web rfl 2 [] [(0, 0), (0, 1)] fun _ _ _ _ _ _ us ws l1 l2 => match us, ws, l1, l2 with | [_, _], [], _, _ => rfl
theorem kb27 {K : PySem.W.Frag} {fd : FuncData} (D_p_law_bent : FunD K d_p_law_bent.name d_p_law_bent.qual d_p_law_bent.params d_p_law_bent.body d_p_law_bent.scope (d_p_law_bent.dvs K) (d_p_law_bent.kws K) (He.fAd K d_p_law_bent.at_) fd) : KB K fd ["_law_state_here", "_law_thing"] 2 [] (fun ds es => pick [(0, 0), (0, 1)] ds es []) := kb_all D_p_law_bent rfl 2 [] [(0, 0), (0, 1)] fun _ _ _ _ _ _ us ws l1 l2 => match us, ws, l1, l2 with | [_, _], [], _, _ => rfl
theorem kb28 {K : PySem.W.Frag} {fd : FuncData} (D_p_law_is_web : FunD K d_p_law_is_web.name d_p_law_is_web.qual d_p_law_is_web.params d_p_law_is_web.body d_p_law_is_web.scope (d_p_law_is_web.dvs K) (d_p_law_is_web.kws K) (He.fAd K d_p_law_is_web.at_) fd) : KB K fd ["_law_stuff", "_law_holds"] 2 [] (fun ds es => pick [(0, 0), (0, 1)] ds es []) := kb_all D_p_law_is_web rfl 2 [] [(0, 0), (0, 1)] fun _ _ _ _ _ _ us ws l1 l2 => match us, ws, l1, l2 with | [_, _], [], _, _ => rfl
theorem kb29 {K : PySem.W.Frag} {fd : FuncData} (D_Web_init : FunD K d_Web_init.name d_Web_init.qual d_Web_init.params d_Web_init.body d_Web_init.scope (d_Web_init.dvs K) (d_Web_init.kws K) (He.fAd K d_Web_init.at_) fd) : KB K fd ["self", "cells", "pegs"] 1 ["pegs", "cells"] (fun ds es => pick [(0, 0), (1, 1), (1, 0)] ds es []) := kb_all D_Web_init rfl 1 ["pegs", "cells"] [(0, 0), (1, 1), (1, 0)] fun _ _ _ _ _ _ us ws l1 l2 => match us, ws, l1, l2 with | [_], [_, _], _, _ => rfl
theorem kb30 {K : PySem.W.Frag} {fd : FuncData} (D_p_law_equal_right : FunD K d_p_law_equal_right.name d_p_law_equal_right.qual d_p_law_equal_right.params d_p_law_equal_right.body d_p_law_equal_right.scope (d_p_law_equal_right.dvs K) (d_p_law_equal_right.kws K) (He.fAd K d_p_law_equal_right.at_) fd) : KB K fd ["_law_state_here", "_law_house", "_law_stuff", "_law_holds"] 4 [] (fun ds es => pick [(0, 0), (0, 1), (0, 2), (0, 3)] ds es []) := kb_all D_p_law_equal_right rfl 4 [] [(0, 0), (0, 1), (0, 2), (0, 3)] fun _ _ _ _ _ _ us ws l1 l2 => match us, ws, l1, l2 with | [_, _, _, _], [], _, _ => rfl
theorem kb31 {K : PySem.W.Frag} {fd : FuncData} (D_Web_cells_o : FunD K d_Web_cells_o.name d_Web_cells_o.qual d_Web_cells_o.params d_Web_cells_o.body d_Web_cells_o.scope (d_Web_cells_o.dvs K) (d_Web_cells_o.kws K) (He.fAd K d_Web_cells_o.at_) fd) : KB K fd ["self"] 1 [] (fun ds es => pick [(0, 0)] ds es []) := kb_all D_Web_cells_o rfl 1 [] [(0, 0)] fun _ _ _ _ _ _ us ws l1 l2 => match us, ws, l1, l2 with | [_], [], _, _ => rfl
theorem kb32 {K : PySem.W.Frag} {fd : FuncData} (D_Web_pegs_o : FunD K d_Web_pegs_o.name d_Web_pegs_o.qual d_Web_pegs_o.params d_Web_pegs_o.body d_Web_pegs_o.scope (d_Web_pegs_o.dvs K) (d_Web_pegs_o.kws K) (He.fAd K d_Web_pegs_o.at_) fd) : KB K fd ["self"] 1 [] (fun ds es => pick [(0, 0)] ds es []) := kb_all D_Web_pegs_o rfl 1 [] [(0, 0)] fun _ _ _ _ _ _ us ws l1 l2 => match us, ws, l1, l2 with | [_], [], _, _ => rfl
theorem kb33 {K : PySem.W.Frag} {fd : FuncData} (D_Web_cells : FunD K d_Web_cells.name d_Web_cells.qual d_Web_cells.params d_Web_cells.body d_Web_cells.scope (d_Web_cells.dvs K) (d_Web_cells.kws K) (He.fAd K d_Web_cells.at_) fd) : KB K fd ["self"] 1 [] (fun ds es => pick [(0, 0)] ds es []) := kb_all D_Web_cells rfl 1 [] [(0, 0)] fun _ _ _ _ _ _ us ws l1 l2 => match us, ws, l1, l2 with | [_], [], _, _ => rfl
theorem kb34 {K : PySem.W.Frag} {fd : FuncData} (D_Web_pegs : FunD K d_Web_pegs.name d_Web_pegs.qual d_Web_pegs.params d_Web_pegs.body d_Web_pegs.scope (d_Web_pegs.dvs K) (d_Web_pegs.kws K) (He.fAd K d_Web_pegs.at_) fd) : KB K fd ["self"] 1 [] (fun ds es => pick [(0, 0)] ds es []) := kb_all D_Web_pegs rfl 1 [] [(0, 0)] fun _ _ _ _ _ _ us ws l1 l2 => match us, ws, l1, l2 with | [_], [], _, _ => rfl
theorem ok_p_law_state {P : Program} {w : World} {K : PySem.W.Frag} {mg : Str → Option Value} {base : Heap} (T : Txt K mg) (TB : ∀ p ∈ tq, LamX.TabB base mg (He.cT K p.1).1 (He.cT K p.1).2) : ∃ fd, FunD K d_p_law_state.name d_p_law_state.qual d_p_law_state.params d_p_law_state.body d_p_law_state.scope (d_p_law_state.dvs K) (d_p_law_state.kws K) (He.fAd K d_p_law_state.at_) fd ∧
    FnG P w K mg base 1 (He.fAd K d_p_law_state.at_) fd ["_law_script", "_law_k"] (spD K mg 2 S_p_law_state) := by
  have b_abs := free_abs T
  have b_enumerate := free_enumerate T
  have b_len := free_len T
  obtain ⟨fd, F⟩ := fun_p_law_state T
  refine ⟨fd, F, fnG (N := N_p_law_state) (ps := ["_law_script", "_law_k"]) (k := 0) (g := m_p_law_state) F ⟨rfl, rfl, rfl, by decide +kernel, rfl, by decide +kernel, by decide +kernel⟩ fun cdv A outer s H E C => ?_⟩
  refine dss_cons (ds_set C (i := 2) rfl (by first | exact Or.inl rfl | exact Or.inr rfl) (de_ifExp (dt_cmp (opr_ne C) opd_ne (de_var (pv 0)) (de_lst da_nil) (nomark _)) (de_abs rfl b_abs (da_cons (de_sub1 C (de_var (pv 0)) (de_mod (de_var (pv 1)) (de_len rfl b_len (da_cons (de_var (pv 0)) da_nil)))) da_nil)) de_int)) ?_
  refine dss_cons (ds_if (DW.dt (dw_and (dt_cmp op_ge opd_ge (de_var (pv 2)) (de_pow de_int de_int) (nomark _)) (dw_and1 (dt_cmp op_lt opd_lt (de_var (pv 1)) (de_len rfl b_len (da_cons (de_var (pv 0)) da_nil)) (nomark _))))) (dss_one (ds_ret (de_lstO (da_cons (de_sub (de_var (pv 2)) (de_pow de_int de_int)) da_nil)))) dss_nil) ?_
  refine dss_cons (ds_set C (i := 3) rfl (by first | exact Or.inl rfl | exact Or.inr rfl) (de_lst (da_cons de_int (da_cons de_int (da_cons de_int (da_cons de_int (da_cons de_int (da_cons de_int (da_cons de_int (da_cons de_int da_nil)))))))))) ?_
  exact (dss_cons (ds_set C (i := 3) rfl (by first | exact Or.inl rfl | exact Or.inr rfl) (de_add (de_var (pv 3)) (de_lst (da_cons de_int (da_cons de_int (da_cons de_int (da_cons de_int (da_cons de_int (da_cons de_int (da_cons de_int da_nil)))))))))) (dss_cons (ds_set C (i := 4) rfl (by first | exact Or.inl rfl | exact Or.inr rfl) de_int) (dss_cons (ds_for C (di_enum rfl b_enumerate (da_cons (de_var (pv 3)) da_nil)) (dg_tup C.calm (dgs_cons (dg_name (i := 5) (pg_name C.nd rfl (by first | exact Or.inl rfl | exact Or.inr rfl))) (dgs_cons (dg_name (i := 6) (pg_name C.nd rfl (by first | exact Or.inl rfl | exact Or.inr rfl))) dgs_nil))) (dss_cons (ds_set C (i := 7) rfl (by first | exact Or.inl rfl | exact Or.inr rfl) (de_mod (de_add (de_add (de_add (de_var (pv 2)) (de_mul de_int (de_var (pv 1)))) (de_mul de_int (de_var (pv 5)))) de_int) (de_var (pv 6)))) (dss_one (ds_set C (i := 4) rfl (by first | exact Or.inl rfl | exact Or.inr rfl) (de_add (de_mul (de_var (pv 4)) de_int) (de_mod (de_mul (de_var (pv 7)) (de_add (de_add (de_mul (de_var (pv 7)) (de_var (pv 7))) (de_mul de_int (de_var (pv 5)))) de_int)) (de_var (pv 6)))))))) (dss_one (ds_ret (de_lstO (da_cons (de_var (pv 4)) da_nil)))))))
theorem ok_p_law_next {P : Program} {w : World} {K : PySem.W.Frag} {mg : Str → Option Value} {base : Heap} (T : Txt K mg) (TB : ∀ p ∈ tq, LamX.TabB base mg (He.cT K p.1).1 (He.cT K p.1).2) : ∃ fd, FunD K d_p_law_next.name d_p_law_next.qual d_p_law_next.params d_p_law_next.body d_p_law_next.scope (d_p_law_next.dvs K) (d_p_law_next.kws K) (He.fAd K d_p_law_next.at_) fd ∧
    FnG P w K mg base 1 (He.fAd K d_p_law_next.at_) fd ["_law_state_here", "_law_many"] (spD K mg 2 S_p_law_next) := by
  obtain ⟨fd, F⟩ := fun_p_law_next T
  refine ⟨fd, F, fnG (N := N_p_law_next) (ps := ["_law_state_here", "_law_many"]) (k := 0) (g := m_p_law_next) F ⟨rfl, rfl, rfl, by decide +kernel, rfl, by decide +kernel, by decide +kernel⟩ fun cdv A outer s H E C => ?_⟩
  exact (dss_cons (ds_set C (i := 2) rfl (by first | exact Or.inl rfl | exact Or.inr rfl) (de_mod (de_sub1 C (de_var (pv 0)) de_int) (de_var (pv 1)))) (dss_cons (ds_put C (de_var (pv 0)) de_int (de_fdiv (de_sub1 C (de_var (pv 0)) de_int) (de_var (pv 1)))) (dss_one (ds_ret (de_var (pv 2))))))
theorem ok_p_law_value {P : Program} {w : World} {K : PySem.W.Frag} {mg : Str → Option Value} {base : Heap} (T : Txt K mg) (TB : ∀ p ∈ tq, LamX.TabB base mg (He.cT K p.1).1 (He.cT K p.1).2) : ∃ fd, FunD K d_p_law_value.name d_p_law_value.qual d_p_law_value.params d_p_law_value.body d_p_law_value.scope (d_p_law_value.dvs K) (d_p_law_value.kws K) (He.fAd K d_p_law_value.at_) fd ∧
    FnG P w K mg base 2 (He.fAd K d_p_law_value.at_) fd ["_law_state_here", "_law_many"] (spD K mg 2 S_p_law_value) := by
  obtain ⟨fd_p_law_next, D_p_law_next, G_p_law_next⟩ := ok_p_law_next (P := P) (w := w) (base := base) T TB
  have m_p_law_next := glo_p_law_next T
  have b_max := free_max T
  obtain ⟨fd, F⟩ := fun_p_law_value T
  refine ⟨fd, F, fnG (N := N_p_law_value) (ps := ["_law_state_here", "_law_many"]) (k := 1) (g := m_p_law_value) F ⟨rfl, rfl, rfl, by decide +kernel, rfl, by decide +kernel, by decide +kernel⟩ fun cdv A outer s H E C => ?_⟩
  refine dss_cons (ds_set C (i := 2) rfl (by first | exact Or.inl rfl | exact Or.inr rfl) (de_callL (x := "_law_next") G_p_law_next callOk_share C rfl m_p_law_next D_p_law_next.kp (kb0 D_p_law_next) (da_cons (de_var (pv 0)) (da_cons de_int da_nil)) dkw_nil)) ?_
  refine dss_cons (ds_set C (i := 3) rfl (by first | exact Or.inl rfl | exact Or.inr rfl) (de_sub1 C (de_lst (da_cons (de_sub (de_callL (x := "_law_next") G_p_law_next callOk_share C rfl m_p_law_next D_p_law_next.kp (kb0 D_p_law_next) (da_cons (de_var (pv 0)) (da_cons de_int da_nil)) dkw_nil) de_int) (da_cons (de_sub (de_pow de_int de_int) (de_callL (x := "_law_next") G_p_law_next callOk_share C rfl m_p_law_next D_p_law_next.kp (kb0 D_p_law_next) (da_cons (de_var (pv 0)) (da_cons de_int da_nil)) dkw_nil)) (da_cons (de_neg (de_pow de_int de_int)) (da_cons de_int da_nil))))) (de_callL (x := "_law_next") G_p_law_next callOk_share C rfl m_p_law_next D_p_law_next.kp (kb0 D_p_law_next) (da_cons (de_var (pv 0)) (da_cons de_int da_nil)) dkw_nil))) ?_
  exact (dss_cons (ds_set C (i := 4) rfl (by first | exact Or.inl rfl | exact Or.inr rfl) (de_callL (x := "_law_next") G_p_law_next callOk_share C rfl m_p_law_next D_p_law_next.kp (kb0 D_p_law_next) (da_cons (de_var (pv 0)) (da_cons (de_max C rfl b_max (da_cons de_int (da_cons (de_var (pv 1)) da_nil))) da_nil)) dkw_nil)) (dss_cons (ds_if (DW.dt (dw_and (dt_cmp op_gt opd_gt (de_var (pv 2)) de_int (nomark _)) (dw_and1 (dt_cmp op_gt opd_gt (de_var (pv 1)) de_int (nomark _))))) (dss_one (ds_ret (de_tup (da_cons de_str (da_cons (de_var (pv 4)) da_nil))))) dss_nil) (dss_one (ds_ret (de_ifExp (dt_cmp (opr_eq C) opd_eq (de_var (pv 2)) de_int (nomark _)) de_non (de_var (pv 3)))))))
theorem ok_p_law_cell {P : Program} {w : World} {K : PySem.W.Frag} {mg : Str → Option Value} {base : Heap} (T : Txt K mg) (TB : ∀ p ∈ tq, LamX.TabB base mg (He.cT K p.1).1 (He.cT K p.1).2) : ∃ fd, FunD K d_p_law_cell.name d_p_law_cell.qual d_p_law_cell.params d_p_law_cell.body d_p_law_cell.scope (d_p_law_cell.dvs K) (d_p_law_cell.kws K) (He.fAd K d_p_law_cell.at_) fd ∧
    FnG P w K mg base 3 (He.fAd K d_p_law_cell.at_) fd ["_law_state_here", "_law_many"] (spD K mg 2 S_p_law_cell) := by
  obtain ⟨fd_p_law_next, D_p_law_next, G_p_law_next⟩ := ok_p_law_next (P := P) (w := w) (base := base) T TB
  have m_p_law_next := glo_p_law_next T
  obtain ⟨fd_p_law_value, D_p_law_value, G_p_law_value⟩ := ok_p_law_value (P := P) (w := w) (base := base) T TB
  have m_p_law_value := glo_p_law_value T
  have b_range := free_range T
  have b_tuple := free_tuple T
  obtain ⟨fd, F⟩ := fun_p_law_cell T
  refine ⟨fd, F, fnG (N := N_p_law_cell) (ps := ["_law_state_here", "_law_many"]) (k := 2) (g := m_p_law_cell) F ⟨rfl, rfl, rfl, by decide +kernel, rfl, by decide +kernel, by decide +kernel⟩ fun cdv A outer s H E C => ?_⟩
  refine dss_cons (ds_set C (i := 2) rfl (by first | exact Or.inl rfl | exact Or.inr rfl) (de_sub1 C (de_lst (da_cons de_str (da_cons de_str (da_cons de_str (da_cons de_str da_nil))))) (de_callL (x := "_law_next") G_p_law_next callOk_share C rfl m_p_law_next D_p_law_next.kp (kb0 D_p_law_next) (da_cons (de_var (pv 0)) (da_cons de_int da_nil)) dkw_nil))) ?_
  refine dss_cons (ds_if (dt_cmp (opr_eq C) opd_eq (de_var (pv 2)) de_str (nomark _)) (dss_cons (ds_set C (i := 3) rfl (by first | exact Or.inl rfl | exact Or.inr rfl) (de_callL (x := "_law_next") G_p_law_next callOk_share C rfl m_p_law_next D_p_law_next.kp (kb0 D_p_law_next) (da_cons (de_var (pv 0)) (da_cons (de_add (de_var (pv 1)) de_int) da_nil)) dkw_nil)) (dss_one (ds_ret (de_tup (da_cons (de_var (pv 2)) (da_cons (de_ifExp (dt_cmp op_lt opd_lt (de_var (pv 3)) (de_var (pv 1)) (nomark _)) (de_var (pv 3)) de_non) da_nil)))))) dss_nil) ?_
  refine dss_cons (ds_set C (i := 4) rfl (by first | exact Or.inl rfl | exact Or.inr rfl) (de_sub1 C (de_lst (da_cons de_int (da_cons de_int (da_cons de_int (da_cons de_int (da_cons de_int (da_cons de_int (da_cons de_int (da_cons de_int da_nil))))))))) (de_callL (x := "_law_next") G_p_law_next callOk_share C rfl m_p_law_next D_p_law_next.kp (kb0 D_p_law_next) (da_cons (de_var (pv 0)) (da_cons de_int da_nil)) dkw_nil))) ?_
  exact (dss_one (ds_ret (de_tup (da_cons (de_var (pv 2)) (da_cons (de_tuple rfl b_tuple (da_cons (de_lcB C finL_ok (di_range1 rfl b_range (da_cons (de_var (pv 4)) da_nil)) (show BlkOk N_p_law_cell (defScope s_p_law_cell) _ [("_law_k", 5)] from ⟨rfl, by decide +kernel, by decide +kernel, by decide +kernel, by decide +kernel⟩) (fun _ _ _ _ _ C1 => (dg_name (i := 5) (pg_name C1.nd rfl (by first | exact Or.inl rfl | exact Or.inr rfl)))) (fun _ _ _ _ _ C1 => dts_nil) (fun _ _ _ _ _ C1 => (de_callL (x := "_law_value") G_p_law_value callOk_share C1 rfl m_p_law_value D_p_law_value.kp (kb1 D_p_law_value) (da_cons (de_var (pv 0)) (da_cons (de_var (pv 1)) da_nil)) dkw_nil))) da_nil)) da_nil)))))
theorem ok_p_law_web {P : Program} {w : World} {K : PySem.W.Frag} {mg : Str → Option Value} {base : Heap} (T : Txt K mg) (TB : ∀ p ∈ tq, LamX.TabB base mg (He.cT K p.1).1 (He.cT K p.1).2) : ∃ fd, FunD K d_p_law_web.name d_p_law_web.qual d_p_law_web.params d_p_law_web.body d_p_law_web.scope (d_p_law_web.dvs K) (d_p_law_web.kws K) (He.fAd K d_p_law_web.at_) fd ∧
    FnG P w K mg base 4 (He.fAd K d_p_law_web.at_) fd ["_law_state_here", "_law_most"] (spD K mg 2 S_p_law_web) := by
  obtain ⟨fd_p_law_next, D_p_law_next, G_p_law_next⟩ := ok_p_law_next (P := P) (w := w) (base := base) T TB
  have m_p_law_next := glo_p_law_next T
  obtain ⟨fd_p_law_cell, D_p_law_cell, G_p_law_cell⟩ := ok_p_law_cell (P := P) (w := w) (base := base) T TB
  have m_p_law_cell := glo_p_law_cell T
  obtain ⟨fd_p_law_value, D_p_law_value, G_p_law_value⟩ := ok_p_law_value (P := P) (w := w) (base := base) T TB
  have m_p_law_value := glo_p_law_value T
  have b_range := free_range T
  obtain ⟨fd, F⟩ := fun_p_law_web T
  refine ⟨fd, F, fnG (N := N_p_law_web) (ps := ["_law_state_here", "_law_most"]) (k := 3) (g := m_p_law_web) F ⟨rfl, rfl, rfl, by decide +kernel, rfl, by decide +kernel, by decide +kernel⟩ fun cdv A outer s H E C => ?_⟩
  refine dss_cons (ds_set C (i := 2) rfl (by first | exact Or.inl rfl | exact Or.inr rfl) (de_mod (de_add (de_var (pv 1)) (de_callL (x := "_law_next") G_p_law_next callOk_share C rfl m_p_law_next D_p_law_next.kp (kb0 D_p_law_next) (da_cons (de_var (pv 0)) (da_cons (de_add (de_var (pv 1)) de_int) da_nil)) dkw_nil)) (de_add (de_var (pv 1)) de_int))) ?_
  refine dss_cons (ds_setLcB C finO_ok (i := 3) rfl rfl (sw_true rfl rfl rfl (by decide +kernel)) (di_range1 rfl b_range (da_cons (de_var (pv 2)) da_nil)) (show BlkOk N_p_law_web (defScope s_p_law_web) _ [("_law_k", 4)] from ⟨rfl, by decide +kernel, by decide +kernel, by decide +kernel, by decide +kernel⟩) (fun _ _ _ _ _ C1 => (dg_name (i := 4) (pg_name C1.nd rfl (by first | exact Or.inl rfl | exact Or.inr rfl)))) (fun _ _ _ _ _ C1 => dts_nil) (fun _ _ _ _ _ C1 => (de_callL (x := "_law_cell") G_p_law_cell callOk_share C1 rfl m_p_law_cell D_p_law_cell.kp (kb2 D_p_law_cell) (da_cons (de_var (pv 0)) (da_cons (de_var (pv 2)) da_nil)) dkw_nil))) ?_
  exact (dss_one (ds_ret (de_tup (da_cons (de_var (pv 3)) (da_cons (de_lcB C finO_ok (di_range1 rfl b_range (da_cons (de_mod (de_add de_int (de_callL (x := "_law_next") G_p_law_next callOk_share C rfl m_p_law_next D_p_law_next.kp (kb0 D_p_law_next) (da_cons (de_var (pv 0)) (da_cons de_int da_nil)) dkw_nil)) de_int) da_nil)) (show BlkOk N_p_law_web (defScope s_p_law_web) _ [("_law_k", 4)] from ⟨rfl, by decide +kernel, by decide +kernel, by decide +kernel, by decide +kernel⟩) (fun _ _ _ _ _ C1 => (dg_name (i := 4) (pg_name C1.nd rfl (by first | exact Or.inl rfl | exact Or.inr rfl)))) (fun _ _ _ _ _ C1 => dts_nil) (fun _ _ _ _ _ C1 => (de_callL (x := "_law_value") G_p_law_value callOk_share C1 rfl m_p_law_value D_p_law_value.kp (kb1 D_p_law_value) (da_cons (de_var (pv 0)) (da_cons (de_var (pv 2)) da_nil)) dkw_nil))) da_nil)))))
theorem ok_p_law_odd {P : Program} {w : World} {K : PySem.W.Frag} {mg : Str → Option Value} {base : Heap} (T : Txt K mg) (TB : ∀ p ∈ tq, LamX.TabB base mg (He.cT K p.1).1 (He.cT K p.1).2) : ∃ fd, FunD K d_p_law_odd.name d_p_law_odd.qual d_p_law_odd.params d_p_law_odd.body d_p_law_odd.scope (d_p_law_odd.dvs K) (d_p_law_odd.kws K) (He.fAd K d_p_law_odd.at_) fd ∧
    FnG P w K mg base 2 (He.fAd K d_p_law_odd.at_) fd ["_law_state_here"] (spD K mg 1 S_p_law_odd) := by
  obtain ⟨fd_p_law_next, D_p_law_next, G_p_law_next⟩ := ok_p_law_next (P := P) (w := w) (base := base) T TB
  have m_p_law_next := glo_p_law_next T
  obtain ⟨fd, F⟩ := fun_p_law_odd T
  refine ⟨fd, F, fnG (N := N_p_law_odd) (ps := ["_law_state_here"]) (k := 1) (g := m_p_law_odd) F ⟨rfl, rfl, rfl, by decide +kernel, rfl, by decide +kernel, by decide +kernel⟩ fun cdv A outer s H E C => ?_⟩
  exact (dss_cons (ds_set C (i := 1) rfl (by first | exact Or.inl rfl | exact Or.inr rfl) (de_lst (da_cons de_bl (da_cons de_bl (da_cons de_non (da_cons de_str (da_cons de_str (da_cons (de_tup (da_cons de_int da_nil)) (da_cons (de_lst (da_cons de_int da_nil)) (da_cons (de_frz de_dict0) (da_cons (de_tup (da_cons de_str (da_cons de_int da_nil))) (da_cons (de_add (de_pow de_int de_int) (de_callL (x := "_law_next") G_p_law_next callOk_share C rfl m_p_law_next D_p_law_next.kp (kb0 D_p_law_next) (da_cons (de_var (pv 0)) (da_cons (de_pow de_int de_int) da_nil)) dkw_nil)) (da_cons (de_neg de_int) (da_cons de_str da_nil)))))))))))))) (dss_one (ds_ret (de_sub1 C (de_var (pv 1)) (de_callL (x := "_law_next") G_p_law_next callOk_share C rfl m_p_law_next D_p_law_next.kp (kb0 D_p_law_next) (da_cons (de_var (pv 0)) (da_cons de_int da_nil)) dkw_nil)))))
theorem ok_p_law_other {P : Program} {w : World} {K : PySem.W.Frag} {mg : Str → Option Value} {base : Heap} (T : Txt K mg) (TB : ∀ p ∈ tq, LamX.TabB base mg (He.cT K p.1).1 (He.cT K p.1).2) : ∃ fd, FunD K d_p_law_other.name d_p_law_other.qual d_p_law_other.params d_p_law_other.body d_p_law_other.scope (d_p_law_other.dvs K) (d_p_law_other.kws K) (He.fAd K d_p_law_other.at_) fd ∧
    FnG P w K mg base 3 (He.fAd K d_p_law_other.at_) fd ["_law_state_here", "_law_thing"] (spD K mg 2 S_p_law_other) := by
  obtain ⟨fd_p_law_next, D_p_law_next, G_p_law_next⟩ := ok_p_law_next (P := P) (w := w) (base := base) T TB
  have m_p_law_next := glo_p_law_next T
  obtain ⟨fd_p_law_odd, D_p_law_odd, G_p_law_odd⟩ := ok_p_law_odd (P := P) (w := w) (base := base) T TB
  have m_p_law_odd := glo_p_law_odd T
  have b_int := free_int T
  have b_isinstance := free_isinstance T
  have b_len := free_len T
  have b_list := free_list T
  have b_str := free_str T
  have b_tuple := free_tuple T
  obtain ⟨fd, F⟩ := fun_p_law_other T
  refine ⟨fd, F, fnG (N := N_p_law_other) (ps := ["_law_state_here", "_law_thing"]) (k := 2) (g := m_p_law_other) F ⟨rfl, rfl, rfl, by decide +kernel, rfl, by decide +kernel, by decide +kernel⟩ fun cdv A outer s H E C => ?_⟩
  refine dss_cons (ds_set C (i := 2) rfl (by first | exact Or.inl rfl | exact Or.inr rfl) (de_callL (x := "_law_next") G_p_law_next callOk_share C rfl m_p_law_next D_p_law_next.kp (kb0 D_p_law_next) (da_cons (de_var (pv 0)) (da_cons de_int da_nil)) dkw_nil)) ?_
  refine dss_cons (ds_set C (i := 3) rfl (by first | exact Or.inl rfl | exact Or.inr rfl) (de_callL (x := "_law_odd") G_p_law_odd callOk_share C rfl m_p_law_odd D_p_law_odd.kp (kb3 D_p_law_odd) (da_cons (de_var (pv 0)) da_nil) dkw_nil)) ?_
  refine dss_cons ?_ ?_
  · refine ds_if (dt_val (de_isi rfl b_isinstance (da_cons (de_var (pv 1)) (da_cons (de_tup (da_cons (de_ty rfl b_list (by rfl)) (da_cons (de_ty rfl b_tuple (by rfl)) da_nil))) da_nil)))) ?_ ?_
    · refine dss_cons (ds_set C (i := 4) rfl (by first | exact Or.inl rfl | exact Or.inr rfl) (de_callL (x := "_law_next") G_p_law_next callOk_share C rfl m_p_law_next D_p_law_next.kp (kb0 D_p_law_next) (da_cons (de_var (pv 0)) (da_cons (de_add0 (de_len rfl b_len (da_cons (de_var (pv 1)) da_nil)) de_int) da_nil)) dkw_nil)) ?_
      exact (dss_cons (ds_set C (i := 5) rfl (by first | exact Or.inl rfl | exact Or.inr rfl) (de_lst (da_cons (de_var (pv 3)) (da_cons (de_list C rfl b_list (da_cons (de_var (pv 1)) da_nil)) (da_cons (de_tuple rfl b_tuple (da_cons (de_var (pv 1)) da_nil)) (da_cons (de_add0 (de_sliceW (de_var (pv 1)) do_none (do_some (de_var (pv 4)))) (de_sliceW (de_var (pv 1)) (do_some (de_add0 (de_var (pv 4)) de_int)) do_none)) (da_cons (de_revT (de_var (pv 1))) (da_cons (de_add0 (de_var (pv 1)) (de_var (pv 1))) da_nil)))))))) (dss_one (ds_ret (de_sub1 C (de_add0 (de_var (pv 5)) (de_lst (da_cons (de_add0 (de_var (pv 1)) (de_sliceW (de_var (pv 1)) do_none (do_some (de_var (pv 4))))) (da_cons (de_add0 (de_add0 (de_sliceW (de_var (pv 1)) do_none (do_some (de_var (pv 4)))) (de_sliceW (de_var (pv 1)) (do_some (de_var (pv 4))) (do_some (de_add0 (de_var (pv 4)) de_int)))) (de_sliceW (de_var (pv 1)) (do_some (de_var (pv 4))) do_none)) da_nil)))) (de_var (pv 2))))))
    · exact dss_nil
  refine dss_cons (ds_if (dt_val (de_isi rfl b_isinstance (da_cons (de_var (pv 1)) (da_cons (de_ty rfl b_str (by rfl)) da_nil)))) (dss_one (ds_ret (de_sub1 C (de_lst (da_cons (de_var (pv 3)) (da_cons (de_add0 (de_var (pv 1)) de_str) (da_cons de_str (da_cons de_str (da_cons de_str (da_cons de_str (da_cons (de_upper (de_var (pv 1))) (da_cons (de_tup (da_cons (de_var (pv 1)) da_nil)) da_nil))))))))) (de_var (pv 2))))) dss_nil) ?_
  exact (dss_cons (ds_if (dt_val (de_isi rfl b_isinstance (da_cons (de_var (pv 1)) (da_cons (de_ty rfl b_int (by rfl)) da_nil)))) (dss_one (ds_ret (de_sub1 C (de_lst (da_cons (de_var (pv 3)) (da_cons (de_add0 (de_var (pv 1)) de_int) (da_cons (de_sub (de_var (pv 1)) de_int) (da_cons (de_add0 de_int (de_var (pv 1))) (da_cons (de_add0 (de_pow de_int de_int) de_int) (da_cons (de_sub (de_neg (de_pow de_int de_int)) de_int) (da_cons (de_strI rfl b_str (da_cons (de_var (pv 1)) da_nil)) (da_cons (de_tup (da_cons de_str (da_cons (de_var (pv 1)) da_nil))) da_nil))))))))) (de_var (pv 2))))) dss_nil) (dss_one (ds_ret (de_sub1 C (de_lst (da_cons (de_var (pv 3)) (da_cons de_int (da_cons (de_tup (da_cons de_str (da_cons de_int da_nil))) (da_cons (de_tup (da_cons de_str (da_cons de_int da_nil))) (da_cons de_str (da_cons (de_tup da_nil) (da_cons (de_tup (da_cons de_str (da_cons (de_tup da_nil) da_nil))) (da_cons (de_tup (da_cons de_str (da_cons de_non da_nil))) da_nil))))))))) (de_var (pv 2))))))
theorem ok_p_law_bent_r5 {P : Program} {w : World} {K : PySem.W.Frag} {mg : Str → Option Value} {base : Heap} (T : Txt K mg) (TB : ∀ p ∈ tq, LamX.TabB base mg (He.cT K p.1).1 (He.cT K p.1).2) : ∃ fd, FunD K d_p_law_bent_r5.name d_p_law_bent_r5.qual d_p_law_bent_r5.params d_p_law_bent_r5.body d_p_law_bent_r5.scope (d_p_law_bent_r5.dvs K) (d_p_law_bent_r5.kws K) (He.fAd K d_p_law_bent_r5.at_) fd ∧
    FnG P w K mg base 4 (He.fAd K d_p_law_bent_r5.at_) fd ["_law_state_here", "_law_thing"] (spD K mg 2 S_p_law_bent_r5) := by
  obtain ⟨fd_p_law_next, D_p_law_next, G_p_law_next⟩ := ok_p_law_next (P := P) (w := w) (base := base) T TB
  have m_p_law_next := glo_p_law_next T
  obtain ⟨fd_p_law_other, D_p_law_other, G_p_law_other⟩ := ok_p_law_other (P := P) (w := w) (base := base) T TB
  have m_p_law_other := glo_p_law_other T
  have b_isinstance := free_isinstance T
  have b_len := free_len T
  have b_list := free_list T
  have b_tuple := free_tuple T
  obtain ⟨fd, F⟩ := fun_p_law_bent_r5 T
  refine ⟨fd, F, fnG (N := N_p_law_bent_r5) (ps := ["_law_state_here", "_law_thing"]) (k := 3) (g := m_p_law_bent_r5) F ⟨rfl, rfl, rfl, by decide +kernel, rfl, by decide +kernel, by decide +kernel⟩ fun cdv A outer s H E C => ?_⟩
  refine dss_cons ?_ ?_
  · refine ds_if (DW.dt (dw_and (dt_val (de_isi rfl b_isinstance (da_cons (de_var (pv 1)) (da_cons (de_tup (da_cons (de_ty rfl b_list (by rfl)) (da_cons (de_ty rfl b_tuple (by rfl)) da_nil))) da_nil)))) (dw_and (dt_cmp op_gt opd_gt (de_len rfl b_len (da_cons (de_var (pv 1)) da_nil)) de_int (nomark _)) (dw_and1 (dt_cmp op_gt opd_gt (de_callL (x := "_law_next") G_p_law_next callOk_share C rfl m_p_law_next D_p_law_next.kp (kb0 D_p_law_next) (da_cons (de_var (pv 0)) (da_cons de_int da_nil)) dkw_nil) de_int (nomark _)))))) ?_ ?_
    · exact (dss_cons (ds_set C (i := 2) rfl (by first | exact Or.inl rfl | exact Or.inr rfl) (de_callL (x := "_law_next") G_p_law_next callOk_share C rfl m_p_law_next D_p_law_next.kp (kb0 D_p_law_next) (da_cons (de_var (pv 0)) (da_cons (de_len rfl b_len (da_cons (de_var (pv 1)) da_nil)) da_nil)) dkw_nil)) (dss_cons (ds_set C (i := 3) rfl (by first | exact Or.inl rfl | exact Or.inr rfl) de_none) (dss_one (ds_ret (de_add0 (de_add0 (de_sliceW (de_var (pv 1)) do_none (do_some (de_var (pv 2)))) (de_ifExp (dt_val (de_isi rfl b_isinstance (da_cons (de_var (pv 1)) (da_cons (de_ty rfl b_list (by rfl)) da_nil)))) (de_lst (da_cons (de_var (pv 3)) da_nil)) (de_tup (da_cons (de_var (pv 3)) da_nil)))) (de_sliceW (de_var (pv 1)) (do_some (de_add0 (de_var (pv 2)) de_int)) do_none))))))
    · exact dss_nil
  exact (dss_one (ds_ret (de_callL (x := "_law_other") G_p_law_other callOk_share C rfl m_p_law_other D_p_law_other.kp (kb4 D_p_law_other) (da_cons (de_var (pv 0)) (da_cons (de_var (pv 1)) da_nil)) dkw_nil)))
theorem ok_p_law_bent_r4 {P : Program} {w : World} {K : PySem.W.Frag} {mg : Str → Option Value} {base : Heap} (T : Txt K mg) (TB : ∀ p ∈ tq, LamX.TabB base mg (He.cT K p.1).1 (He.cT K p.1).2) : ∃ fd, FunD K d_p_law_bent_r4.name d_p_law_bent_r4.qual d_p_law_bent_r4.params d_p_law_bent_r4.body d_p_law_bent_r4.scope (d_p_law_bent_r4.dvs K) (d_p_law_bent_r4.kws K) (He.fAd K d_p_law_bent_r4.at_) fd ∧
    FnG P w K mg base 5 (He.fAd K d_p_law_bent_r4.at_) fd ["_law_state_here", "_law_thing"] (spD K mg 2 S_p_law_bent_r4) := by
  obtain ⟨fd_p_law_next, D_p_law_next, G_p_law_next⟩ := ok_p_law_next (P := P) (w := w) (base := base) T TB
  have m_p_law_next := glo_p_law_next T
  obtain ⟨fd_p_law_bent_r5, D_p_law_bent_r5, G_p_law_bent_r5⟩ := ok_p_law_bent_r5 (P := P) (w := w) (base := base) T TB
  have m_p_law_bent_r5 := glo_p_law_bent_r5 T
  obtain ⟨fd_p_law_other, D_p_law_other, G_p_law_other⟩ := ok_p_law_other (P := P) (w := w) (base := base) T TB
  have m_p_law_other := glo_p_law_other T
  have b_isinstance := free_isinstance T
  have b_len := free_len T
  have b_list := free_list T
  have b_tuple := free_tuple T
  obtain ⟨fd, F⟩ := fun_p_law_bent_r4 T
  refine ⟨fd, F, fnG (N := N_p_law_bent_r4) (ps := ["_law_state_here", "_law_thing"]) (k := 4) (g := m_p_law_bent_r4) F ⟨rfl, rfl, rfl, by decide +kernel, rfl, by decide +kernel, by decide +kernel⟩ fun cdv A outer s H E C => ?_⟩
  refine dss_cons ?_ ?_
  · refine ds_if (DW.dt (dw_and (dt_val (de_isi rfl b_isinstance (da_cons (de_var (pv 1)) (da_cons (de_tup (da_cons (de_ty rfl b_list (by rfl)) (da_cons (de_ty rfl b_tuple (by rfl)) da_nil))) da_nil)))) (dw_and (dt_cmp op_gt opd_gt (de_len rfl b_len (da_cons (de_var (pv 1)) da_nil)) de_int (nomark _)) (dw_and1 (dt_cmp op_gt opd_gt (de_callL (x := "_law_next") G_p_law_next callOk_share C rfl m_p_law_next D_p_law_next.kp (kb0 D_p_law_next) (da_cons (de_var (pv 0)) (da_cons de_int da_nil)) dkw_nil) de_int (nomark _)))))) ?_ ?_
    · exact (dss_cons (ds_set C (i := 2) rfl (by first | exact Or.inl rfl | exact Or.inr rfl) (de_callL (x := "_law_next") G_p_law_next callOk_share C rfl m_p_law_next D_p_law_next.kp (kb0 D_p_law_next) (da_cons (de_var (pv 0)) (da_cons (de_len rfl b_len (da_cons (de_var (pv 1)) da_nil)) da_nil)) dkw_nil)) (dss_cons (ds_set C (i := 3) rfl (by first | exact Or.inl rfl | exact Or.inr rfl) (de_callL (x := "_law_bent") G_p_law_bent_r5 callOk_share C rfl m_p_law_bent_r5 D_p_law_bent_r5.kp (kb5 D_p_law_bent_r5) (da_cons (de_var (pv 0)) (da_cons (de_sub1 C (de_var (pv 1)) (de_var (pv 2))) da_nil)) dkw_nil)) (dss_one (ds_ret (de_add0 (de_add0 (de_sliceW (de_var (pv 1)) do_none (do_some (de_var (pv 2)))) (de_ifExp (dt_val (de_isi rfl b_isinstance (da_cons (de_var (pv 1)) (da_cons (de_ty rfl b_list (by rfl)) da_nil)))) (de_lst (da_cons (de_var (pv 3)) da_nil)) (de_tup (da_cons (de_var (pv 3)) da_nil)))) (de_sliceW (de_var (pv 1)) (do_some (de_add0 (de_var (pv 2)) de_int)) do_none))))))
    · exact dss_nil
  exact (dss_one (ds_ret (de_callL (x := "_law_other") G_p_law_other callOk_share C rfl m_p_law_other D_p_law_other.kp (kb4 D_p_law_other) (da_cons (de_var (pv 0)) (da_cons (de_var (pv 1)) da_nil)) dkw_nil)))
theorem ok_p_law_bent_r3 {P : Program} {w : World} {K : PySem.W.Frag} {mg : Str → Option Value} {base : Heap} (T : Txt K mg) (TB : ∀ p ∈ tq, LamX.TabB base mg (He.cT K p.1).1 (He.cT K p.1).2) : ∃ fd, FunD K d_p_law_bent_r3.name d_p_law_bent_r3.qual d_p_law_bent_r3.params d_p_law_bent_r3.body d_p_law_bent_r3.scope (d_p_law_bent_r3.dvs K) (d_p_law_bent_r3.kws K) (He.fAd K d_p_law_bent_r3.at_) fd ∧
    FnG P w K mg base 6 (He.fAd K d_p_law_bent_r3.at_) fd ["_law_state_here", "_law_thing"] (spD K mg 2 S_p_law_bent_r3) := by
  obtain ⟨fd_p_law_next, D_p_law_next, G_p_law_next⟩ := ok_p_law_next (P := P) (w := w) (base := base) T TB
  have m_p_law_next := glo_p_law_next T
  obtain ⟨fd_p_law_bent_r4, D_p_law_bent_r4, G_p_law_bent_r4⟩ := ok_p_law_bent_r4 (P := P) (w := w) (base := base) T TB
  have m_p_law_bent_r4 := glo_p_law_bent_r4 T
  obtain ⟨fd_p_law_other, D_p_law_other, G_p_law_other⟩ := ok_p_law_other (P := P) (w := w) (base := base) T TB
  have m_p_law_other := glo_p_law_other T
  have b_isinstance := free_isinstance T
  have b_len := free_len T
  have b_list := free_list T
  have b_tuple := free_tuple T
  obtain ⟨fd, F⟩ := fun_p_law_bent_r3 T
  refine ⟨fd, F, fnG (N := N_p_law_bent_r3) (ps := ["_law_state_here", "_law_thing"]) (k := 5) (g := m_p_law_bent_r3) F ⟨rfl, rfl, rfl, by decide +kernel, rfl, by decide +kernel, by decide +kernel⟩ fun cdv A outer s H E C => ?_⟩
  refine dss_cons ?_ ?_
  · refine ds_if (DW.dt (dw_and (dt_val (de_isi rfl b_isinstance (da_cons (de_var (pv 1)) (da_cons (de_tup (da_cons (de_ty rfl b_list (by rfl)) (da_cons (de_ty rfl b_tuple (by rfl)) da_nil))) da_nil)))) (dw_and (dt_cmp op_gt opd_gt (de_len rfl b_len (da_cons (de_var (pv 1)) da_nil)) de_int (nomark _)) (dw_and1 (dt_cmp op_gt opd_gt (de_callL (x := "_law_next") G_p_law_next callOk_share C rfl m_p_law_next D_p_law_next.kp (kb0 D_p_law_next) (da_cons (de_var (pv 0)) (da_cons de_int da_nil)) dkw_nil) de_int (nomark _)))))) ?_ ?_
    · exact (dss_cons (ds_set C (i := 2) rfl (by first | exact Or.inl rfl | exact Or.inr rfl) (de_callL (x := "_law_next") G_p_law_next callOk_share C rfl m_p_law_next D_p_law_next.kp (kb0 D_p_law_next) (da_cons (de_var (pv 0)) (da_cons (de_len rfl b_len (da_cons (de_var (pv 1)) da_nil)) da_nil)) dkw_nil)) (dss_cons (ds_set C (i := 3) rfl (by first | exact Or.inl rfl | exact Or.inr rfl) (de_callL (x := "_law_bent") G_p_law_bent_r4 callOk_share C rfl m_p_law_bent_r4 D_p_law_bent_r4.kp (kb6 D_p_law_bent_r4) (da_cons (de_var (pv 0)) (da_cons (de_sub1 C (de_var (pv 1)) (de_var (pv 2))) da_nil)) dkw_nil)) (dss_one (ds_ret (de_add0 (de_add0 (de_sliceW (de_var (pv 1)) do_none (do_some (de_var (pv 2)))) (de_ifExp (dt_val (de_isi rfl b_isinstance (da_cons (de_var (pv 1)) (da_cons (de_ty rfl b_list (by rfl)) da_nil)))) (de_lst (da_cons (de_var (pv 3)) da_nil)) (de_tup (da_cons (de_var (pv 3)) da_nil)))) (de_sliceW (de_var (pv 1)) (do_some (de_add0 (de_var (pv 2)) de_int)) do_none))))))
    · exact dss_nil
  exact (dss_one (ds_ret (de_callL (x := "_law_other") G_p_law_other callOk_share C rfl m_p_law_other D_p_law_other.kp (kb4 D_p_law_other) (da_cons (de_var (pv 0)) (da_cons (de_var (pv 1)) da_nil)) dkw_nil)))
theorem ok_p_law_bent_r2 {P : Program} {w : World} {K : PySem.W.Frag} {mg : Str → Option Value} {base : Heap} (T : Txt K mg) (TB : ∀ p ∈ tq, LamX.TabB base mg (He.cT K p.1).1 (He.cT K p.1).2) : ∃ fd, FunD K d_p_law_bent_r2.name d_p_law_bent_r2.qual d_p_law_bent_r2.params d_p_law_bent_r2.body d_p_law_bent_r2.scope (d_p_law_bent_r2.dvs K) (d_p_law_bent_r2.kws K) (He.fAd K d_p_law_bent_r2.at_) fd ∧
    FnG P w K mg base 7 (He.fAd K d_p_law_bent_r2.at_) fd ["_law_state_here", "_law_thing"] (spD K mg 2 S_p_law_bent_r2) := by
  obtain ⟨fd_p_law_next, D_p_law_next, G_p_law_next⟩ := ok_p_law_next (P := P) (w := w) (base := base) T TB
  have m_p_law_next := glo_p_law_next T
  obtain ⟨fd_p_law_bent_r3, D_p_law_bent_r3, G_p_law_bent_r3⟩ := ok_p_law_bent_r3 (P := P) (w := w) (base := base) T TB
  have m_p_law_bent_r3 := glo_p_law_bent_r3 T
  obtain ⟨fd_p_law_other, D_p_law_other, G_p_law_other⟩ := ok_p_law_other (P := P) (w := w) (base := base) T TB
  have m_p_law_other := glo_p_law_other T
  have b_isinstance := free_isinstance T
  have b_len := free_len T
  have b_list := free_list T
  have b_tuple := free_tuple T
  obtain ⟨fd, F⟩ := fun_p_law_bent_r2 T
  refine ⟨fd, F, fnG (N := N_p_law_bent_r2) (ps := ["_law_state_here", "_law_thing"]) (k := 6) (g := m_p_law_bent_r2) F ⟨rfl, rfl, rfl, by decide +kernel, rfl, by decide +kernel, by decide +kernel⟩ fun cdv A outer s H E C => ?_⟩
  refine dss_cons ?_ ?_
  · refine ds_if (DW.dt (dw_and (dt_val (de_isi rfl b_isinstance (da_cons (de_var (pv 1)) (da_cons (de_tup (da_cons (de_ty rfl b_list (by rfl)) (da_cons (de_ty rfl b_tuple (by rfl)) da_nil))) da_nil)))) (dw_and (dt_cmp op_gt opd_gt (de_len rfl b_len (da_cons (de_var (pv 1)) da_nil)) de_int (nomark _)) (dw_and1 (dt_cmp op_gt opd_gt (de_callL (x := "_law_next") G_p_law_next callOk_share C rfl m_p_law_next D_p_law_next.kp (kb0 D_p_law_next) (da_cons (de_var (pv 0)) (da_cons de_int da_nil)) dkw_nil) de_int (nomark _)))))) ?_ ?_
    · exact (dss_cons (ds_set C (i := 2) rfl (by first | exact Or.inl rfl | exact Or.inr rfl) (de_callL (x := "_law_next") G_p_law_next callOk_share C rfl m_p_law_next D_p_law_next.kp (kb0 D_p_law_next) (da_cons (de_var (pv 0)) (da_cons (de_len rfl b_len (da_cons (de_var (pv 1)) da_nil)) da_nil)) dkw_nil)) (dss_cons (ds_set C (i := 3) rfl (by first | exact Or.inl rfl | exact Or.inr rfl) (de_callL (x := "_law_bent") G_p_law_bent_r3 callOk_share C rfl m_p_law_bent_r3 D_p_law_bent_r3.kp (kb7 D_p_law_bent_r3) (da_cons (de_var (pv 0)) (da_cons (de_sub1 C (de_var (pv 1)) (de_var (pv 2))) da_nil)) dkw_nil)) (dss_one (ds_ret (de_add0 (de_add0 (de_sliceW (de_var (pv 1)) do_none (do_some (de_var (pv 2)))) (de_ifExp (dt_val (de_isi rfl b_isinstance (da_cons (de_var (pv 1)) (da_cons (de_ty rfl b_list (by rfl)) da_nil)))) (de_lst (da_cons (de_var (pv 3)) da_nil)) (de_tup (da_cons (de_var (pv 3)) da_nil)))) (de_sliceW (de_var (pv 1)) (do_some (de_add0 (de_var (pv 2)) de_int)) do_none))))))
    · exact dss_nil
  exact (dss_one (ds_ret (de_callL (x := "_law_other") G_p_law_other callOk_share C rfl m_p_law_other D_p_law_other.kp (kb4 D_p_law_other) (da_cons (de_var (pv 0)) (da_cons (de_var (pv 1)) da_nil)) dkw_nil)))
theorem ok_p_law_bent_r1 {P : Program} {w : World} {K : PySem.W.Frag} {mg : Str → Option Value} {base : Heap} (T : Txt K mg) (TB : ∀ p ∈ tq, LamX.TabB base mg (He.cT K p.1).1 (He.cT K p.1).2) : ∃ fd, FunD K d_p_law_bent_r1.name d_p_law_bent_r1.qual d_p_law_bent_r1.params d_p_law_bent_r1.body d_p_law_bent_r1.scope (d_p_law_bent_r1.dvs K) (d_p_law_bent_r1.kws K) (He.fAd K d_p_law_bent_r1.at_) fd ∧
    FnG P w K mg base 8 (He.fAd K d_p_law_bent_r1.at_) fd ["_law_state_here", "_law_thing"] (spD K mg 2 S_p_law_bent_r1) := by
  obtain ⟨fd_p_law_next, D_p_law_next, G_p_law_next⟩ := ok_p_law_next (P := P) (w := w) (base := base) T TB
  have m_p_law_next := glo_p_law_next T
  obtain ⟨fd_p_law_bent_r2, D_p_law_bent_r2, G_p_law_bent_r2⟩ := ok_p_law_bent_r2 (P := P) (w := w) (base := base) T TB
  have m_p_law_bent_r2 := glo_p_law_bent_r2 T
  obtain ⟨fd_p_law_other, D_p_law_other, G_p_law_other⟩ := ok_p_law_other (P := P) (w := w) (base := base) T TB
  have m_p_law_other := glo_p_law_other T
  have b_isinstance := free_isinstance T
  have b_len := free_len T
  have b_list := free_list T
  have b_tuple := free_tuple T
  obtain ⟨fd, F⟩ := fun_p_law_bent_r1 T
  refine ⟨fd, F, fnG (N := N_p_law_bent_r1) (ps := ["_law_state_here", "_law_thing"]) (k := 7) (g := m_p_law_bent_r1) F ⟨rfl, rfl, rfl, by decide +kernel, rfl, by decide +kernel, by decide +kernel⟩ fun cdv A outer s H E C => ?_⟩
  refine dss_cons ?_ ?_
  · refine ds_if (DW.dt (dw_and (dt_val (de_isi rfl b_isinstance (da_cons (de_var (pv 1)) (da_cons (de_tup (da_cons (de_ty rfl b_list (by rfl)) (da_cons (de_ty rfl b_tuple (by rfl)) da_nil))) da_nil)))) (dw_and (dt_cmp op_gt opd_gt (de_len rfl b_len (da_cons (de_var (pv 1)) da_nil)) de_int (nomark _)) (dw_and1 (dt_cmp op_gt opd_gt (de_callL (x := "_law_next") G_p_law_next callOk_share C rfl m_p_law_next D_p_law_next.kp (kb0 D_p_law_next) (da_cons (de_var (pv 0)) (da_cons de_int da_nil)) dkw_nil) de_int (nomark _)))))) ?_ ?_
    · exact (dss_cons (ds_set C (i := 2) rfl (by first | exact Or.inl rfl | exact Or.inr rfl) (de_callL (x := "_law_next") G_p_law_next callOk_share C rfl m_p_law_next D_p_law_next.kp (kb0 D_p_law_next) (da_cons (de_var (pv 0)) (da_cons (de_len rfl b_len (da_cons (de_var (pv 1)) da_nil)) da_nil)) dkw_nil)) (dss_cons (ds_set C (i := 3) rfl (by first | exact Or.inl rfl | exact Or.inr rfl) (de_callL (x := "_law_bent") G_p_law_bent_r2 callOk_share C rfl m_p_law_bent_r2 D_p_law_bent_r2.kp (kb8 D_p_law_bent_r2) (da_cons (de_var (pv 0)) (da_cons (de_sub1 C (de_var (pv 1)) (de_var (pv 2))) da_nil)) dkw_nil)) (dss_one (ds_ret (de_add0 (de_add0 (de_sliceW (de_var (pv 1)) do_none (do_some (de_var (pv 2)))) (de_ifExp (dt_val (de_isi rfl b_isinstance (da_cons (de_var (pv 1)) (da_cons (de_ty rfl b_list (by rfl)) da_nil)))) (de_lst (da_cons (de_var (pv 3)) da_nil)) (de_tup (da_cons (de_var (pv 3)) da_nil)))) (de_sliceW (de_var (pv 1)) (do_some (de_add0 (de_var (pv 2)) de_int)) do_none))))))
    · exact dss_nil
  exact (dss_one (ds_ret (de_callL (x := "_law_other") G_p_law_other callOk_share C rfl m_p_law_other D_p_law_other.kp (kb4 D_p_law_other) (da_cons (de_var (pv 0)) (da_cons (de_var (pv 1)) da_nil)) dkw_nil)))
theorem ok_p_law_odd_o {P : Program} {w : World} {K : PySem.W.Frag} {mg : Str → Option Value} {base : Heap} (T : Txt K mg) (TB : ∀ p ∈ tq, LamX.TabB base mg (He.cT K p.1).1 (He.cT K p.1).2) : ∃ fd, FunD K d_p_law_odd_o.name d_p_law_odd_o.qual d_p_law_odd_o.params d_p_law_odd_o.body d_p_law_odd_o.scope (d_p_law_odd_o.dvs K) (d_p_law_odd_o.kws K) (He.fAd K d_p_law_odd_o.at_) fd ∧
    FnG P w K mg base 2 (He.fAd K d_p_law_odd_o.at_) fd ["_law_state_here"] (spD K mg 1 S_p_law_odd_o) := by
  obtain ⟨fd_p_law_next, D_p_law_next, G_p_law_next⟩ := ok_p_law_next (P := P) (w := w) (base := base) T TB
  have m_p_law_next := glo_p_law_next T
  obtain ⟨fd, F⟩ := fun_p_law_odd_o T
  refine ⟨fd, F, fnG (N := N_p_law_odd_o) (ps := ["_law_state_here"]) (k := 1) (g := m_p_law_odd_o) F ⟨rfl, rfl, rfl, by decide +kernel, rfl, by decide +kernel, by decide +kernel⟩ fun cdv A outer s H E C => ?_⟩
  exact (dss_cons (ds_set C (i := 1) rfl (by first | exact Or.inl rfl | exact Or.inr rfl) (de_lst (da_cons de_bl (da_cons de_bl (da_cons de_non (da_cons de_str (da_cons de_str (da_cons (de_tup (da_cons de_int da_nil)) (da_cons (de_lstO (da_cons de_int da_nil)) (da_cons (de_frz de_dict0) (da_cons (de_tup (da_cons de_str (da_cons de_int da_nil))) (da_cons (de_add (de_pow de_int de_int) (de_callL (x := "_law_next") G_p_law_next callOk_share C rfl m_p_law_next D_p_law_next.kp (kb0 D_p_law_next) (da_cons (de_var (pv 0)) (da_cons (de_pow de_int de_int) da_nil)) dkw_nil)) (da_cons (de_neg de_int) (da_cons de_str da_nil)))))))))))))) (dss_one (ds_ret (de_sub1 C (de_var (pv 1)) (de_callL (x := "_law_next") G_p_law_next callOk_share C rfl m_p_law_next D_p_law_next.kp (kb0 D_p_law_next) (da_cons (de_var (pv 0)) (da_cons de_int da_nil)) dkw_nil)))))
theorem ok_p_law_other_o {P : Program} {w : World} {K : PySem.W.Frag} {mg : Str → Option Value} {base : Heap} (T : Txt K mg) (TB : ∀ p ∈ tq, LamX.TabB base mg (He.cT K p.1).1 (He.cT K p.1).2) : ∃ fd, FunD K d_p_law_other_o.name d_p_law_other_o.qual d_p_law_other_o.params d_p_law_other_o.body d_p_law_other_o.scope (d_p_law_other_o.dvs K) (d_p_law_other_o.kws K) (He.fAd K d_p_law_other_o.at_) fd ∧
    FnG P w K mg base 3 (He.fAd K d_p_law_other_o.at_) fd ["_law_state_here", "_law_thing"] (spD K mg 2 S_p_law_other_o) := by
  obtain ⟨fd_p_law_next, D_p_law_next, G_p_law_next⟩ := ok_p_law_next (P := P) (w := w) (base := base) T TB
  have m_p_law_next := glo_p_law_next T
  obtain ⟨fd_p_law_odd_o, D_p_law_odd_o, G_p_law_odd_o⟩ := ok_p_law_odd_o (P := P) (w := w) (base := base) T TB
  have m_p_law_odd_o := glo_p_law_odd_o T
  have b_int := free_int T
  have b_isinstance := free_isinstance T
  have b_len := free_len T
  have b_list := free_list T
  have b_str := free_str T
  have b_tuple := free_tuple T
  obtain ⟨fd, F⟩ := fun_p_law_other_o T
  refine ⟨fd, F, fnG (N := N_p_law_other_o) (ps := ["_law_state_here", "_law_thing"]) (k := 2) (g := m_p_law_other_o) F ⟨rfl, rfl, rfl, by decide +kernel, rfl, by decide +kernel, by decide +kernel⟩ fun cdv A outer s H E C => ?_⟩
  refine dss_cons (ds_set C (i := 2) rfl (by first | exact Or.inl rfl | exact Or.inr rfl) (de_callL (x := "_law_next") G_p_law_next callOk_share C rfl m_p_law_next D_p_law_next.kp (kb0 D_p_law_next) (da_cons (de_var (pv 0)) (da_cons de_int da_nil)) dkw_nil)) ?_
  refine dss_cons (ds_set C (i := 3) rfl (by first | exact Or.inl rfl | exact Or.inr rfl) (de_callL (x := "_law_odd") G_p_law_odd_o callOk_share C rfl m_p_law_odd_o D_p_law_odd_o.kp (kb9 D_p_law_odd_o) (da_cons (de_var (pv 0)) da_nil) dkw_nil)) ?_
  refine dss_cons ?_ ?_
  · refine ds_if (dt_val (de_isi rfl b_isinstance (da_cons (de_var (pv 1)) (da_cons (de_tup (da_cons (de_ty rfl b_list (by rfl)) (da_cons (de_ty rfl b_tuple (by rfl)) da_nil))) da_nil)))) ?_ ?_
    · refine dss_cons (ds_set C (i := 4) rfl (by first | exact Or.inl rfl | exact Or.inr rfl) (de_callL (x := "_law_next") G_p_law_next callOk_share C rfl m_p_law_next D_p_law_next.kp (kb0 D_p_law_next) (da_cons (de_var (pv 0)) (da_cons (de_add (de_len rfl b_len (da_cons (de_var (pv 1)) da_nil)) de_int) da_nil)) dkw_nil)) ?_
      exact (dss_cons (ds_set C (i := 5) rfl (by first | exact Or.inl rfl | exact Or.inr rfl) (de_lst (da_cons (de_var (pv 3)) (da_cons (de_listO C rfl b_list (da_cons (de_var (pv 1)) da_nil)) (da_cons (de_tuple rfl b_tuple (da_cons (de_var (pv 1)) da_nil)) (da_cons (de_addO (de_slice (de_var (pv 1)) do_none (do_some (de_var (pv 4)))) (de_slice (de_var (pv 1)) (do_some (de_add (de_var (pv 4)) de_int)) do_none)) (da_cons (de_revO (de_var (pv 1))) (da_cons (de_addO (de_var (pv 1)) (de_var (pv 1))) da_nil)))))))) (dss_one (ds_ret (de_sub1 C (de_add (de_var (pv 5)) (de_lst (da_cons (de_addO (de_var (pv 1)) (de_slice (de_var (pv 1)) do_none (do_some (de_var (pv 4))))) (da_cons (de_addO (de_add (de_slice (de_var (pv 1)) do_none (do_some (de_var (pv 4)))) (de_slice (de_var (pv 1)) (do_some (de_var (pv 4))) (do_some (de_add (de_var (pv 4)) de_int)))) (de_slice (de_var (pv 1)) (do_some (de_var (pv 4))) do_none)) da_nil)))) (de_var (pv 2))))))
    · exact dss_nil
  refine dss_cons (ds_if (dt_val (de_isi rfl b_isinstance (da_cons (de_var (pv 1)) (da_cons (de_ty rfl b_str (by rfl)) da_nil)))) (dss_one (ds_ret (de_sub1 C (de_lst (da_cons (de_var (pv 3)) (da_cons (de_add (de_var (pv 1)) de_str) (da_cons de_str (da_cons de_str (da_cons de_str (da_cons de_str (da_cons (de_upper (de_var (pv 1))) (da_cons (de_tup (da_cons (de_var (pv 1)) da_nil)) da_nil))))))))) (de_var (pv 2))))) dss_nil) ?_
  exact (dss_cons (ds_if (dt_val (de_isi rfl b_isinstance (da_cons (de_var (pv 1)) (da_cons (de_ty rfl b_int (by rfl)) da_nil)))) (dss_one (ds_ret (de_sub1 C (de_lst (da_cons (de_var (pv 3)) (da_cons (de_add (de_var (pv 1)) de_int) (da_cons (de_sub (de_var (pv 1)) de_int) (da_cons (de_add de_int (de_var (pv 1))) (da_cons (de_add (de_pow de_int de_int) de_int) (da_cons (de_sub (de_neg (de_pow de_int de_int)) de_int) (da_cons (de_strI rfl b_str (da_cons (de_var (pv 1)) da_nil)) (da_cons (de_tup (da_cons de_str (da_cons (de_var (pv 1)) da_nil))) da_nil))))))))) (de_var (pv 2))))) dss_nil) (dss_one (ds_ret (de_sub1 C (de_lst (da_cons (de_var (pv 3)) (da_cons de_int (da_cons (de_tup (da_cons de_str (da_cons de_int da_nil))) (da_cons (de_tup (da_cons de_str (da_cons de_int da_nil))) (da_cons de_str (da_cons (de_tup da_nil) (da_cons (de_tup (da_cons de_str (da_cons (de_tup da_nil) da_nil))) (da_cons (de_tup (da_cons de_str (da_cons de_non da_nil))) da_nil))))))))) (de_var (pv 2))))))
theorem ok_p_law_bent {P : Program} {w : World} {K : PySem.W.Frag} {mg : Str → Option Value} {base : Heap} (T : Txt K mg) (TB : ∀ p ∈ tq, LamX.TabB base mg (He.cT K p.1).1 (He.cT K p.1).2) : ∃ fd, FunD K d_p_law_bent.name d_p_law_bent.qual d_p_law_bent.params d_p_law_bent.body d_p_law_bent.scope (d_p_law_bent.dvs K) (d_p_law_bent.kws K) (He.fAd K d_p_law_bent.at_) fd ∧
    FnG P w K mg base 9 (He.fAd K d_p_law_bent.at_) fd ["_law_state_here", "_law_thing"] (spD K mg 2 S_p_law_bent) := by
  obtain ⟨fd_p_law_next, D_p_law_next, G_p_law_next⟩ := ok_p_law_next (P := P) (w := w) (base := base) T TB
  have m_p_law_next := glo_p_law_next T
  obtain ⟨fd_p_law_bent_r1, D_p_law_bent_r1, G_p_law_bent_r1⟩ := ok_p_law_bent_r1 (P := P) (w := w) (base := base) T TB
  have m_p_law_bent_r1 := glo_p_law_bent_r1 T
  obtain ⟨fd_p_law_other_o, D_p_law_other_o, G_p_law_other_o⟩ := ok_p_law_other_o (P := P) (w := w) (base := base) T TB
  have m_p_law_other_o := glo_p_law_other_o T
  have b_isinstance := free_isinstance T
  have b_len := free_len T
  have b_list := free_list T
  have b_tuple := free_tuple T
  obtain ⟨fd, F⟩ := fun_p_law_bent T
  refine ⟨fd, F, fnG (N := N_p_law_bent) (ps := ["_law_state_here", "_law_thing"]) (k := 8) (g := m_p_law_bent) F ⟨rfl, rfl, rfl, by decide +kernel, rfl, by decide +kernel, by decide +kernel⟩ fun cdv A outer s H E C => ?_⟩
  refine dss_cons ?_ ?_
  · refine ds_if (DW.dt (dw_and (dt_val (de_isi rfl b_isinstance (da_cons (de_var (pv 1)) (da_cons (de_tup (da_cons (de_ty rfl b_list (by rfl)) (da_cons (de_ty rfl b_tuple (by rfl)) da_nil))) da_nil)))) (dw_and (dt_cmp op_gt opd_gt (de_len rfl b_len (da_cons (de_var (pv 1)) da_nil)) de_int (nomark _)) (dw_and1 (dt_cmp op_gt opd_gt (de_callL (x := "_law_next") G_p_law_next callOk_share C rfl m_p_law_next D_p_law_next.kp (kb0 D_p_law_next) (da_cons (de_var (pv 0)) (da_cons de_int da_nil)) dkw_nil) de_int (nomark _)))))) ?_ ?_
    · exact (dss_cons (ds_set C (i := 2) rfl (by first | exact Or.inl rfl | exact Or.inr rfl) (de_callL (x := "_law_next") G_p_law_next callOk_share C rfl m_p_law_next D_p_law_next.kp (kb0 D_p_law_next) (da_cons (de_var (pv 0)) (da_cons (de_len rfl b_len (da_cons (de_var (pv 1)) da_nil)) da_nil)) dkw_nil)) (dss_cons (ds_set C (i := 3) rfl (by first | exact Or.inl rfl | exact Or.inr rfl) (de_callL (x := "_law_bent") G_p_law_bent_r1 callOk_share C rfl m_p_law_bent_r1 D_p_law_bent_r1.kp (kb10 D_p_law_bent_r1) (da_cons (de_var (pv 0)) (da_cons (de_sub1 C (de_var (pv 1)) (de_var (pv 2))) da_nil)) dkw_nil)) (dss_one (ds_ret (de_addO (de_add (de_slice (de_var (pv 1)) do_none (do_some (de_var (pv 2)))) (de_ifExp (dt_val (de_isi rfl b_isinstance (da_cons (de_var (pv 1)) (da_cons (de_ty rfl b_list (by rfl)) da_nil)))) (de_lst (da_cons (de_var (pv 3)) da_nil)) (de_tup (da_cons (de_var (pv 3)) da_nil)))) (de_slice (de_var (pv 1)) (do_some (de_add (de_var (pv 2)) de_int)) do_none))))))
    · exact dss_nil
  exact (dss_one (ds_ret (de_callL (x := "_law_other") G_p_law_other_o callOk_share C rfl m_p_law_other_o D_p_law_other_o.kp (kb11 D_p_law_other_o) (da_cons (de_var (pv 0)) (da_cons (de_var (pv 1)) da_nil)) dkw_nil)))
theorem ok_p_law_whole {P : Program} {w : World} {K : PySem.W.Frag} {mg : Str → Option Value} {base : Heap} (T : Txt K mg) (TB : ∀ p ∈ tq, LamX.TabB base mg (He.cT K p.1).1 (He.cT K p.1).2) : ∃ fd, FunD K d_p_law_whole.name d_p_law_whole.qual d_p_law_whole.params d_p_law_whole.body d_p_law_whole.scope (d_p_law_whole.dvs K) (d_p_law_whole.kws K) (He.fAd K d_p_law_whole.at_) fd ∧
    FnG P w K mg base 1 (He.fAd K d_p_law_whole.at_) fd ["_law_thing", "_law_low", "_law_most"] (spD K mg 3 S_p_law_whole) := by
  have b_bool := free_bool T
  have b_int := free_int T
  have b_isinstance := free_isinstance T
  obtain ⟨fd, F⟩ := fun_p_law_whole T
  refine ⟨fd, F, fnG (N := N_p_law_whole) (ps := ["_law_thing", "_law_low", "_law_most"]) (k := 0) (g := m_p_law_whole) F ⟨rfl, rfl, rfl, by decide +kernel, rfl, by decide +kernel, by decide +kernel⟩ fun cdv A outer s H E C => ?_⟩
  exact (dss_one (ds_ret (de_and (de_isi rfl b_isinstance (da_cons (de_var (pv 0)) (da_cons (de_ty rfl b_int (by rfl)) da_nil))) (de_and (de_not (de_isi rfl b_isinstance (da_cons (de_var (pv 0)) (da_cons (de_ty rfl b_bool (by rfl)) da_nil)))) (de_one (de_chain op_le op_le opd_le opd_le (de_var (pv 1)) (de_var (pv 0)) (de_var (pv 2))))))))
theorem ok_p_law_is_value {P : Program} {w : World} {K : PySem.W.Frag} {mg : Str → Option Value} {base : Heap} (T : Txt K mg) (TB : ∀ p ∈ tq, LamX.TabB base mg (He.cT K p.1).1 (He.cT K p.1).2) : ∃ fd, FunD K d_p_law_is_value.name d_p_law_is_value.qual d_p_law_is_value.params d_p_law_is_value.body d_p_law_is_value.scope (d_p_law_is_value.dvs K) (d_p_law_is_value.kws K) (He.fAd K d_p_law_is_value.at_) fd ∧
    FnG P w K mg base 2 (He.fAd K d_p_law_is_value.at_) fd ["_law_thing", "_law_many"] (spD K mg 2 S_p_law_is_value) := by
  obtain ⟨fd_p_law_whole, D_p_law_whole, G_p_law_whole⟩ := ok_p_law_whole (P := P) (w := w) (base := base) T TB
  have m_p_law_whole := glo_p_law_whole T
  have b_isinstance := free_isinstance T
  have b_len := free_len T
  have b_str := free_str T
  have b_tuple := free_tuple T
  obtain ⟨fd, F⟩ := fun_p_law_is_value T
  refine ⟨fd, F, fnG (N := N_p_law_is_value) (ps := ["_law_thing", "_law_many"]) (k := 1) (g := m_p_law_is_value) F ⟨rfl, rfl, rfl, by decide +kernel, rfl, by decide +kernel, by decide +kernel⟩ fun cdv A outer s H E C => ?_⟩
  refine dss_cons (ds_if (dt_val (de_isi rfl b_isinstance (da_cons (de_var (pv 0)) (da_cons (de_ty rfl b_tuple (by rfl)) da_nil)))) (dss_one (ds_ret (de_and (de_cmp (opr_eq C) opd_eq (de_len rfl b_len (da_cons (de_var (pv 0)) da_nil)) de_int (nomark _)) (de_and (de_isi rfl b_isinstance (da_cons (de_sub1 C (de_var (pv 0)) de_int) (da_cons (de_ty rfl b_str (by rfl)) da_nil))) (de_and (de_cmp (opr_eq C) opd_eq (de_sub1 C (de_var (pv 0)) de_int) de_str (nomark _)) (de_one (de_callL (x := "_law_whole") G_p_law_whole callOk_sub C rfl m_p_law_whole D_p_law_whole.kp (kb12 D_p_law_whole) (da_cons (de_sub1 C (de_var (pv 0)) de_int) (da_cons de_int (da_cons (de_sub (de_var (pv 1)) de_int) da_nil))) dkw_nil))))))) dss_nil) ?_
  exact (dss_one (ds_ret (de_or (de_cmp op_isN opd_is (de_var (pv 0)) de_non (nomark _)) (de_one (de_callL (x := "_law_whole") G_p_law_whole callOk_sub C rfl m_p_law_whole D_p_law_whole.kp (kb12 D_p_law_whole) (da_cons (de_var (pv 0)) (da_cons (de_neg (de_pow de_int de_int)) (da_cons (de_pow de_int de_int) da_nil))) dkw_nil)))))
theorem ok_p_law_is_cell {P : Program} {w : World} {K : PySem.W.Frag} {mg : Str → Option Value} {base : Heap} (T : Txt K mg) (TB : ∀ p ∈ tq, LamX.TabB base mg (He.cT K p.1).1 (He.cT K p.1).2) : ∃ fd, FunD K d_p_law_is_cell.name d_p_law_is_cell.qual d_p_law_is_cell.params d_p_law_is_cell.body d_p_law_is_cell.scope (d_p_law_is_cell.dvs K) (d_p_law_is_cell.kws K) (He.fAd K d_p_law_is_cell.at_) fd ∧
    FnG P w K mg base 3 (He.fAd K d_p_law_is_cell.at_) fd ["_law_thing", "_law_many"] (spD K mg 2 S_p_law_is_cell) := by
  obtain ⟨fd_p_law_whole, D_p_law_whole, G_p_law_whole⟩ := ok_p_law_whole (P := P) (w := w) (base := base) T TB
  have m_p_law_whole := glo_p_law_whole T
  obtain ⟨fd_p_law_is_value, D_p_law_is_value, G_p_law_is_value⟩ := ok_p_law_is_value (P := P) (w := w) (base := base) T TB
  have m_p_law_is_value := glo_p_law_is_value T
  have b_all := free_all T
  have b_isinstance := free_isinstance T
  have b_len := free_len T
  have b_str := free_str T
  have b_tuple := free_tuple T
  obtain ⟨fd, F⟩ := fun_p_law_is_cell T
  refine ⟨fd, F, fnG (N := N_p_law_is_cell) (ps := ["_law_thing", "_law_many"]) (k := 2) (g := m_p_law_is_cell) F ⟨rfl, rfl, rfl, by decide +kernel, rfl, by decide +kernel, by decide +kernel⟩ fun cdv A outer s H E C => ?_⟩
  refine dss_cons (ds_if (DW.dt (dw_or (dt_not (dt_val (de_isi rfl b_isinstance (da_cons (de_var (pv 0)) (da_cons (de_ty rfl b_tuple (by rfl)) da_nil))))) (dw_or (dt_cmp (opr_ne C) opd_ne (de_len rfl b_len (da_cons (de_var (pv 0)) da_nil)) de_int (nomark _)) (dw_or1 (dt_not (dt_val (de_isi rfl b_isinstance (da_cons (de_sub1 C (de_var (pv 0)) de_int) (da_cons (de_ty rfl b_str (by rfl)) da_nil))))))))) (dss_one (ds_ret de_bl)) dss_nil) ?_
  refine dss_cons (ds_asg (de_var (pv 0)) (dg_tup C.calm (dgs_cons (dg_name (i := 2) (pg_name C.nd rfl (by first | exact Or.inl rfl | exact Or.inr rfl))) (dgs_cons (dg_name (i := 3) (pg_name C.nd rfl (by first | exact Or.inl rfl | exact Or.inr rfl))) dgs_nil)))) ?_
  refine dss_cons (ds_if (dt_cmp (opr_eq C) opd_eq (de_var (pv 2)) de_str (nomark _)) (dss_one (ds_ret (de_or (de_cmp op_isN opd_is (de_var (pv 3)) de_non (nomark _)) (de_one (de_callL (x := "_law_whole") G_p_law_whole callOk_sub C rfl m_p_law_whole D_p_law_whole.kp (kb12 D_p_law_whole) (da_cons (de_var (pv 3)) (da_cons de_int (da_cons (de_sub (de_var (pv 1)) de_int) da_nil))) dkw_nil))))) dss_nil) ?_
  exact (dss_cons (ds_if (DW.dt (dw_or (DW.dt (dw_and (dt_cmp (opr_ne C) opd_ne (de_var (pv 2)) de_str (nomark _)) (dw_and1 (dt_cmp (opr_ne C) opd_ne (de_var (pv 2)) de_str (nomark _))))) (dw_or (dt_not (dt_val (de_isi rfl b_isinstance (da_cons (de_var (pv 3)) (da_cons (de_ty rfl b_tuple (by rfl)) da_nil))))) (dw_or1 (dt_cmp op_gt opd_gt (de_len rfl b_len (da_cons (de_var (pv 3)) da_nil)) de_int (nomark _)))))) (dss_one (ds_ret de_bl)) dss_nil) (dss_one (ds_ret (de_all C rfl b_all (da_cons (de_lcB C finL_ok (di_seq (de_var (pv 3))) (show BlkOk N_p_law_is_cell (defScope s_p_law_is_cell) _ [("_law_one", 4)] from ⟨rfl, by decide +kernel, by decide +kernel, by decide +kernel, by decide +kernel⟩) (fun _ _ _ _ _ C1 => (dg_name (i := 4) (pg_name C1.nd rfl (by first | exact Or.inl rfl | exact Or.inr rfl)))) (fun _ _ _ _ _ C1 => dts_nil) (fun _ _ _ _ _ C1 => (de_callL (x := "_law_is_value") G_p_law_is_value callOk_sub C1 rfl m_p_law_is_value D_p_law_is_value.kp (kb13 D_p_law_is_value) (da_cons (de_var (pv 4)) (da_cons (de_var (pv 1)) da_nil)) dkw_nil))) da_nil)))))
theorem ok_p_law_is_web {P : Program} {w : World} {K : PySem.W.Frag} {mg : Str → Option Value} {base : Heap} (T : Txt K mg) (TB : ∀ p ∈ tq, LamX.TabB base mg (He.cT K p.1).1 (He.cT K p.1).2) : ∃ fd, FunD K d_p_law_is_web.name d_p_law_is_web.qual d_p_law_is_web.params d_p_law_is_web.body d_p_law_is_web.scope (d_p_law_is_web.dvs K) (d_p_law_is_web.kws K) (He.fAd K d_p_law_is_web.at_) fd ∧
    FnG P w K mg base 4 (He.fAd K d_p_law_is_web.at_) fd ["_law_stuff", "_law_holds"] (spD K mg 2 S_p_law_is_web) := by
  obtain ⟨fd_p_law_is_cell, D_p_law_is_cell, G_p_law_is_cell⟩ := ok_p_law_is_cell (P := P) (w := w) (base := base) T TB
  have m_p_law_is_cell := glo_p_law_is_cell T
  obtain ⟨fd_p_law_is_value, D_p_law_is_value, G_p_law_is_value⟩ := ok_p_law_is_value (P := P) (w := w) (base := base) T TB
  have m_p_law_is_value := glo_p_law_is_value T
  have b_all := free_all T
  have b_isinstance := free_isinstance T
  have b_len := free_len T
  have b_list := free_list T
  have b_tuple := free_tuple T
  obtain ⟨fd, F⟩ := fun_p_law_is_web T
  refine ⟨fd, F, fnG (N := N_p_law_is_web) (ps := ["_law_stuff", "_law_holds"]) (k := 3) (g := m_p_law_is_web) F ⟨rfl, rfl, rfl, by decide +kernel, rfl, by decide +kernel, by decide +kernel⟩ fun cdv A outer s H E C => ?_⟩
  refine dss_cons (ds_if (DW.dt (dw_or (dt_not (dt_val (de_isi rfl b_isinstance (da_cons (de_var (pv 0)) (da_cons (de_tup (da_cons (de_ty rfl b_list (by rfl)) (da_cons (de_ty rfl b_tuple (by rfl)) da_nil))) da_nil))))) (dw_or1 (dt_not (dt_val (de_isi rfl b_isinstance (da_cons (de_var (pv 1)) (da_cons (de_tup (da_cons (de_ty rfl b_list (by rfl)) (da_cons (de_ty rfl b_tuple (by rfl)) da_nil))) da_nil)))))))) (dss_one (ds_ret de_bl)) dss_nil) ?_
  refine dss_cons (ds_if (dt_not (dt_val (de_all C rfl b_all (da_cons (de_lcB C finL_ok (di_seq (de_var (pv 0))) (show BlkOk N_p_law_is_web (defScope s_p_law_is_web) _ [("_law_one", 2)] from ⟨rfl, by decide +kernel, by decide +kernel, by decide +kernel, by decide +kernel⟩) (fun _ _ _ _ _ C1 => (dg_name (i := 2) (pg_name C1.nd rfl (by first | exact Or.inl rfl | exact Or.inr rfl)))) (fun _ _ _ _ _ C1 => dts_nil) (fun _ _ _ _ _ C1 => (de_callL (x := "_law_is_cell") G_p_law_is_cell callOk_sub C1 rfl m_p_law_is_cell D_p_law_is_cell.kp (kb14 D_p_law_is_cell) (da_cons (de_var (pv 2)) (da_cons (de_len rfl b_len (da_cons (de_var (pv 0)) da_nil)) da_nil)) dkw_nil))) da_nil)))) (dss_one (ds_ret de_bl)) dss_nil) ?_
  exact (dss_one (ds_ret (de_all C rfl b_all (da_cons (de_lcB C finL_ok (di_seq (de_var (pv 1))) (show BlkOk N_p_law_is_web (defScope s_p_law_is_web) _ [("_law_one", 2)] from ⟨rfl, by decide +kernel, by decide +kernel, by decide +kernel, by decide +kernel⟩) (fun _ _ _ _ _ C1 => (dg_name (i := 2) (pg_name C1.nd rfl (by first | exact Or.inl rfl | exact Or.inr rfl)))) (fun _ _ _ _ _ C1 => dts_nil) (fun _ _ _ _ _ C1 => (de_callL (x := "_law_is_value") G_p_law_is_value callOk_sub C1 rfl m_p_law_is_value D_p_law_is_value.kp (kb13 D_p_law_is_value) (da_cons (de_var (pv 2)) (da_cons (de_len rfl b_len (da_cons (de_var (pv 0)) da_nil)) da_nil)) dkw_nil))) da_nil))))
theorem ok_p_law_classes {P : Program} {w : World} {K : PySem.W.Frag} {mg : Str → Option Value} {base : Heap} (T : Txt K mg) (TB : ∀ p ∈ tq, LamX.TabB base mg (He.cT K p.1).1 (He.cT K p.1).2) : ∃ fd, FunD K d_p_law_classes.name d_p_law_classes.qual d_p_law_classes.params d_p_law_classes.body d_p_law_classes.scope (d_p_law_classes.dvs K) (d_p_law_classes.kws K) (He.fAd K d_p_law_classes.at_) fd ∧
    FnG P w K mg base 1 (He.fAd K d_p_law_classes.at_) fd ["_law_error"] (spD K mg 1 S_p_law_classes) := by
  have b_ValueError := free_ValueError T
  have b_isinstance := free_isinstance T
  have c_BadGround := gloc_BadGround T
  have c_BadName := gloc_BadName T
  have c_BadNumber := gloc_BadNumber T
  have c_BadPicture := gloc_BadPicture T
  have c_BadProgram := gloc_BadProgram T
  have c_BadText := gloc_BadText T
  have c_BadWeaving := gloc_BadWeaving T
  have c_BadWeb := gloc_BadWeb T
  have c_NoCell := gloc_NoCell T
  have c_NoDeed := gloc_NoDeed T
  have c_NoField := gloc_NoField T
  have c_NoHand := gloc_NoHand T
  have c_NoName := gloc_NoName T
  have c_NoPeg := gloc_NoPeg T
  have c_NoRoom := gloc_NoRoom T
  have c_NoTurn := gloc_NoTurn T
  have c_TooMany := gloc_TooMany T
  have c_Unlawful := gloc_Unlawful T
  have gx_BadGround := gloc_BadGround T
  have gx_BadName := gloc_BadName T
  have gx_BadNumber := gloc_BadNumber T
  have gx_BadPicture := gloc_BadPicture T
  have gx_BadProgram := gloc_BadProgram T
  have gx_BadText := gloc_BadText T
  have gx_BadWeaving := gloc_BadWeaving T
  have gx_BadWeb := gloc_BadWeb T
  have gx_NoCell := gloc_NoCell T
  have gx_NoDeed := gloc_NoDeed T
  have gx_NoField := gloc_NoField T
  have gx_NoHand := gloc_NoHand T
  have gx_NoName := gloc_NoName T
  have gx_NoPeg := gloc_NoPeg T
  have gx_NoRoom := gloc_NoRoom T
  have gx_NoTurn := gloc_NoTurn T
  have gx_TooMany := gloc_TooMany T
  have gx_Unlawful := gloc_Unlawful T
  have kit_BadGround := kitc_BadGround T
  have kit_BadName := kitc_BadName T
  have kit_BadNumber := kitc_BadNumber T
  have kit_BadPicture := kitc_BadPicture T
  have kit_BadProgram := kitc_BadProgram T
  have kit_BadText := kitc_BadText T
  have kit_BadWeaving := kitc_BadWeaving T
  have kit_BadWeb := kitc_BadWeb T
  have kit_NoCell := kitc_NoCell T
  have kit_NoDeed := kitc_NoDeed T
  have kit_NoField := kitc_NoField T
  have kit_NoHand := kitc_NoHand T
  have kit_NoName := kitc_NoName T
  have kit_NoPeg := kitc_NoPeg T
  have kit_NoRoom := kitc_NoRoom T
  have kit_NoTurn := kitc_NoTurn T
  have kit_TooMany := kitc_TooMany T
  have kit_Unlawful := kitc_Unlawful T
  have kit_ValueError := kitc_ValueError T
  obtain ⟨fd, F⟩ := fun_p_law_classes T
  refine ⟨fd, F, fnG (N := N_p_law_classes) (ps := ["_law_error"]) (k := 0) (g := m_p_law_classes) F ⟨rfl, rfl, rfl, by decide +kernel, rfl, by decide +kernel, by decide +kernel⟩ fun cdv A outer s H E C => ?_⟩
  refine dss_cons ?_ ?_
  · exact (ds_set C (i := 1) rfl (by first | exact Or.inl rfl | exact Or.inr rfl) (de_lst (da_cons (de_tup (da_cons de_str (da_cons (de_isX rfl b_isinstance gx_BadWeb kit_BadWeb (da_cons (de_var (pv 0)) (da_cons (de_own rfl c_BadWeb) da_nil))) da_nil))) (da_cons (de_tup (da_cons de_str (da_cons (de_isX rfl b_isinstance gx_BadGround kit_BadGround (da_cons (de_var (pv 0)) (da_cons (de_own rfl c_BadGround) da_nil))) da_nil))) (da_cons (de_tup (da_cons de_str (da_cons (de_isX rfl b_isinstance gx_BadNumber kit_BadNumber (da_cons (de_var (pv 0)) (da_cons (de_own rfl c_BadNumber) da_nil))) da_nil))) (da_cons (de_tup (da_cons de_str (da_cons (de_isX rfl b_isinstance gx_NoPeg kit_NoPeg (da_cons (de_var (pv 0)) (da_cons (de_own rfl c_NoPeg) da_nil))) da_nil))) (da_cons (de_tup (da_cons de_str (da_cons (de_isX rfl b_isinstance gx_NoCell kit_NoCell (da_cons (de_var (pv 0)) (da_cons (de_own rfl c_NoCell) da_nil))) da_nil))) (da_cons (de_tup (da_cons de_str (da_cons (de_isX rfl b_isinstance gx_NoField kit_NoField (da_cons (de_var (pv 0)) (da_cons (de_own rfl c_NoField) da_nil))) da_nil))) (da_cons (de_tup (da_cons de_str (da_cons (de_isX rfl b_isinstance gx_NoHand kit_NoHand (da_cons (de_var (pv 0)) (da_cons (de_own rfl c_NoHand) da_nil))) da_nil))) (da_cons (de_tup (da_cons de_str (da_cons (de_isX rfl b_isinstance gx_NoTurn kit_NoTurn (da_cons (de_var (pv 0)) (da_cons (de_own rfl c_NoTurn) da_nil))) da_nil))) (da_cons (de_tup (da_cons de_str (da_cons (de_isX rfl b_isinstance gx_NoRoom kit_NoRoom (da_cons (de_var (pv 0)) (da_cons (de_own rfl c_NoRoom) da_nil))) da_nil))) (da_cons (de_tup (da_cons de_str (da_cons (de_isX rfl b_isinstance gx_NoDeed kit_NoDeed (da_cons (de_var (pv 0)) (da_cons (de_own rfl c_NoDeed) da_nil))) da_nil))) (da_cons (de_tup (da_cons de_str (da_cons (de_isX rfl b_isinstance gx_TooMany kit_TooMany (da_cons (de_var (pv 0)) (da_cons (de_own rfl c_TooMany) da_nil))) da_nil))) (da_cons (de_tup (da_cons de_str (da_cons (de_isX rfl b_isinstance gx_BadProgram kit_BadProgram (da_cons (de_var (pv 0)) (da_cons (de_own rfl c_BadProgram) da_nil))) da_nil))) (da_cons (de_tup (da_cons de_str (da_cons (de_isX rfl b_isinstance gx_BadWeaving kit_BadWeaving (da_cons (de_var (pv 0)) (da_cons (de_own rfl c_BadWeaving) da_nil))) da_nil))) (da_cons (de_tup (da_cons de_str (da_cons (de_isX rfl b_isinstance gx_BadPicture kit_BadPicture (da_cons (de_var (pv 0)) (da_cons (de_own rfl c_BadPicture) da_nil))) da_nil))) (da_cons (de_tup (da_cons de_str (da_cons (de_isX rfl b_isinstance gx_BadText kit_BadText (da_cons (de_var (pv 0)) (da_cons (de_own rfl c_BadText) da_nil))) da_nil))) (da_cons (de_tup (da_cons de_str (da_cons (de_isX rfl b_isinstance gx_BadName kit_BadName (da_cons (de_var (pv 0)) (da_cons (de_own rfl c_BadName) da_nil))) da_nil))) (da_cons (de_tup (da_cons de_str (da_cons (de_isX rfl b_isinstance gx_NoName kit_NoName (da_cons (de_var (pv 0)) (da_cons (de_own rfl c_NoName) da_nil))) da_nil))) (da_cons (de_tup (da_cons de_str (da_cons (de_isX rfl b_isinstance gx_Unlawful kit_Unlawful (da_cons (de_var (pv 0)) (da_cons (de_own rfl c_Unlawful) da_nil))) da_nil))) da_nil))))))))))))))))))))
  exact (dss_one (ds_ret (de_ifExp (dt_val (de_isXT rfl b_isinstance kit_ValueError (da_cons (de_var (pv 0)) (da_cons (de_ty rfl b_ValueError (by rfl)) da_nil)))) (de_join de_str (da_cons (de_lcB C finL_ok (di_seq (de_var (pv 1))) (show BlkOk N_p_law_classes (defScope s_p_law_classes) _ [("_law_name", 2), ("_law_there", 3)] from ⟨rfl, by decide +kernel, by decide +kernel, by decide +kernel, by decide +kernel⟩) (fun _ _ _ _ _ C1 => (dg_tup C1.calm (dgs_cons (dg_name (i := 2) (pg_name C1.nd rfl (by first | exact Or.inl rfl | exact Or.inr rfl))) (dgs_cons (dg_name (i := 3) (pg_name C1.nd rfl (by first | exact Or.inl rfl | exact Or.inr rfl))) dgs_nil)))) (fun _ _ _ _ _ C1 => (dts_one (dt_val (de_var (pv 3))))) (fun _ _ _ _ _ C1 => (de_var (pv 2)))) da_nil)) de_str)))
theorem ok_p_law_told {P : Program} {w : World} {K : PySem.W.Frag} {mg : Str → Option Value} {base : Heap} (T : Txt K mg) (TB : ∀ p ∈ tq, LamX.TabB base mg (He.cT K p.1).1 (He.cT K p.1).2) : ∃ fd, FunD K d_p_law_told.name d_p_law_told.qual d_p_law_told.params d_p_law_told.body d_p_law_told.scope (d_p_law_told.dvs K) (d_p_law_told.kws K) (He.fAd K d_p_law_told.at_) fd ∧
    FnT P w K mg base 31 "_law_told" d_p_law_told.scope (He.fAd K d_p_law_told.at_) fd "_law_work" N_p_law_told m_p_law_told := by
  obtain ⟨fd_p_law_classes, D_p_law_classes, G_p_law_classes⟩ := ok_p_law_classes (P := P) (w := w) (base := base) T TB
  have m_p_law_classes := glo_p_law_classes T
  have gx_BadWeb := gloc_BadWeb T
  have gx_YardError := gloc_YardError T
  have exm_YardError := exmc_YardError T
  obtain ⟨fd, F⟩ := fun_p_law_told T
  refine ⟨fd, F, fnT (k := 31) (m := m_p_law_told) F ⟨rfl, rfl, rfl, by decide +kernel, rfl, by decide +kernel, by decide +kernel⟩ rfl (by first | exact Or.inl rfl | exact Or.inr (Or.inl rfl)) (fun s v => L2.FunD.bindsA (ps := ["_law_work"]) F (fun _ _ _ _ _ _ us hl => match us, hl with | [_], _ => rfl) s [v] rfl) fun cdv A outer s H E f c q tl C act => ?_⟩
  exact (ts_const C (i := 1) (d := .non) (by rfl) rfl (by first | exact Or.inl rfl | exact Or.inr rfl) pe_non (fun _ _ => dat_non) (ts_const C (i := 2) (d := .non) (by rfl) rfl (by first | exact Or.inl rfl | exact Or.inr rfl) pe_non (fun _ _ => dat_non) (ts_trySet act C rfl rfl rfl (i := 1) rfl (by first | exact Or.inl rfl | exact Or.inr rfl) (.named ⟨rfl, by decide, .inl gx_YardError⟩ C.nd (i := 3) rfl rfl exm_YardError (fun a pn => (dss_one (ds_setS (by exact C.nd) (i := 2) rfl (by first | exact Or.inl rfl | exact Or.inr rfl) (de_var (pv 3))))) .nil) (dss_one (ds_ret (de_ifExp (dt_cmp op_isN opd_is (de_var (pv 2)) de_non (nomark _)) (de_tup (da_cons de_str (da_cons (de_var (pv 1)) da_nil))) (de_tup (da_cons de_str (da_cons (de_callL (x := "_law_classes") G_p_law_classes callOk_sub C rfl m_p_law_classes D_p_law_classes.kp (kb15 D_p_law_classes) (da_cons (de_var (pv 2)) da_nil) dkw_nil) da_nil)))))))))
theorem ok_is_row {P : Program} {w : World} {K : PySem.W.Frag} {mg : Str → Option Value} {base : Heap} (T : Txt K mg) (TB : ∀ p ∈ tq, LamX.TabB base mg (He.cT K p.1).1 (He.cT K p.1).2) : ∃ fd, FunD K d_is_row.name d_is_row.qual d_is_row.params d_is_row.body d_is_row.scope (d_is_row.dvs K) (d_is_row.kws K) (He.fAd K d_is_row.at_) fd ∧
    FnG P w K mg base 1 (He.fAd K d_is_row.at_) fd ["thing"] (spD K mg 1 S_is_row) := by
  have b_isinstance := free_isinstance T
  have b_list := free_list T
  have b_tuple := free_tuple T
  obtain ⟨fd, F⟩ := fun_is_row T
  refine ⟨fd, F, fnG (N := N_is_row) (ps := ["thing"]) (k := 0) (g := m_is_row) F ⟨rfl, rfl, rfl, by decide +kernel, rfl, by decide +kernel, by decide +kernel⟩ fun cdv A outer s H E C => ?_⟩
  exact (dss_one (ds_ret (de_isi rfl b_isinstance (da_cons (de_var (pv 0)) (da_cons (de_tup (da_cons (de_ty rfl b_list (by rfl)) (da_cons (de_ty rfl b_tuple (by rfl)) da_nil))) da_nil)))))
theorem ok_is_whole {P : Program} {w : World} {K : PySem.W.Frag} {mg : Str → Option Value} {base : Heap} (T : Txt K mg) (TB : ∀ p ∈ tq, LamX.TabB base mg (He.cT K p.1).1 (He.cT K p.1).2) : ∃ fd, FunD K d_is_whole.name d_is_whole.qual d_is_whole.params d_is_whole.body d_is_whole.scope (d_is_whole.dvs K) (d_is_whole.kws K) (He.fAd K d_is_whole.at_) fd ∧
    FnG P w K mg base 1 (He.fAd K d_is_whole.at_) fd ["thing", "least", "most"] (spD K mg 3 S_is_whole) := by
  have b_bool := free_bool T
  have b_int := free_int T
  have b_isinstance := free_isinstance T
  obtain ⟨fd, F⟩ := fun_is_whole T
  refine ⟨fd, F, fnG (N := N_is_whole) (ps := ["thing", "least", "most"]) (k := 0) (g := m_is_whole) F ⟨rfl, rfl, rfl, by decide +kernel, rfl, by decide +kernel, by decide +kernel⟩ fun cdv A outer s H E C => ?_⟩
  exact (dss_one (ds_ret (de_and (de_isi rfl b_isinstance (da_cons (de_var (pv 0)) (da_cons (de_ty rfl b_int (by rfl)) da_nil))) (de_and (de_not (de_isi rfl b_isinstance (da_cons (de_var (pv 0)) (da_cons (de_ty rfl b_bool (by rfl)) da_nil)))) (de_one (de_chain op_le op_le opd_le opd_le (de_var (pv 1)) (de_var (pv 0)) (de_var (pv 2))))))))
theorem ok_is_number {P : Program} {w : World} {K : PySem.W.Frag} {mg : Str → Option Value} {base : Heap} (T : Txt K mg) (TB : ∀ p ∈ tq, LamX.TabB base mg (He.cT K p.1).1 (He.cT K p.1).2) : ∃ fd, FunD K d_is_number.name d_is_number.qual d_is_number.params d_is_number.body d_is_number.scope (d_is_number.dvs K) (d_is_number.kws K) (He.fAd K d_is_number.at_) fd ∧
    FnG P w K mg base 2 (He.fAd K d_is_number.at_) fd ["thing"] (spD K mg 1 S_is_number) := by
  obtain ⟨fd_is_whole, D_is_whole, G_is_whole⟩ := ok_is_whole (P := P) (w := w) (base := base) T TB
  have m_is_whole := glo_is_whole T
  obtain ⟨_, i_GREATEST⟩ := int_GREATEST T
  obtain ⟨fd, F⟩ := fun_is_number T
  refine ⟨fd, F, fnG (N := N_is_number) (ps := ["thing"]) (k := 1) (g := m_is_number) F ⟨rfl, rfl, rfl, by decide +kernel, rfl, by decide +kernel, by decide +kernel⟩ fun cdv A outer s H E C => ?_⟩
  exact (dss_one (ds_ret (de_callL (x := "is_whole") G_is_whole callOk_sub C rfl m_is_whole D_is_whole.kp (kb16 D_is_whole) (da_cons (de_var (pv 0)) (da_cons (de_neg (de_globI rfl i_GREATEST)) (da_cons (de_globI rfl i_GREATEST) da_nil))) dkw_nil)))
theorem ok_is_at {P : Program} {w : World} {K : PySem.W.Frag} {mg : Str → Option Value} {base : Heap} (T : Txt K mg) (TB : ∀ p ∈ tq, LamX.TabB base mg (He.cT K p.1).1 (He.cT K p.1).2) : ∃ fd, FunD K d_is_at.name d_is_at.qual d_is_at.params d_is_at.body d_is_at.scope (d_is_at.dvs K) (d_is_at.kws K) (He.fAd K d_is_at.at_) fd ∧
    FnG P w K mg base 1 (He.fAd K d_is_at.at_) fd ["thing", "least"] (spD K mg 2 S_is_at) := by
  have b_bool := free_bool T
  have b_int := free_int T
  have b_isinstance := free_isinstance T
  have b_len := free_len T
  have b_str := free_str T
  have b_tuple := free_tuple T
  obtain ⟨_, i_GREATEST⟩ := int_GREATEST T
  obtain ⟨fd, F⟩ := fun_is_at T
  refine ⟨fd, F, fnG (N := N_is_at) (ps := ["thing", "least"]) (k := 0) (g := m_is_at) F ⟨rfl, rfl, rfl, by decide +kernel, rfl, by decide +kernel, by decide +kernel⟩ fun cdv A outer s H E C => ?_⟩
  exact (dss_cons (ds_if (DW.dt (dw_or (dt_not (dt_val (de_isi rfl b_isinstance (da_cons (de_var (pv 0)) (da_cons (de_ty rfl b_tuple (by rfl)) da_nil))))) (dw_or (dt_cmp (opr_ne C) opd_ne (de_len rfl b_len (da_cons (de_var (pv 0)) da_nil)) de_int (nomark _)) (dw_or (dt_not (dt_val (de_isi rfl b_isinstance (da_cons (de_sub1 C (de_var (pv 0)) de_int) (da_cons (de_ty rfl b_str (by rfl)) da_nil))))) (dw_or1 (dt_cmp (opr_ne C) opd_ne (de_sub1 C (de_var (pv 0)) de_int) de_str (nomark _))))))) (dss_one (ds_ret de_bl)) dss_nil) (dss_one (ds_ret (de_and (de_isi rfl b_isinstance (da_cons (de_sub1 C (de_var (pv 0)) de_int) (da_cons (de_ty rfl b_int (by rfl)) da_nil))) (de_and (de_not (de_isi rfl b_isinstance (da_cons (de_sub1 C (de_var (pv 0)) de_int) (da_cons (de_ty rfl b_bool (by rfl)) da_nil)))) (de_one (de_cmp op_ge opd_ge (de_sub1 C (de_var (pv 0)) de_int) (de_var (pv 1)) (nomark _))))))))
theorem ok_is_value {P : Program} {w : World} {K : PySem.W.Frag} {mg : Str → Option Value} {base : Heap} (T : Txt K mg) (TB : ∀ p ∈ tq, LamX.TabB base mg (He.cT K p.1).1 (He.cT K p.1).2) : ∃ fd, FunD K d_is_value.name d_is_value.qual d_is_value.params d_is_value.body d_is_value.scope (d_is_value.dvs K) (d_is_value.kws K) (He.fAd K d_is_value.at_) fd ∧
    FnG P w K mg base 3 (He.fAd K d_is_value.at_) fd ["thing", "cells"] (spD K mg 2 S_is_value) := by
  obtain ⟨fd_is_number, D_is_number, G_is_number⟩ := ok_is_number (P := P) (w := w) (base := base) T TB
  have m_is_number := glo_is_number T
  obtain ⟨fd_is_at, D_is_at, G_is_at⟩ := ok_is_at (P := P) (w := w) (base := base) T TB
  have m_is_at := glo_is_at T
  obtain ⟨_, i_GREATEST⟩ := int_GREATEST T
  obtain ⟨fd, F⟩ := fun_is_value T
  refine ⟨fd, F, fnG (N := N_is_value) (ps := ["thing", "cells"]) (k := 2) (g := m_is_value) F ⟨rfl, rfl, rfl, by decide +kernel, rfl, by decide +kernel, by decide +kernel⟩ fun cdv A outer s H E C => ?_⟩
  exact (dss_one (ds_ret (de_or (de_cmp op_isN opd_is (de_var (pv 0)) de_non (nomark _)) (de_or (de_callL (x := "is_number") G_is_number callOk_sub C rfl m_is_number D_is_number.kp (kb17 D_is_number) (da_cons (de_var (pv 0)) da_nil) dkw_nil) (de_one (de_and (de_callL (x := "is_at") G_is_at callOk_sub C rfl m_is_at D_is_at.kp (kb18 D_is_at) (da_cons (de_var (pv 0)) (da_cons de_int da_nil)) dkw_nil) (de_one (de_cmp op_lt opd_lt (de_sub1 C (de_var (pv 0)) de_int) (de_var (pv 1)) (nomark _)))))))))
theorem ok_is_cell {P : Program} {w : World} {K : PySem.W.Frag} {mg : Str → Option Value} {base : Heap} (T : Txt K mg) (TB : ∀ p ∈ tq, LamX.TabB base mg (He.cT K p.1).1 (He.cT K p.1).2) : ∃ fd, FunD K d_is_cell.name d_is_cell.qual d_is_cell.params d_is_cell.body d_is_cell.scope (d_is_cell.dvs K) (d_is_cell.kws K) (He.fAd K d_is_cell.at_) fd ∧
    FnG P w K mg base 4 (He.fAd K d_is_cell.at_) fd ["thing", "cells"] (spD K mg 2 S_is_cell) := by
  obtain ⟨fd_is_whole, D_is_whole, G_is_whole⟩ := ok_is_whole (P := P) (w := w) (base := base) T TB
  have m_is_whole := glo_is_whole T
  obtain ⟨fd_is_value, D_is_value, G_is_value⟩ := ok_is_value (P := P) (w := w) (base := base) T TB
  have m_is_value := glo_is_value T
  have b_all := free_all T
  have b_isinstance := free_isinstance T
  have b_len := free_len T
  have b_str := free_str T
  have b_tuple := free_tuple T
  obtain ⟨_, i_GREATEST⟩ := int_GREATEST T
  obtain ⟨_, i_MOST_FIELDS⟩ := int_MOST_FIELDS T
  obtain ⟨fd, F⟩ := fun_is_cell T
  refine ⟨fd, F, fnG (N := N_is_cell) (ps := ["thing", "cells"]) (k := 3) (g := m_is_cell) F ⟨rfl, rfl, rfl, by decide +kernel, rfl, by decide +kernel, by decide +kernel⟩ fun cdv A outer s H E C => ?_⟩
  refine dss_cons (ds_if (DW.dt (dw_or (dt_not (dt_val (de_isi rfl b_isinstance (da_cons (de_var (pv 0)) (da_cons (de_ty rfl b_tuple (by rfl)) da_nil))))) (dw_or (dt_cmp (opr_ne C) opd_ne (de_len rfl b_len (da_cons (de_var (pv 0)) da_nil)) de_int (nomark _)) (dw_or1 (dt_not (dt_val (de_isi rfl b_isinstance (da_cons (de_sub1 C (de_var (pv 0)) de_int) (da_cons (de_ty rfl b_str (by rfl)) da_nil))))))))) (dss_one (ds_ret de_bl)) dss_nil) ?_
  refine dss_cons (ds_if (dt_cmp (opr_eq C) opd_eq (de_sub1 C (de_var (pv 0)) de_int) de_str (nomark _)) (dss_one (ds_ret (de_or (de_cmp op_isN opd_is (de_sub1 C (de_var (pv 0)) de_int) de_non (nomark _)) (de_one (de_callL (x := "is_whole") G_is_whole callOk_sub C rfl m_is_whole D_is_whole.kp (kb16 D_is_whole) (da_cons (de_sub1 C (de_var (pv 0)) de_int) (da_cons de_int (da_cons (de_sub (de_var (pv 1)) de_int) da_nil))) dkw_nil))))) dss_nil) ?_
  refine dss_cons (ds_if (DW.dt (dw_or (dt_cmp (opr_notIn C) opd_notIn (de_sub1 C (de_var (pv 0)) de_int) (de_tup (da_cons de_str (da_cons de_str da_nil))) (by with_unfolding_all rfl)) (dw_or (dt_not (dt_val (de_isi rfl b_isinstance (da_cons (de_sub1 C (de_var (pv 0)) de_int) (da_cons (de_ty rfl b_tuple (by rfl)) da_nil))))) (dw_or1 (dt_cmp op_gt opd_gt (de_len rfl b_len (da_cons (de_sub1 C (de_var (pv 0)) de_int) da_nil)) (de_globI rfl i_MOST_FIELDS) (nomark _)))))) (dss_one (ds_ret de_bl)) dss_nil) ?_
  exact (dss_one (ds_ret (de_all C rfl b_all (da_cons (de_lcB C finL_ok (di_seq (de_sub1 C (de_var (pv 0)) de_int)) (show BlkOk N_is_cell (defScope s_is_cell) _ [("one", 2)] from ⟨rfl, by decide +kernel, by decide +kernel, by decide +kernel, by decide +kernel⟩) (fun _ _ _ _ _ C1 => (dg_name (i := 2) (pg_name C1.nd rfl (by first | exact Or.inl rfl | exact Or.inr rfl)))) (fun _ _ _ _ _ C1 => dts_nil) (fun _ _ _ _ _ C1 => (de_callL (x := "is_value") G_is_value callOk_sub C1 rfl m_is_value D_is_value.kp (kb19 D_is_value) (da_cons (de_var (pv 2)) da_nil) (dkw_cons (de_var (pv 1)) dkw_nil)))) da_nil))))
theorem ok_is_web {P : Program} {w : World} {K : PySem.W.Frag} {mg : Str → Option Value} {base : Heap} (T : Txt K mg) (TB : ∀ p ∈ tq, LamX.TabB base mg (He.cT K p.1).1 (He.cT K p.1).2) : ∃ fd, FunD K d_is_web.name d_is_web.qual d_is_web.params d_is_web.body d_is_web.scope (d_is_web.dvs K) (d_is_web.kws K) (He.fAd K d_is_web.at_) fd ∧
    FnG P w K mg base 5 (He.fAd K d_is_web.at_) fd ["cells", "pegs"] (spD K mg 2 S_is_web) := by
  obtain ⟨fd_is_row, D_is_row, G_is_row⟩ := ok_is_row (P := P) (w := w) (base := base) T TB
  have m_is_row := glo_is_row T
  obtain ⟨fd_is_cell, D_is_cell, G_is_cell⟩ := ok_is_cell (P := P) (w := w) (base := base) T TB
  have m_is_cell := glo_is_cell T
  obtain ⟨fd_is_value, D_is_value, G_is_value⟩ := ok_is_value (P := P) (w := w) (base := base) T TB
  have m_is_value := glo_is_value T
  have b_all := free_all T
  have b_len := free_len T
  obtain ⟨_, i_GREATEST⟩ := int_GREATEST T
  obtain ⟨_, i_MOST_FIELDS⟩ := int_MOST_FIELDS T
  obtain ⟨fd, F⟩ := fun_is_web T
  refine ⟨fd, F, fnG (N := N_is_web) (ps := ["cells", "pegs"]) (k := 4) (g := m_is_web) F ⟨rfl, rfl, rfl, by decide +kernel, rfl, by decide +kernel, by decide +kernel⟩ fun cdv A outer s H E C => ?_⟩
  refine dss_cons (ds_if (DW.dt (dw_or (dt_not (dt_val (de_callL (x := "is_row") G_is_row callOk_share C rfl m_is_row D_is_row.kp (kb20 D_is_row) (da_cons (de_var (pv 0)) da_nil) dkw_nil))) (dw_or1 (dt_not (dt_val (de_callL (x := "is_row") G_is_row callOk_share C rfl m_is_row D_is_row.kp (kb20 D_is_row) (da_cons (de_var (pv 1)) da_nil) dkw_nil)))))) (dss_one (ds_ret de_bl)) dss_nil) ?_
  refine dss_cons (ds_set C (i := 2) rfl (by first | exact Or.inl rfl | exact Or.inr rfl) (de_len rfl b_len (da_cons (de_var (pv 0)) da_nil))) ?_
  refine dss_one ?_
  exact (ds_ret (de_and (de_all C rfl b_all (da_cons (de_lcB C finL_ok (di_seq (de_var (pv 0))) (show BlkOk N_is_web (defScope s_is_web) _ [("one", 3)] from ⟨rfl, by decide +kernel, by decide +kernel, by decide +kernel, by decide +kernel⟩) (fun _ _ _ _ _ C1 => (dg_name (i := 3) (pg_name C1.nd rfl (by first | exact Or.inl rfl | exact Or.inr rfl)))) (fun _ _ _ _ _ C1 => dts_nil) (fun _ _ _ _ _ C1 => (de_callL (x := "is_cell") G_is_cell callOk_sub C1 rfl m_is_cell D_is_cell.kp (kb21 D_is_cell) (da_cons (de_var (pv 3)) da_nil) (dkw_cons (de_var (pv 2)) dkw_nil)))) da_nil)) (de_one (de_all C rfl b_all (da_cons (de_lcB C finL_ok (di_seq (de_var (pv 1))) (show BlkOk N_is_web (defScope s_is_web) _ [("one", 3)] from ⟨rfl, by decide +kernel, by decide +kernel, by decide +kernel, by decide +kernel⟩) (fun _ _ _ _ _ C1 => (dg_name (i := 3) (pg_name C1.nd rfl (by first | exact Or.inl rfl | exact Or.inr rfl)))) (fun _ _ _ _ _ C1 => dts_nil) (fun _ _ _ _ _ C1 => (de_callL (x := "is_value") G_is_value callOk_sub C1 rfl m_is_value D_is_value.kp (kb19 D_is_value) (da_cons (de_var (pv 3)) da_nil) (dkw_cons (de_var (pv 2)) dkw_nil)))) da_nil)))))
theorem ok_Web_init {P : Program} {w : World} {K : PySem.W.Frag} {mg : Str → Option Value} {base : Heap} (T : Txt K mg) (TB : ∀ p ∈ tq, LamX.TabB base mg (He.cT K p.1).1 (He.cT K p.1).2) : ∃ fd, FunD K d_Web_init.name d_Web_init.qual d_Web_init.params d_Web_init.body d_Web_init.scope (d_Web_init.dvs K) (d_Web_init.kws K) (He.fAd K d_Web_init.at_) fd ∧
    FnG P w K mg base 6 (He.fAd K d_Web_init.at_) fd ["self", "cells", "pegs"] (spD K mg 3 S_Web_init) := by
  obtain ⟨fd_is_web, D_is_web, G_is_web⟩ := ok_is_web (P := P) (w := w) (base := base) T TB
  have m_is_web := glo_is_web T
  have b_list := free_list T
  obtain ⟨_, i_GREATEST⟩ := int_GREATEST T
  obtain ⟨_, i_MOST_FIELDS⟩ := int_MOST_FIELDS T
  have gx_BadWeb := gloc_BadWeb T
  have rai_BadWeb := raic_BadWeb T
  have I_Web : ∀ {X : Cx}, X.K = K → X.mg = mg → ClsI X "Web" (He.ga K "Web") := fun h1 h2 => ⟨by rw [h2]; exact gloc_Web T, by rw [h1]; exact cls_Web T⟩
  have N_Web_all_cells := noat_Web_all_cells T
  have N_Web_all_pegs := noat_Web_all_pegs T
  obtain ⟨fd, F⟩ := fun_Web_init T
  refine ⟨fd, F, fnG (N := N_Web_init) (ps := ["self", "cells", "pegs"]) (k := 5) (g := m_Web_init) F ⟨rfl, rfl, rfl, by decide +kernel, rfl, by decide +kernel, by decide +kernel⟩ fun cdv A outer s H E C => ?_⟩
  exact (dss_cons (ds_if (dt_not (dt_val (de_callL (x := "is_web") G_is_web callOk_share C rfl m_is_web D_is_web.kp (kb22 D_is_web) (da_cons (de_var (pv 1)) (da_cons (de_var (pv 2)) da_nil)) dkw_nil))) (dss_one (ds_raiseC C rai_BadWeb gx_BadWeb rfl)) dss_nil) (dss_cons (ds_fld (de_var (pv 0)) (de_list C rfl b_list (da_cons (de_var (pv 1)) da_nil)) (cs := ["Web"]) fun c hc => by rw [List.mem_singleton.mp hc]; exact ⟨_, I_Web rfl rfl, N_Web_all_cells⟩) (dss_one (ds_fld (de_var (pv 0)) (de_list C rfl b_list (da_cons (de_var (pv 2)) da_nil)) (cs := ["Web"]) fun c hc => by rw [List.mem_singleton.mp hc]; exact ⟨_, I_Web rfl rfl, N_Web_all_pegs⟩))))
theorem ok_p_law_near {P : Program} {w : World} {K : PySem.W.Frag} {mg : Str → Option Value} {base : Heap} (T : Txt K mg) (TB : ∀ p ∈ tq, LamX.TabB base mg (He.cT K p.1).1 (He.cT K p.1).2) : ∃ fd, FunD K d_p_law_near.name d_p_law_near.qual d_p_law_near.params d_p_law_near.body d_p_law_near.scope (d_p_law_near.dvs K) (d_p_law_near.kws K) (He.fAd K d_p_law_near.at_) fd ∧
    FnG P w K mg base 4 (He.fAd K d_p_law_near.at_) fd ["_law_state_here", "_law_stuff", "_law_holds"] (spD K mg 3 S_p_law_near) := by
  obtain ⟨fd_p_law_next, D_p_law_next, G_p_law_next⟩ := ok_p_law_next (P := P) (w := w) (base := base) T TB
  have m_p_law_next := glo_p_law_next T
  obtain ⟨fd_p_law_value, D_p_law_value, G_p_law_value⟩ := ok_p_law_value (P := P) (w := w) (base := base) T TB
  have m_p_law_value := glo_p_law_value T
  obtain ⟨fd_p_law_cell, D_p_law_cell, G_p_law_cell⟩ := ok_p_law_cell (P := P) (w := w) (base := base) T TB
  have m_p_law_cell := glo_p_law_cell T
  have b_int := free_int T
  have b_len := free_len T
  have b_list := free_list T
  have b_max := free_max T
  obtain ⟨_, i_GREATEST⟩ := int_GREATEST T
  obtain ⟨_, i_MOST_FIELDS⟩ := int_MOST_FIELDS T
  obtain ⟨fd, F⟩ := fun_p_law_near T
  refine ⟨fd, F, fnG (N := N_p_law_near) (ps := ["_law_state_here", "_law_stuff", "_law_holds"]) (k := 3) (g := m_p_law_near) F ⟨rfl, rfl, rfl, by decide +kernel, rfl, by decide +kernel, by decide +kernel⟩ fun cdv A outer s H E C => ?_⟩
  refine dss_cons (ds_set C (i := 3) rfl (by first | exact Or.inl rfl | exact Or.inr rfl) (de_callL (x := "_law_next") G_p_law_next callOk_share C rfl m_p_law_next D_p_law_next.kp (kb0 D_p_law_next) (da_cons (de_var (pv 0)) (da_cons de_int da_nil)) dkw_nil)) ?_
  refine dss_cons (ds_set C (i := 4) rfl (by first | exact Or.inl rfl | exact Or.inr rfl) (de_callL (x := "_law_value") G_p_law_value callOk_share C rfl m_p_law_value D_p_law_value.kp (kb1 D_p_law_value) (da_cons (de_var (pv 0)) (da_cons (de_len rfl b_len (da_cons (de_var (pv 1)) da_nil)) da_nil)) dkw_nil)) ?_
  refine dss_cons (ds_set C (i := 5) rfl (by first | exact Or.inl rfl | exact Or.inr rfl) (de_callL (x := "_law_cell") G_p_law_cell callOk_share C rfl m_p_law_cell D_p_law_cell.kp (kb2 D_p_law_cell) (da_cons (de_var (pv 0)) (da_cons (de_len rfl b_len (da_cons (de_var (pv 1)) da_nil)) da_nil)) dkw_nil)) ?_
  refine dss_cons (ds_set C (i := 6) rfl (by first | exact Or.inl rfl | exact Or.inr rfl) (de_callL (x := "_law_next") G_p_law_next callOk_share C rfl m_p_law_next D_p_law_next.kp (kb0 D_p_law_next) (da_cons (de_var (pv 0)) (da_cons (de_max C rfl b_max (da_cons de_int (da_cons (de_len rfl b_len (da_cons (de_var (pv 1)) da_nil)) da_nil))) da_nil)) dkw_nil)) ?_
  refine dss_cons (ds_set C (i := 7) rfl (by first | exact Or.inl rfl | exact Or.inr rfl) (de_callL (x := "_law_next") G_p_law_next callOk_share C rfl m_p_law_next D_p_law_next.kp (kb0 D_p_law_next) (da_cons (de_var (pv 0)) (da_cons (de_max C rfl b_max (da_cons de_int (da_cons (de_len rfl b_len (da_cons (de_var (pv 2)) da_nil)) da_nil))) da_nil)) dkw_nil)) ?_
  refine dss_cons (ds_set C (i := 8) rfl (by first | exact Or.inl rfl | exact Or.inr rfl) (de_callL (x := "_law_next") G_p_law_next callOk_share C rfl m_p_law_next D_p_law_next.kp (kb0 D_p_law_next) (da_cons (de_var (pv 0)) (da_cons (de_max C rfl b_max (da_cons de_int (da_cons (de_len rfl b_len (da_cons (de_var (pv 1)) da_nil)) da_nil))) da_nil)) dkw_nil)) ?_
  refine dss_cons (ds_if (dt_cmp (opr_eq C) opd_eq (de_var (pv 3)) de_int (nomark _)) (dss_one (ds_ret (de_tup (da_cons (de_add (de_add (de_slice (de_var (pv 1)) do_none (do_some (de_var (pv 6)))) (de_lst (da_cons (de_var (pv 5)) da_nil))) (de_slice (de_var (pv 1)) (do_some (de_add (de_var (pv 6)) de_int)) do_none)) (da_cons (de_var (pv 2)) da_nil))))) dss_nil) ?_
  refine dss_cons (ds_if (dt_cmp (opr_eq C) opd_eq (de_var (pv 3)) de_int (nomark _)) (dss_one (ds_ret (de_tup (da_cons (de_var (pv 1)) (da_cons (de_add (de_add (de_slice (de_var (pv 2)) do_none (do_some (de_var (pv 7)))) (de_lst (da_cons (de_var (pv 4)) da_nil))) (de_slice (de_var (pv 2)) (do_some (de_add (de_var (pv 7)) de_int)) do_none)) da_nil))))) dss_nil) ?_
  refine dss_cons (ds_if (dt_cmp (opr_eq C) opd_eq (de_var (pv 3)) de_int (nomark _)) (dss_one (ds_ret (de_tup (da_cons (de_add (de_var (pv 1)) (de_lst (da_cons (de_var (pv 5)) da_nil))) (da_cons (de_var (pv 2)) da_nil))))) dss_nil) ?_
  refine dss_cons (ds_if (dt_cmp (opr_eq C) opd_eq (de_var (pv 3)) de_int (nomark _)) (dss_one (ds_ret (de_tup (da_cons (de_var (pv 1)) (da_cons (de_add (de_var (pv 2)) (de_lst (da_cons (de_var (pv 4)) da_nil))) da_nil))))) dss_nil) ?_
  refine dss_cons (ds_if (DW.dt (dw_and (dt_cmp (opr_eq C) opd_eq (de_var (pv 3)) de_int (nomark _)) (dw_and1 (dt_cmp (opr_ne C) opd_ne (de_var (pv 1)) (de_lst da_nil) (nomark _))))) (dss_cons (ds_set C (i := 9) rfl (by first | exact Or.inl rfl | exact Or.inr rfl) (de_listO C rfl b_list (da_cons (de_var (pv 1)) da_nil))) (dss_cons (ds_put2 C (de_var (pv 9)) (de_var (pv 6)) (de_var (pv 9)) (de_var (pv 8)) (de_tup (da_cons (de_sub1 C (de_var (pv 1)) (de_var (pv 8))) (da_cons (de_sub1 C (de_var (pv 1)) (de_var (pv 6))) da_nil)))) (dss_one (ds_ret (de_tup (da_cons (de_frz (de_var (pv 9))) (da_cons (de_var (pv 2)) da_nil))))))) dss_nil) ?_
  refine dss_cons (ds_if (dt_cmp (opr_eq C) opd_eq (de_var (pv 3)) de_int (nomark _)) (dss_one (ds_ret (de_tup (da_cons (de_var (pv 1)) (da_cons (de_revL (de_var (pv 2))) da_nil))))) dss_nil) ?_
  exact (dss_cons (ds_if (DW.dt (dw_and (dt_cmp (opr_eq C) opd_eq (de_var (pv 3)) de_int (nomark _)) (dw_and (dt_cmp (opr_ne C) opd_ne (de_var (pv 1)) (de_lst da_nil) (nomark _)) (dw_and1 (dt_cmp (opr_ne C) opd_ne (de_sub1 C (de_sub1 C (de_var (pv 1)) (de_var (pv 6))) de_int) de_str (nomark _)))))) (dss_one (ds_ret (de_tup (da_cons (de_add (de_add (de_slice (de_var (pv 1)) do_none (do_some (de_var (pv 6)))) (de_lst (da_cons (de_tup (da_cons (de_sub1 C (de_lst (da_cons de_str (da_cons de_str da_nil))) (de_intB rfl b_int (da_cons (de_cmp (opr_eq C) opd_eq (de_sub1 C (de_sub1 C (de_var (pv 1)) (de_var (pv 6))) de_int) de_str (nomark _)) da_nil))) (da_cons (de_sub1 C (de_sub1 C (de_var (pv 1)) (de_var (pv 6))) de_int) da_nil))) da_nil))) (de_slice (de_var (pv 1)) (do_some (de_add (de_var (pv 6)) de_int)) do_none)) (da_cons (de_var (pv 2)) da_nil))))) dss_nil) (dss_one (ds_ret (de_tup (da_cons (de_list C rfl b_list (da_cons (de_var (pv 1)) da_nil)) (da_cons (de_list C rfl b_list (da_cons (de_var (pv 2)) da_nil)) da_nil))))))
theorem ok_Web_eq {P : Program} {w : World} {K : PySem.W.Frag} {mg : Str → Option Value} {base : Heap} (T : Txt K mg) (TB : ∀ p ∈ tq, LamX.TabB base mg (He.cT K p.1).1 (He.cT K p.1).2) : ∃ fd, FunD K d_Web_eq.name d_Web_eq.qual d_Web_eq.params d_Web_eq.body d_Web_eq.scope (d_Web_eq.dvs K) (d_Web_eq.kws K) (He.fAd K d_Web_eq.at_) fd ∧
    FnG P w K mg base 1 (He.fAd K d_Web_eq.at_) fd ["self", "other"] (spD K mg 2 S_Web_eq) := by
  have b_isinstance := free_isinstance T
  obtain ⟨_, i_GREATEST⟩ := int_GREATEST T
  obtain ⟨_, i_MOST_FIELDS⟩ := int_MOST_FIELDS T
  have c_Web := gloc_Web T
  have isw_Web := iswc_Web T
  have I_Web : ∀ {X : Cx}, X.K = K → X.mg = mg → ClsI X "Web" (He.ga K "Web") := fun h1 h2 => ⟨by rw [h2]; exact gloc_Web T, by rw [h1]; exact cls_Web T⟩
  have N_Web_all_cells := noat_Web_all_cells T
  have N_Web_all_pegs := noat_Web_all_pegs T
  obtain ⟨fd, F⟩ := fun_Web_eq T
  refine ⟨fd, F, fnG (N := N_Web_eq) (ps := ["self", "other"]) (k := 0) (g := m_Web_eq) F ⟨rfl, rfl, rfl, by decide +kernel, rfl, by decide +kernel, by decide +kernel⟩ fun cdv A outer s H E C => ?_⟩
  exact (dss_cons (ds_if (dt_not (dt_val (de_isiW rfl b_isinstance (I_Web rfl rfl) isw_Web (da_cons (de_var (pv 1)) (da_cons (de_own rfl c_Web) da_nil))))) (dss_one (ds_ret de_bl)) dss_nil) (dss_one (ds_ret (de_and (de_cmp (opr_eq C) opd_eq (de_fld (de_var (pv 0)) (cs := ["Web"]) fun c hc => by rw [List.mem_singleton.mp hc]; exact ⟨_, I_Web rfl rfl, N_Web_all_cells⟩) (de_fld (de_var (pv 1)) (cs := ["Web"]) fun c hc => by rw [List.mem_singleton.mp hc]; exact ⟨_, I_Web rfl rfl, N_Web_all_cells⟩) (nomark _)) (de_one (de_cmp (opr_eq C) opd_eq (de_fld (de_var (pv 0)) (cs := ["Web"]) fun c hc => by rw [List.mem_singleton.mp hc]; exact ⟨_, I_Web rfl rfl, N_Web_all_pegs⟩) (de_fld (de_var (pv 1)) (cs := ["Web"]) fun c hc => by rw [List.mem_singleton.mp hc]; exact ⟨_, I_Web rfl rfl, N_Web_all_pegs⟩) (nomark _)))))))
theorem ok_p_law_equal_right {P : Program} {w : World} {K : PySem.W.Frag} {mg : Str → Option Value} {base : Heap} (T : Txt K mg) (TB : ∀ p ∈ tq, LamX.TabB base mg (He.cT K p.1).1 (He.cT K p.1).2) : ∃ fd, FunD K d_p_law_equal_right.name d_p_law_equal_right.qual d_p_law_equal_right.params d_p_law_equal_right.body d_p_law_equal_right.scope (d_p_law_equal_right.dvs K) (d_p_law_equal_right.kws K) (He.fAd K d_p_law_equal_right.at_) fd ∧
    FnG P w K mg base 8 (He.fAd K d_p_law_equal_right.at_) fd ["_law_state_here", "_law_house", "_law_stuff", "_law_holds"] (spD K mg 4 S_p_law_equal_right) := by
  obtain ⟨fd_p_law_near, D_p_law_near, G_p_law_near⟩ := ok_p_law_near (P := P) (w := w) (base := base) T TB
  have m_p_law_near := glo_p_law_near T
  obtain ⟨fd_Web_init, D_Web_init, G_Web_init⟩ := ok_Web_init (P := P) (w := w) (base := base) T TB
  obtain ⟨fd_Web_eq, D_Web_eq, G_Web_eq⟩ := ok_Web_eq (P := P) (w := w) (base := base) T TB
  have b_tuple := free_tuple T
  obtain ⟨_, i_GREATEST⟩ := int_GREATEST T
  obtain ⟨_, i_MOST_FIELDS⟩ := int_MOST_FIELDS T
  have M_Web := mkr_Web T
  have c_Web := gloc_Web T
  have owb_Web := owbc_Web T
  have H_Web_eq := meth_Web___eq__ T
  have I_Web : ∀ {X : Cx}, X.K = K → X.mg = mg → ClsI X "Web" (He.ga K "Web") := fun h1 h2 => ⟨by rw [h2]; exact gloc_Web T, by rw [h1]; exact cls_Web T⟩
  obtain ⟨fd, F⟩ := fun_p_law_equal_right T
  refine ⟨fd, F, fnG (N := N_p_law_equal_right) (ps := ["_law_state_here", "_law_house", "_law_stuff", "_law_holds"]) (k := 7) (g := m_p_law_equal_right) F ⟨rfl, rfl, rfl, by decide +kernel, rfl, by decide +kernel, by decide +kernel⟩ fun cdv A outer s H E C => ?_⟩
  refine dss_cons (ds_set C (i := 4) rfl (by first | exact Or.inl rfl | exact Or.inr rfl) (de_callL (x := "_law_near") G_p_law_near callOk_share C rfl m_p_law_near D_p_law_near.kp (kb23 D_p_law_near) (da_cons (de_var (pv 0)) (da_cons (de_var (pv 2)) (da_cons (de_var (pv 3)) da_nil))) dkw_nil)) ?_
  refine dss_cons (ds_par C rfl rfl (by decide) rfl rfl (da_cons (de_makeL (c := "Web") M_Web G_Web_init makeF_ok C rfl c_Web (kb24 D_Web_init) (da_cons (de_tuple rfl b_tuple (da_cons (de_sub1 C (de_var (pv 4)) de_int) da_nil)) (da_cons (de_tuple rfl b_tuple (da_cons (de_sub1 C (de_var (pv 4)) de_int) da_nil)) da_nil)) dkw_nil) (da_cons (de_cmp (opr_eq C) opd_eq (de_lst (da_cons (de_var (pv 2)) (da_cons (de_var (pv 3)) da_nil))) (de_lst (da_cons (de_sub1 C (de_var (pv 4)) de_int) (da_cons (de_sub1 C (de_var (pv 4)) de_int) da_nil))) (nomark _)) da_nil)) (by rfl)) ?_
  refine dss_cons ?_ ?_
  · refine ds_if (dt_cmp (opr_ne C) opd_ne (de_lst (da_cons (de_cmp (op_ownB C H_Web_eq G_Web_eq rfl (fun s us _ hl => by rw [List.append_nil] at hl ⊢; exact L2.FunD.bindsA (ps := ["self", "other"]) D_Web_eq (fun _ _ _ _ _ _ us hl => match us, hl with | [_, _], _ => rfl) s us hl)) (opd_ownB (I_Web rfl rfl) owb_Web) (de_var (pv 1)) (de_var (pv 5)) (nomark _)) (da_cons (de_cmp (op_ownB C H_Web_eq G_Web_eq rfl (fun s us _ hl => by rw [List.append_nil] at hl ⊢; exact L2.FunD.bindsA (ps := ["self", "other"]) D_Web_eq (fun _ _ _ _ _ _ us hl => match us, hl with | [_, _], _ => rfl) s us hl)) (opd_ownB (I_Web rfl rfl) owb_Web) (de_var (pv 5)) (de_var (pv 1)) (nomark _)) (da_cons (de_cmp (op_ownB C H_Web_eq G_Web_eq rfl (fun s us _ hl => by rw [List.append_nil] at hl ⊢; exact L2.FunD.bindsA (ps := ["self", "other"]) D_Web_eq (fun _ _ _ _ _ _ us hl => match us, hl with | [_, _], _ => rfl) s us hl)) (opd_ownB (I_Web rfl rfl) owb_Web) (de_var (pv 1)) (de_var (pv 1)) (nomark _)) (da_cons (de_cmp (op_ownB C H_Web_eq G_Web_eq rfl (fun s us _ hl => by rw [List.append_nil] at hl ⊢; exact L2.FunD.bindsA (ps := ["self", "other"]) D_Web_eq (fun _ _ _ _ _ _ us hl => match us, hl with | [_, _], _ => rfl) s us hl)) (opd_ownB (I_Web rfl rfl) owb_Web) (de_makeL (c := "Web") M_Web G_Web_init makeF_ok C rfl c_Web (kb24 D_Web_init) (da_cons (de_var (pv 2)) (da_cons (de_var (pv 3)) da_nil)) dkw_nil) (de_var (pv 1)) (nomark _)) da_nil))))) (de_lst (da_cons (de_var (pv 6)) (da_cons (de_var (pv 6)) (da_cons de_bl (da_cons de_bl da_nil))))) (nomark _)) ?_ ?_
    · exact (dss_one (ds_ret de_bl))
    · exact dss_nil
  refine dss_one ?_
  exact (ds_ret (de_cmp (opr_eq C) opd_eq (de_lcB C finL_ok (di_seq (de_lst (da_cons (de_tup (da_cons (de_var (pv 2)) (da_cons (de_var (pv 3)) da_nil))) (da_cons (de_var (pv 2)) (da_cons de_non (da_cons de_dict0 (da_cons de_int da_nil))))))) (show BlkOk N_p_law_equal_right (defScope s_p_law_equal_right) _ [("_law_thing", 7)] from ⟨rfl, by decide +kernel, by decide +kernel, by decide +kernel, by decide +kernel⟩) (fun _ _ _ _ _ C1 => (dg_name (i := 7) (pg_name C1.nd rfl (by first | exact Or.inl rfl | exact Or.inr rfl)))) (fun _ _ _ _ _ C1 => (dts_one (DW.dt (dw_or (dt_cmp (op_ownB C1 H_Web_eq G_Web_eq rfl (fun s us _ hl => by rw [List.append_nil] at hl ⊢; exact L2.FunD.bindsA (ps := ["self", "other"]) D_Web_eq (fun _ _ _ _ _ _ us hl => match us, hl with | [_, _], _ => rfl) s us hl)) (opd_ownB (I_Web rfl rfl) owb_Web) (de_var (pv 1)) (de_var (pv 7)) (nomark _)) (dw_or1 (dt_not (dt_cmp (op_ownBN C1 H_Web_eq owb_Web G_Web_eq rfl (fun s us _ hl => by rw [List.append_nil] at hl ⊢; exact L2.FunD.bindsA (ps := ["self", "other"]) D_Web_eq (fun _ _ _ _ _ _ us hl => match us, hl with | [_, _], _ => rfl) s us hl)) (opd_ownB (I_Web rfl rfl) owb_Web) (de_var (pv 1)) (de_var (pv 7)) (nomark _)))))))) (fun _ _ _ _ _ C1 => (de_var (pv 7)))) (de_lst da_nil) (nomark _)))
theorem ok_Web_cells_o {P : Program} {w : World} {K : PySem.W.Frag} {mg : Str → Option Value} {base : Heap} (T : Txt K mg) (TB : ∀ p ∈ tq, LamX.TabB base mg (He.cT K p.1).1 (He.cT K p.1).2) : ∃ fd, FunD K d_Web_cells_o.name d_Web_cells_o.qual d_Web_cells_o.params d_Web_cells_o.body d_Web_cells_o.scope (d_Web_cells_o.dvs K) (d_Web_cells_o.kws K) (He.fAd K d_Web_cells_o.at_) fd ∧
    FnG P w K mg base 1 (He.fAd K d_Web_cells_o.at_) fd ["self"] (spD K mg 1 S_Web_cells_o) := by
  have b_list := free_list T
  obtain ⟨_, i_GREATEST⟩ := int_GREATEST T
  obtain ⟨_, i_MOST_FIELDS⟩ := int_MOST_FIELDS T
  have I_Web : ∀ {X : Cx}, X.K = K → X.mg = mg → ClsI X "Web" (He.ga K "Web") := fun h1 h2 => ⟨by rw [h2]; exact gloc_Web T, by rw [h1]; exact cls_Web T⟩
  have N_Web_all_cells := noat_Web_all_cells T
  obtain ⟨fd, F⟩ := fun_Web_cells_o T
  refine ⟨fd, F, fnG (N := N_Web_cells_o) (ps := ["self"]) (k := 0) (g := m_Web_cells_o) F ⟨rfl, rfl, rfl, by decide +kernel, rfl, by decide +kernel, by decide +kernel⟩ fun cdv A outer s H E C => ?_⟩
  exact (dss_one (ds_ret (de_listO C rfl b_list (da_cons (de_fld (de_var (pv 0)) (cs := ["Web"]) fun c hc => by rw [List.mem_singleton.mp hc]; exact ⟨_, I_Web rfl rfl, N_Web_all_cells⟩) da_nil))))
theorem ok_Web_cells {P : Program} {w : World} {K : PySem.W.Frag} {mg : Str → Option Value} {base : Heap} (T : Txt K mg) (TB : ∀ p ∈ tq, LamX.TabB base mg (He.cT K p.1).1 (He.cT K p.1).2) : ∃ fd, FunD K d_Web_cells.name d_Web_cells.qual d_Web_cells.params d_Web_cells.body d_Web_cells.scope (d_Web_cells.dvs K) (d_Web_cells.kws K) (He.fAd K d_Web_cells.at_) fd ∧
    FnG P w K mg base 1 (He.fAd K d_Web_cells.at_) fd ["self"] (spD K mg 1 S_Web_cells) := by
  have b_list := free_list T
  obtain ⟨_, i_GREATEST⟩ := int_GREATEST T
  obtain ⟨_, i_MOST_FIELDS⟩ := int_MOST_FIELDS T
  have I_Web : ∀ {X : Cx}, X.K = K → X.mg = mg → ClsI X "Web" (He.ga K "Web") := fun h1 h2 => ⟨by rw [h2]; exact gloc_Web T, by rw [h1]; exact cls_Web T⟩
  have N_Web_all_cells := noat_Web_all_cells T
  obtain ⟨fd, F⟩ := fun_Web_cells T
  refine ⟨fd, F, fnG (N := N_Web_cells) (ps := ["self"]) (k := 0) (g := m_Web_cells) F ⟨rfl, rfl, rfl, by decide +kernel, rfl, by decide +kernel, by decide +kernel⟩ fun cdv A outer s H E C => ?_⟩
  exact (dss_one (ds_ret (de_list C rfl b_list (da_cons (de_fld (de_var (pv 0)) (cs := ["Web"]) fun c hc => by rw [List.mem_singleton.mp hc]; exact ⟨_, I_Web rfl rfl, N_Web_all_cells⟩) da_nil))))
theorem ok_Web_pegs_o {P : Program} {w : World} {K : PySem.W.Frag} {mg : Str → Option Value} {base : Heap} (T : Txt K mg) (TB : ∀ p ∈ tq, LamX.TabB base mg (He.cT K p.1).1 (He.cT K p.1).2) : ∃ fd, FunD K d_Web_pegs_o.name d_Web_pegs_o.qual d_Web_pegs_o.params d_Web_pegs_o.body d_Web_pegs_o.scope (d_Web_pegs_o.dvs K) (d_Web_pegs_o.kws K) (He.fAd K d_Web_pegs_o.at_) fd ∧
    FnG P w K mg base 1 (He.fAd K d_Web_pegs_o.at_) fd ["self"] (spD K mg 1 S_Web_pegs_o) := by
  have b_list := free_list T
  obtain ⟨_, i_GREATEST⟩ := int_GREATEST T
  obtain ⟨_, i_MOST_FIELDS⟩ := int_MOST_FIELDS T
  have I_Web : ∀ {X : Cx}, X.K = K → X.mg = mg → ClsI X "Web" (He.ga K "Web") := fun h1 h2 => ⟨by rw [h2]; exact gloc_Web T, by rw [h1]; exact cls_Web T⟩
  have N_Web_all_pegs := noat_Web_all_pegs T
  obtain ⟨fd, F⟩ := fun_Web_pegs_o T
  refine ⟨fd, F, fnG (N := N_Web_pegs_o) (ps := ["self"]) (k := 0) (g := m_Web_pegs_o) F ⟨rfl, rfl, rfl, by decide +kernel, rfl, by decide +kernel, by decide +kernel⟩ fun cdv A outer s H E C => ?_⟩
  exact (dss_one (ds_ret (de_listO C rfl b_list (da_cons (de_fld (de_var (pv 0)) (cs := ["Web"]) fun c hc => by rw [List.mem_singleton.mp hc]; exact ⟨_, I_Web rfl rfl, N_Web_all_pegs⟩) da_nil))))
theorem ok_Web_pegs {P : Program} {w : World} {K : PySem.W.Frag} {mg : Str → Option Value} {base : Heap} (T : Txt K mg) (TB : ∀ p ∈ tq, LamX.TabB base mg (He.cT K p.1).1 (He.cT K p.1).2) : ∃ fd, FunD K d_Web_pegs.name d_Web_pegs.qual d_Web_pegs.params d_Web_pegs.body d_Web_pegs.scope (d_Web_pegs.dvs K) (d_Web_pegs.kws K) (He.fAd K d_Web_pegs.at_) fd ∧
    FnG P w K mg base 1 (He.fAd K d_Web_pegs.at_) fd ["self"] (spD K mg 1 S_Web_pegs) := by
  have b_list := free_list T
  obtain ⟨_, i_GREATEST⟩ := int_GREATEST T
  obtain ⟨_, i_MOST_FIELDS⟩ := int_MOST_FIELDS T
  have I_Web : ∀ {X : Cx}, X.K = K → X.mg = mg → ClsI X "Web" (He.ga K "Web") := fun h1 h2 => ⟨by rw [h2]; exact gloc_Web T, by rw [h1]; exact cls_Web T⟩
  have N_Web_all_pegs := noat_Web_all_pegs T
  obtain ⟨fd, F⟩ := fun_Web_pegs T
  refine ⟨fd, F, fnG (N := N_Web_pegs) (ps := ["self"]) (k := 0) (g := m_Web_pegs) F ⟨rfl, rfl, rfl, by decide +kernel, rfl, by decide +kernel, by decide +kernel⟩ fun cdv A outer s H E C => ?_⟩
  exact (dss_one (ds_ret (de_list C rfl b_list (da_cons (de_fld (de_var (pv 0)) (cs := ["Web"]) fun c hc => by rw [List.mem_singleton.mp hc]; exact ⟨_, I_Web rfl rfl, N_Web_all_pegs⟩) da_nil))))
theorem ok_Web_len {P : Program} {w : World} {K : PySem.W.Frag} {mg : Str → Option Value} {base : Heap} (T : Txt K mg) (TB : ∀ p ∈ tq, LamX.TabB base mg (He.cT K p.1).1 (He.cT K p.1).2) : ∃ fd, FunD K d_Web_len.name d_Web_len.qual d_Web_len.params d_Web_len.body d_Web_len.scope (d_Web_len.dvs K) (d_Web_len.kws K) (He.fAd K d_Web_len.at_) fd ∧
    FnG P w K mg base 1 (He.fAd K d_Web_len.at_) fd ["self"] (spD K mg 1 S_Web_len) := by
  have b_len := free_len T
  obtain ⟨_, i_GREATEST⟩ := int_GREATEST T
  obtain ⟨_, i_MOST_FIELDS⟩ := int_MOST_FIELDS T
  have I_Web : ∀ {X : Cx}, X.K = K → X.mg = mg → ClsI X "Web" (He.ga K "Web") := fun h1 h2 => ⟨by rw [h2]; exact gloc_Web T, by rw [h1]; exact cls_Web T⟩
  have N_Web_all_cells := noat_Web_all_cells T
  obtain ⟨fd, F⟩ := fun_Web_len T
  refine ⟨fd, F, fnG (N := N_Web_len) (ps := ["self"]) (k := 0) (g := m_Web_len) F ⟨rfl, rfl, rfl, by decide +kernel, rfl, by decide +kernel, by decide +kernel⟩ fun cdv A outer s H E C => ?_⟩
  exact (dss_one (ds_ret (de_len rfl b_len (da_cons (de_fld (de_var (pv 0)) (cs := ["Web"]) fun c hc => by rw [List.mem_singleton.mp hc]; exact ⟨_, I_Web rfl rfl, N_Web_all_cells⟩) da_nil))))
theorem ok_law {P : Program} {w : World} {K : PySem.W.Frag} {mg : Str → Option Value} {base : Heap} (T : Txt K mg) (TB : ∀ p ∈ tq, LamX.TabB base mg (He.cT K p.1).1 (He.cT K p.1).2) : ∃ fd, FunD K d_law.name d_law.qual d_law.params d_law.body d_law.scope (d_law.dvs K) (d_law.kws K) (He.fAd K d_law.at_) fd ∧
    FnG P w K mg base 33 (He.fAd K d_law.at_) fd ["_law_script"] (spD K mg 1 S_law) := by
  obtain ⟨fd_p_law_state, D_p_law_state, G_p_law_state⟩ := ok_p_law_state (P := P) (w := w) (base := base) T TB
  have m_p_law_state := glo_p_law_state T
  obtain ⟨fd_p_law_next, D_p_law_next, G_p_law_next⟩ := ok_p_law_next (P := P) (w := w) (base := base) T TB
  have m_p_law_next := glo_p_law_next T
  obtain ⟨fd_p_law_web, D_p_law_web, G_p_law_web⟩ := ok_p_law_web (P := P) (w := w) (base := base) T TB
  have m_p_law_web := glo_p_law_web T
  obtain ⟨fd_p_law_bent, D_p_law_bent, G_p_law_bent⟩ := ok_p_law_bent (P := P) (w := w) (base := base) T TB
  have m_p_law_bent := glo_p_law_bent T
  obtain ⟨fd_p_law_is_web, D_p_law_is_web, G_p_law_is_web⟩ := ok_p_law_is_web (P := P) (w := w) (base := base) T TB
  have m_p_law_is_web := glo_p_law_is_web T
  obtain ⟨fd_p_law_told, D_p_law_told, G_p_law_told⟩ := ok_p_law_told (P := P) (w := w) (base := base) T TB
  have m_p_law_told := glo_p_law_told T
  obtain ⟨fd_Web_init, D_Web_init, G_Web_init⟩ := ok_Web_init (P := P) (w := w) (base := base) T TB
  obtain ⟨fd_p_law_equal_right, D_p_law_equal_right, G_p_law_equal_right⟩ := ok_p_law_equal_right (P := P) (w := w) (base := base) T TB
  have m_p_law_equal_right := glo_p_law_equal_right T
  obtain ⟨fd_Web_cells_o, D_Web_cells_o, G_Web_cells_o⟩ := ok_Web_cells_o (P := P) (w := w) (base := base) T TB
  obtain ⟨fd_Web_pegs_o, D_Web_pegs_o, G_Web_pegs_o⟩ := ok_Web_pegs_o (P := P) (w := w) (base := base) T TB
  obtain ⟨fd_Web_cells, D_Web_cells, G_Web_cells⟩ := ok_Web_cells (P := P) (w := w) (base := base) T TB
  obtain ⟨fd_Web_pegs, D_Web_pegs, G_Web_pegs⟩ := ok_Web_pegs (P := P) (w := w) (base := base) T TB
  obtain ⟨fd_Web_len, D_Web_len, G_Web_len⟩ := ok_Web_len (P := P) (w := w) (base := base) T TB
  have b_isinstance := free_isinstance T
  have b_len := free_len T
  have b_list := free_list T
  have b_max := free_max T
  have b_range := free_range T
  have b_repr := free_repr T
  have b_tuple := free_tuple T
  obtain ⟨_, i_GREATEST⟩ := int_GREATEST T
  obtain ⟨_, i_MOST_FIELDS⟩ := int_MOST_FIELDS T
  have M_Web := mkr_Web T
  have c_Web := gloc_Web T
  have H_Web_len := meth_Web___len__ T
  have H_Web_cells := meth_Web_cells T
  have H_Web_pegs := meth_Web_pegs T
  have I_Web : ∀ {X : Cx}, X.K = K → X.mg = mg → ClsI X "Web" (He.ga K "Web") := fun h1 h2 => ⟨by rw [h2]; exact gloc_Web T, by rw [h1]; exact cls_Web T⟩
  obtain ⟨fd, F⟩ := fun_law T
  refine ⟨fd, F, fnGc (N := N_law) (ps := ["_law_script"]) (k := 32) (g := m_law) F ⟨rfl, rfl, rfl, by decide +kernel, rfl, by decide +kernel, by decide +kernel⟩ fun cdv A outer s H E hcode C => ?_⟩
  refine dss_cons ?_ ?_
  · refine ds_for C (di_range1 rfl b_range (da_cons (de_max C rfl b_max (da_cons de_int (da_cons (de_len rfl b_len (da_cons (de_var (pv 0)) da_nil)) da_nil))) da_nil)) (dg_name (i := 1) (pg_name C.nd rfl (by first | exact Or.inl rfl | exact Or.inr rfl))) ?_
    refine dss_cons (ds_set C (i := 2) rfl (by first | exact Or.inl rfl | exact Or.inr rfl) (de_callL (x := "_law_state") G_p_law_state callOk_share C rfl m_p_law_state D_p_law_state.kp (kb25 D_p_law_state) (da_cons (de_var (pv 0)) (da_cons (de_var (pv 1)) da_nil)) dkw_nil)) ?_
    refine dss_cons (ds_set C (i := 3) rfl (by first | exact Or.inl rfl | exact Or.inr rfl) (de_callL (x := "_law_next") G_p_law_next callOk_share C rfl m_p_law_next D_p_law_next.kp (kb0 D_p_law_next) (da_cons (de_var (pv 2)) (da_cons de_int da_nil)) dkw_nil)) ?_
    refine dss_cons (ds_set C (i := 4) rfl (by first | exact Or.inl rfl | exact Or.inr rfl) (de_callL (x := "_law_next") G_p_law_next callOk_share C rfl m_p_law_next D_p_law_next.kp (kb0 D_p_law_next) (da_cons (de_var (pv 2)) (da_cons de_int da_nil)) dkw_nil)) ?_
    refine dss_cons (ds_asg (de_callL (x := "_law_web") G_p_law_web callOk_share C rfl m_p_law_web D_p_law_web.kp (kb26 D_p_law_web) (da_cons (de_var (pv 2)) (da_cons de_int da_nil)) dkw_nil) (dg_tup C.calm (dgs_cons (dg_name (i := 5) (pg_name C.nd rfl (by first | exact Or.inl rfl | exact Or.inr rfl))) (dgs_cons (dg_name (i := 6) (pg_name C.nd rfl (by first | exact Or.inl rfl | exact Or.inr rfl))) dgs_nil)))) ?_
    refine dss_cons (ds_if (dt_cmp op_gt opd_gt (de_var (pv 3)) de_int (nomark _)) (dss_one (ds_set C (i := 5) rfl (by first | exact Or.inl rfl | exact Or.inr rfl) (de_callL (x := "_law_bent") G_p_law_bent callOk_share C rfl m_p_law_bent D_p_law_bent.kp (kb27 D_p_law_bent) (da_cons (de_var (pv 2)) (da_cons (de_var (pv 5)) da_nil)) dkw_nil))) dss_nil) ?_
    refine dss_cons (ds_if (DW.dt (dw_or (dt_cmp (opr_eq C) opd_eq (de_var (pv 3)) de_int (nomark _)) (dw_or1 (dt_cmp (opr_eq C) opd_eq (de_var (pv 3)) de_int (nomark _))))) (dss_one (ds_set C (i := 6) rfl (by first | exact Or.inl rfl | exact Or.inr rfl) (de_callL (x := "_law_bent") G_p_law_bent callOk_share C rfl m_p_law_bent D_p_law_bent.kp (kb27 D_p_law_bent) (da_cons (de_var (pv 2)) (da_cons (de_var (pv 6)) da_nil)) dkw_nil))) dss_nil) ?_
    refine dss_cons (ds_if (DW.dt (dw_and (dt_cmp (opr_eq C) opd_eq (de_var (pv 4)) de_int (nomark _)) (dw_and (dt_val (de_isi rfl b_isinstance (da_cons (de_var (pv 5)) (da_cons (de_ty rfl b_list (by rfl)) da_nil)))) (dw_and1 (dt_val (de_isi rfl b_isinstance (da_cons (de_var (pv 6)) (da_cons (de_ty rfl b_list (by rfl)) da_nil)))))))) (dss_one (ds_asg (de_tup (da_cons (de_tuple rfl b_tuple (da_cons (de_var (pv 5)) da_nil)) (da_cons (de_tuple rfl b_tuple (da_cons (de_var (pv 6)) da_nil)) da_nil))) (dg_tup C.calm (dgs_cons (dg_name (i := 5) (pg_name C.nd rfl (by first | exact Or.inl rfl | exact Or.inr rfl))) (dgs_cons (dg_name (i := 6) (pg_name C.nd rfl (by first | exact Or.inl rfl | exact Or.inr rfl))) dgs_nil))))) dss_nil) ?_
    refine dss_cons (ds_set C (i := 7) rfl (by first | exact Or.inl rfl | exact Or.inr rfl) (de_callL (x := "_law_is_web") G_p_law_is_web callOk_share C rfl m_p_law_is_web D_p_law_is_web.kp (kb28 D_p_law_is_web) (da_cons (de_var (pv 5)) (da_cons (de_var (pv 6)) da_nil)) dkw_nil)) ?_
    refine dss_cons (ds_set C (i := 8) rfl (by first | exact Or.inl rfl | exact Or.inr rfl) (de_told (x := "_law_told") (at_ := ("law", none)) G_p_law_told C rfl m_p_law_told D_p_law_told.kp rfl hcode (TB (("law", none), ((("law" : Str) ++ ".<locals>.") ++ "<lambda>")) List.mem_cons_self) (show LamX.LamS (defScope s_law) _ from LamX.lamS_by (by decide +kernel)) rfl (fun _ _ _ _ _ => rfl) rfl (by decide) (fun A outer t H E f c CL => (de_frzD 60 (de_make0L (c := "Web") M_Web G_Web_init makeO_ok CL rfl c_Web (kb29 D_Web_init) (dkw_cons (de_var (pv 6)) (dkw_cons (de_var (pv 5)) dkw_nil))))))) ?_
    refine dss_cons (ds_if (dt_not (dt_val (de_var (pv 7)))) (dss_cons (ds_if (dt_cmp (opr_ne C) opd_ne (de_var (pv 8)) (de_tup (da_cons de_str (da_cons de_str da_nil))) (nomark _)) (dss_one (ds_ret de_bl)) dss_nil) (dss_one ds_continue)) dss_nil) ?_
    refine dss_cons (ds_if (dt_cmp (opr_ne C) opd_ne (de_sub1 C (de_var (pv 8)) de_int) de_str (nomark _)) (dss_one (ds_ret de_bl)) dss_nil) ?_
    refine dss_cons (ds_par C rfl rfl (by decide) rfl rfl (da_cons (de_list C rfl b_list (da_cons (de_var (pv 5)) da_nil)) (da_cons (de_list C rfl b_list (da_cons (de_var (pv 6)) da_nil)) da_nil)) (by rfl)) ?_
    refine dss_cons (ds_if (dt_not (dt_val (de_callL (x := "_law_equal_right") G_p_law_equal_right callOk_share C rfl m_p_law_equal_right D_p_law_equal_right.kp (kb30 D_p_law_equal_right) (da_cons (de_var (pv 2)) (da_cons (de_sub1 C (de_var (pv 8)) de_int) (da_cons (de_var (pv 9)) (da_cons (de_var (pv 10)) da_nil)))) dkw_nil))) (dss_one (ds_ret de_bl)) dss_nil) ?_
    refine dss_cons (ds_if (DW.dt (dw_and (dt_val (de_isi rfl b_isinstance (da_cons (de_var (pv 5)) (da_cons (de_ty rfl b_list (by rfl)) da_nil)))) (dw_and1 (dt_val (de_isi rfl b_isinstance (da_cons (de_var (pv 6)) (da_cons (de_ty rfl b_list (by rfl)) da_nil))))))) (dss_cons (ds_expr (de_append (de_var (pv 5)) (da_cons de_str da_nil))) (dss_one (ds_expr (de_append (de_var (pv 6)) (da_cons de_str da_nil))))) dss_nil) ?_
    refine dss_cons (ds_expr (de_append (de_meth0L (de_sub1 C (de_var (pv 8)) de_int) (I_Web rfl rfl) H_Web_cells G_Web_cells_o callOk_share C (kb31 D_Web_cells_o) dkw_nil) (da_cons de_str da_nil))) ?_
    refine dss_cons (ds_expr (de_append (de_meth0L (de_sub1 C (de_var (pv 8)) de_int) (I_Web rfl rfl) H_Web_pegs G_Web_pegs_o callOk_share C (kb32 D_Web_pegs_o) dkw_nil) (da_cons de_str da_nil))) ?_
    exact (dss_one (ds_if (dt_cmp (opr_ne C) opd_ne (de_repr C rfl b_repr (da_cons (de_lst (da_cons (de_meth0L (de_sub1 C (de_var (pv 8)) de_int) (I_Web rfl rfl) H_Web_cells G_Web_cells callOk_sub C (kb33 D_Web_cells) dkw_nil) (da_cons (de_meth0L (de_sub1 C (de_var (pv 8)) de_int) (I_Web rfl rfl) H_Web_pegs G_Web_pegs callOk_sub C (kb34 D_Web_pegs) dkw_nil) (da_cons (de_lenO C H_Web_len G_Web_len rfl (fun s us _ hl => by rw [List.append_nil] at hl ⊢; exact L2.FunD.bindsA (ps := ["self"]) D_Web_len (fun _ _ _ _ _ _ us hl => match us, hl with | [_], _ => rfl) s us hl) (I_Web rfl rfl) rfl b_len (da_cons (de_sub1 C (de_var (pv 8)) de_int) da_nil)) da_nil)))) da_nil)) (de_repr C rfl b_repr (da_cons (de_lst (da_cons (de_var (pv 9)) (da_cons (de_var (pv 10)) (da_cons (de_len rfl b_len (da_cons (de_var (pv 9)) da_nil)) da_nil)))) da_nil)) (nomark _)) (dss_one (ds_ret de_bl)) dss_nil))
  exact (dss_one (ds_ret de_bl))
end K03

/-! Plain laws, part 1: what mirrors come to. -/
namespace DL
open PySem L2

/-! ### calls -/
theorem subArgs_pure {S : Store} : ∀ (ds : List D) (n : Nat), pureL ds = true → subArgs S ds n = some (ds, [])
  | [], _, _ => rfl
  | d :: ds, n, h => by
    unfold pureL at h
    rw [Bool.and_eq_true] at h
    have q := subArgs_pure (S := S) ds n h.2
    cases d with
    | oid k => exact absurd h.1 (by unfold D.pure; exact Bool.false_ne_true)
    | _ =>
      unfold subArgs
      rw [if_pos h.1, q]
      rfl
theorem callSub_ok {sem : Sem'} {args : List D} {d : D} {S S' : Store} (hp : pureL args = true) (h : sem args [] = .ok d S') (hd : d.pure = true) : callSub sem args S = .ok d S := by
  unfold callSub
  rw [subArgs_pure args 0 hp]
  simp only [List.nodup_nil, if_true, subOf, List.map_nil, h, hd, List.length_nil, List.take_zero, List.all_nil, Nat.zero_le, decide_true, Bool.and_true, Bool.and_self]
  rw [show putBack S [] S' = S by unfold putBack; rfl]
/-! ### loops -/
theorem loopF_nil {m : FG} {b : FS} {ρ : EnvD} {S : Store} : loopF none m b [] ρ S = .nx ρ S := by
  unfold loopF
  rw [if_pos (show okC none _ from trivial)]
theorem loopF_cons {m : FG} {b : FS} {d : D} {ds : List D} {ρ ρ1 : EnvD} {S : Store} (hm : m d ρ S = some ρ1) : loopF none m b (d :: ds) ρ S = (match b ρ1 S with
    | .nx ρ S => loopF none m b ds ρ S
    | .ct ρ S => loopF none m b ds ρ S
    | .bk ρ S => .nx ρ S
    | o => o) := by
  rw [loopF]
  rw [if_pos (show okC none _ from trivial), hm]
  all_goals rfl
/-- a loop by its invariant -/
theorem loop_inv {m : FG} {b : FS} (I : Nat → EnvD → Store → Prop) : ∀ (ds : List D) (i : Nat) (ρ : EnvD) (S : Store), I i ρ S →
    (∀ j d ρ S, ds[j]? = some d → I (i + j) ρ S → ∃ ρ1 ρ2 S2, m d ρ S = some ρ1 ∧ (b ρ1 S = .nx ρ2 S2 ∨ b ρ1 S = .ct ρ2 S2) ∧ I (i + j + 1) ρ2 S2) → ∃ ρ' S', loopF none m b ds ρ S = .nx ρ' S' ∧ I (i + ds.length) ρ' S'
  | [], i, ρ, S, h0, _ => ⟨ρ, S, loopF_nil, h0⟩
  | d :: ds, i, ρ, S, h0, step => by
    obtain ⟨ρ1, ρ2, S2, h1, h2, h3⟩ := step 0 d ρ S rfl h0
    obtain ⟨ρ', S', q1, q2⟩ := loop_inv I ds (i + 1) ρ2 S2 h3 fun j e ρ S hj hI => by
      have := step (j + 1) e ρ S hj (by rw [show i + (j + 1) = i + 1 + j by omega]; exact hI)
      rw [show i + (j + 1) = i + 1 + j by omega] at this
      exact this
    refine ⟨ρ', S', ?_, by rw [List.length_cons, show i + (ds.length + 1) = i + 1 + ds.length by omega]; exact q2⟩
    rw [loopF_cons h1]
    rcases h2 with h2 | h2 <;> (rw [h2]; exact q1)
/-! ### comprehensions -/
theorem compF_nil {m : FG} {ft : FT} {fe : FE} {ρ : EnvD} {S : Store} : compF none m ft fe [] ρ S = .ok [] S := by
  unfold compF
  rw [if_pos (show okC none _ from trivial)]
theorem compF_cons {m : FG} {ft : FT} {fe : FE} {d : D} {ds : List D} {ρ ρ1 : EnvD} {S : Store} (hm : m d ρ S = some ρ1) :
    compF none m ft fe (d :: ds) ρ S = (ft ρ1 S).noEx.bind fun b S => if b then (fe ρ1 S).noEx.bind fun y S => (compF none m ft fe ds ρ S).bind fun ys S => .ok (y :: ys) S else compF none m ft fe ds ρ S := by
  rw [compF]
  rw [if_pos (show okC none _ from trivial), hm]
/-- no test, the store stays -/
theorem comp_map {m : FG} {fe : FE} {f : D → D} {ρ : EnvD} {S : Store} : ∀ (ds : List D), (∀ d ∈ ds, ∃ ρ1, m d ρ S = some ρ1 ∧ fe ρ1 S = .ok (f d) S) → compF none m fYes fe ds ρ S = .ok (ds.map f) S
  | [], _ => compF_nil
  | d :: ds, h => by
    obtain ⟨ρ1, h1, h2⟩ := h d List.mem_cons_self
    rw [compF_cons h1]
    have q := comp_map (m := m) (fe := fe) (f := f) (ρ := ρ) (S := S) ds fun e he => h e (List.mem_cons_of_mem _ he)
    simp only [fYes, Res.noEx_ok, Res.bind_ok, if_true, h2, q, List.map_cons]
/-- with a test, the store stays -/
theorem comp_filter {m : FG} {ft : FT} {fe : FE} {f : D → D} {p : D → Bool} {ρ : EnvD} {S : Store} : ∀ (ds : List D), (∀ d ∈ ds, ∃ ρ1, m d ρ S = some ρ1 ∧ ft ρ1 S = .ok (p d) S ∧ (p d = true → fe ρ1 S = .ok (f d) S)) → compF none m ft fe ds ρ S = .ok ((ds.filter p).map f) S
  | [], _ => compF_nil
  | d :: ds, h => by
    obtain ⟨ρ1, h1, h2, h3⟩ := h d List.mem_cons_self
    rw [compF_cons h1]
    have q := comp_filter (m := m) (ft := ft) (fe := fe) (f := f) (p := p) (ρ := ρ) (S := S) ds fun e he => h e (List.mem_cons_of_mem _ he)
    cases hp : p d with
    | true => simp [h2, hp, h3 hp, q, List.filter_cons]
    | false => simp [h2, hp, q, List.filter_cons]
theorem rng_length {lo hi : Int} : (rng lo hi).length = (hi - lo).toNat := by simp [rng]
end DL

/-! Plain laws, part 2: the mirrors' equations, for simp. -/
namespace DL
open PySem L2
section
variable (ρ : EnvD) (S : Store) (fa fb fc fe : FE) (ta tb : FT) (g g' : FS) (x y : D)
@[simp] theorem e_semOf (n : Nat) (ds : List D) : semOf n g ds S = (g (startD n ds) S).res := rfl
@[simp] theorem e_startD (n : Nat) (ds : List D) : startD n ds = ds.map some ++ List.replicate (n - ds.length) none := rfl
@[simp] theorem e_gSeq : gSeq g g' ρ S = (g ρ S).seq g' := rfl
@[simp] theorem e_gNil : gNil ρ S = .nx ρ S := rfl
@[simp] theorem e_gRet : gRet fe ρ S = (fe ρ S).into ρ fun d S => .rt d S := rfl
@[simp] theorem e_gIf : gIf ta g g' ρ S = (ta ρ S).into ρ fun k S => if k then g ρ S else g' ρ S := rfl
@[simp] theorem e_gSet (i : Nat) : gSet i fe ρ S = (fe ρ S).into ρ fun d S => .nx (ρ.set i (some d)) S := rfl
@[simp] theorem e_gExpr : gExpr fe ρ S = (fe ρ S).into ρ fun _ S => .nx ρ S := rfl
@[simp] theorem e_gAsg (m : FG) : gAsg m fe ρ S = (fe ρ S).into ρ fun d S => match m d ρ S with | some ρ => .nx ρ S | none => .stuck := rfl
@[simp] theorem e_gPut : gPut fa fb fe ρ S = (fe ρ S).into ρ fun d S => (fa ρ S).into ρ fun x S => (fb ρ S).into ρ fun y S => match storeAt x y d S with | some S => .nx ρ S | none => .stuck := rfl
@[simp] theorem e_gStar (i j : Nat) : gStar i j fe ρ S = (fe ρ S).into ρ fun d S => match asL S d with | some (x :: xs) => .nx ((ρ.set i (some x)).set j (some (.oid S.length))) (S ++ [.lst xs]) | _ => .stuck := rfl
@[simp] theorem e_gFor (fi : FI) (m : FG) : gFor fi m g ρ S = (fi ρ S).into ρ fun it S => loopF it.chk m g it.items ρ S := rfl
@[simp] theorem e_gFld (cs : List Str) (f : Str) : gFld cs f fa fe ρ S = (fe ρ S).into ρ fun d S => (fa ρ S).into ρ fun o S => match o with
  | .oid n => (match S[n]? with
    | some (.ins c fs) => if c ∈ cs ∧ fs.length < 1000 then .nx ρ (S.set n (.ins c (putFD f d fs))) else .stuck
    | _ => .stuck)
  | _ => .stuck := rfl
@[simp] theorem e_res_nx : (Out.nx ρ S).res = .ok .non S := rfl
@[simp] theorem e_res_rt : (Out.rt x S).res = .ok x S := rfl
@[simp] theorem e_res_ex (C fs) : (Out.ex C fs ρ S).res = .ex C fs S := rfl
@[simp] theorem e_fVar (i : Nat) : fVar i ρ S = match ρ[i]? with | some (some d) => .ok d S | _ => .stuck := rfl
@[simp] theorem e_fC : fC x ρ S = .ok x S := rfl
@[simp] theorem e_fAndV : fAndV fa fb ρ S = (fa ρ S).bind fun d S => match d with | .bl true => fb ρ S | .bl false => .ok (.bl false) S | _ => .stuck := rfl
@[simp] theorem e_fOrV : fOrV fa fb ρ S = (fa ρ S).bind fun d S => match d with | .bl true => .ok (.bl true) S | .bl false => fb ρ S | _ => .stuck := rfl
@[simp] theorem e_fNotV : fNotV fa ρ S = (fa ρ S).bind fun d S => match d with | .bl k => .ok (.bl (!k)) S | _ => .stuck := rfl
@[simp] theorem e_fAndT : fAndT ta tb ρ S = (ta ρ S).bind fun k S => if k then tb ρ S else .ok false S := rfl
@[simp] theorem e_fOrT : fOrT ta tb ρ S = (ta ρ S).bind fun k S => if k then .ok true S else tb ρ S := rfl
@[simp] theorem e_fNotT : fNotT ta ρ S = (ta ρ S).bind fun k S => .ok (!k) S := rfl
@[simp] theorem e_toB : toB fa ρ S = (fa ρ S).bind fun d S => match d with | .bl k => .ok k S | _ => .stuck := rfl
@[simp] theorem e_fIf : fIf ta fa fb ρ S = (ta ρ S).bind fun k S => if k then fa ρ S else fb ρ S := rfl
@[simp] theorem e_fCons (fr : FA) : fCons fa fr ρ S = (fa ρ S).bind fun x S => (fr ρ S).bind fun xs S => .ok (x :: xs) S := rfl
@[simp] theorem e_fTup (fr : FA) : fTup fr ρ S = (fr ρ S).bind fun xs S => if short xs.length then .ok (.tup xs) S else .stuck := rfl
@[simp] theorem e_fLst (fr : FA) : fLst fr ρ S = (fr ρ S).bind fun xs S => if short xs.length then .ok (.lst xs) S else .stuck := rfl
@[simp] theorem e_fLstO (fr : FA) : fLstO fr ρ S = (fr ρ S).bind fun xs S => if short xs.length then .ok (.oid S.length) (S ++ [.lst xs]) else .stuck := rfl
@[simp] theorem e_fDict0 : fDict0 ρ S = .ok (.oid S.length) (S ++ [.dic []]) := rfl
@[simp] theorem e_fBin (h : G2) : fBin h fa fb ρ S = (fa ρ S).bind fun x S => (fb ρ S).bind fun y S => h x y S := rfl
@[simp] theorem e_fUn (h : D → Store → Res D) : fUn h fa ρ S = (fa ρ S).bind h := rfl
@[simp] theorem e_fChain (h h' : G2) : fChain h h' fa fb fc ρ S = (fa ρ S).bind fun x S => (fb ρ S).bind fun y S => (h x y S).bind fun z S => match z with
  | .bl true => (fc ρ S).bind fun u S => h' y u S
  | .bl false => .ok (.bl false) S
  | _ => .stuck := rfl
@[simp] theorem e_fCB (h : GC) (fr : FA) : fCB h fr ρ S = (fr ρ S).bind h := rfl
@[simp] theorem e_fBM (T : String) (h : GM) (fr : FA) : fBM T h fa fr ρ S = (fa ρ S).bind fun x S => if tyS S x = some T ∧ T ≠ "tuple" then (fr ρ S).bind fun ds S => h x ds S else .stuck := rfl
@[simp] theorem e_fCall (cs : Sem') (gD : List D → List D → List D) (np nk n : Nat) (fr fk : FA) : fCall cs gD np nk n fr fk ρ S = (fr ρ S).bind fun ds S => (fk ρ S).bind fun es S => if ds.length = np ∧ es.length = nk ∧ (gD ds es).length = n then cs (gD ds es) S else .stuck := rfl
@[simp] theorem e_fMeth (cs : Sem') (gD : List D → List D → List D) (c m : Str) (np nk n : Nat) (fr fk : FA) : fMeth cs gD c m np nk n fa fr fk ρ S = (fa ρ S).bind fun o S => match asI S o with
  | some (c', fs) => if c' = c ∧ (fs.lookup m).isNone then (fr ρ S).bind fun ds S => (fk ρ S).bind fun es S => if (o :: ds).length = np ∧ es.length = nk ∧ (gD (o :: ds) es).length = n then cs (gD (o :: ds) es) S else .stuck else .stuck
  | none => .stuck := rfl
@[simp] theorem e_fFld (cs : List Str) (f : Str) : fFld cs f fa ρ S = (fa ρ S).bind fun o S => match asI S o with
  | some (c, fs) => if c ∈ cs then (match fs.lookup f with | some d => .ok d S | none => .stuck) else .stuck
  | none => .stuck := rfl
@[simp] theorem e_fMake (mk : MakeT) (np nk : Nat) (fr fk : FA) : fMake mk np nk fr fk ρ S = (fr ρ S).bind fun ds S => (fk ρ S).bind fun es S => if ds.length = np ∧ es.length = nk then mk ds es S else .stuck := rfl
@[simp] theorem e_fSeq_tup (ds : List D) (h : fa ρ S = .ok (.tup ds) S) : fSeq fa ρ S = .ok ⟨ds, none⟩ S := by unfold fSeq; rw [h]; rfl
@[simp] theorem e_fSeq_lst (ds : List D) (h : fa ρ S = .ok (.lst ds) S) : fSeq fa ρ S = .ok ⟨ds, none⟩ S := by unfold fSeq; rw [h]; rfl
@[simp] theorem e_pick (sel : List (Nat × Nat)) (us ws ms : List D) : pick sel us ws ms = sel.filterMap fun s => (src s.1 us ws ms)[s.2]? := rfl
@[simp] theorem e_src0 {α : Type} (us ws ms : List α) : src 0 us ws ms = us := rfl
@[simp] theorem e_src1 {α : Type} (us ws ms : List α) : src 1 us ws ms = ws := rfl
@[simp] theorem e_src2 {α : Type} (us ws ms : List α) : src 2 us ws ms = ms := rfl
@[simp] theorem e_mName (i : Nat) : mName i x ρ S = some (ρ.set i (some x)) := rfl
@[simp] theorem e_mTup (n : Nat) (ms : List D → EnvD → Store → Option EnvD) (ds : List D) : mTup n ms (.tup ds) ρ S = if ds.length = n then ms ds ρ S else none := rfl
@[simp] theorem e_mCons (m : FG) (ms : List D → EnvD → Store → Option EnvD) (d : D) (ds : List D) : mCons m ms (d :: ds) ρ S = (m d ρ S).bind fun ρ => ms ds ρ S := rfl
@[simp] theorem e_isi1 (n : String) : gIsi [x, .ty n] S = gIsi1 [x, .ty n] S := rfl
@[simp] theorem e_isiN (cs : List D) : gIsi [x, .tup cs] S = gIsiN [x, .tup cs] S := rfl
@[simp] theorem e_gIsi1 (n : String) : gIsi1 [x, .ty n] S = match (tyS S x).bind fun T => isiT T n with | some b => .ok (.bl b) S | none => .stuck := rfl
@[simp] theorem e_gIsiN (cs : List D) : gIsiN [x, .tup cs] S = match (tyS S x).bind fun T => (tysOf cs).bind fun ns => isiA T ns with | some b => .ok (.bl b) S | none => .stuck := rfl
@[simp] theorem e_ty_non : tyS S .non = some "NoneType" := rfl
@[simp] theorem e_ty_bl (b) : tyS S (.bl b) = some "bool" := rfl
@[simp] theorem e_ty_int (b) : tyS S (.int b) = some "int" := rfl
@[simp] theorem e_ty_str (b) : tyS S (.str b) = some "str" := rfl
@[simp] theorem e_ty_tup (b) : tyS S (.tup b) = some "tuple" := rfl
@[simp] theorem e_ty_lst (b) : tyS S (.lst b) = some "list" := rfl
variable (i j : Int) (a b : Bool) (xs ys : List D) (p q : Str)
@[simp] theorem e_gNeg : gNeg (.int i) S = .ok (.int (-i)) S := rfl
@[simp] theorem e_gSub : gSub (.int i) (.int j) S = .ok (.int (i - j)) S := rfl
@[simp] theorem e_gAdd : gAdd (.int i) (.int j) S = .ok (.int (i + j)) S := rfl
@[simp] theorem e_gMul (h : cMul i j = true) : gMul (.int i) (.int j) S = .ok (.int (i * j)) S := by simp [gMul, gI, h]
@[simp] theorem e_gMod (h : 0 < j) : gMod (.int i) (.int j) S = .ok (.int (i % j)) S := by simp [gMod, gI, h]
@[simp] theorem e_gDiv (h : 0 < j) (h2 : j < 1073741824) : gDiv (.int i) (.int j) S = .ok (.int (i / j)) S := by simp [gDiv, gI, cDiv, h, h2]
@[simp] theorem e_gLt : gLt (.int i) (.int j) S = .ok (.bl (decide (i < j))) S := rfl
@[simp] theorem e_gLe : gLe (.int i) (.int j) S = .ok (.bl (decide (i ≤ j))) S := rfl
@[simp] theorem e_gGt : gGt (.int i) (.int j) S = .ok (.bl (decide (j < i))) S := rfl
@[simp] theorem e_gGe : gGe (.int i) (.int j) S = .ok (.bl (decide (j ≤ i))) S := rfl
@[simp] theorem e_gIs : gIs x .non S = .ok (.bl x.isNon) S := rfl
@[simp] theorem e_gIsNot : gIsNot x .non S = .ok (.bl (!x.isNon)) S := rfl
@[simp] theorem e_nn : D.non.isNon = true := rfl
@[simp] theorem e_ni : (D.int i).isNon = false := rfl
@[simp] theorem e_ns : (D.str p).isNon = false := rfl
@[simp] theorem e_nt : (D.tup xs).isNon = false := rfl
@[simp] theorem e_nb : (D.bl a).isNon = false := rfl
@[simp] theorem e_nl : (D.lst xs).isNon = false := rfl
@[simp] theorem e_eq_ss : gEq (.str p) (.str q) S = .ok (.bl (decide (p = q))) S := rfl
@[simp] theorem e_eq_ii : gEq (.int i) (.int j) S = .ok (.bl (decide (i = j))) S := rfl
@[simp] theorem e_ne_ss : gNe (.str p) (.str q) S = .ok (.bl (!decide (p = q))) S := rfl
@[simp] theorem e_ne_ii : gNe (.int i) (.int j) S = .ok (.bl (!decide (i = j))) S := rfl
@[simp] theorem e_len_t : gLen [.tup xs] S = .ok (.int xs.length) S := rfl
@[simp] theorem e_len_l : gLen [.lst xs] S = .ok (.int xs.length) S := rfl
@[simp] theorem e_len_s : gLen [.scr xs] S = .ok (.int xs.length) S := rfl
@[simp] theorem e_ix_t : gIx (.tup xs) (.int i) S = match atI xs i with | some d => .ok d S | none => .stuck := rfl
@[simp] theorem e_ix_l : gIx (.lst xs) (.int i) S = match atI xs i with | some d => .ok d S | none => .stuck := rfl
@[simp] theorem e_ix_s : gIx (.scr xs) (.int i) S = match atI xs i with | some d => .ok d S | none => .stuck := rfl
@[simp] theorem e_asL_l : asL S (.lst xs) = some xs := rfl
@[simp] theorem e_asL_s : asL S (.scr xs) = some xs := rfl
@[simp] theorem e_asQ_t : asQ S (.tup xs) = some xs := rfl
@[simp] theorem e_asQ_l : asQ S (.lst xs) = some xs := rfl
@[simp] theorem e_list_l : gList [.lst xs] S = .ok (.lst xs) S := rfl
@[simp] theorem e_list_t : gList [.tup xs] S = .ok (.lst xs) S := rfl
@[simp] theorem e_list_d (ks : List (Key × D)) : gList [.dic ks] S = .ok (.lst (ks.map fun q => keyV q.1)) S := rfl
@[simp] theorem e_tuple_l : gTuple [.lst xs] S = .ok (.tup xs) S := rfl
@[simp] theorem e_lenum_t : gLEnum [.tup xs] S = .ok (.lst (enumD 0 xs)) S := rfl
@[simp] theorem e_lenum_l : gLEnum [.lst xs] S = .ok (.lst (enumD 0 xs)) S := rfl
@[simp] theorem e_max2 : gMax [.int i, .int j] S = .ok (.int (if j > i then j else i)) S := rfl
@[simp] theorem e_min2 : gMin [.int i, .int j] S = .ok (.int (if j < i then j else i)) S := rfl
@[simp] theorem e_abs : gAbs [.int i] S = .ok (.int (if i < 0 then -i else i)) S := rfl
theorem at_nat {α : Type} (zs : List α) (n : Nat) (h : n < zs.length) : atI zs (n : Int) = zs[n]? := by
  have h2 : (n : Int) < zs.length := by omega
  simp [atI, ixN, h2]
@[simp] theorem e_at_c0 {α : Type} (z : α) (zs : List α) : atI (z :: zs) 0 = some z := by
  have := at_nat (z :: zs) 0 (by simp)
  exact this
@[simp] theorem e_at_c1 {α : Type} (z y : α) (zs : List α) : atI (z :: y :: zs) 1 = some y := by
  have := at_nat (z :: y :: zs) 1 (by simp)
  exact this
@[simp] theorem e_fComp (fi : FI) (m : FG) (own : List Nat) (fin : Fin') : fComp fi m ta fe own fin ρ S = (fi ρ S).bind fun it S => (compF it.chk m ta fe it.items (wipeD ρ own) S).bind fin := rfl
@[simp] theorem e_wipe0 : wipeD ρ [] = ρ := rfl
@[simp] theorem e_wipe1 (v : Nat) (vs : List Nat) : wipeD ρ (v :: vs) = (wipeD ρ vs).set v none := rfl
@[simp] theorem e_finL : finL xs S = if short xs.length then .ok (.lst xs) S else .stuck := rfl
@[simp] theorem e_fRng1 (fr : FA) : fRng1 fr ρ S = (fr ρ S).bind fun ds S => match ds with
  | [.int j] => if cRng j then .ok ⟨rng 0 j, none⟩ S else .stuck
  | _ => .stuck := rfl
theorem e_all_true {α : Type} (l : List α) : gAllAny true [.lst (l.map fun _ => D.bl true)] S = .ok (.bl true) S := by
  have h : bsOf (l.map fun _ => D.bl true) = some (l.map fun _ => true) := by
    induction l with
    | nil => rfl
    | cons z l ih => simp [bsOf, ih]
  simp [gAllAny, h]
@[simp] theorem e_all_true2 {α β : Type} (l : List α) (f : α → β) : gAllAny true [.lst (l.map ((fun _ => D.bl true) ∘ f))] S = .ok (.bl true) S := e_all_true S l
@[simp] theorem e_in_tup : gNotIn x (.tup ys) S = gInQ true x (.tup ys) S := rfl
@[simp] theorem e_in_tup2 : gIn x (.tup ys) S = gInQ false x (.tup ys) S := rfl
@[simp] theorem e_in_lst : gNotIn x (.lst ys) S = gInQ true x (.lst ys) S := rfl
@[simp] theorem e_in_lst2 : gIn x (.lst ys) S = gInQ false x (.lst ys) S := rfl
theorem short_le {n : Nat} (h : n ≤ 1000000) : short n = true := by
  have : (1000000 : Nat) ≤ sizeLine := by decide
  exact decide_eq_true (Nat.le_trans h this)
@[simp] theorem short0 : short 0 = true := short_le (by decide)
@[simp] theorem short1 : short 1 = true := short_le (by decide)
@[simp] theorem short2 : short 2 = true := short_le (by decide)
@[simp] theorem short3 : short 3 = true := short_le (by decide)
@[simp] theorem short4 : short 4 = true := short_le (by decide)
@[simp] theorem short8 : short 8 = true := short_le (by decide)
@[simp] theorem short7 : short 7 = true := short_le (by decide)
end
end DL

namespace K03
open PySem L2 DL
/-! ### numbers -/
/-! ### values -/
inductive Vl where
  | non | num (i : Int) | at_ (n : Nat)
def dV : Vl → D
  | .non => .non
  | .num i => .int i
  | .at_ n => .tup [.str "at", .int n]
end K03

/-! Plain laws, part 3: plain data shown and compared. -/
namespace DL
open PySem L2

/-! ### data that can be shown -/
mutual
def D.sim : D → Bool
  | .non => true
  | .bl _ => true
  | .int i => decide (-1000000000000 < i ∧ i < 1000000000000)
  | .str x => PyData.strOk x
  | .tup ds => simL ds
  | .lst ds => simL ds
  | _ => false
def simL : List D → Bool
  | [] => true
  | d :: ds => d.sim && simL ds
end
mutual
def D.dep : D → Nat
  | .tup ds => depL ds + 1
  | .lst ds => depL ds + 1
  | _ => 0
def depL : List D → Nat
  | [] => 0
  | d :: ds => max d.dep (depL ds)
end
mutual
def D.wt : D → Nat
  | .int _ => 64
  | .str x => x.cps.size
  | .tup ds => wtL ds
  | .lst ds => wtL ds
  | _ => 0
def wtL : List D → Nat
  | [] => 0
  | d :: ds => d.wt + 1 + wtL ds
end
mutual
def D.py : D → PyData
  | .non => .none
  | .bl b => .bool b
  | .int i => .int i
  | .str x => .str x
  | .tup ds => .tuple (pyL ds)
  | .lst ds => .list (pyL ds)
  | _ => .none
def pyL : List D → List PyData
  | [] => []
  | d :: ds => d.py :: pyL ds
end
structure Sh (d : D) (p : PyData) : Prop where
  py : toPy d = some p
  lay : p.canLay0 = true
  dep : p.depth = d.dep
  wt : p.weight ≤ d.wt
  sh : p.intsShort 13 = true
  shw : p.showable = true
  hd : p.hasDict = false
structure ShL (d : List D) (p : List PyData) : Prop where
  py : toPyL d = some p
  lay : PyData.canLayAll0 p = true
  dep : PyData.depthAll p = depL d
  wt : PyData.weightAll p ≤ wtL d
  sh : PyData.intsShortAll 13 p = true
  shw : PyData.showableAll p = true
  hd : PyData.hasDictAll p = false
theorem int_short {i : Int} (h1 : -1000000000000 < i) (h2 : i < 1000000000000) : (PyData.shown (.int i)).length ≤ 13 := by
  simp only [PyData.shown]
  by_cases h : 0 ≤ i
  · have q := PyProof.Rows.toString_length_le (v := i) h (k := 12) (by decide) (by show i < 10 ^ 12; omega)
    omega
  · have hn : i < 0 := by omega
    have q := PyProof.Rows.toString_length_le (v := 0 - i) (by omega) (k := 12) (by decide) (by show 0 - i < 10 ^ 12; omega)
    rw [PyProof.Rows.toString_neg hn, PyProof.Rows.ofString_len, String.length_append]
    rw [PyProof.Rows.ofString_len] at q
    have e : ("-" : String).length = 1 := rfl
    omega
theorem log_small {n : Nat} (h : n < 1000000000000) : n.log2 < 63 := by
  by_cases h0 : n = 0
  · subst h0; decide
  · have := Nat.log2_self_le h0
    exact Nat.lt_of_not_le fun q => by
      have : 2 ^ 63 ≤ 2 ^ n.log2 := Nat.pow_le_pow_right (by decide) q
      have e : (2 : Nat) ^ 63 = 9223372036854775808 := by decide
      omega
mutual
theorem D.sh : ∀ d : D, d.sim = true → Sh d d.py
  | .non, _ => ⟨rfl, by simp [D.py, PyData.canLay0], by simp [D.py, PyData.depth, D.dep], by simp [D.py, PyData.weight], by simp [D.py, PyData.intsShort], by simp [D.py, PyData.showable], by simp [D.py, PyData.hasDict]⟩
  | .bl _, _ => ⟨rfl, by simp [D.py, PyData.canLay0], by simp [D.py, PyData.depth, D.dep], by simp [D.py, PyData.weight], by simp [D.py, PyData.intsShort], by simp [D.py, PyData.showable], by simp [D.py, PyData.hasDict]⟩
  | .int i, h => by
    have h' : -1000000000000 < i ∧ i < 1000000000000 := by simpa [D.sim] using h
    have lg := log_small (n := i.natAbs) (by omega)
    refine ⟨rfl, by simp [D.py, PyData.canLay0], by simp [D.py, PyData.depth, D.dep], ?_, ?_, ?_, by simp [D.py, PyData.hasDict]⟩
    · simp only [D.py, PyData.weight, D.wt]
      split <;> omega
    · simp only [D.py, PyData.intsShort]
      exact decide_eq_true (int_short h'.1 h'.2)
    · simp only [D.py, PyData.showable]
      exact decide_eq_true (by omega)
  | .str x, h => by
    have h' : PyData.strOk x = true := by simpa [D.sim] using h
    exact ⟨rfl, by simpa [D.py, PyData.canLay0] using h', by simp [D.py, PyData.depth, D.dep], by simp [D.py, PyData.weight, D.wt], by simp [D.py, PyData.intsShort], by simp [D.py, PyData.showable], by simp [D.py, PyData.hasDict]⟩
  | .tup ds, h => by
    have q := simL_sh ds (by simpa [D.sim] using h)
    exact ⟨by simp [toPy, q.py, D.py], by simpa [D.py, PyData.canLay0] using q.lay, by simp [D.py, PyData.depth, D.dep, q.dep], by simpa [D.py, PyData.weight, D.wt] using q.wt, by simpa [D.py, PyData.intsShort] using q.sh, by simpa [D.py, PyData.showable] using q.shw, by simpa [D.py, PyData.hasDict] using q.hd⟩
  | .lst ds, h => by
    have q := simL_sh ds (by simpa [D.sim] using h)
    exact ⟨by simp [toPy, q.py, D.py], by simpa [D.py, PyData.canLay0] using q.lay, by simp [D.py, PyData.depth, D.dep, q.dep], by simpa [D.py, PyData.weight, D.wt] using q.wt, by simpa [D.py, PyData.intsShort] using q.sh, by simpa [D.py, PyData.showable] using q.shw, by simpa [D.py, PyData.hasDict] using q.hd⟩
  | .ty _, h => by simp [D.sim] at h
  | .cls _, h => by simp [D.sim] at h
  | .scr _, h => by simp [D.sim] at h
  | .dic _, h => by simp [D.sim] at h
  | .ins _ _, h => by simp [D.sim] at h
  | .oid _, h => by simp [D.sim] at h
  | .exc _ _, h => by simp [D.sim] at h
theorem simL_sh : ∀ ds : List D, simL ds = true → ShL ds (pyL ds)
  | [], _ => ⟨rfl, by simp [pyL, PyData.canLayAll0], by simp [pyL, PyData.depthAll, depL], by simp [pyL, PyData.weightAll], by simp [pyL, PyData.intsShortAll], by simp [pyL, PyData.showableAll], by simp [pyL, PyData.hasDictAll]⟩
  | d :: ds, h => by
    have h' : d.sim = true ∧ simL ds = true := by simpa [simL] using h
    have a := D.sh d h'.1
    have b := simL_sh ds h'.2
    have bw := b.wt
    have aw := a.wt
    exact ⟨by simp [toPyL, a.py, b.py, pyL], by simp [pyL, PyData.canLayAll0, a.lay, b.lay], by simp [pyL, PyData.depthAll, depL, a.dep, b.dep], by simp only [pyL, PyData.weightAll, wtL]; omega, by simp [pyL, PyData.intsShortAll, a.sh, b.sh], by simp [pyL, PyData.showableAll, a.shw, b.shw], by simp [pyL, PyData.hasDictAll, a.hd, b.hd]⟩
end
theorem toPy_pyOf {d : D} {p : PyData} (S : Store) (h : toPy d = some p) : pyOf S d = some p := by
  cases d <;> first
    | exact h
    | (simp [toPy] at h)
theorem pyOf_sim {d : D} (S : Store) (h : d.sim = true) : pyOf S d = some d.py := toPy_pyOf S (D.sh d h).py
/-- data that is small enough is shown, wherever -/
theorem repr_D {d : D} (h : d.sim = true) (hd : d.dep ≤ 50) (hw : d.wt ≤ 1048576) (S : Store) : gRepr [d] S = .ok (.str d.py.shown) S := by
  have q := D.sh d h
  have e : (2 : Nat) ^ 20 = 1048576 := by decide
  have lay : PyData.layable0 d.py = true := by
    unfold PyData.layable0
    rw [Bool.and_eq_true, Bool.and_eq_true, e]
    have := q.dep
    have := q.wt
    exact ⟨⟨q.lay, decide_eq_true (by omega)⟩, decide_eq_true (by omega)⟩
  have l := PyProof.Rows.shown_le13 lay q.sh
  have s : (15728653 : Nat) ≤ sizeLine := by decide
  have := q.dep
  simp only [gRepr, pyOf_sim S h]
  rw [if_pos ⟨q.shw, q.hd, by omega, by omega⟩]
/-! ### data that is equal -/
mutual
theorem eqv_refl : ∀ p : PyData, p.hasDict = false → p.eqv p = true
  | .none, _ => by simp [PyData.eqv]
  | .bool _, _ => by simp [PyData.eqv]
  | .int _, _ => by simp [PyData.eqv]
  | .str _, _ => by simp [PyData.eqv]
  | .list xs, h => by
    simp only [PyData.eqv]
    exact eqvAll_refl xs (by simpa [PyData.hasDict] using h)
  | .tuple xs, h => by
    simp only [PyData.eqv]
    exact eqvAll_refl xs (by simpa [PyData.hasDict] using h)
  | .dict _, h => by simp [PyData.hasDict] at h
theorem eqvAll_refl : ∀ p : List PyData, PyData.hasDictAll p = false → PyData.eqvAll p p = true
  | [], _ => by simp [PyData.eqvAll]
  | x :: xs, h => by
    have h' : x.hasDict = false ∧ PyData.hasDictAll xs = false := by simpa [PyData.hasDictAll] using h
    simp only [PyData.eqvAll, eqv_refl x h'.1, eqvAll_refl xs h'.2]
    rfl
end
mutual
/-- no truths in it -/
def D.nb : D → Bool
  | .bl _ => false
  | .tup ds => nbL ds
  | .lst ds => nbL ds
  | _ => true
def nbL : List D → Bool
  | [] => true
  | d :: ds => d.nb && nbL ds
end
mutual
theorem eqv_eq : ∀ d e : D, d.sim = true → e.sim = true → d.nb = true → e.nb = true → d.py.eqv e.py = true → d = e
  | .non, e, _, h, _, n, q => by cases e <;> simp_all [D.sim, D.nb, D.py, PyData.eqv]
  | .int i, e, _, h, _, n, q => by cases e <;> simp_all [D.sim, D.nb, D.py, PyData.eqv]
  | .str i, e, _, h, _, n, q => by cases e <;> simp_all [D.sim, D.nb, D.py, PyData.eqv]
  | .tup ds, e, hd, h, hn, n, q => by
    cases e with
    | tup es =>
      simp only [D.sim, D.nb, D.py, PyData.eqv] at hd h hn n q
      rw [eqvL_eq ds es hd h hn n q]
    | _ => simp_all [D.sim, D.nb, D.py, PyData.eqv]
  | .lst ds, e, hd, h, hn, n, q => by
    cases e with
    | lst es =>
      simp only [D.sim, D.nb, D.py, PyData.eqv] at hd h hn n q
      rw [eqvL_eq ds es hd h hn n q]
    | _ => simp_all [D.sim, D.nb, D.py, PyData.eqv]
  | .bl _, _, _, _, h, _, _ => by simp [D.nb] at h
  | .ty _, _, h, _, _, _, _ => by simp [D.sim] at h
  | .cls _, _, h, _, _, _, _ => by simp [D.sim] at h
  | .scr _, _, h, _, _, _, _ => by simp [D.sim] at h
  | .dic _, _, h, _, _, _, _ => by simp [D.sim] at h
  | .ins _ _, _, h, _, _, _, _ => by simp [D.sim] at h
  | .exc _ _, _, h, _, _, _, _ => by simp [D.sim] at h
  | .oid _, _, h, _, _, _, _ => by simp [D.sim] at h
theorem eqvL_eq : ∀ ds es : List D, simL ds = true → simL es = true → nbL ds = true → nbL es = true → PyData.eqvAll (pyL ds) (pyL es) = true → ds = es
  | [], [], _, _, _, _, _ => rfl
  | [], _ :: _, _, _, _, _, q => by simp [pyL, PyData.eqvAll] at q
  | _ :: _, [], _, _, _, _, q => by simp [pyL, PyData.eqvAll] at q
  | d :: ds, e :: es, hd, h, hn, n, q => by
    simp only [simL, nbL, pyL, PyData.eqvAll, Bool.and_eq_true] at hd h hn n q
    rw [eqv_eq d e hd.1 h.1 hn.1 n.1 q.1, eqvL_eq ds es hd.2 h.2 hn.2 n.2 q.2]
end
theorem shaped_D {d : D} (h : d.sim = true) (hd : d.dep ≤ 60) : SeqAt.shaped d.py = true := by
  have q := D.sh d h
  have := q.dep
  unfold SeqAt.shaped
  rw [q.lay]
  simp
  omega
open Classical in
theorem eqv_dec {d e : D} (h1 : d.sim = true) (h2 : e.sim = true) (n1 : d.nb = true) (n2 : e.nb = true) : d.py.eqv e.py = decide (d = e) := by
  by_cases h : d = e
  · subst h
    rw [eqv_refl _ (D.sh d h1).hd]
    simp
  · cases q : d.py.eqv e.py with
    | true => exact absurd (eqv_eq d e h1 h2 n1 n2 q) h
    | false => simp [h]
theorem scal_D {d e : D} (h : scalD d e = true) : eqS d e = d.py.eqv e.py := by
  cases d <;> cases e <;> simp_all [scalD, eqS, D.py, PyData.eqv] <;> rfl
theorem eq_D {d e : D} (h1 : d.sim = true) (h2 : e.sim = true) (d1 : d.dep ≤ 60) (d2 : e.dep ≤ 60) (S : Store) : gEq d e S = .ok (.bl (d.py.eqv e.py)) S := by
  unfold gEq
  by_cases h : scalD d e = true
  · rw [if_pos (show pScal d e S = true from h)]
    simp only [gEqS, h, if_true, scal_D h, Bool.false_eq_true, if_false]
  · rw [if_neg (show ¬ pScal d e S = true from h)]
    simp only [gEqD, pyOf_sim S h1, pyOf_sim S h2, shaped_D h1 d1, shaped_D h2 d2]
    rfl
theorem ne_D {d e : D} (h1 : d.sim = true) (h2 : e.sim = true) (d1 : d.dep ≤ 60) (d2 : e.dep ≤ 60) (S : Store) : gNe d e S = .ok (.bl (!d.py.eqv e.py)) S := by
  unfold gNe
  by_cases h : scalD d e = true
  · rw [if_pos (show pScal d e S = true from h)]
    simp only [gEqS, h, if_true, scal_D h]
  · rw [if_neg (show ¬ pScal d e S = true from h)]
    simp only [gEqD, pyOf_sim S h1, pyOf_sim S h2, shaped_D h1 d1, shaped_D h2 d2]
    rfl
def seqD : D → Store → Res ItD := fun d S => match d with
  | .tup ds => .ok ⟨ds, none⟩ S
  | .lst ds => .ok ⟨ds, none⟩ S
  | .scr ds => .ok ⟨ds, none⟩ S
  | d => match asL S d with
    | some ds => .ok ⟨ds, some (d, ds)⟩ S
    | none => .stuck
@[simp] theorem e_fSeq (fe : FE) (ρ : EnvD) (S : Store) : fSeq fe ρ S = (fe ρ S).bind seqD := rfl
@[simp] theorem e_seqD_t (ds : List D) (S : Store) : seqD (.tup ds) S = .ok ⟨ds, none⟩ S := rfl
@[simp] theorem e_seqD_l (ds : List D) (S : Store) : seqD (.lst ds) S = .ok ⟨ds, none⟩ S := rfl
@[simp] theorem e_seqD_s (ds : List D) (S : Store) : seqD (.scr ds) S = .ok ⟨ds, none⟩ S := rfl
def enumC : List D → Store → Res ItD := fun ds S => match ds with
  | [.lst ds] => .ok ⟨enumD 0 ds, none⟩ S
  | [d] => match asL S d with
    | some ds => .ok ⟨enumD 0 ds, some (d, ds)⟩ S
    | none => .stuck
  | _ => .stuck
@[simp] theorem e_fEnum (fr : FA) (ρ : EnvD) (S : Store) : fEnum fr ρ S = (fr ρ S).bind enumC := rfl
@[simp] theorem e_enumC_l (ds : List D) (S : Store) : enumC [.lst ds] S = .ok ⟨enumD 0 ds, none⟩ S := rfl
@[simp] theorem e_gAug (i : Nat) (fe : FE) (g : G2) (ρ : EnvD) (S : Store) : gAug i fe g ρ S = match ρ[i]? with
  | some (some x) => (fe ρ S).into ρ fun y S => (g x y S).into ρ fun z S => .nx (ρ.set i (some z)) S
  | _ => .stuck := rfl
@[simp] theorem e_gIp (f : Int → Int → Int) (i j : Int) (S : Store) : gIp f (.int i) (.int j) S = .ok (.int (f i j)) S := rfl
theorem e_addl (xs ys : List D) (S : Store) (h : short (xs.length + ys.length) = true) : gAdd (.lst xs) (.lst ys) S = .ok (.lst (xs ++ ys)) S := by
  simp [gAdd, isI, isS, isT, gAddL, asLt, h]
theorem simL_all {ds : List D} : simL ds = true ↔ ∀ d ∈ ds, d.sim = true := by
  induction ds with
  | nil => simp [simL]
  | cons d ds ih => simp [simL, ih]
theorem depL_le {n : Nat} {ds : List D} : depL ds ≤ n ↔ ∀ d ∈ ds, d.dep ≤ n := by
  induction ds with
  | nil => simp [depL]
  | cons d ds ih => simp [depL, ← ih, Nat.max_le]
theorem nbL_all {ds : List D} : nbL ds = true ↔ ∀ d ∈ ds, d.nb = true := by
  induction ds with
  | nil => simp [nbL]
  | cons d ds ih => simp [nbL, ih]
theorem wtL_le {n : Nat} {ds : List D} (h : ∀ d ∈ ds, d.wt ≤ n) : wtL ds ≤ (n + 1) * ds.length := by
  induction ds with
  | nil => simp [wtL]
  | cons d ds ih =>
    have h1 := h d List.mem_cons_self
    have h2 := ih fun e he => h e (List.mem_cons_of_mem _ he)
    simp only [wtL, List.length_cons, Nat.mul_add, Nat.mul_one]
    omega
end DL

/-! Plain laws of dict displays, dicts of numbers, the least of a list. -/
namespace DL
open PySem L2
section
variable {ρ : EnvD} {S : Store}
@[simp] theorem e_fDisp (fp : FP) : fDisp fp ρ S = (fp ρ (S ++ [.dic []])).bind fun ps S' => dispAt S.length ps S' := rfl
@[simp] theorem e_fPs0 : fPs0 ρ S = .ok [] S := rfl
@[simp] theorem e_fPs (fk fv : FE) (fr : FP) : fPs fk fv fr ρ S = (fk ρ S).bind fun x S => (fv ρ S).bind fun y S => (fr ρ S).bind fun ps S => .ok ((x, y) :: ps) S := rfl
end
theorem toPyL_ints : ∀ ns : List Int, toPyL (ns.map D.int) = some (ns.map PyData.int)
  | [] => rfl
  | n :: ns => by
    have := toPyL_ints ns
    simp [toPyL, toPy, this]
@[simp] theorem e_fGet2 {ρ : EnvD} {S : Store} (fo fe ff : FE) : fGet2 fo fe ff ρ S = (fo ρ S).bind fun x S => if (asD S x).isSome then (fe ρ S).bind fun y S => (ff ρ S).bind fun z S => gGet x y z S else .stuck := rfl
@[simp] theorem e_fGet1 {ρ : EnvD} {S : Store} (fo fe : FE) : fGet1 fo fe ρ S = (fo ρ S).bind fun x S => if (asD S x).isSome then (fe ρ S).bind fun y S => gGet x y .non S else .stuck := rfl
end DL

/-! Values and cells of webs, of any things: the program's word and the law's. -/
namespace K03
open PySem L2 DL
theorem map_injA {α β : Type} {f : α → β} (hf : ∀ a b, f a = f b → a = b) : ∀ {l m : List α}, l.map f = m.map f → l = m
  | [], [], _ => rfl
  | [], _ :: _, h => by simp at h
  | _ :: _, [], h => by simp at h
  | x :: l, y :: m, h => by
    simp only [List.map_cons, List.cons.injEq] at h
    rw [hf x y h.1, map_injA hf h.2]
@[simp] theorem str_inj {a b : String} : (Str.ofString a = Str.ofString b) ↔ a = b := by
  constructor
  · intro h
    rw [Str.ofString_eq_toList, Str.ofString_eq_toList] at h
    have h1 : a.toList.map Char.toNat = b.toList.map Char.toNat := by simpa using h
    have h2 := map_injA (fun x y e => by
      have : x.val.toNat = y.val.toNat := e
      exact Char.ext (UInt32.toNat_inj.mp this)) h1
    exact String.toList_inj.mp h2
  · rintro rfl
    rfl
noncomputable def ziw0 : FS := (gRet (fAndV (fCB gIsi (fCons (fVar 0) (fCons (fC (.ty "int")) (fun _ S => .ok [] S)))) (fAndV (fNotV (fCB gIsi (fCons (fVar 0) (fCons (fC (.ty "bool")) (fun _ S => .ok [] S))))) (fChain gLe gLe (fVar 1) (fVar 0) (fVar 2)))))
theorem ziw_eq : m_is_whole = ziw0 := rfl
noncomputable def zwh0 : FS := (gRet (fAndV (fCB gIsi (fCons (fVar 0) (fCons (fC (.ty "int")) (fun _ S => .ok [] S)))) (fAndV (fNotV (fCB gIsi (fCons (fVar 0) (fCons (fC (.ty "bool")) (fun _ S => .ok [] S))))) (fChain gLe gLe (fVar 1) (fVar 0) (fVar 2)))))
theorem zwh_eq : m_p_law_whole = zwh0 := rfl
noncomputable def zin0 : FS := (gRet (fCall (callSub S_is_whole) (fun ds es => pick [(0, 0), (0, 1), (0, 2)] ds es []) 3 0 3 (fCons (fVar 0) (fCons (fUn gNeg (fC (.int (1000000000)))) (fCons (fC (.int (1000000000))) (fun _ S => .ok [] S)))) (fun _ S => .ok [] S)))
theorem zin_eq : m_is_number = zin0 := rfl
noncomputable def zia0 : FS := (gIf (fOrT (fNotT (toB (fCB gIsi (fCons (fVar 0) (fCons (fC (.ty "tuple")) (fun _ S => .ok [] S)))))) (fOrT (toB (fBin gNe (fCB gLen (fCons (fVar 0) (fun _ S => .ok [] S))) (fC (.int 2)))) (fOrT (fNotT (toB (fCB gIsi (fCons (fBin gIx (fVar 0) (fC (.int 0))) (fCons (fC (.ty "str")) (fun _ S => .ok [] S)))))) (toB (fBin gNe (fBin gIx (fVar 0) (fC (.int 0))) (fC (.str "at"))))))) (gRet (fC (.bl false))) gNil)
noncomputable def zia1 : FS := (gRet (fAndV (fCB gIsi (fCons (fBin gIx (fVar 0) (fC (.int 1))) (fCons (fC (.ty "int")) (fun _ S => .ok [] S)))) (fAndV (fNotV (fCB gIsi (fCons (fBin gIx (fVar 0) (fC (.int 1))) (fCons (fC (.ty "bool")) (fun _ S => .ok [] S))))) (fBin gGe (fBin gIx (fVar 0) (fC (.int 1))) (fVar 1)))))
noncomputable def zia : FS := (gSeq zia0 zia1)
theorem zia_eq : m_is_at = zia := rfl
/-! ### a thing within bounds -/
def whl : D → Int → Int → Bool
  | .int i, a, b => decide (a ≤ i) && decide (i ≤ b)
  | _, _, _ => false
def okK : D → Bool
  | .non => true
  | .bl _ => true
  | .int _ => true
  | .str _ => true
  | .tup _ => true
  | .lst _ => true
  | .dic _ => true
  | _ => false
theorem whole_any {d : D} (h : okK d = true) (a b : Int) (S : Store) : S_is_whole [d, .int a, .int b] S = .ok (.bl (whl d a b)) S := by
  unfold S_is_whole
  rw [ziw_eq]
  unfold ziw0
  cases d with
  | int i =>
    by_cases h1 : a ≤ i <;> by_cases h2 : i ≤ b <;> simp [List.replicate, tyS, isiT, whl, h1, h2]
  | non => simp [List.replicate, tyS, isiT, whl]
  | bl x => simp [List.replicate, tyS, isiT, whl]
  | str x => simp [List.replicate, tyS, isiT, whl]
  | tup x => simp [List.replicate, tyS, isiT, whl]
  | lst x => simp [List.replicate, tyS, isiT, whl]
  | dic x => simp [List.replicate, tyS, isiT, whl]
  | _ => cases h
theorem c_whole {d : D} (h : okK d = true) (hp : d.pure = true) (a b : Int) (S : Store) : callSub S_is_whole [d, .int a, .int b] S = .ok (.bl (whl d a b)) S := callSub_ok (by simp [pureL, D.pure, hp]) (whole_any h a b []) (by rfl)
theorem lwhole_any {d : D} (h : okK d = true) (a b : Int) (S : Store) : S_p_law_whole [d, .int a, .int b] S = .ok (.bl (whl d a b)) S := by
  unfold S_p_law_whole
  rw [zwh_eq]
  unfold zwh0
  cases d with
  | int i =>
    by_cases h1 : a ≤ i <;> by_cases h2 : i ≤ b <;> simp [List.replicate, tyS, isiT, whl, h1, h2]
  | non => simp [List.replicate, tyS, isiT, whl]
  | bl x => simp [List.replicate, tyS, isiT, whl]
  | str x => simp [List.replicate, tyS, isiT, whl]
  | tup x => simp [List.replicate, tyS, isiT, whl]
  | lst x => simp [List.replicate, tyS, isiT, whl]
  | dic x => simp [List.replicate, tyS, isiT, whl]
  | _ => cases h
theorem c_lwhole {d : D} (h : okK d = true) (hp : d.pure = true) (a b : Int) (S : Store) : callSub S_p_law_whole [d, .int a, .int b] S = .ok (.bl (whl d a b)) S := callSub_ok (by simp [pureL, D.pure, hp]) (lwhole_any h a b []) (by rfl)
/-! ### numbers and places -/
end K03
namespace DL
open PySem L2
mutual
/-- what comes out of bending: trees of plain things, an empty dict among them -/
def D.tre : D → Bool
  | .non => true
  | .bl _ => true
  | .int i => decide (-10000000000000 < i ∧ i < 10000000000000)
  | .str _ => true
  | .tup ds => treL ds && decide (ds.length ≤ 1000)
  | .lst ds => treL ds && decide (ds.length ≤ 1000)
  | .dic [] => true
  | _ => false
def treL : List D → Bool
  | [] => true
  | d :: ds => d.tre && treL ds
end
theorem treL_all : ∀ {ds : List D}, treL ds = true ↔ ∀ d ∈ ds, d.tre = true
  | [] => by simp [treL]
  | d :: ds => by simp [treL, treL_all (ds := ds)]
mutual
theorem tre_pure : ∀ d : D, d.tre = true → d.pure = true
  | .non, _ => rfl
  | .bl _, _ => rfl
  | .int _, _ => rfl
  | .str _, _ => rfl
  | .tup ds, h => by
    simp only [D.tre, Bool.and_eq_true] at h
    simp only [D.pure]
    exact treL_pure ds h.1
  | .lst ds, h => by
    simp only [D.tre, Bool.and_eq_true] at h
    simp only [D.pure]
    exact treL_pure ds h.1
  | .dic [], _ => by simp [D.pure, pureK]
  | .dic (_ :: _), h => by simp [D.tre] at h
  | .ty _, h => by simp [D.tre] at h
  | .cls _, h => by simp [D.tre] at h
  | .scr _, h => by simp [D.tre] at h
  | .ins _ _, h => by simp [D.tre] at h
  | .oid _, h => by simp [D.tre] at h
  | .exc _ _, h => by simp [D.tre] at h
theorem treL_pure : ∀ ds : List D, treL ds = true → pureL ds = true
  | [], _ => rfl
  | d :: ds, h => by
    unfold treL at h
    rw [Bool.and_eq_true] at h
    unfold pureL
    rw [tre_pure d h.1, treL_pure ds h.2]
    rfl
end
theorem tre_tup {ds : List D} (h : (D.tup ds).tre = true) : (∀ d ∈ ds, d.tre = true) ∧ ds.length ≤ 1000 := by
  simp only [D.tre, Bool.and_eq_true, decide_eq_true_eq] at h
  exact ⟨treL_all.mp h.1, h.2⟩
theorem tre_hl {d : D} (h : d.tre = true) : ∀ ds, d = .tup ds → ds.length ≤ 1000 := by
  rintro ds rfl
  exact (tre_tup h).2
end DL
namespace K03
open PySem L2 DL
theorem tre_okK {d : D} (h : d.tre = true) : okK d = true := by
  cases d <;> first | rfl | (simp [D.tre] at h)
theorem len_t01 {ds : List D} (h : ds.length ≤ 1000) (S : Store) : gLen [.tup ds] S = .ok (.int ds.length) S := by
  have sh : short ds.length = true := short_le (by omega)
  simp [gLen, gLenQ, isDic1, isStr1, asD, asQ, sh]
theorem number_any {d : D} (h : okK d = true) (hp : d.pure = true) (S : Store) : S_is_number [d] S = .ok (.bl (whl d (-1000000000) 1000000000)) S := by
  unfold S_is_number
  rw [zin_eq]
  unfold zin0
  simp [List.replicate, c_whole h hp]
theorem c_number {d : D} (h : okK d = true) (hp : d.pure = true) (S : Store) : callSub S_is_number [d] S = .ok (.bl (whl d (-1000000000) 1000000000)) S := callSub_ok (by simp [pureL, D.pure, hp]) (number_any h hp []) (by rfl)
/-- ('at', z), z a whole number of at least 0 -/
def atA : D → Bool
  | .tup [.str w, .int z] => decide (w = Str.ofString "at") && decide (0 ≤ z)
  | _ => false
theorem at_any {d : D} (h : d.tre = true) (hl : ∀ ds, d = .tup ds → ds.length ≤ 1000) (S : Store) : S_is_at [d, .int 0] S = .ok (.bl (atA d)) S := by
  unfold S_is_at
  rw [zia_eq]
  unfold zia zia0 zia1
  cases d with
  | tup ds =>
    have l1 := len_t01 (hl ds rfl)
    rcases ds with _ | ⟨a, _ | ⟨b, _ | ⟨c, ds⟩⟩⟩
    · simp [List.replicate, tyS, isiT, atA, l1]
    · simp [List.replicate, tyS, isiT, atA, l1]
    · have hs : a.tre = true ∧ b.tre = true := by simpa [D.tre, treL] using h
      cases a with
      | str w =>
        by_cases hw : w = Str.ofString "at"
        · subst hw
          cases b with
          | int z => simp [List.replicate, tyS, isiT, atA, l1]; done
          | non => simp [List.replicate, tyS, isiT, atA, l1]
          | bl x => simp [List.replicate, tyS, isiT, atA, l1]
          | str x => simp [List.replicate, tyS, isiT, atA, l1]
          | tup x => simp [List.replicate, tyS, isiT, atA, l1]
          | lst x => simp [List.replicate, tyS, isiT, atA, l1]
          | dic x => simp [List.replicate, tyS, isiT, atA, l1]
          | _ => simp [D.tre] at hs
        · cases b <;> simp [List.replicate, tyS, isiT, atA, l1, hw]
      | non => simp [List.replicate, tyS, isiT, atA, l1]
      | bl x => simp [List.replicate, tyS, isiT, atA, l1]
      | int x => simp [List.replicate, tyS, isiT, atA, l1]
      | tup x => simp [List.replicate, tyS, isiT, atA, l1]
      | lst x => simp [List.replicate, tyS, isiT, atA, l1]
      | dic x => simp [List.replicate, tyS, isiT, atA, l1]
      | _ => simp [D.tre] at hs
    · have e : ((ds.length : Int) + 1 + 1 + 1 = 2) = False := by simp; omega
      simp [List.replicate, tyS, isiT, atA, l1, e]
  | non => simp [List.replicate, tyS, isiT, atA]
  | bl x => simp [List.replicate, tyS, isiT, atA]
  | int x => simp [List.replicate, tyS, isiT, atA]
  | str x => simp [List.replicate, tyS, isiT, atA]
  | lst x => simp [List.replicate, tyS, isiT, atA]
  | dic x => simp [List.replicate, tyS, isiT, atA]
  | _ => simp [D.tre] at h
end K03

/-! Values of webs, of any things. -/
namespace K03
open PySem L2 DL
noncomputable def ziv0 : FS := (gRet (fOrV (fBin gIs (fVar 0) (fC .non)) (fOrV (fCall (callSub S_is_number) (fun ds es => pick [(0, 0)] ds es []) 1 0 1 (fCons (fVar 0) (fun _ S => .ok [] S)) (fun _ S => .ok [] S)) (fAndV (fCall (callSub S_is_at) (fun ds es => pick [(0, 0), (0, 1)] ds es []) 2 0 2 (fCons (fVar 0) (fCons (fC (.int 0)) (fun _ S => .ok [] S))) (fun _ S => .ok [] S)) (fBin gLt (fBin gIx (fVar 0) (fC (.int 1))) (fVar 1))))))
theorem ziv_eq : m_is_value = ziv0 := rfl
noncomputable def zlv0 : FS := (gIf (toB (fCB gIsi (fCons (fVar 0) (fCons (fC (.ty "tuple")) (fun _ S => .ok [] S))))) (gRet (fAndV (fBin gEq (fCB gLen (fCons (fVar 0) (fun _ S => .ok [] S))) (fC (.int 2))) (fAndV (fCB gIsi (fCons (fBin gIx (fVar 0) (fC (.int 0))) (fCons (fC (.ty "str")) (fun _ S => .ok [] S)))) (fAndV (fBin gEq (fBin gIx (fVar 0) (fC (.int 0))) (fC (.str "at"))) (fCall (callSub S_p_law_whole) (fun ds es => pick [(0, 0), (0, 1), (0, 2)] ds es []) 3 0 3 (fCons (fBin gIx (fVar 0) (fC (.int 1))) (fCons (fC (.int 0)) (fCons (fBin gSub (fVar 1) (fC (.int 1))) (fun _ S => .ok [] S)))) (fun _ S => .ok [] S)))))) gNil)
noncomputable def zlv1 : FS := (gRet (fOrV (fBin gIs (fVar 0) (fC .non)) (fCall (callSub S_p_law_whole) (fun ds es => pick [(0, 0), (0, 1), (0, 2)] ds es []) 3 0 3 (fCons (fVar 0) (fCons (fUn gNeg (fBin gPow (fC (.int 10)) (fC (.int 9)))) (fCons (fBin gPow (fC (.int 10)) (fC (.int 9))) (fun _ S => .ok [] S)))) (fun _ S => .ok [] S))))
noncomputable def zlv : FS := (gSeq zlv0 zlv1)
theorem zlv_eq : m_p_law_is_value = zlv := rfl
theorem c_at {d : D} (h : d.tre = true) (hl : ∀ ds, d = .tup ds → ds.length ≤ 1000) (S : Store) : callSub S_is_at [d, .int 0] S = .ok (.bl (atA d)) S := callSub_ok (by simp [pureL, D.pure, tre_pure d h]) (at_any h hl []) (by rfl)
/-- a value of a web of n cells -/
def valA (n : Int) : D → Bool
  | .non => true
  | .int i => decide (-1000000000 ≤ i) && decide (i ≤ 1000000000)
  | .tup [.str w, .int z] => decide (w = Str.ofString "at") && (decide (0 ≤ z) && decide (z ≤ n - 1))
  | _ => false
theorem value_any {d : D} (h : d.tre = true) (hl : ∀ ds, d = .tup ds → ds.length ≤ 1000) (n : Int) (S : Store) : S_is_value [d, .int n] S = .ok (.bl (valA n d)) S := by
  unfold S_is_value
  rw [ziv_eq]
  unfold ziv0
  have a1 := c_at h hl
  have n1 := c_number (tre_okK h) (tre_pure d h)
  cases d with
  | tup ds =>
    rcases ds with _ | ⟨a, _ | ⟨b, _ | ⟨c, ds⟩⟩⟩
    · simp [List.replicate, n1, a1, whl, atA, valA]
    · simp [List.replicate, n1, a1, whl, atA, valA]
    · cases a with
      | str w =>
        cases b with
        | int z =>
          by_cases hw : w = Str.ofString "at"
          · subst hw
            by_cases hz : 0 ≤ z
            · by_cases h2 : z < n
              · have h3 : z ≤ n - 1 := by omega
                simp [List.replicate, n1, a1, whl, atA, valA, hz, h2, h3]
              · have h3 : ¬ z ≤ n - 1 := by omega
                simp [List.replicate, n1, a1, whl, atA, valA, hz, h2, h3]
            · simp [List.replicate, n1, a1, whl, atA, valA, hz]
          · simp [List.replicate, n1, a1, whl, atA, valA, hw]
        | _ => simp [List.replicate, n1, a1, whl, atA, valA]
      | _ => simp [List.replicate, n1, a1, whl, atA, valA]
    · simp [List.replicate, n1, a1, whl, atA, valA]
  | int i => by_cases h1 : (-1000000000 : Int) ≤ i <;> by_cases h2 : i ≤ 1000000000 <;> simp [List.replicate, n1, a1, whl, atA, valA, h1, h2]
  | non => simp [List.replicate, n1, a1, whl, atA, valA]
  | bl x => simp [List.replicate, n1, a1, whl, atA, valA]
  | str x => simp [List.replicate, n1, a1, whl, atA, valA]
  | lst x => simp [List.replicate, n1, a1, whl, atA, valA]
  | dic x => simp [List.replicate, n1, a1, whl, atA, valA, D.isNon]
  | _ => simp [D.tre] at h
theorem c_value {d : D} (h : d.tre = true) (hl : ∀ ds, d = .tup ds → ds.length ≤ 1000) (n : Int) (S : Store) : callSub S_is_value [d, .int n] S = .ok (.bl (valA n d)) S := callSub_ok (by simp [pureL, D.pure, tre_pure d h]) (value_any h hl n []) (by rfl)
theorem p109 (S : Store) : gPow (.int 10) (.int 9) S = .ok (.int 1000000000) S := by
  have : cPow 10 9 = true := by simp [cPow]
  simp [gPow, gI, this]
theorem lvalue_any {d : D} (h : d.tre = true) (hl : ∀ ds, d = .tup ds → ds.length ≤ 1000) (n : Int) (S : Store) : S_p_law_is_value [d, .int n] S = .ok (.bl (valA n d)) S := by
  unfold S_p_law_is_value
  rw [zlv_eq]
  unfold zlv zlv0 zlv1
  have n1 := c_lwhole (tre_okK h) (tre_pure d h)
  have p9 := p109
  cases d with
  | tup ds =>
    have l1 := len_t01 (hl ds rfl)
    rcases ds with _ | ⟨a, _ | ⟨b, _ | ⟨c, ds⟩⟩⟩
    · simp [List.replicate, tyS, isiT, l1, valA]
    · simp [List.replicate, tyS, isiT, l1, valA]
    · have hs : a.tre = true ∧ b.tre = true := by simpa [D.tre, treL] using h
      have w1 := c_lwhole (tre_okK hs.2) (tre_pure b hs.2)
      cases a with
      | str w =>
        by_cases hw : w = Str.ofString "at"
        · subst hw
          cases b <;> simp [List.replicate, tyS, isiT, l1, valA, w1, whl]
        · simp [List.replicate, tyS, isiT, l1, valA, hw]
          cases b <;> simp [valA, hw]
      | non => simp [List.replicate, tyS, isiT, l1, valA]
      | bl x => simp [List.replicate, tyS, isiT, l1, valA]
      | int x => simp [List.replicate, tyS, isiT, l1, valA]
      | tup x => simp [List.replicate, tyS, isiT, l1, valA]
      | lst x => simp [List.replicate, tyS, isiT, l1, valA]
      | dic x => simp [List.replicate, tyS, isiT, l1, valA]
      | _ => simp [D.tre] at hs
    · have e : ((ds.length : Int) + 1 + 1 + 1 = 2) = False := by simp; omega
      simp [List.replicate, tyS, isiT, l1, e, valA]
  | int i => simp [List.replicate, tyS, isiT, n1, whl, valA, p9]
  | non => simp [List.replicate, tyS, isiT, n1, whl, valA, p9]
  | bl x => simp [List.replicate, tyS, isiT, n1, whl, valA, p9]
  | str x => simp [List.replicate, tyS, isiT, n1, whl, valA, p9]
  | lst x => simp [List.replicate, tyS, isiT, n1, whl, valA, p9]
  | dic x => simp [List.replicate, tyS, isiT, n1, whl, valA, D.isNon, p9]
  | _ => simp [D.tre] at h
theorem c_lvalue {d : D} (h : d.tre = true) (hl : ∀ ds, d = .tup ds → ds.length ≤ 1000) (n : Int) (S : Store) : callSub S_p_law_is_value [d, .int n] S = .ok (.bl (valA n d)) S := callSub_ok (by simp [pureL, D.pure, tre_pure d h]) (lvalue_any h hl n []) (by rfl)
end K03

/-! Cells of webs, of any things. -/
namespace K03
open PySem L2 DL
noncomputable def zic0 : FS := (gIf (fOrT (fNotT (toB (fCB gIsi (fCons (fVar 0) (fCons (fC (.ty "tuple")) (fun _ S => .ok [] S)))))) (fOrT (toB (fBin gNe (fCB gLen (fCons (fVar 0) (fun _ S => .ok [] S))) (fC (.int 2)))) (fNotT (toB (fCB gIsi (fCons (fBin gIx (fVar 0) (fC (.int 0))) (fCons (fC (.ty "str")) (fun _ S => .ok [] S)))))))) (gRet (fC (.bl false))) gNil)
noncomputable def zic1 : FS := (gIf (toB (fBin gEq (fBin gIx (fVar 0) (fC (.int 0))) (fC (.str "tie")))) (gRet (fOrV (fBin gIs (fBin gIx (fVar 0) (fC (.int 1))) (fC .non)) (fCall (callSub S_is_whole) (fun ds es => pick [(0, 0), (0, 1), (0, 2)] ds es []) 3 0 3 (fCons (fBin gIx (fVar 0) (fC (.int 1))) (fCons (fC (.int 0)) (fCons (fBin gSub (fVar 1) (fC (.int 1))) (fun _ S => .ok [] S)))) (fun _ S => .ok [] S)))) gNil)
noncomputable def zic2 : FS := (gIf (fOrT (toB (fBin gNotIn (fBin gIx (fVar 0) (fC (.int 0))) (fTup (fCons (fC (.str "cell")) (fCons (fC (.str "last")) (fun _ S => .ok [] S)))))) (fOrT (fNotT (toB (fCB gIsi (fCons (fBin gIx (fVar 0) (fC (.int 1))) (fCons (fC (.ty "tuple")) (fun _ S => .ok [] S)))))) (toB (fBin gGt (fCB gLen (fCons (fBin gIx (fVar 0) (fC (.int 1))) (fun _ S => .ok [] S))) (fC (.int (6))))))) (gRet (fC (.bl false))) gNil)
noncomputable def zic3 : FS := (gRet (fCB (gAllAny true) (fCons (fComp (fSeq (fBin gIx (fVar 0) (fC (.int 1)))) (mName 2) fYes (fCall (callSub S_is_value) (fun ds es => pick [(0, 0), (1, 0)] ds es []) 1 1 2 (fCons (fVar 2) (fun _ S => .ok [] S)) (fCons (fVar 1) (fun _ S => .ok [] S))) ([("one", 2)].map (·.2)) finL) (fun _ S => .ok [] S))))
noncomputable def zic : FS := (gSeq zic0 (gSeq zic1 (gSeq zic2 zic3)))
theorem zic_eq : m_is_cell = zic := rfl
theorem all_bl01 {α : Type} (g : α → Bool) (l : List α) (S : Store) : gAllAny true [.lst (l.map fun x => D.bl (g x))] S = .ok (.bl (l.all g)) S := by
  have h : bsOf (l.map fun x => D.bl (g x)) = some (l.map g) := by
    induction l with
    | nil => rfl
    | cons z l ih => simp [bsOf, ih]
  simp [gAllAny, h, List.all_map, Function.comp_def]
/-- the thing a tie holds -/
def tieA (n : Int) (z : D) : Bool := z.isNon || whl z 0 (n - 1)
/-- the fields of a cell -/
def insA (n : Int) : D → Bool
  | .tup ds => decide (ds.length ≤ 6) && ds.all (valA n)
  | _ => false
def cellA (n : Int) : D → Bool
  | .tup [.str w, z] => if w = Str.ofString "tie" then tieA n z else if w = Str.ofString "cell" ∨ w = Str.ofString "last" then insA n z else false
  | _ => false
theorem inF2 (w : Str) : inF (.str w) [.str "cell", .str "last"] = (decide (w = Str.ofString "cell") || decide (w = Str.ofString "last")) := by
  have e : ∀ a : Str, (a == w) = decide (w = a) := fun a => by
    by_cases q : w = a
    · subst q
      simp
    · rw [decide_eq_false q, beq_eq_false_iff_ne]
      exact fun z => q z.symm
  simp [inF, eqF, e]
theorem vals_comp {n : Int} {zs : List D} (hz : ∀ z ∈ zs, z.tre = true) (ρ : EnvD) (S : Store) {k : Nat} {m : FG} {fe : FE} (h : ∀ d ∈ zs, ∃ ρ1, m d ρ S = some ρ1 ∧ fe ρ1 S = .ok (.bl (valA n d)) S) :
    compF none m fYes fe zs ρ S = .ok (zs.map fun d => .bl (valA n d)) S := comp_map (f := fun d => .bl (valA n d)) zs h
theorem cell_any {d : D} (h : d.tre = true) (n : Int) (S : Store) : S_is_cell [d, .int n] S = .ok (.bl (cellA n d)) S := by
  unfold S_is_cell
  rw [zic_eq]
  unfold zic zic0 zic1 zic2 zic3
  cases d with
  | tup ds =>
    have l1 := len_t01 (tre_hl h ds rfl)
    rcases ds with _ | ⟨a, _ | ⟨b, _ | ⟨c, ds⟩⟩⟩
    · simp [List.replicate, tyS, isiT, l1, cellA]
    · simp [List.replicate, tyS, isiT, l1, cellA]
    · obtain ⟨ha, _⟩ := tre_tup h
      have hb : b.tre = true := ha b (by simp)
      have ha : a.tre = true := ha a (by simp)
      have w1 := c_whole (tre_okK hb) (tre_pure b hb)
      cases a with
      | str w =>
        by_cases hw : w = Str.ofString "tie"
        · subst hw
          cases q : b.isNon <;> simp [List.replicate, tyS, isiT, l1, cellA, tieA, w1, q]
        · by_cases hc : w = Str.ofString "cell" ∨ w = Str.ofString "last"
          · have i1 : inF (.str w) [.str "cell", .str "last"] = true := by rw [inF2]; simpa using hc
            cases b with
            | tup zs =>
              have l2 := len_t01 (tre_hl hb zs rfl)
              obtain ⟨hz, hz2⟩ := tre_tup hb
              have sh : short zs.length = true := short_le (by omega)
              by_cases h6 : zs.length ≤ 6
              · have h6' : ¬ (6 : Int) < (zs.length : Int) := by omega
                simp [List.replicate, tyS, isiT, l1, l2, cellA, insA, hw, hc, gInQ, D.flat, i1, h6, h6']
                rw [vals_comp (n := n) hz (k := 0)]
                · simp [sh, all_bl01]
                · intro d hd
                  exact ⟨_, rfl, by simp [c_value (hz d hd) (tre_hl (hz d hd))]⟩
              · have h6' : (6 : Int) < (zs.length : Int) := by omega
                simp [List.replicate, tyS, isiT, l1, l2, cellA, insA, hw, hc, gInQ, D.flat, i1, h6, h6']
            | non => simp [List.replicate, tyS, isiT, l1, cellA, insA, hw, hc, gInQ, D.flat, i1]
            | bl x => simp [List.replicate, tyS, isiT, l1, cellA, insA, hw, hc, gInQ, D.flat, i1]
            | int x => simp [List.replicate, tyS, isiT, l1, cellA, insA, hw, hc, gInQ, D.flat, i1]
            | str x => simp [List.replicate, tyS, isiT, l1, cellA, insA, hw, hc, gInQ, D.flat, i1]
            | lst x => simp [List.replicate, tyS, isiT, l1, cellA, insA, hw, hc, gInQ, D.flat, i1]
            | dic x => simp [List.replicate, tyS, isiT, l1, cellA, insA, hw, hc, gInQ, D.flat, i1]
            | _ => simp [D.tre] at hb
          · have i1 : inF (.str w) [.str "cell", .str "last"] = false := by rw [inF2]; simpa [not_or] using hc
            simp [List.replicate, tyS, isiT, l1, cellA, hw, hc, gInQ, D.flat, i1]
      | non => simp [List.replicate, tyS, isiT, l1, cellA]
      | bl x => simp [List.replicate, tyS, isiT, l1, cellA]
      | int x => simp [List.replicate, tyS, isiT, l1, cellA]
      | tup x => simp [List.replicate, tyS, isiT, l1, cellA]
      | lst x => simp [List.replicate, tyS, isiT, l1, cellA]
      | dic x => simp [List.replicate, tyS, isiT, l1, cellA]
      | _ => simp [D.tre] at ha
    · have e : ((ds.length : Int) + 1 + 1 + 1 = 2) = False := by simp; omega
      simp [List.replicate, tyS, isiT, l1, e, cellA]
  | non => simp [List.replicate, tyS, isiT, cellA]
  | bl x => simp [List.replicate, tyS, isiT, cellA]
  | int x => simp [List.replicate, tyS, isiT, cellA]
  | str x => simp [List.replicate, tyS, isiT, cellA]
  | lst x => simp [List.replicate, tyS, isiT, cellA]
  | dic x => simp [List.replicate, tyS, isiT, cellA]
  | _ => simp [D.tre] at h
theorem c_cell {d : D} (h : d.tre = true) (n : Int) (S : Store) : callSub S_is_cell [d, .int n] S = .ok (.bl (cellA n d)) S := callSub_ok (by simp [pureL, D.pure, tre_pure d h]) (cell_any h n []) (by rfl)
end K03

/-! Cells of webs, of any things, by the law. -/
namespace K03
open PySem L2 DL
noncomputable def zlc0 : FS := (gIf (fOrT (fNotT (toB (fCB gIsi (fCons (fVar 0) (fCons (fC (.ty "tuple")) (fun _ S => .ok [] S)))))) (fOrT (toB (fBin gNe (fCB gLen (fCons (fVar 0) (fun _ S => .ok [] S))) (fC (.int 2)))) (fNotT (toB (fCB gIsi (fCons (fBin gIx (fVar 0) (fC (.int 0))) (fCons (fC (.ty "str")) (fun _ S => .ok [] S)))))))) (gRet (fC (.bl false))) gNil)
noncomputable def zlc1 : FS := (gAsg (mTup 2 (mCons (mName 2) (mCons (mName 3) (fun ds ρ _ => match ds with | [] => some ρ | _ => none)))) (fVar 0))
noncomputable def zlc2 : FS := (gIf (toB (fBin gEq (fVar 2) (fC (.str "tie")))) (gRet (fOrV (fBin gIs (fVar 3) (fC .non)) (fCall (callSub S_p_law_whole) (fun ds es => pick [(0, 0), (0, 1), (0, 2)] ds es []) 3 0 3 (fCons (fVar 3) (fCons (fC (.int 0)) (fCons (fBin gSub (fVar 1) (fC (.int 1))) (fun _ S => .ok [] S)))) (fun _ S => .ok [] S)))) gNil)
noncomputable def zlc3 : FS := (gIf (fOrT (fAndT (toB (fBin gNe (fVar 2) (fC (.str "cell")))) (toB (fBin gNe (fVar 2) (fC (.str "last"))))) (fOrT (fNotT (toB (fCB gIsi (fCons (fVar 3) (fCons (fC (.ty "tuple")) (fun _ S => .ok [] S)))))) (toB (fBin gGt (fCB gLen (fCons (fVar 3) (fun _ S => .ok [] S))) (fC (.int 6)))))) (gRet (fC (.bl false))) gNil)
noncomputable def zlc4 : FS := (gRet (fCB (gAllAny true) (fCons (fComp (fSeq (fVar 3)) (mName 4) fYes (fCall (callSub S_p_law_is_value) (fun ds es => pick [(0, 0), (0, 1)] ds es []) 2 0 2 (fCons (fVar 4) (fCons (fVar 1) (fun _ S => .ok [] S))) (fun _ S => .ok [] S)) ([("_law_one", 4)].map (·.2)) finL) (fun _ S => .ok [] S))))
noncomputable def zlc : FS := (gSeq zlc0 (gSeq zlc1 (gSeq zlc2 (gSeq zlc3 zlc4))))
theorem zlc_eq : m_p_law_is_cell = zlc := rfl
theorem lcell_any {d : D} (h : d.tre = true) (n : Int) (S : Store) : S_p_law_is_cell [d, .int n] S = .ok (.bl (cellA n d)) S := by
  unfold S_p_law_is_cell
  rw [zlc_eq]
  unfold zlc zlc0 zlc1 zlc2 zlc3 zlc4
  cases d with
  | tup ds =>
    have l1 := len_t01 (tre_hl h ds rfl)
    rcases ds with _ | ⟨a, _ | ⟨b, _ | ⟨c, ds⟩⟩⟩
    · simp [List.replicate, tyS, isiT, l1, cellA]
    · simp [List.replicate, tyS, isiT, l1, cellA]
    · obtain ⟨ha, _⟩ := tre_tup h
      have hb : b.tre = true := ha b (by simp)
      have ha : a.tre = true := ha a (by simp)
      have w1 := c_lwhole (tre_okK hb) (tre_pure b hb)
      cases a with
      | str w =>
        by_cases hw : w = Str.ofString "tie"
        · subst hw
          cases q : b.isNon <;> simp [List.replicate, tyS, isiT, l1, cellA, tieA, w1, q]
        · by_cases hc : w = Str.ofString "cell" ∨ w = Str.ofString "last"
          · have i1 : ¬ (¬ w = Str.ofString "cell" ∧ ¬ w = Str.ofString "last") := fun z => hc.elim z.1 z.2
            have i2 : ¬ w = Str.ofString "cell" → w = Str.ofString "last" := fun z => hc.resolve_left z
            cases b with
            | tup zs =>
              have l2 := len_t01 (tre_hl hb zs rfl)
              obtain ⟨hz, hz2⟩ := tre_tup hb
              have sh : short zs.length = true := short_le (by omega)
              by_cases h6 : zs.length ≤ 6
              · have h6' : ¬ (6 : Int) < (zs.length : Int) := by omega
                by_cases hk : w = Str.ofString "cell"
                all_goals
                  simp [List.replicate, tyS, isiT, l1, l2, cellA, insA, hw, hk, i2, h6, h6']
                  rw [vals_comp (n := n) hz (k := 0)]
                  · simp [sh, all_bl01]
                  · intro d hd
                    exact ⟨_, rfl, by simp [c_lvalue (hz d hd) (tre_hl (hz d hd))]⟩
              · have h6' : (6 : Int) < (zs.length : Int) := by omega
                by_cases hk : w = Str.ofString "cell" <;> simp [List.replicate, tyS, isiT, l1, l2, cellA, insA, hw, hk, i2, h6, h6']
            | non => by_cases hk : w = Str.ofString "cell" <;> simp [List.replicate, tyS, isiT, l1, cellA, insA, hw, hk, i2]
            | bl x => by_cases hk : w = Str.ofString "cell" <;> simp [List.replicate, tyS, isiT, l1, cellA, insA, hw, hk, i2]
            | int x => by_cases hk : w = Str.ofString "cell" <;> simp [List.replicate, tyS, isiT, l1, cellA, insA, hw, hk, i2]
            | str x => by_cases hk : w = Str.ofString "cell" <;> simp [List.replicate, tyS, isiT, l1, cellA, insA, hw, hk, i2]
            | lst x => by_cases hk : w = Str.ofString "cell" <;> simp [List.replicate, tyS, isiT, l1, cellA, insA, hw, hk, i2]
            | dic x => by_cases hk : w = Str.ofString "cell" <;> simp [List.replicate, tyS, isiT, l1, cellA, insA, hw, hk, i2]
            | _ => simp [D.tre] at hb
          · obtain ⟨k1, k2⟩ := not_or.mp hc
            simp [List.replicate, tyS, isiT, l1, cellA, hw, k1, k2]
      | non => simp [List.replicate, tyS, isiT, l1, cellA]
      | bl x => simp [List.replicate, tyS, isiT, l1, cellA]
      | int x => simp [List.replicate, tyS, isiT, l1, cellA]
      | tup x => simp [List.replicate, tyS, isiT, l1, cellA]
      | lst x => simp [List.replicate, tyS, isiT, l1, cellA]
      | dic x => simp [List.replicate, tyS, isiT, l1, cellA]
      | _ => simp [D.tre] at ha
    · have e : ((ds.length : Int) + 1 + 1 + 1 = 2) = False := by simp; omega
      simp [List.replicate, tyS, isiT, l1, e, cellA]
  | non => simp [List.replicate, tyS, isiT, cellA]
  | bl x => simp [List.replicate, tyS, isiT, cellA]
  | int x => simp [List.replicate, tyS, isiT, cellA]
  | str x => simp [List.replicate, tyS, isiT, cellA]
  | lst x => simp [List.replicate, tyS, isiT, cellA]
  | dic x => simp [List.replicate, tyS, isiT, cellA]
  | _ => simp [D.tre] at h
theorem c_lcell {d : D} (h : d.tre = true) (n : Int) (S : Store) : callSub S_p_law_is_cell [d, .int n] S = .ok (.bl (cellA n d)) S := callSub_ok (by simp [pureL, D.pure, tre_pure d h]) (lcell_any h n []) (by rfl)
end K03

/-! Webs of rows that lie anyhow. -/
namespace K03
open PySem L2 DL
noncomputable def zis0 : FS := (gRet (fCB gIsi (fCons (fVar 0) (fCons (fTup (fCons (fC (.ty "list")) (fCons (fC (.ty "tuple")) (fun _ S => .ok [] S)))) (fun _ S => .ok [] S)))))
theorem zis_eq : m_is_row = zis0 := rfl
theorem compC_nil {e : D} {es : List D} {m : FG} {ft : FT} {fe : FE} {ρ : EnvD} {S : Store} (hS : asL S e = some es) : compF (some (e, es)) m ft fe [] ρ S = .ok [] S := by
  unfold compF
  rw [if_pos (show okC (some (e, es)) S from hS)]
theorem compC_map {e : D} {es : List D} {m : FG} {fe : FE} {f : D → D} {ρ : EnvD} {S : Store} (hS : asL S e = some es) : ∀ (ds : List D), (∀ d ∈ ds, ∃ ρ1, m d ρ S = some ρ1 ∧ fe ρ1 S = .ok (f d) S) → compF (some (e, es)) m fYes fe ds ρ S = .ok (ds.map f) S
  | [], _ => compC_nil hS
  | d :: ds, h => by
    obtain ⟨ρ1, h1, h2⟩ := h d List.mem_cons_self
    have ih := compC_map hS ds (fun x hx => h x (List.mem_cons_of_mem _ hx))
    rw [compF, if_pos (show okC (some (e, es)) S from hS), h1]
    simp only [fYes, Res.noEx_ok, Res.bind_ok, if_true, h2, ih, List.map_cons]
/-- a row: a tuple, a new list, or a list object -/
def RowS (S : Store) (d : D) (ds : List D) : Prop := d = .tup ds ∨ d = .lst ds ∨ ∃ n, d = .oid n ∧ S[n]? = some (.lst ds)
theorem seq_row {S : Store} {d : D} {ds : List D} (h : RowS S d ds) : ∃ c, seqD d S = .ok ⟨ds, c⟩ S ∧ ∀ (m : FG) (fe : FE) (f : D → D) (ρ : EnvD), (∀ x ∈ ds, ∃ ρ1, m x ρ S = some ρ1 ∧ fe ρ1 S = .ok (f x) S) → compF c m fYes fe ds ρ S = .ok (ds.map f) S := by
  rcases h with rfl | rfl | ⟨n, rfl, h⟩
  · exact ⟨none, rfl, fun m fe f ρ q => comp_map ds q⟩
  · exact ⟨none, rfl, fun m fe f ρ q => comp_map ds q⟩
  · have e : asL S (.oid n) = some ds := by simp [asL, h]
    exact ⟨some (.oid n, ds), by simp [seqD, e], fun m fe f ρ q => compC_map e ds q⟩
theorem len_row {S : Store} {d : D} {ds : List D} (h : RowS S d ds) (hl : ds.length ≤ 1000) : gLen [d] S = .ok (.int ds.length) S := by
  have sh : short ds.length = true := short_le (by omega)
  rcases h with rfl | rfl | ⟨n, rfl, h⟩
  · exact len_t01 hl S
  · simp [gLen, gLenQ, isDic1, isStr1, asD, asQ, asL, sh]
  · simp [gLen, gLenQ, isDic1, isStr1, asD, asQ, asL, h, sh]
theorem ty_row {S : Store} {d : D} {ds : List D} (h : RowS S d ds) : tyS S d = some "list" ∨ tyS S d = some "tuple" := by
  rcases h with rfl | rfl | ⟨n, rfl, h⟩
  · exact .inr rfl
  · exact .inl rfl
  · exact .inl (by simp [tyS, h])
theorem isrow_ty {S : Store} {d : D} {T : String} (h : tyS S d = some T) (ht : T ∈ tysO) : S_is_row [d] S = .ok (.bl (decide (T = "list") || decide (T = "tuple"))) S := by
  unfold S_is_row
  rw [zis_eq]
  unfold zis0
  simp only [tysO, List.mem_cons, List.not_mem_nil, or_false] at ht
  rcases ht with rfl | rfl | rfl | rfl | rfl | rfl | rfl <;> simp [List.replicate, h, tysOf, isiA, isiT]
theorem isrow_row {S : Store} {d : D} {ds : List D} (h : RowS S d ds) : S_is_row [d] S = .ok (.bl true) S := by
  rcases ty_row h with e | e <;> (rw [isrow_ty e (by decide)]; rfl)
/-- both rows -/
def webA (cs ps : List D) : Bool := cs.all (cellA cs.length) && ps.all (valA cs.length)
end K03

/-! Webs of rows that lie anyhow: both words. -/
namespace K03
open PySem L2 DL
noncomputable def zib0 : FS := (gIf (fOrT (fNotT (toB (fCall S_is_row (fun ds es => pick [(0, 0)] ds es []) 1 0 1 (fCons (fVar 0) (fun _ S => .ok [] S)) (fun _ S => .ok [] S)))) (fNotT (toB (fCall S_is_row (fun ds es => pick [(0, 0)] ds es []) 1 0 1 (fCons (fVar 1) (fun _ S => .ok [] S)) (fun _ S => .ok [] S))))) (gRet (fC (.bl false))) gNil)
noncomputable def zib1 : FS := (gSet 2 (fCB gLen (fCons (fVar 0) (fun _ S => .ok [] S))))
noncomputable def zib2 : FS := (gRet (fAndV (fCB (gAllAny true) (fCons (fComp (fSeq (fVar 0)) (mName 3) fYes (fCall (callSub S_is_cell) (fun ds es => pick [(0, 0), (1, 0)] ds es []) 1 1 2 (fCons (fVar 3) (fun _ S => .ok [] S)) (fCons (fVar 2) (fun _ S => .ok [] S))) ([("one", 3)].map (·.2)) finL) (fun _ S => .ok [] S))) (fCB (gAllAny true) (fCons (fComp (fSeq (fVar 1)) (mName 3) fYes (fCall (callSub S_is_value) (fun ds es => pick [(0, 0), (1, 0)] ds es []) 1 1 2 (fCons (fVar 3) (fun _ S => .ok [] S)) (fCons (fVar 2) (fun _ S => .ok [] S))) ([("one", 3)].map (·.2)) finL) (fun _ S => .ok [] S)))))
noncomputable def zib : FS := (gSeq zib0 (gSeq zib1 zib2))
theorem zib_eq : m_is_web = zib := rfl
noncomputable def zlw0 : FS := (gIf (fOrT (fNotT (toB (fCB gIsi (fCons (fVar 0) (fCons (fTup (fCons (fC (.ty "list")) (fCons (fC (.ty "tuple")) (fun _ S => .ok [] S)))) (fun _ S => .ok [] S)))))) (fNotT (toB (fCB gIsi (fCons (fVar 1) (fCons (fTup (fCons (fC (.ty "list")) (fCons (fC (.ty "tuple")) (fun _ S => .ok [] S)))) (fun _ S => .ok [] S))))))) (gRet (fC (.bl false))) gNil)
noncomputable def zlw1 : FS := (gIf (fNotT (toB (fCB (gAllAny true) (fCons (fComp (fSeq (fVar 0)) (mName 2) fYes (fCall (callSub S_p_law_is_cell) (fun ds es => pick [(0, 0), (0, 1)] ds es []) 2 0 2 (fCons (fVar 2) (fCons (fCB gLen (fCons (fVar 0) (fun _ S => .ok [] S))) (fun _ S => .ok [] S))) (fun _ S => .ok [] S)) ([("_law_one", 2)].map (·.2)) finL) (fun _ S => .ok [] S))))) (gRet (fC (.bl false))) gNil)
noncomputable def zlw2 : FS := (gRet (fCB (gAllAny true) (fCons (fComp (fSeq (fVar 1)) (mName 2) fYes (fCall (callSub S_p_law_is_value) (fun ds es => pick [(0, 0), (0, 1)] ds es []) 2 0 2 (fCons (fVar 2) (fCons (fCB gLen (fCons (fVar 0) (fun _ S => .ok [] S))) (fun _ S => .ok [] S))) (fun _ S => .ok [] S)) ([("_law_one", 2)].map (·.2)) finL) (fun _ S => .ok [] S))))
noncomputable def zlw : FS := (gSeq zlw0 (gSeq zlw1 zlw2))
theorem zlw_eq : m_p_law_is_web = zlw := rfl
theorem web_any {S : Store} {d e : D} {cs ps : List D} (h1 : RowS S d cs) (h2 : RowS S e ps) (t1 : ∀ x ∈ cs, x.tre = true) (t2 : ∀ x ∈ ps, x.tre = true) (l1 : cs.length ≤ 1000) (l2 : ps.length ≤ 1000) : S_is_web [d, e] S = .ok (.bl (webA cs ps)) S := by
  unfold S_is_web
  rw [zib_eq]
  unfold zib zib0 zib1 zib2
  obtain ⟨c1, q1, r1⟩ := seq_row h1
  obtain ⟨c2, q2, r2⟩ := seq_row h2
  have s1 : short cs.length = true := short_le (by omega)
  have s2 : short ps.length = true := short_le (by omega)
  simp [List.replicate, isrow_row h1, isrow_row h2, len_row h1 l1, q1]
  rw [r1 _ _ (fun x => .bl (cellA cs.length x)) _ (fun x hx => ⟨_, rfl, by simp [c_cell (t1 x hx)]⟩)]
  cases w1 : cs.all (cellA cs.length)
  · simp [s1, all_bl01, w1, webA]
  · simp [s1, all_bl01, w1, webA, q2]
    rw [r2 _ _ (fun x => .bl (valA cs.length x)) _ (fun x hx => ⟨_, rfl, by simp [c_value (t2 x hx) (tre_hl (t2 x hx))]⟩)]
    simp [s2, all_bl01]
theorem lweb_any {S : Store} {d e : D} {cs ps : List D} (h1 : RowS S d cs) (h2 : RowS S e ps) (t1 : ∀ x ∈ cs, x.tre = true) (t2 : ∀ x ∈ ps, x.tre = true) (l1 : cs.length ≤ 1000) (l2 : ps.length ≤ 1000) : S_p_law_is_web [d, e] S = .ok (.bl (webA cs ps)) S := by
  unfold S_p_law_is_web
  rw [zlw_eq]
  unfold zlw zlw0 zlw1 zlw2
  obtain ⟨c1, q1, r1⟩ := seq_row h1
  obtain ⟨c2, q2, r2⟩ := seq_row h2
  have s1 : short cs.length = true := short_le (by omega)
  have s2 : short ps.length = true := short_le (by omega)
  have y1 : tyS S d = some "list" ∨ tyS S d = some "tuple" := ty_row h1
  have y2 : tyS S e = some "list" ∨ tyS S e = some "tuple" := ty_row h2
  rcases y1 with y1 | y1 <;> rcases y2 with y2 | y2
  all_goals
    simp [List.replicate, y1, y2, tysOf, isiA, isiT, q1]
    rw [r1 _ _ (fun x => .bl (cellA cs.length x)) _ (fun x hx => ⟨_, rfl, by simp [c_lcell (t1 x hx), len_row h1 l1]⟩)]
    cases w1 : cs.all (cellA cs.length)
    · simp [s1, all_bl01, w1, webA]
    · simp [s1, all_bl01, w1, webA, q2]
      rw [r2 _ _ (fun x => .bl (valA cs.length x)) _ (fun x hx => ⟨_, rfl, by simp [c_lvalue (t2 x hx) (tre_hl (t2 x hx)), len_row h1 l1]⟩)]
      simp [s2, all_bl01]
end K03

/-! Draws of the state, odd things. -/
namespace K03
open PySem L2 DL
noncomputable def zne0 : FS := (gSet 2 (fBin gMod (fBin gIx (fVar 0) (fC (.int 0))) (fVar 1)))
noncomputable def zne1 : FS := (gPut (fVar 0) (fC (.int 0)) (fBin gDiv (fBin gIx (fVar 0) (fC (.int 0))) (fVar 1)))
noncomputable def zne2 : FS := (gRet (fVar 2))
noncomputable def zne : FS := (gSeq zne0 (gSeq zne1 zne2))
theorem zne_eq : m_p_law_next = zne := rfl
theorem lt_of {S : Store} {s : Nat} {o : SO} (h : S[s]? = some o) : s < S.length := (List.getElem?_eq_some_iff.mp h).1
theorem set_ne {S : Store} {i j : Nat} {o : SO} (h : i ≠ j) : (S.set i o)[j]? = S[j]? := List.getElem?_set_ne h
theorem set_eq {S : Store} {i : Nat} {o u : SO} (h : S[i]? = some u) : (S.set i o)[i]? = some o := by
  rw [List.getElem?_set_self (List.getElem?_eq_some_iff.mp h).1]
theorem app_old {S T : Store} {j : Nat} {o : SO} (h : S[j]? = some o) : (S ++ T)[j]? = some o := by
  rw [List.getElem?_append_left (lt_of h)]
  exact h
/-- the state at n -/
def Sta (S : Store) (n : Nat) : Prop := ∃ v, S[n]? = some (.lst [.int v])
theorem next_any {S : Store} {s : Nat} {v : Int} (hS : S[s]? = some (.lst [.int v])) (m : Int) (h1 : 0 < m) (h2 : m < 1073741824) : S_p_law_next [.oid s, .int m] S = .ok (.int (v % m)) (S.set s (.lst [.int (v / m)])) := by
  have a1 : asD S (.oid s) = none := by simp [asD, hS]
  have a2 : isS (.oid s) (.int 0) S = false := rfl
  have a3 : asQ S (.oid s) = some [.int v] := by simp [asQ, asL, hS]
  have i0 : gIx (.oid s) (.int 0) S = .ok (.int v) S := by
    have q : atI [D.int v] 0 = some (.int v) := rfl
    simp [gIx, pDic1, a1, a2, gIxQ, a3, q]
  have st : storeAt (.oid s) (.int 0) (.int (v / m)) S = some (S.set s (.lst [.int (v / m)])) := by
    simp [storeAt, hS, ixN]
  have dv := e_gDiv (S := S) v m h1 (by omega)
  unfold S_p_law_next
  rw [zne_eq]
  unfold zne zne0 zne1 zne2
  simp [List.replicate, i0, h1, dv, st]
/-- a draw below m -/
theorem drawS {S : Store} {s : Nat} (h : Sta S s) (m : Nat) (h1 : 0 < m) (h2 : m < 1073741824) : ∃ (x : Nat) (v' : Int), x < m ∧ S_p_law_next [.oid s, .int m] S = .ok (.int x) (S.set s (.lst [.int v'])) ∧ Sta (S.set s (.lst [.int v'])) s := by
  obtain ⟨v, hv⟩ := h
  have p : 0 ≤ v % (m : Int) := Int.emod_nonneg _ (by omega)
  have q : v % (m : Int) < m := Int.emod_lt_of_pos _ (by omega)
  obtain ⟨x, hx⟩ := Int.eq_ofNat_of_zero_le p
  refine ⟨x, v / m, by omega, ?_, _, set_eq hv⟩
  rw [next_any hv m (by omega) (by omega), hx]
end K03

/-! Odd things. -/
namespace K03
open PySem L2 DL
noncomputable def zod0 : FS := (gSet 1 (fLst (fCons (fC (.bl true)) (fCons (fC (.bl false)) (fCons (fC .non) (fCons (fC (.str "1")) (fCons (fC (.str "")) (fCons (fTup (fCons (fC (.int 1)) (fun _ S => .ok [] S))) (fCons (fLst (fCons (fC (.int 0)) (fun _ S => .ok [] S))) (fCons (fFrz fDict0) (fCons (fTup (fCons (fC (.str "at")) (fCons (fC (.int 0)) (fun _ S => .ok [] S)))) (fCons (fBin gAdd (fBin gPow (fC (.int 10)) (fC (.int 12))) (fCall S_p_law_next (fun ds es => pick [(0, 0), (0, 1)] ds es []) 2 0 2 (fCons (fVar 0) (fCons (fBin gPow (fC (.int 10)) (fC (.int 9))) (fun _ S => .ok [] S))) (fun _ S => .ok [] S))) (fCons (fUn gNeg (fC (.int 7))) (fCons (fC (.str "tie")) (fun _ S => .ok [] S)))))))))))))))
noncomputable def zod1 : FS := (gRet (fBin gIx (fVar 1) (fCall S_p_law_next (fun ds es => pick [(0, 0), (0, 1)] ds es []) 2 0 2 (fCons (fVar 0) (fCons (fC (.int 12)) (fun _ S => .ok [] S))) (fun _ S => .ok [] S))))
noncomputable def zod : FS := (gSeq zod0 zod1)
theorem zod_eq : m_p_law_odd = zod := rfl
theorem p1012 (S : Store) : gPow (.int 10) (.int 12) S = .ok (.int 1000000000000) S := by
  have : cPow 10 12 = true := by simp [cPow]
  simp [gPow, gI, this]
theorem neg7 (S : Store) : gNeg (.int 7) S = .ok (.int (-7)) S := rfl
def oddA (y : Int) : List D := [.bl true, .bl false, .non, .str "1", .str "", .tup [.int 1], .lst [.int 0], .dic [], .tup [.str "at", .int 0], .int (1000000000000 + y), .int (-7), .str "tie"]
theorem oddA_tre {y : Int} (h : 0 ≤ y) (h2 : y < 1000000000) : ∀ d ∈ oddA y, d.tre = true := by
  intro d hd
  simp only [oddA, List.mem_cons, List.not_mem_nil, or_false] at hd
  rcases hd with rfl | rfl | rfl | rfl | rfl | rfl | rfl | rfl | rfl | rfl | rfl | rfl
  all_goals first | rfl | decide +kernel | (simp only [D.tre, decide_eq_true_eq]; omega)
theorem frz0 (ρ : EnvD) (S : Store) : fFrz fDict0 ρ S = .ok (.dic []) (S ++ [SO.frz (.dic [])]) := by
  simp [fFrz]
theorem odd_any {S : Store} {s : Nat} (h : Sta S s) : ∃ (d : D) (v : Int), S_p_law_odd [.oid s] S = .ok d ((S ++ [SO.frz (.dic [])]).set s (.lst [.int v])) ∧ d.tre = true ∧ Sta ((S ++ [SO.frz (.dic [])]).set s (.lst [.int v])) s := by
  have h0 : Sta (S ++ [SO.frz (.dic [])]) s := h.imp fun v q => app_old q
  obtain ⟨x, v1, hx, q1, h1⟩ := drawS h0 1000000000 (by omega) (by omega)
  obtain ⟨k, v2, hk, q2, h2⟩ := drawS h1 12 (by omega) (by omega)
  have lx : k < (oddA x).length := hk
  have e : atI [D.bl true, .bl false, .non, .str "1", .str "", .tup [.int 1], .lst [.int 0], .dic [], .tup [.str "at", .int 0], .int (1000000000000 + (x : Int)), .int (-7), .str "tie"] (k : Int) = some (oddA x)[k] := by
    have e : atI (oddA x) (k : Int) = some (oddA x)[k] := by
      simp [atI, ixN, lx]
    exact e
  refine ⟨(oddA x)[k], v2, ?_, oddA_tre (y := x) (by omega) (by omega) _ (List.getElem_mem lx), ?_⟩
  · unfold S_p_law_odd
    rw [zod_eq]
    unfold zod zod0 zod1
    rw [List.set_set] at q2
    have q1' : S_p_law_next [.oid s, .int 1000000000] (S ++ [SO.frz (.dic [])]) = .ok (.int x) ((S ++ [SO.frz (.dic [])]).set s (.lst [.int v1])) := q1
    have q2' : S_p_law_next [.oid s, .int 12] ((S ++ [SO.frz (.dic [])]).set s (.lst [.int v1])) = .ok (.int k) ((S ++ [SO.frz (.dic [])]).set s (.lst [.int v2])) := q2
    have sh : short 12 = true := by decide
    simp [List.replicate, p1012, p109, neg7, frz0, q1', q2', e, sh]
  · rw [List.set_set] at h2
    exact h2
end K03

/-! Values drawn. -/
namespace K03
open PySem L2 DL
noncomputable def zva0 : FS := (gSet 2 (fCall S_p_law_next (fun ds es => pick [(0, 0), (0, 1)] ds es []) 2 0 2 (fCons (fVar 0) (fCons (fC (.int 6)) (fun _ S => .ok [] S))) (fun _ S => .ok [] S)))
noncomputable def zva1 : FS := (gSet 3 (fBin gIx (fLst (fCons (fBin gSub (fCall S_p_law_next (fun ds es => pick [(0, 0), (0, 1)] ds es []) 2 0 2 (fCons (fVar 0) (fCons (fC (.int 7)) (fun _ S => .ok [] S))) (fun _ S => .ok [] S)) (fC (.int 3))) (fCons (fBin gSub (fBin gPow (fC (.int 10)) (fC (.int 9))) (fCall S_p_law_next (fun ds es => pick [(0, 0), (0, 1)] ds es []) 2 0 2 (fCons (fVar 0) (fCons (fC (.int 2)) (fun _ S => .ok [] S))) (fun _ S => .ok [] S))) (fCons (fUn gNeg (fBin gPow (fC (.int 10)) (fC (.int 9)))) (fCons (fC (.int 0)) (fun _ S => .ok [] S)))))) (fCall S_p_law_next (fun ds es => pick [(0, 0), (0, 1)] ds es []) 2 0 2 (fCons (fVar 0) (fCons (fC (.int 4)) (fun _ S => .ok [] S))) (fun _ S => .ok [] S))))
noncomputable def zva2 : FS := (gSet 4 (fCall S_p_law_next (fun ds es => pick [(0, 0), (0, 1)] ds es []) 2 0 2 (fCons (fVar 0) (fCons (fCB gMax (fCons (fC (.int 1)) (fCons (fVar 1) (fun _ S => .ok [] S)))) (fun _ S => .ok [] S))) (fun _ S => .ok [] S)))
noncomputable def zva3 : FS := (gIf (fAndT (toB (fBin gGt (fVar 2) (fC (.int 2)))) (toB (fBin gGt (fVar 1) (fC (.int 0))))) (gRet (fTup (fCons (fC (.str "at")) (fCons (fVar 4) (fun _ S => .ok [] S))))) gNil)
noncomputable def zva4 : FS := (gRet (fIf (toB (fBin gEq (fVar 2) (fC (.int 0)))) (fC .non) (fVar 3)))
noncomputable def zva : FS := (gSeq zva0 (gSeq zva1 (gSeq zva2 (gSeq zva3 zva4))))
theorem zva_eq : m_p_law_value = zva := rfl
theorem value_draw {S : Store} {s : Nat} (h : Sta S s) (n : Nat) (hn : n ≤ 1000) : ∃ (d : D) (v : Int), S_p_law_value [.oid s, .int n] S = .ok d (S.set s (.lst [.int v])) ∧ d.tre = true ∧ valA n d = true ∧ Sta (S.set s (.lst [.int v])) s := by
  obtain ⟨a, v1, ha, q1, h1⟩ := drawS h 6 (by omega) (by omega)
  obtain ⟨b, v2, hb, q2, h2⟩ := drawS h1 7 (by omega) (by omega)
  obtain ⟨c, v3, hc, q3, h3⟩ := drawS h2 2 (by omega) (by omega)
  obtain ⟨k, v4, hk, q4, h4⟩ := drawS h3 4 (by omega) (by omega)
  obtain ⟨m, v5, hm, q5, h5⟩ := drawS h4 (max 1 n) (by omega) (by omega)
  simp only [List.set_set] at q2 q3 q4 q5 h5
  have q1' : S_p_law_next [.oid s, .int 6] S = .ok (.int a) (S.set s (.lst [.int v1])) := q1
  have q2' : S_p_law_next [.oid s, .int 7] (S.set s (.lst [.int v1])) = .ok (.int b) (S.set s (.lst [.int v2])) := q2
  have q3' : S_p_law_next [.oid s, .int 2] (S.set s (.lst [.int v2])) = .ok (.int c) (S.set s (.lst [.int v3])) := q3
  have q4' : S_p_law_next [.oid s, .int 4] (S.set s (.lst [.int v3])) = .ok (.int k) (S.set s (.lst [.int v4])) := q4
  have mx : (((max 1 n : Nat)) : Int) = if (1 : Int) < (n : Int) then (n : Int) else 1 := by
    split <;> omega
  rw [mx] at q5
  have ix : ∃ i : Int, -1000000000 ≤ i ∧ i ≤ 1000000000 ∧ atI [D.int ((b : Int) - 3), .int (1000000000 - (c : Int)), .int (-1000000000), .int 0] (k : Int) = some (.int i) := by
    rcases k with _ | _ | _ | _ | k
    · exact ⟨_, by omega, by omega, rfl⟩
    · exact ⟨_, by omega, by omega, rfl⟩
    · exact ⟨_, by omega, by omega, rfl⟩
    · exact ⟨0, by omega, by omega, rfl⟩
    · omega
  obtain ⟨i, i1, i2, ix⟩ := ix
  have sh : short 4 = true := by decide
  have ng : ∀ T : Store, gNeg (.int 1000000000) T = .ok (.int (-1000000000)) T := fun T => rfl
  have key : ∀ d, (d = if 2 < a ∧ 0 < n then D.tup [.str "at", .int m] else if a = 0 then .non else .int i) → S_p_law_value [.oid s, .int n] S = .ok d (S.set s (.lst [.int v5])) := by
    rintro d rfl
    unfold S_p_law_value
    rw [zva_eq]
    unfold zva zva0 zva1 zva2 zva3 zva4
    by_cases c1 : 2 < a
    · have c1' : (2 : Int) < (a : Int) := by omega
      by_cases c2 : 0 < n
      · have c2' : (0 : Int) < (n : Int) := by omega
        simp [List.replicate, q1', q2', q3', q4', q5, p109, ng, sh, ix, c1, c1', c2, c2']
      · have c2' : ¬ (0 : Int) < (n : Int) := by omega
        have c3 : ¬ a = 0 := by omega
        have c3' : ¬ (a : Int) = 0 := by omega
        simp [List.replicate, q1', q2', q3', q4', q5, p109, ng, sh, ix, c1, c1', c2, c2', c3, c3']
    · have c1' : ¬ (2 : Int) < (a : Int) := by omega
      by_cases c3 : a = 0
      · subst c3
        simp [List.replicate, q1', q2', q3', q4', q5, p109, ng, sh, ix]
      · have c3' : ¬ (a : Int) = 0 := by omega
        simp [List.replicate, q1', q2', q3', q4', q5, p109, ng, sh, ix, c1, c1', c3, c3']
  refine ⟨_, v5, key _ rfl, ?_, ?_, h5⟩
  · split
    · simp [D.tre, treL]
      refine ⟨by omega, by omega⟩
    · split
      · rfl
      · simp only [D.tre, decide_eq_true_eq]
        omega
  · split
    · simp [valA]
      omega
    · split
      · rfl
      · simp [valA, i1, i2]
end K03

/-! Cells drawn: the values of one. -/
namespace K03
open PySem L2 DL
theorem set_same {S : Store} {s : Nat} {o : SO} (h : S[s]? = some o) : S.set s o = S := by
  apply List.ext_getElem?
  intro j
  by_cases e : s = j
  · subst e
    rw [set_eq h, h]
  · rw [set_ne e]
/-- what one element draws -/
noncomputable def feV : FE := (fCall S_p_law_value (fun ds es => pick [(0, 0), (0, 1)] ds es []) 2 0 2 (fCons (fVar 0) (fCons (fVar 1) (fun _ S => .ok [] S))) (fun _ S => .ok [] S))
theorem vals_draw {s : Nat} (n : Nat) (hn : n ≤ 1000) (x2 x3 x4 x5 : Option D) : ∀ (ks : List D) (S : Store), Sta S s → ∃ (ds : List D) (v : Int), compF none (mName 5) fYes feV ks [some (.oid s), some (.int n), x2, x3, x4, x5] S = .ok ds (S.set s (.lst [.int v])) ∧
    ds.length = ks.length ∧ (∀ d ∈ ds, d.tre = true ∧ valA n d = true) ∧ Sta (S.set s (.lst [.int v])) s
  | [], S, h => by
    obtain ⟨v, hv⟩ := h
    refine ⟨[], v, ?_, rfl, by simp, v, set_eq hv⟩
    rw [compF_nil, set_same hv]
  | k :: ks, S, h => by
    obtain ⟨d, v, q, t, a, h1⟩ := value_draw h n hn
    obtain ⟨ds, w, q2, l, al, h2⟩ := vals_draw n hn x2 x3 x4 x5 ks _ h1
    rw [List.set_set] at q2 h2
    refine ⟨d :: ds, w, ?_, by simp [l], ?_, h2⟩
    · rw [compF_cons (ρ1 := [some (.oid s), some (.int n), x2, x3, x4, some k]) rfl]
      have f1 : feV [some (.oid s), some (.int n), x2, x3, x4, some k] S = .ok d (S.set s (.lst [.int v])) := by
        unfold feV
        simp [q]
      simp [fYes, f1, q2]
    · intro y hy
      rcases List.mem_cons.mp hy with rfl | hy
      · exact ⟨t, a⟩
      · exact al y hy
end K03

/-! Cells drawn. -/
namespace K03
open PySem L2 DL
noncomputable def zce0 : FS := (gSet 2 (fBin gIx (fLst (fCons (fC (.str "cell")) (fCons (fC (.str "cell")) (fCons (fC (.str "last")) (fCons (fC (.str "tie")) (fun _ S => .ok [] S)))))) (fCall S_p_law_next (fun ds es => pick [(0, 0), (0, 1)] ds es []) 2 0 2 (fCons (fVar 0) (fCons (fC (.int 4)) (fun _ S => .ok [] S))) (fun _ S => .ok [] S))))
noncomputable def zce1 : FS := (gIf (toB (fBin gEq (fVar 2) (fC (.str "tie")))) (gSeq (gSet 3 (fCall S_p_law_next (fun ds es => pick [(0, 0), (0, 1)] ds es []) 2 0 2 (fCons (fVar 0) (fCons (fBin gAdd (fVar 1) (fC (.int 1))) (fun _ S => .ok [] S))) (fun _ S => .ok [] S))) (gRet (fTup (fCons (fVar 2) (fCons (fIf (toB (fBin gLt (fVar 3) (fVar 1))) (fVar 3) (fC .non)) (fun _ S => .ok [] S)))))) gNil)
noncomputable def zce2 : FS := (gSet 4 (fBin gIx (fLst (fCons (fC (.int 1)) (fCons (fC (.int 2)) (fCons (fC (.int 3)) (fCons (fC (.int 0)) (fCons (fC (.int 2)) (fCons (fC (.int 4)) (fCons (fC (.int 6)) (fCons (fC (.int 5)) (fun _ S => .ok [] S)))))))))) (fCall S_p_law_next (fun ds es => pick [(0, 0), (0, 1)] ds es []) 2 0 2 (fCons (fVar 0) (fCons (fC (.int 8)) (fun _ S => .ok [] S))) (fun _ S => .ok [] S))))
noncomputable def zce3 : FS := (gRet (fTup (fCons (fVar 2) (fCons (fCB gTuple (fCons (fComp (fRng1 (fCons (fVar 4) (fun _ S => .ok [] S))) (mName 5) fYes (fCall S_p_law_value (fun ds es => pick [(0, 0), (0, 1)] ds es []) 2 0 2 (fCons (fVar 0) (fCons (fVar 1) (fun _ S => .ok [] S))) (fun _ S => .ok [] S)) ([("_law_k", 5)].map (·.2)) finL) (fun _ S => .ok [] S))) (fun _ S => .ok [] S)))))
noncomputable def zce : FS := (gSeq zce0 (gSeq zce1 (gSeq zce2 zce3)))
theorem zce_eq : m_p_law_cell = zce := rfl
theorem tup_lst (xs : List D) (h : xs.length ≤ 1000) (S : Store) : gTuple [.lst xs] S = .ok (.tup xs) S := by
  have sh : short xs.length = true := short_le (by omega)
  simp [gTuple, asQ, asL, sh]
theorem cell_draw {S : Store} {s : Nat} (h : Sta S s) (n : Nat) (hn : n ≤ 1000) : ∃ (d : D) (v : Int), S_p_law_cell [.oid s, .int n] S = .ok d (S.set s (.lst [.int v])) ∧ d.tre = true ∧ cellA n d = true ∧ Sta (S.set s (.lst [.int v])) s := by
  obtain ⟨a, v1, ha, q1, h1⟩ := drawS h 4 (by omega) (by omega)
  have q1' : S_p_law_next [.oid s, .int 4] S = .ok (.int a) (S.set s (.lst [.int v1])) := q1
  have s4 : short 4 = true := by decide
  have s8 : short 8 = true := by decide
  have so : ∃ w : Str, atI [D.str "cell", .str "cell", .str "last", .str "tie"] (a : Int) = some (.str w) ∧ PyData.strOk w = true ∧ (w = Str.ofString "tie" ∨ w ≠ Str.ofString "tie" ∧ (w = Str.ofString "cell" ∨ w = Str.ofString "last")) := by
    rcases a with _ | _ | _ | _ | a
    · exact ⟨_, rfl, by decide +kernel, by simp⟩
    · exact ⟨_, rfl, by decide +kernel, by simp⟩
    · exact ⟨_, rfl, by decide +kernel, by simp⟩
    · exact ⟨_, rfl, by decide +kernel, by simp⟩
    · omega
  obtain ⟨w, e1, ok, so⟩ := so
  rcases so with rfl | ⟨nw, so⟩
  · obtain ⟨m, v2, hm, q2, h2⟩ := drawS h1 (n + 1) (by omega) (by omega)
    rw [List.set_set] at q2 h2
    have q2' : S_p_law_next [.oid s, .int ((n : Int) + 1)] (S.set s (.lst [.int v1])) = .ok (.int m) (S.set s (.lst [.int v2])) := q2
    by_cases c : m < n
    · have c' : (m : Int) < (n : Int) := by omega
      refine ⟨.tup [.str "tie", .int m], v2, ?_, ?_, ?_, h2⟩
      · unfold S_p_law_cell
        rw [zce_eq]
        unfold zce zce0 zce1
        simp [List.replicate, q1', s4, e1, q2', c']
      · simp [D.tre, treL]
        exact ⟨by omega, by omega⟩
      · simp [cellA, tieA, D.isNon, whl]
        omega
    · have c' : ¬ (m : Int) < (n : Int) := by omega
      refine ⟨.tup [.str "tie", .non], v2, ?_, ?_, ?_, h2⟩
      · unfold S_p_law_cell
        rw [zce_eq]
        unfold zce zce0 zce1
        simp [List.replicate, q1', s4, e1, q2', c']
      · simp [D.tre, treL]
      · simp [cellA, tieA, D.isNon, whl]
  · obtain ⟨k, v2, hk, q2, h2⟩ := drawS h1 8 (by omega) (by omega)
    rw [List.set_set] at q2 h2
    have q2' : S_p_law_next [.oid s, .int 8] (S.set s (.lst [.int v1])) = .ok (.int k) (S.set s (.lst [.int v2])) := q2
    have sz : ∃ z : Int, atI [D.int 1, .int 2, .int 3, .int 0, .int 2, .int 4, .int 6, .int 5] (k : Int) = some (.int z) ∧ 0 ≤ z ∧ z ≤ 6 := by
      rcases k with _ | _ | _ | _ | _ | _ | _ | _ | k
      all_goals first | exact ⟨_, rfl, by decide, by decide⟩ | omega
    obtain ⟨z, e2, z0, z6⟩ := sz
    have cz : cRng z = true := @decide_eq_true _ (Classical.propDecidable _) ⟨by omega, by omega⟩
    have lz : (rng 0 z).length ≤ 6 := by
      rw [rng_length]
      omega
    obtain ⟨ds, v3, q3, l3, al, h3⟩ := vals_draw n hn (some (.str w)) none (some (.int z)) none (rng 0 z) _ h2
    rw [List.set_set] at q3 h3
    have sh : short ds.length = true := short_le (by omega)
    have tl : ∀ T, gTuple [.lst ds] T = .ok (.tup ds) T := fun T => tup_lst ds (by omega) T
    refine ⟨.tup [.str w, .tup ds], v3, ?_, ?_, ?_, h3⟩
    · unfold S_p_law_cell
      rw [zce_eq]
      unfold zce zce0 zce1 zce2 zce3
      change (gSeq _ (gSeq _ (gSeq _ (gRet (fTup (fCons (fVar 2) (fCons (fCB gTuple (fCons (fComp (fRng1 (fCons (fVar 4) (fun _ S => .ok [] S))) (mName 5) fYes feV ([("_law_k", 5)].map (·.2)) finL) (fun _ S => .ok [] S))) (fun _ S => .ok [] S))))))) _ _).res = _
      simp [List.replicate, q1', s4, s8, e1, e2, q2', nw, cz, q3, sh, tl]
    · simp [D.tre, treL, ok]
      exact ⟨treL_all.mpr fun d hd => (al d hd).1, by omega⟩
    · have a6 : ds.length ≤ 6 := by omega
      simp [cellA, insA, nw, so, a6]
      exact fun d hd => (al d hd).2
end K03

/-! Cells and pegs drawn in rows. -/
namespace K03
open PySem L2 DL
noncomputable def feC : FE := (fCall S_p_law_cell (fun ds es => pick [(0, 0), (0, 1)] ds es []) 2 0 2 (fCons (fVar 0) (fCons (fVar 2) (fun _ S => .ok [] S))) (fun _ S => .ok [] S))
theorem cellsW {s : Nat} (n : Nat) (hn : n ≤ 1000) (x1 x3 x4 : Option D) : ∀ (ks : List D) (S : Store), Sta S s → ∃ (ds : List D) (v : Int), compF none (mName 4) fYes feC ks [some (.oid s), x1, some (.int n), x3, x4] S = .ok ds (S.set s (.lst [.int v])) ∧
    ds.length = ks.length ∧ (∀ d ∈ ds, d.tre = true ∧ cellA n d = true) ∧ Sta (S.set s (.lst [.int v])) s
  | [], S, h => by
    obtain ⟨v, hv⟩ := h
    refine ⟨[], v, ?_, rfl, by simp, v, set_eq hv⟩
    rw [compF_nil, set_same hv]
  | k :: ks, S, h => by
    obtain ⟨d, v, q, t, a, h1⟩ := cell_draw h n hn
    obtain ⟨ds, w, q2, l, al, h2⟩ := cellsW n hn x1 x3 x4 ks _ h1
    rw [List.set_set] at q2 h2
    refine ⟨d :: ds, w, ?_, by simp [l], ?_, h2⟩
    · rw [compF_cons (ρ1 := [some (.oid s), x1, some (.int n), x3, some k]) rfl]
      have f1 : feC [some (.oid s), x1, some (.int n), x3, some k] S = .ok d (S.set s (.lst [.int v])) := by
        unfold feC
        simp [q]
      simp [fYes, f1, q2]
    · intro y hy
      rcases List.mem_cons.mp hy with rfl | hy
      · exact ⟨t, a⟩
      · exact al y hy
noncomputable def feW : FE := (fCall S_p_law_value (fun ds es => pick [(0, 0), (0, 1)] ds es []) 2 0 2 (fCons (fVar 0) (fCons (fVar 2) (fun _ S => .ok [] S))) (fun _ S => .ok [] S))
theorem valsW {s : Nat} (n : Nat) (hn : n ≤ 1000) (x1 x3 x4 : Option D) : ∀ (ks : List D) (S : Store), Sta S s → ∃ (ds : List D) (v : Int), compF none (mName 4) fYes feW ks [some (.oid s), x1, some (.int n), x3, x4] S = .ok ds (S.set s (.lst [.int v])) ∧
    ds.length = ks.length ∧ (∀ d ∈ ds, d.tre = true ∧ valA n d = true) ∧ Sta (S.set s (.lst [.int v])) s
  | [], S, h => by
    obtain ⟨v, hv⟩ := h
    refine ⟨[], v, ?_, rfl, by simp, v, set_eq hv⟩
    rw [compF_nil, set_same hv]
  | k :: ks, S, h => by
    obtain ⟨d, v, q, t, a, h1⟩ := value_draw h n hn
    obtain ⟨ds, w, q2, l, al, h2⟩ := valsW n hn x1 x3 x4 ks _ h1
    rw [List.set_set] at q2 h2
    refine ⟨d :: ds, w, ?_, by simp [l], ?_, h2⟩
    · rw [compF_cons (ρ1 := [some (.oid s), x1, some (.int n), x3, some k]) rfl]
      have f1 : feW [some (.oid s), x1, some (.int n), x3, some k] S = .ok d (S.set s (.lst [.int v])) := by
        unfold feW
        simp [q]
      simp [fYes, f1, q2]
    · intro y hy
      rcases List.mem_cons.mp hy with rfl | hy
      · exact ⟨t, a⟩
      · exact al y hy
end K03

/-! The web drawn: two list objects behind the store. -/
namespace K03
open PySem L2 DL
noncomputable def zwe0 : FS := (gSet 2 (fBin gMod (fBin gAdd (fVar 1) (fCall S_p_law_next (fun ds es => pick [(0, 0), (0, 1)] ds es []) 2 0 2 (fCons (fVar 0) (fCons (fBin gAdd (fVar 1) (fC (.int 1))) (fun _ S => .ok [] S))) (fun _ S => .ok [] S))) (fBin gAdd (fVar 1) (fC (.int 1)))))
noncomputable def zwe1 : FS := (gSet 3 (fComp (fRng1 (fCons (fVar 2) (fun _ S => .ok [] S))) (mName 4) fYes (fCall S_p_law_cell (fun ds es => pick [(0, 0), (0, 1)] ds es []) 2 0 2 (fCons (fVar 0) (fCons (fVar 2) (fun _ S => .ok [] S))) (fun _ S => .ok [] S)) ([("_law_k", 4)].map (·.2)) finO))
noncomputable def zwe2 : FS := (gRet (fTup (fCons (fVar 3) (fCons (fComp (fRng1 (fCons (fBin gMod (fBin gAdd (fC (.int 2)) (fCall S_p_law_next (fun ds es => pick [(0, 0), (0, 1)] ds es []) 2 0 2 (fCons (fVar 0) (fCons (fC (.int 5)) (fun _ S => .ok [] S))) (fun _ S => .ok [] S))) (fC (.int 5))) (fun _ S => .ok [] S))) (mName 4) fYes (fCall S_p_law_value (fun ds es => pick [(0, 0), (0, 1)] ds es []) 2 0 2 (fCons (fVar 0) (fCons (fVar 2) (fun _ S => .ok [] S))) (fun _ S => .ok [] S)) ([("_law_k", 4)].map (·.2)) finO) (fun _ S => .ok [] S)))))
noncomputable def zwe : FS := (gSeq zwe0 (gSeq zwe1 zwe2))
theorem zwe_eq : m_p_law_web = zwe := rfl
theorem web_draw {S : Store} {s : Nat} (h : Sta S s) : ∃ (cs ps : List D) (v w : Int), S_p_law_web [.oid s, .int 7] S = .ok (.tup [.oid S.length, .oid (S.length + 1)]) (((S.set s (.lst [.int v])) ++ [SO.lst cs]).set s (.lst [.int w]) ++ [SO.lst ps]) ∧
    cs.length ≤ 7 ∧ ps.length ≤ 4 ∧ (∀ d ∈ cs, d.tre = true ∧ cellA cs.length d = true) ∧ (∀ d ∈ ps, d.tre = true ∧ valA cs.length d = true) ∧ Sta (((S.set s (.lst [.int v])) ++ [SO.lst cs]).set s (.lst [.int w]) ++ [SO.lst ps]) s := by
  obtain ⟨x, v1, hx, q1, h1⟩ := drawS h 8 (by omega) (by omega)
  have q1' : S_p_law_next [.oid s, .int 8] S = .ok (.int x) (S.set s (.lst [.int v1])) := q1
  obtain ⟨n, hn⟩ : ∃ n : Nat, ((7 : Int) + x) % 8 = n := ⟨(7 + x) % 8, by omega⟩
  have n7 : n ≤ 7 := by omega
  have ln : ∀ m : Nat, (rng 0 (m : Int)).length = m := fun m => by rw [rng_length]; omega
  have cz : ∀ m : Nat, m ≤ 10 → cRng (m : Int) = true := fun m hm => @decide_eq_true _ (Classical.propDecidable _) ⟨by omega, by omega⟩
  obtain ⟨cs, v2, q2, l2, a2, h2⟩ := cellsW n (by omega) (some (.int 7)) none none (rng 0 n) _ h1
  rw [List.set_set] at q2 h2
  rw [ln] at l2
  have h2' : Sta ((S.set s (.lst [.int v2])) ++ [SO.lst cs]) s := h2.imp fun v q => app_old q
  obtain ⟨y, v3, hy, q3, h3⟩ := drawS h2' 5 (by omega) (by omega)
  have q3' : S_p_law_next [.oid s, .int 5] ((S.set s (.lst [.int v2])) ++ [SO.lst cs]) = .ok (.int y) (((S.set s (.lst [.int v2])) ++ [SO.lst cs]).set s (.lst [.int v3])) := q3
  obtain ⟨p, hp⟩ : ∃ p : Nat, ((2 : Int) + y) % 5 = p := ⟨(2 + y) % 5, by omega⟩
  obtain ⟨ps, v4, q4, l4, a4, h4⟩ := valsW n (by omega) (some (.int 7)) (some (.oid S.length)) none (rng 0 p) _ h3
  rw [List.set_set] at q4 h4
  rw [ln] at l4
  have sc : short cs.length = true := short_le (by omega)
  have sp : short ps.length = true := short_le (by omega)
  have c1 := cz n (by omega)
  have c2 := cz p (by omega)
  subst l2
  refine ⟨cs, ps, v2, v4, ?_, n7, by omega, a2, a4, h4.imp fun v q => app_old q⟩
  unfold S_p_law_web
  rw [zwe_eq]
  unfold zwe zwe0
  change (gSeq _ (gSeq (gSet 3 (fComp (fRng1 (fCons (fVar 2) (fun _ S => .ok [] S))) (mName 4) fYes feC ([("_law_k", 4)].map (·.2)) finO)) (gRet (fTup (fCons (fVar 3) (fCons (fComp (fRng1 (fCons (fBin gMod (fBin gAdd (fC (.int 2)) (fCall S_p_law_next (fun ds es => pick [(0, 0), (0, 1)] ds es []) 2 0 2 (fCons (fVar 0) (fCons (fC (.int 5)) (fun _ S => .ok [] S))) (fun _ S => .ok [] S))) (fC (.int 5))) (fun _ S => .ok [] S))) (mName 4) fYes feW ([("_law_k", 4)].map (·.2)) finO) (fun _ S => .ok [] S)))))) _ _).res = _
  simp [List.replicate, q1', hn, c1, q2, finO, sc, q3', hp, c2, q4, sp]
end K03

/-! Another thing in place of None. -/
namespace K03
open PySem L2 DL
noncomputable def zot0 : FS := (gSet 2 (fCall S_p_law_next (fun ds es => pick [(0, 0), (0, 1)] ds es []) 2 0 2 (fCons (fVar 0) (fCons (fC (.int 8)) (fun _ S => .ok [] S))) (fun _ S => .ok [] S)))
noncomputable def zot1 : FS := (gSet 3 (fCall S_p_law_odd (fun ds es => pick [(0, 0)] ds es []) 1 0 1 (fCons (fVar 0) (fun _ S => .ok [] S)) (fun _ S => .ok [] S)))
noncomputable def zot2 : FS := (gIf (toB (fCB gIsi (fCons (fVar 1) (fCons (fTup (fCons (fC (.ty "list")) (fCons (fC (.ty "tuple")) (fun _ S => .ok [] S)))) (fun _ S => .ok [] S))))) (gSeq (gSet 4 (fCall S_p_law_next (fun ds es => pick [(0, 0), (0, 1)] ds es []) 2 0 2 (fCons (fVar 0) (fCons (fBin gAdd0 (fCB gLen (fCons (fVar 1) (fun _ S => .ok [] S))) (fC (.int 1))) (fun _ S => .ok [] S))) (fun _ S => .ok [] S))) (gSeq (gSet 5 (fLst (fCons (fVar 3) (fCons (fCB gList (fCons (fVar 1) (fun _ S => .ok [] S))) (fCons (fCB gTuple (fCons (fVar 1) (fun _ S => .ok [] S))) (fCons (fBin gAdd0 (fSlW (fVar 1) fPartN (fPart (fVar 4))) (fSlW (fVar 1) (fPart (fBin gAdd0 (fVar 4) (fC (.int 1)))) fPartN)) (fCons (fun ρ S => ((fVar 1) ρ S).bind gRevT) (fCons (fBin gAdd0 (fVar 1) (fVar 1)) (fun _ S => .ok [] S))))))))) (gRet (fBin gIx (fBin gAdd0 (fVar 5) (fLst (fCons (fBin gAdd0 (fVar 1) (fSlW (fVar 1) fPartN (fPart (fVar 4)))) (fCons (fBin gAdd0 (fBin gAdd0 (fSlW (fVar 1) fPartN (fPart (fVar 4))) (fSlW (fVar 1) (fPart (fVar 4)) (fPart (fBin gAdd0 (fVar 4) (fC (.int 1)))))) (fSlW (fVar 1) (fPart (fVar 4)) fPartN)) (fun _ S => .ok [] S))))) (fVar 2))))) gNil)
noncomputable def zot3 : FS := (gIf (toB (fCB gIsi (fCons (fVar 1) (fCons (fC (.ty "str")) (fun _ S => .ok [] S))))) (gRet (fBin gIx (fLst (fCons (fVar 3) (fCons (fBin gAdd0 (fVar 1) (fC (.str "s"))) (fCons (fC (.str "cell")) (fCons (fC (.str "last")) (fCons (fC (.str "tie")) (fCons (fC (.str "at")) (fCons (fBM "str" gUpper (fVar 1) (fun _ S => .ok [] S)) (fCons (fTup (fCons (fVar 1) (fun _ S => .ok [] S))) (fun _ S => .ok [] S)))))))))) (fVar 2))) gNil)
noncomputable def zot4 : FS := (gIf (toB (fCB gIsi (fCons (fVar 1) (fCons (fC (.ty "int")) (fun _ S => .ok [] S))))) (gRet (fBin gIx (fLst (fCons (fVar 3) (fCons (fBin gAdd0 (fVar 1) (fC (.int 1))) (fCons (fBin gSub (fVar 1) (fC (.int 1))) (fCons (fBin gAdd0 (fC (.int 7)) (fVar 1)) (fCons (fBin gAdd0 (fBin gPow (fC (.int 10)) (fC (.int 9))) (fC (.int 1))) (fCons (fBin gSub (fUn gNeg (fBin gPow (fC (.int 10)) (fC (.int 9)))) (fC (.int 1))) (fCons (fCB gStrI (fCons (fVar 1) (fun _ S => .ok [] S))) (fCons (fTup (fCons (fC (.str "at")) (fCons (fVar 1) (fun _ S => .ok [] S)))) (fun _ S => .ok [] S)))))))))) (fVar 2))) gNil)
noncomputable def zot5 : FS := (gRet (fBin gIx (fLst (fCons (fVar 3) (fCons (fC (.int 0)) (fCons (fTup (fCons (fC (.str "at")) (fCons (fC (.int 0)) (fun _ S => .ok [] S)))) (fCons (fTup (fCons (fC (.str "at")) (fCons (fC (.int 7)) (fun _ S => .ok [] S)))) (fCons (fC (.str "cell")) (fCons (fTup (fun _ S => .ok [] S)) (fCons (fTup (fCons (fC (.str "cell")) (fCons (fTup (fun _ S => .ok [] S)) (fun _ S => .ok [] S)))) (fCons (fTup (fCons (fC (.str "tie")) (fCons (fC .non) (fun _ S => .ok [] S)))) (fun _ S => .ok [] S)))))))))) (fVar 2)))
noncomputable def zot : FS := (gSeq zot0 (gSeq zot1 (gSeq zot2 (gSeq zot3 (gSeq zot4 zot5)))))
theorem zot_eq : m_p_law_other = zot := rfl
def othN (o : D) : List D := [o, .int 0, .tup [.str "at", .int 0], .tup [.str "at", .int 7], .str "cell", .tup [], .tup [.str "cell", .tup []], .tup [.str "tie", .non]]
theorem othN_tre {o : D} (h : o.tre = true) : ∀ d ∈ othN o, d.tre = true := by
  intro d hd
  simp only [othN, List.mem_cons, List.not_mem_nil, or_false] at hd
  rcases hd with rfl | rfl | rfl | rfl | rfl | rfl | rfl | rfl
  all_goals first | exact h | rfl | decide +kernel
theorem other_non {S : Store} {s : Nat} (h : Sta S s) : ∃ (d : D) (v : Int), S_p_law_other [.oid s, .non] S = .ok d ((S ++ [SO.frz (.dic [])]).set s (.lst [.int v])) ∧ d.tre = true ∧ Sta ((S ++ [SO.frz (.dic [])]).set s (.lst [.int v])) s := by
  obtain ⟨k, v1, hk, q1, h1⟩ := drawS h 8 (by omega) (by omega)
  have q1' : S_p_law_next [.oid s, .int 8] S = .ok (.int k) (S.set s (.lst [.int v1])) := q1
  obtain ⟨o, v2, q2, to, h2⟩ := odd_any h1
  have ls : s < S.length := by
    obtain ⟨v, hv⟩ := h
    exact lt_of hv
  have es : ((S.set s (.lst [.int v1])) ++ [SO.frz (.dic [])]).set s (.lst [.int v2]) = (S ++ [SO.frz (.dic [])]).set s (.lst [.int v2]) := by
    rw [List.set_append_left _ _ (by simpa using ls), List.set_append_left _ _ ls, List.set_set]
  rw [es] at q2 h2
  have lk : k < (othN o).length := hk
  have e : atI [o, .int 0, .tup [.str "at", .int 0], .tup [.str "at", .int 7], .str "cell", .tup [], .tup [.str "cell", .tup []], .tup [.str "tie", .non]] (k : Int) = some (othN o)[k] := by
    have e : atI (othN o) (k : Int) = some (othN o)[k] := by
      simp [atI, ixN, lk]
    exact e
  have sh : short 8 = true := by decide
  refine ⟨(othN o)[k], v2, ?_, othN_tre to _ (List.getElem_mem lk), h2⟩
  unfold S_p_law_other
  rw [zot_eq]
  unfold zot zot0 zot1 zot2 zot3 zot4 zot5
  simp [List.replicate, q1', q2, tyS, tysOf, isiA, isiT, e, sh]
end K03

/-! What stays; drawn things by their depth; another thing in the place of one. -/
namespace K03
open PySem L2 DL
/-- all but the place s stays -/
def Kps (s : Nat) (S T : Store) : Prop := S.length ≤ T.length ∧ ∀ j o, j ≠ s → S[j]? = some o → T[j]? = some o
theorem Kps.rfl (s : Nat) (S : Store) : Kps s S S := ⟨Nat.le_refl _, fun _ _ _ h => h⟩
theorem Kps.trans {s : Nat} {S T U : Store} (a : Kps s S T) (b : Kps s T U) : Kps s S U := ⟨Nat.le_trans a.1 b.1, fun j o h q => b.2 j o h (a.2 j o h q)⟩
theorem Kps.set (s : Nat) (S : Store) (o : SO) : Kps s S (S.set s o) := ⟨by simp, fun j u h q => by rw [set_ne (fun e => h e.symm)]; exact q⟩
theorem Kps.app (s : Nat) (S T : Store) : Kps s S (S ++ T) := ⟨by simp, fun j u h q => app_old q⟩
theorem Sta.app {S : Store} {s : Nat} (h : Sta S s) (T : Store) : Sta (S ++ T) s := h.imp fun v q => app_old q
theorem drawK {S : Store} {s : Nat} (h : Sta S s) (m : Nat) (h1 : 0 < m) (h2 : m < 1073741824) : ∃ (x : Nat) (T : Store), x < m ∧ S_p_law_next [.oid s, .int m] S = .ok (.int x) T ∧ Sta T s ∧ Kps s S T := by
  obtain ⟨x, v, a, b, c⟩ := drawS h m h1 h2
  exact ⟨x, _, a, b, c, .set _ _ _⟩
theorem oddK {S : Store} {s : Nat} (h : Sta S s) : ∃ (d : D) (T : Store), S_p_law_odd [.oid s] S = .ok d T ∧ d.tre = true ∧ Sta T s ∧ Kps s S T := by
  obtain ⟨d, v, a, b, c⟩ := odd_any h
  exact ⟨d, _, a, b, c, (Kps.app _ _ _).trans (.set _ _ _)⟩
theorem valueK {S : Store} {s : Nat} (h : Sta S s) (n : Nat) (hn : n ≤ 1000) : ∃ (d : D) (T : Store), S_p_law_value [.oid s, .int n] S = .ok d T ∧ d.tre = true ∧ valA n d = true ∧ Sta T s ∧ Kps s S T := by
  obtain ⟨d, v, a, b, b2, c⟩ := value_draw h n hn
  exact ⟨d, _, a, b, b2, c, .set _ _ _⟩
theorem cellK {S : Store} {s : Nat} (h : Sta S s) (n : Nat) (hn : n ≤ 1000) : ∃ (d : D) (T : Store), S_p_law_cell [.oid s, .int n] S = .ok d T ∧ d.tre = true ∧ cellA n d = true ∧ Sta T s ∧ Kps s S T := by
  obtain ⟨d, v, a, b, b2, c⟩ := cell_draw h n hn
  exact ⟨d, _, a, b, b2, c, .set _ _ _⟩
/-- drawn things, by how deep they are -/
def Drn : Nat → D → Prop
  | 0, d => d = .non ∨ (∃ i : Int, d = .int i ∧ -1000000000 ≤ i ∧ i ≤ 1000000000) ∨ ∃ w : Str, d = .str w ∧ w.length ≤ 100
  | k + 1, d => Drn k d ∨ ∃ ds, d = .tup ds ∧ ds.length ≤ 100 ∧ ∀ x ∈ ds, Drn k x
theorem drn_tre : ∀ {k : Nat} {d : D}, Drn k d → d.tre = true
  | 0, d, h => by
    rcases h with rfl | ⟨i, rfl, a, b⟩ | ⟨w, rfl, _⟩
    · rfl
    · simp only [D.tre, decide_eq_true_eq]
      omega
    · rfl
  | k + 1, d, h => by
    rcases h with h | ⟨ds, rfl, a, b⟩
    · exact drn_tre h
    · simp only [D.tre, Bool.and_eq_true, decide_eq_true_eq]
      exact ⟨treL_all.mpr fun x hx => drn_tre (b x hx), by omega⟩
/-- one of a drawn thing's three kinds, or a tuple -/
theorem drn_cases : ∀ {k : Nat} {d : D}, Drn k d → Drn 0 d ∨ ∃ ds j, j < k ∧ d = .tup ds ∧ ds.length ≤ 100 ∧ ∀ x ∈ ds, Drn j x
  | 0, _, h => .inl h
  | k + 1, d, h => by
    rcases h with h | ⟨ds, rfl, a, b⟩
    · rcases drn_cases h with h | ⟨ds, j, hj, r⟩
      · exact .inl h
      · exact .inr ⟨ds, j, by omega, r⟩
    · exact .inr ⟨ds, k, by omega, rfl, a, b⟩
theorem tre_len {ds : List D} (h : ∀ x ∈ ds, x.tre = true) (hl : ds.length ≤ 1000) : (D.tup ds).tre = true := by
  simp only [D.tre, Bool.and_eq_true, decide_eq_true_eq]
  exact ⟨treL_all.mpr h, hl⟩
theorem tre_lenL {ds : List D} (h : ∀ x ∈ ds, x.tre = true) (hl : ds.length ≤ 1000) : (D.lst ds).tre = true := by
  simp only [D.tre, Bool.and_eq_true, decide_eq_true_eq]
  exact ⟨treL_all.mpr h, hl⟩
/-! ### slices and sums -/
theorem sl_take (xs : List D) (k : Nat) : cutD xs none (some (k : Int)) = xs.take k := by
  unfold cutD
  rw [HT.sIx_none, HT.sIx_nat]
  simp
theorem sl_dropN (xs : List D) (k : Nat) : cutD xs (some (k : Int)) none = xs.drop k := by
  unfold cutD
  rw [HT.sIx_none, HT.sIx_nat]
  by_cases h : k ≤ xs.length
  · rw [Nat.min_eq_left h]
    exact List.take_of_length_le (by rw [List.length_drop]; exact Nat.le_refl _)
  · rw [Nat.min_eq_right (by omega)]
    simp
    omega
theorem sl_mid (xs : List D) (k : Nat) (h : k ≤ xs.length) : cutD xs (some (k : Int)) (some ((k : Int) + 1)) = (xs.drop k).take 1 := by
  have e : ((k : Int) + 1) = ((k + 1 : Nat) : Int) := by omega
  unfold cutD
  rw [e, HT.sIx_nat, HT.sIx_nat, Nat.min_eq_left h]
  by_cases q : k + 1 ≤ xs.length
  · rw [Nat.min_eq_left q]
    congr 1
    omega
  · have e2 : k = xs.length := by omega
    subst e2
    simp
theorem slw_of (xs : List D) {lo hi : Option Int} {ys : List D} (e : cutD xs lo hi = ys) (S : Store) : gSlW (.tup xs) lo hi S = .ok (.tup ys) S := by
  subst e
  unfold gSlW
  simp only
  split
  · rename_i h
    unfold cutD
    rw [h.1, h.2]
    simp
  · rfl
theorem slw_tl (xs : List D) (k : Nat) (S : Store) : gSlW (.tup xs) none (some (k : Int)) S = .ok (.tup (xs.take k)) S := slw_of xs (sl_take xs k) S
theorem slw_td (xs : List D) (k : Nat) (S : Store) : gSlW (.tup xs) (some ((k : Int) + 1)) none S = .ok (.tup (xs.drop (k + 1))) S := slw_of xs (sl_dropN xs (k + 1)) S
theorem slw_tr (xs : List D) (k : Nat) (S : Store) : gSlW (.tup xs) (some (k : Int)) none S = .ok (.tup (xs.drop k)) S := slw_of xs (sl_dropN xs k) S
theorem slw_tm (xs : List D) (k : Nat) (h : k ≤ xs.length) (S : Store) : gSlW (.tup xs) (some (k : Int)) (some ((k : Int) + 1)) S = .ok (.tup ((xs.drop k).take 1)) S := slw_of xs (sl_mid xs k h) S
theorem add0_t (xs ys : List D) (S : Store) (h : xs.length + ys.length ≤ 1000) : gAdd0 (.tup xs) (.tup ys) S = .ok (.tup (xs ++ ys)) S := by
  have sh : short (xs.length + ys.length) = true := short_le (by omega)
  cases xs with
  | nil => simp [gAdd0, isE0, gCat0]
  | cons a xs =>
    have sh' : short ((a :: xs).length + ys.length) = true := sh
    simp only [List.length_cons] at sh'
    simp [gAdd0, isE0, gAdd, isI, isS, isT, gAddT, sh']
theorem add0_i (i j : Int) (S : Store) : gAdd0 (.int i) (.int j) S = .ok (.int (i + j)) S := by simp [gAdd0, isE0]
theorem add0_l (xs ys : List D) (S : Store) (h : xs.length + ys.length ≤ 1000) : gAdd0 (.lst xs) (.lst ys) S = .ok (.lst (xs ++ ys)) S := by
  have := e_addl xs ys S (short_le (by omega))
  simpa [gAdd0, isE0] using this
theorem add0_s (a b : Str) (S : Store) (h : a.length + b.length ≤ 1000) : gAdd0 (.str a) (.str b) S = .ok (.str (a ++ b)) S := by
  have sh : short (a.length + b.length) = true := short_le (by omega)
  simp [gAdd0, isE0, gAdd, isI, isS, gAddS, sh]
theorem tup_tup (xs : List D) (S : Store) : gTuple [.tup xs] S = .ok (.tup xs) S := rfl
theorem lst_tup (xs : List D) (S : Store) : gList [.tup xs] S = .ok (.lst xs) S := by
  simp [gList, isDic1, gToL, asQ, asD]
theorem cl_if {α : Type} {P : Prop} (h : P) (a b : Res α) : @ite _ P (Classical.propDecidable _) a b = a := by rw [if_pos h]
theorem str_i {i : Int} (h1 : -1000000000 ≤ i) (h2 : i ≤ 1000000000) (S : Store) : gStrI [.int i] S = .ok (.str (toString i)) S := by
  unfold gStrI
  simp only
  rw [cl_if]
  by_cases h : i.natAbs = 0
  · rw [h]
    decide
  · have h3 : i.natAbs < 2 ^ 31 := by
      have : (2 : Nat) ^ 31 = 2147483648 := by decide
      omega
    have := (Nat.log2_lt h).mpr h3
    omega
end K03

/-! Another thing in the place of a number, a text, a tuple. -/
namespace K03
open PySem L2 DL
theorem sh8 : short 8 = true := by decide
theorem sh6 : short 6 = true := by decide
theorem sh2 : short 2 = true := by decide
theorem pick8 {α : Type} (l : List α) {k : Nat} (h : k < l.length) : atI l (k : Int) = some l[k] := by
  simp [atI, ixN, h]
theorem other_int {S : Store} {s : Nat} (h : Sta S s) {i : Int} (h1 : -1000000000 ≤ i) (h2 : i ≤ 1000000000) : ∃ (e : D) (T : Store), S_p_law_other [.oid s, .int i] S = .ok e T ∧ e.tre = true ∧ Sta T s ∧ Kps s S T := by
  obtain ⟨k, S1, hk, q1, a1, c1⟩ := drawK h 8 (by omega) (by omega)
  have q1' : S_p_law_next [.oid s, .int 8] S = .ok (.int k) S1 := q1
  obtain ⟨o, S2, q2, t2, a2, c2⟩ := oddK a1
  have all : ∀ d ∈ [o, D.int (i + 1), .int (i - 1), .int (7 + i), .int 1000000001, .int (-1000000001), .str (Str.ofString i.repr), .tup [.str "at", .int i]], d.tre = true := by
    intro d hd
    simp only [List.mem_cons, List.not_mem_nil, or_false] at hd
    rcases hd with rfl | rfl | rfl | rfl | rfl | rfl | rfl | rfl
    · exact t2
    · simp only [D.tre, decide_eq_true_eq]; omega
    · simp only [D.tre, decide_eq_true_eq]; omega
    · simp only [D.tre, decide_eq_true_eq]; omega
    · rfl
    · rfl
    · rfl
    · simp [D.tre, treL]; omega
  have lk : k < [o, D.int (i + 1), .int (i - 1), .int (7 + i), .int 1000000001, .int (-1000000001), .str (Str.ofString i.repr), .tup [.str "at", .int i]].length := hk
  refine ⟨_, S2, ?_, all _ (List.getElem_mem lk), a2, c1.trans c2⟩
  have e := pick8 _ lk
  have ng : ∀ T : Store, gNeg (.int 1000000000) T = .ok (.int (-1000000000)) T := fun T => Eq.refl _
  unfold S_p_law_other
  rw [zot_eq]
  unfold zot zot0 zot1 zot2 zot3 zot4 zot5
  simp [List.replicate, q1', q2, tyS, tysOf, isiA, isiT, add0_i, p109, ng, str_i h1 h2, e, sh8]
theorem other_str {S : Store} {s : Nat} (h : Sta S s) {w : Str} (hw : w.length ≤ 100) : ∃ (e : D) (T : Store), S_p_law_other [.oid s, .str w] S = .ok e T ∧ e.tre = true ∧ Sta T s ∧ Kps s S T := by
  obtain ⟨k, S1, hk, q1, a1, c1⟩ := drawK h 8 (by omega) (by omega)
  have q1' : S_p_law_next [.oid s, .int 8] S = .ok (.int k) S1 := q1
  obtain ⟨o, S2, q2, t2, a2, c2⟩ := oddK a1
  have all : ∀ d ∈ [o, D.str (w ++ Str.ofString "s"), .str "cell", .str "last", .str "tie", .str "at", .str (Txt.upper w), .tup [.str w]], d.tre = true := by
    intro d hd
    simp only [List.mem_cons, List.not_mem_nil, or_false] at hd
    rcases hd with rfl | rfl | rfl | rfl | rfl | rfl | rfl | rfl
    · exact t2
    all_goals rfl
  have lk : k < [o, D.str (w ++ Str.ofString "s"), .str "cell", .str "last", .str "tie", .str "at", .str (Txt.upper w), .tup [.str w]].length := hk
  refine ⟨_, S2, ?_, all _ (List.getElem_mem lk), a2, c1.trans c2⟩
  have e := pick8 _ lk
  have as : ∀ T : Store, gAdd0 (.str w) (.str "s") T = .ok (.str (w ++ Str.ofString "s")) T := fun T => add0_s w _ T (by
    have : (Str.ofString "s").length = 1 := by decide
    omega)
  have up : ∀ T : Store, gUpper (.str w) [] T = .ok (.str (Txt.upper w)) T := fun T => by
    have : w.length ≤ 5000000 := by omega
    simp [gUpper, this]
  unfold S_p_law_other
  rw [zot_eq]
  unfold zot zot0 zot1 zot2 zot3 zot4 zot5
  simp [List.replicate, q1', q2, tyS, tysOf, isiA, isiT, as, up, e, sh8]
theorem other_tup {S : Store} {s : Nat} (h : Sta S s) {ds : List D} (hl : ds.length ≤ 100) (ht : ∀ x ∈ ds, x.tre = true) : ∃ (e : D) (T : Store), S_p_law_other [.oid s, .tup ds] S = .ok e T ∧ e.tre = true ∧ Sta T s ∧ Kps s S T := by
  obtain ⟨k, S1, hk, q1, a1, c1⟩ := drawK h 8 (by omega) (by omega)
  have q1' : S_p_law_next [.oid s, .int 8] S = .ok (.int k) S1 := q1
  obtain ⟨o, S2, q2, t2, a2, c2⟩ := oddK a1
  obtain ⟨p, S3, hp, q3, a3, c3⟩ := drawK a2 (ds.length + 1) (by omega) (by omega)
  have q3' : S_p_law_next [.oid s, .int ((ds.length : Int) + 1)] S2 = .ok (.int p) S3 := q3
  have tk : ∀ x ∈ ds.take p, x.tre = true := fun x hx => ht x (List.mem_of_mem_take hx)
  have dr : ∀ n, ∀ x ∈ ds.drop n, x.tre = true := fun n x hx => ht x (List.mem_of_mem_drop hx)
  have app : ∀ a b : List D, (∀ x ∈ a, x.tre = true) → (∀ x ∈ b, x.tre = true) → ∀ x ∈ a ++ b, x.tre = true := fun a b ha hb x hx => (List.mem_append.mp hx).elim (ha x) (hb x)
  have l1 : (ds.take p).length ≤ 100 := by rw [List.length_take]; omega
  have l2 : ∀ n, (ds.drop n).length ≤ 100 := fun n => by rw [List.length_drop]; omega
  have l3 : ((ds.drop p).take 1).length ≤ 1 := by rw [List.length_take]; omega
  have l4 : (ds.take p ++ ds.drop (p + 1)).length ≤ 200 := by have := l2 (p + 1); rw [List.length_append]; omega
  have l5 : (ds ++ ds).length ≤ 200 := by rw [List.length_append]; omega
  have l6 : (ds ++ ds.take p).length ≤ 200 := by rw [List.length_append]; omega
  have l7 : (ds.take p ++ (ds.drop p).take 1).length ≤ 101 := by rw [List.length_append]; omega
  have l8 : (ds.take p ++ (ds.drop p).take 1 ++ ds.drop p).length ≤ 300 := by have := l2 p; rw [List.length_append]; omega
  have all : ∀ d ∈ [o, D.lst ds, .tup ds, .tup (ds.take p ++ ds.drop (p + 1)), .tup ds.reverse, .tup (ds ++ ds), .tup (ds ++ ds.take p), .tup (ds.take p ++ (ds.drop p).take 1 ++ ds.drop p)], d.tre = true := by
    intro d hd
    simp only [List.mem_cons, List.not_mem_nil, or_false] at hd
    rcases hd with rfl | rfl | rfl | rfl | rfl | rfl | rfl | rfl
    · exact t2
    · exact tre_lenL ht (by omega)
    · exact tre_len ht (by omega)
    · exact tre_len (app _ _ tk (dr _)) (by omega)
    · exact tre_len (fun x hx => ht x (List.mem_reverse.mp hx)) (by rw [List.length_reverse]; omega)
    · exact tre_len (app _ _ ht ht) (by omega)
    · exact tre_len (app _ _ ht tk) (by omega)
    · exact tre_len (app _ _ (app _ _ tk (fun x hx => dr p x (List.mem_of_mem_take hx))) (dr _)) (by omega)
  have lk : k < [o, D.lst ds, .tup ds, .tup (ds.take p ++ ds.drop (p + 1)), .tup ds.reverse, .tup (ds ++ ds), .tup (ds ++ ds.take p), .tup (ds.take p ++ (ds.drop p).take 1 ++ ds.drop p)].length := hk
  refine ⟨_, S3, ?_, all _ (List.getElem_mem lk), a3, c1.trans (c2.trans c3)⟩
  have e := pick8 _ lk
  have g1 := fun T => add0_t (ds.take p) (ds.drop (p + 1)) T (by have := l2 (p + 1); omega)
  have g2 := fun T => add0_t ds ds T (by omega)
  have g3 := fun T => add0_t ds (ds.take p) T (by omega)
  have g4 := fun T => add0_t (ds.take p) ((ds.drop p).take 1) T (by omega)
  have g5 := fun T => add0_t (ds.take p ++ (ds.drop p).take 1) (ds.drop p) T (by have := l2 p; omega)
  have g6 := fun T => slw_tm ds p (by omega) T
  have g7 := fun T => slw_tl ds p T
  have g8 := fun T => slw_td ds p T
  have g9 := fun T => slw_tr ds p T
  have gL := fun T => lst_tup ds T
  have gT := fun T => tup_tup ds T
  have ga : ∀ (a b : List D) (T : Store), a.length = 6 → b.length = 2 → gAdd0 (.lst a) (.lst b) T = .ok (.lst (a ++ b)) T := fun a b T h1 h2 => add0_l a b T (by omega)
  have gn : ∀ T : Store, gAdd0 (.int (ds.length : Int)) (.int 1) T = .ok (.int ((ds.length : Int) + 1)) T := fun T => add0_i _ _ T
  have gp : ∀ T : Store, gAdd0 (.int (p : Int)) (.int 1) T = .ok (.int ((p : Int) + 1)) T := fun T => add0_i _ _ T
  have ln := fun T => len_t01 (ds := ds) (by omega) T
  generalize ds.take p ++ (ds.drop p).take 1 ++ ds.drop p = u8 at *
  generalize ds.take p ++ (ds.drop p).take 1 = u7 at *
  generalize ds ++ ds.take p = u6 at *
  generalize ds ++ ds = u5 at *
  generalize ds.take p ++ ds.drop (p + 1) = u4 at *
  generalize (ds.drop p).take 1 = u3 at *
  generalize ds.take p = u2 at *
  generalize ds.drop (p + 1) = u1 at *
  generalize ds.drop p = u0 at *
  unfold S_p_law_other
  rw [zot_eq]
  unfold zot zot0 zot1 zot2 zot3 zot4 zot5
  simp [fPart, fPartN, List.replicate, q1', q2, q3', tyS, tysOf, isiA, isiT, ln, g1, g2, g3, g4, g5, g6, g7, g8, g9, gL, gT, gn, gp, ga, sh6, sh2, sh8]
  rw [e]
  simp
theorem other_drn {S : Store} {s : Nat} (h : Sta S s) {j : Nat} {d : D} (hd : Drn j d) : ∃ (e : D) (T : Store), S_p_law_other [.oid s, d] S = .ok e T ∧ e.tre = true ∧ Sta T s ∧ Kps s S T := by
  rcases drn_cases hd with (rfl | ⟨i, rfl, a, b⟩ | ⟨w, rfl, a⟩) | ⟨ds, j, _, rfl, hl, hx⟩
  · obtain ⟨d, v, q, t, a⟩ := other_non h
    exact ⟨d, _, q, t, a, (Kps.app _ _ _).trans (.set _ _ _)⟩
  · exact other_int h a b
  · exact other_str h a
  · exact other_tup h hl fun x q => drn_tre (hx x q)
end K03

/-! Another thing in the place of a list that may be changed. -/
namespace K03
open PySem L2 DL
noncomputable def zoj0 : FS := (gSet 1 (fLst (fCons (fC (.bl true)) (fCons (fC (.bl false)) (fCons (fC .non) (fCons (fC (.str "1")) (fCons (fC (.str "")) (fCons (fTup (fCons (fC (.int 1)) (fun _ S => .ok [] S))) (fCons (fLstO (fCons (fC (.int 0)) (fun _ S => .ok [] S))) (fCons (fFrz fDict0) (fCons (fTup (fCons (fC (.str "at")) (fCons (fC (.int 0)) (fun _ S => .ok [] S)))) (fCons (fBin gAdd (fBin gPow (fC (.int 10)) (fC (.int 12))) (fCall S_p_law_next (fun ds es => pick [(0, 0), (0, 1)] ds es []) 2 0 2 (fCons (fVar 0) (fCons (fBin gPow (fC (.int 10)) (fC (.int 9))) (fun _ S => .ok [] S))) (fun _ S => .ok [] S))) (fCons (fUn gNeg (fC (.int 7))) (fCons (fC (.str "tie")) (fun _ S => .ok [] S)))))))))))))))
noncomputable def zoj1 : FS := (gRet (fBin gIx (fVar 1) (fCall S_p_law_next (fun ds es => pick [(0, 0), (0, 1)] ds es []) 2 0 2 (fCons (fVar 0) (fCons (fC (.int 12)) (fun _ S => .ok [] S))) (fun _ S => .ok [] S))))
noncomputable def zoj : FS := (gSeq zoj0 zoj1)
theorem zoj_eq : m_p_law_odd_o = zoj := rfl
noncomputable def zoo0 : FS := (gSet 2 (fCall S_p_law_next (fun ds es => pick [(0, 0), (0, 1)] ds es []) 2 0 2 (fCons (fVar 0) (fCons (fC (.int 8)) (fun _ S => .ok [] S))) (fun _ S => .ok [] S)))
noncomputable def zoo1 : FS := (gSet 3 (fCall S_p_law_odd_o (fun ds es => pick [(0, 0)] ds es []) 1 0 1 (fCons (fVar 0) (fun _ S => .ok [] S)) (fun _ S => .ok [] S)))
noncomputable def zoo2 : FS := (gIf (toB (fCB gIsi (fCons (fVar 1) (fCons (fTup (fCons (fC (.ty "list")) (fCons (fC (.ty "tuple")) (fun _ S => .ok [] S)))) (fun _ S => .ok [] S))))) (gSeq (gSet 4 (fCall S_p_law_next (fun ds es => pick [(0, 0), (0, 1)] ds es []) 2 0 2 (fCons (fVar 0) (fCons (fBin gAdd (fCB gLen (fCons (fVar 1) (fun _ S => .ok [] S))) (fC (.int 1))) (fun _ S => .ok [] S))) (fun _ S => .ok [] S))) (gSeq (gSet 5 (fLst (fCons (fVar 3) (fCons (fCB gListO (fCons (fVar 1) (fun _ S => .ok [] S))) (fCons (fCB gTuple (fCons (fVar 1) (fun _ S => .ok [] S))) (fCons (fBin gAddO (fSl (fVar 1) fPartN (fPart (fVar 4))) (fSl (fVar 1) (fPart (fBin gAdd (fVar 4) (fC (.int 1)))) fPartN)) (fCons (fun ρ S => ((fVar 1) ρ S).bind gRevO) (fCons (fBin gAddO (fVar 1) (fVar 1)) (fun _ S => .ok [] S))))))))) (gRet (fBin gIx (fBin gAdd (fVar 5) (fLst (fCons (fBin gAddO (fVar 1) (fSl (fVar 1) fPartN (fPart (fVar 4)))) (fCons (fBin gAddO (fBin gAdd (fSl (fVar 1) fPartN (fPart (fVar 4))) (fSl (fVar 1) (fPart (fVar 4)) (fPart (fBin gAdd (fVar 4) (fC (.int 1)))))) (fSl (fVar 1) (fPart (fVar 4)) fPartN)) (fun _ S => .ok [] S))))) (fVar 2))))) gNil)
noncomputable def zoo3 : FS := (gIf (toB (fCB gIsi (fCons (fVar 1) (fCons (fC (.ty "str")) (fun _ S => .ok [] S))))) (gRet (fBin gIx (fLst (fCons (fVar 3) (fCons (fBin gAdd (fVar 1) (fC (.str "s"))) (fCons (fC (.str "cell")) (fCons (fC (.str "last")) (fCons (fC (.str "tie")) (fCons (fC (.str "at")) (fCons (fBM "str" gUpper (fVar 1) (fun _ S => .ok [] S)) (fCons (fTup (fCons (fVar 1) (fun _ S => .ok [] S))) (fun _ S => .ok [] S)))))))))) (fVar 2))) gNil)
noncomputable def zoo4 : FS := (gIf (toB (fCB gIsi (fCons (fVar 1) (fCons (fC (.ty "int")) (fun _ S => .ok [] S))))) (gRet (fBin gIx (fLst (fCons (fVar 3) (fCons (fBin gAdd (fVar 1) (fC (.int 1))) (fCons (fBin gSub (fVar 1) (fC (.int 1))) (fCons (fBin gAdd (fC (.int 7)) (fVar 1)) (fCons (fBin gAdd (fBin gPow (fC (.int 10)) (fC (.int 9))) (fC (.int 1))) (fCons (fBin gSub (fUn gNeg (fBin gPow (fC (.int 10)) (fC (.int 9)))) (fC (.int 1))) (fCons (fCB gStrI (fCons (fVar 1) (fun _ S => .ok [] S))) (fCons (fTup (fCons (fC (.str "at")) (fCons (fVar 1) (fun _ S => .ok [] S)))) (fun _ S => .ok [] S)))))))))) (fVar 2))) gNil)
noncomputable def zoo5 : FS := (gRet (fBin gIx (fLst (fCons (fVar 3) (fCons (fC (.int 0)) (fCons (fTup (fCons (fC (.str "at")) (fCons (fC (.int 0)) (fun _ S => .ok [] S)))) (fCons (fTup (fCons (fC (.str "at")) (fCons (fC (.int 7)) (fun _ S => .ok [] S)))) (fCons (fC (.str "cell")) (fCons (fTup (fun _ S => .ok [] S)) (fCons (fTup (fCons (fC (.str "cell")) (fCons (fTup (fun _ S => .ok [] S)) (fun _ S => .ok [] S)))) (fCons (fTup (fCons (fC (.str "tie")) (fCons (fC .non) (fun _ S => .ok [] S)))) (fun _ S => .ok [] S)))))))))) (fVar 2)))
noncomputable def zoo : FS := (gSeq zoo0 (gSeq zoo1 (gSeq zoo2 (gSeq zoo3 (gSeq zoo4 zoo5)))))
theorem zoo_eq : m_p_law_other_o = zoo := rfl
/-- a new object at k -/
def New (T U : Store) (k : Nat) (o : SO) : Prop := T.length ≤ k ∧ U[k]? = some o ∧ T.length ≤ U.length ∧ ∀ (j : Nat) (u : SO), T[j]? = some u → U[j]? = some u
theorem new_app (T : Store) (o : SO) : New T (T ++ [o]) T.length o := ⟨Nat.le_refl _, by simp, by simp, fun j u h => app_old h⟩
theorem New.kps {T U : Store} {k : Nat} {o : SO} (h : New T U k o) (s : Nat) : Kps s T U := ⟨h.2.2.1, fun j u _ q => h.2.2.2 j u q⟩
theorem New.sta {T U : Store} {k s : Nat} {o : SO} (h : New T U k o) (a : Sta T s) : Sta U s := a.imp fun v q => h.2.2.2 _ _ q
def notL : D → Bool
  | .lst _ => false
  | _ => true
/-- what stands in the place of a list: a plain thing that is no list, or a new list object -/
def TopR (S T : Store) (e : D) : Prop := (e.tre = true ∧ notL e = true ∧ ∀ ds, e = .tup ds → ds.length ≤ 500) ∨ ∃ n es, e = .oid n ∧ S.length ≤ n ∧ T[n]? = some (.lst es) ∧ es.length ≤ 500 ∧ ∀ x ∈ es, x.tre = true
theorem TopR.kps {s : Nat} {S S' T T' : Store} {e : D} (h : TopR S T e) (hs : s < S.length) (hl : S'.length ≤ S.length) (k : Kps s T T') : TopR S' T' e := by
  rcases h with h | ⟨n, es, rfl, a, b, c⟩
  · exact .inl h
  · exact .inr ⟨n, es, rfl, by omega, k.2 n _ (by omega) b, c⟩
theorem oddO {S : Store} {s : Nat} (h : Sta S s) : ∃ (d : D) (T : Store), S_p_law_odd_o [.oid s] S = .ok d T ∧ TopR S T d ∧ Sta T s ∧ Kps s S T := by
  have h0 : Sta (S ++ [SO.lst [.int 0], SO.frz (.dic [])]) s := h.app _
  obtain ⟨x, S1, hx, q1, h1, c1⟩ := drawK h0 1000000000 (by omega) (by omega)
  obtain ⟨k, S2, hk, q2, h2, c2⟩ := drawK h1 12 (by omega) (by omega)
  have ls : s < S.length := by
    obtain ⟨v, hv⟩ := h
    exact lt_of hv
  have g : S2[S.length]? = some (SO.lst [.int 0]) := c2.2 _ _ (by omega) (c1.2 _ _ (by omega) (by simp))
  have cc : Kps s S S2 := (Kps.app s S _).trans (c1.trans c2)
  have q1' : S_p_law_next [.oid s, .int 1000000000] (S ++ [SO.lst [.int 0], SO.frz (.dic [])]) = .ok (.int x) S1 := q1
  have q2' : S_p_law_next [.oid s, .int 12] S1 = .ok (.int k) S2 := q2
  have lk : k < [D.bl true, .bl false, .non, .str "1", .str "", .tup [.int 1], .oid S.length, .dic [], .tup [.str "at", .int 0], .int (1000000000000 + (x : Int)), .int (-7), .str "tie"].length := hk
  have e := pick8 _ lk
  have all : ∀ d ∈ [D.bl true, .bl false, .non, .str "1", .str "", .tup [.int 1], .oid S.length, .dic [], .tup [.str "at", .int 0], .int (1000000000000 + (x : Int)), .int (-7), .str "tie"], TopR S S2 d := by
    intro d hd
    simp only [List.mem_cons, List.not_mem_nil, or_false] at hd
    rcases hd with rfl | rfl | rfl | rfl | rfl | rfl | rfl | rfl | rfl | rfl | rfl | rfl
    all_goals first | exact .inr ⟨S.length, [.int 0], rfl, Nat.le_refl _, g, by decide, fun x hx => by rw [List.mem_singleton.mp hx]; rfl⟩ | exact .inl ⟨by simp only [D.tre, decide_eq_true_eq]; omega, rfl, fun ds h => by cases h <;> simp⟩ | exact .inl ⟨rfl, rfl, fun ds h => by cases h <;> simp⟩
  refine ⟨_, S2, ?_, all _ (List.getElem_mem lk), h2, cc⟩
  unfold S_p_law_odd_o
  rw [zoj_eq]
  unfold zoj zoj0 zoj1
  have sh : short 12 = true := by decide
  have f0 : ∀ (ρ : EnvD) (T : Store), fFrz fDict0 ρ T = .ok (.dic []) (T ++ [SO.frz (.dic [])]) := frz0
  simp [List.replicate, p1012, p109, neg7, f0, fLstO, q1', q2', e, sh, short_le]
theorem listO_new {n : Nat} {T : Store} {ds : List D} (h : T[n]? = some (.lst ds)) : ∃ U k, gListO [.oid n] T = .ok (.oid k) U ∧ New T U k (.lst ds) := by
  refine ⟨_, _, ?_, new_app T _⟩
  simp [gListO, isDic1, asD, h, gToO, asQ, asL]
theorem addO_new {x y : D} {T : Store} {xs ys : List D} (hx : asLt T x = some xs) (hy : asLt T y = some ys) (hl : xs.length + ys.length ≤ 1000) : ∃ U k, gAddO x y T = .ok (.oid k) U ∧ New T U k (.lst (xs ++ ys)) := by
  refine ⟨_, _, ?_, new_app T _⟩
  have sh : short (xs.length + ys.length) = true := short_le (by omega)
  simp [gAddO, hx, hy, sh]
theorem revO_new {n : Nat} {T : Store} {ds : List D} (h : T[n]? = some (.lst ds)) : ∃ U k, gRevO (.oid n) T = .ok (.oid k) U ∧ New T U k (.lst ds.reverse) := by
  refine ⟨_, _, ?_, new_app T _⟩
  simp [gRevO, asL, h]
theorem asLt_o {n : Nat} {T : Store} {ds : List D} (h : T[n]? = some (.lst ds)) : asLt T (.oid n) = some ds := by
  simp [asLt, asL, h]
theorem slO {n : Nat} {T : Store} {ds : List D} (h : T[n]? = some (.lst ds)) {lo hi : Option Int} {ys : List D} (e : cutD ds lo hi = ys) : gSl (.oid n) lo hi T = .ok (.lst ys) T := by
  subst e
  simp [gSl, asL, h]
end K03

/-! Another thing in the place of a list that may be changed: all ways. -/
namespace K03
open PySem L2 DL
theorem addL_l (xs ys : List D) (S : Store) (h : xs.length + ys.length ≤ 1000) : gAdd (.lst xs) (.lst ys) S = .ok (.lst (xs ++ ys)) S := e_addl xs ys S (short_le (by omega))
theorem tup_o {n : Nat} {T : Store} {ds : List D} (h : T[n]? = some (.lst ds)) : gTuple [.oid n] T = .ok (.tup ds) T := by
  simp [gTuple, asL, h]
theorem len_o {n : Nat} {T : Store} {ds : List D} (h : T[n]? = some (.lst ds)) (hl : ds.length ≤ 1000) : gLen [.oid n] T = .ok (.int ds.length) T := len_row (.inr (.inr ⟨n, rfl, h⟩)) hl
theorem ty_o {n : Nat} {T : Store} {ds : List D} (h : T[n]? = some (.lst ds)) : tyS T (.oid n) = some "list" := by simp [tyS, h]
theorem other_lst {S : Store} {s n : Nat} (h : Sta S s) (hn : n ≠ s) {ds : List D} (hS : S[n]? = some (.lst ds)) (hl : ds.length ≤ 100) (ht : ∀ x ∈ ds, x.tre = true) : ∃ (e : D) (T : Store), S_p_law_other_o [.oid s, .oid n] S = .ok e T ∧ TopR S T e ∧ Sta T s ∧ Kps s S T := by
  obtain ⟨k, S1, hk, q1, a1, c1⟩ := drawK h 8 (by omega) (by omega)
  have q1' : S_p_law_next [.oid s, .int 8] S = .ok (.int k) S1 := q1
  obtain ⟨o, S2, q2, t2, a2, c2⟩ := oddO a1
  obtain ⟨p, S3, hp, q3, a3, c3⟩ := drawK a2 (ds.length + 1) (by omega) (by omega)
  have q3' : S_p_law_next [.oid s, .int ((ds.length : Int) + 1)] S2 = .ok (.int p) S3 := q3
  have ls : s < S.length := by
    obtain ⟨v, hv⟩ := h
    exact lt_of hv
  have c23 := c2.trans c3
  have g1 := c1.2 n _ hn hS
  have g2 := c2.2 n _ hn g1
  have g3 := c3.2 n _ hn g2
  obtain ⟨U1, k1, e1, n1⟩ := listO_new g3
  have u1 := n1.2.2.2 _ _ g3
  have l1 : (ds.take p).length ≤ 100 := by rw [List.length_take]; omega
  have l2 : ∀ n, (ds.drop n).length ≤ 100 := fun n => by rw [List.length_drop]; omega
  have l3 : ((ds.drop p).take 1).length ≤ 1 := by rw [List.length_take]; omega
  obtain ⟨U2, k2, e2, n2⟩ := addO_new (x := .lst (ds.take p)) (y := .lst (ds.drop (p + 1))) (T := U1) (xs := ds.take p) (ys := ds.drop (p + 1)) rfl rfl (by have := l2 (p + 1); omega)
  have u2 := n2.2.2.2 _ _ u1
  obtain ⟨U3, k3, e3, n3⟩ := revO_new u2
  have u3 := n3.2.2.2 _ _ u2
  obtain ⟨U4, k4, e4, n4⟩ := addO_new (asLt_o u3) (asLt_o u3) (by omega)
  have u4 := n4.2.2.2 _ _ u3
  obtain ⟨U5, k5, e5, n5⟩ := addO_new (x := .oid n) (y := .lst (ds.take p)) (T := U4) (xs := ds) (ys := ds.take p) (asLt_o u4) rfl (by omega)
  have u5 := n5.2.2.2 _ _ u4
  have l7 : (ds.take p ++ (ds.drop p).take 1).length ≤ 101 := by rw [List.length_append]; omega
  obtain ⟨U6, k6, e6, n6⟩ := addO_new (x := .lst (ds.take p ++ (ds.drop p).take 1)) (y := .lst (ds.drop p)) (T := U5) (xs := ds.take p ++ (ds.drop p).take 1) (ys := ds.drop p) rfl rfl (by have := l2 p; omega)
  have K6 : Kps s S3 U6 := (n1.kps s).trans ((n2.kps s).trans ((n3.kps s).trans ((n4.kps s).trans ((n5.kps s).trans (n6.kps s)))))
  have st : Sta U6 s := n6.sta (n5.sta (n4.sta (n3.sta (n2.sta (n1.sta a3)))))
  have cS3 := c1.trans c23
  have L1 := cS3.1
  have L2 := n1.2.2.1
  have L3 := n2.2.2.1
  have L4 := n3.2.2.1
  have L5 := n4.2.2.1
  have L6 := n5.2.2.1
  have tk : ∀ x ∈ ds.take p, x.tre = true := fun x hx => ht x (List.mem_of_mem_take hx)
  have dr : ∀ n, ∀ x ∈ ds.drop n, x.tre = true := fun n x hx => ht x (List.mem_of_mem_drop hx)
  have app : ∀ a b : List D, (∀ x ∈ a, x.tre = true) → (∀ x ∈ b, x.tre = true) → ∀ x ∈ a ++ b, x.tre = true := fun a b ha hb x hx => (List.mem_append.mp hx).elim (ha x) (hb x)
  have all : ∀ d ∈ [o, .oid k1, .tup ds, .oid k2, .oid k3, .oid k4, .oid k5, .oid k6], TopR S U6 d := by
    intro d hd
    simp only [List.mem_cons, List.not_mem_nil, or_false] at hd
    rcases hd with rfl | rfl | rfl | rfl | rfl | rfl | rfl | rfl
    · exact t2.kps (by have := c1.1; omega) c1.1 (c3.trans K6)
    · exact .inr ⟨k1, ds, rfl, by have := n1.1; omega, n6.2.2.2 _ _ (n5.2.2.2 _ _ (n4.2.2.2 _ _ (n3.2.2.2 _ _ (n2.2.2.2 _ _ n1.2.1)))), by omega, ht⟩
    · exact .inl ⟨tre_len ht (by omega), rfl, fun es h => by cases h; omega⟩
    · exact .inr ⟨k2, _, rfl, by have := n2.1; omega, n6.2.2.2 _ _ (n5.2.2.2 _ _ (n4.2.2.2 _ _ (n3.2.2.2 _ _ n2.2.1))), by have := l2 (p + 1); rw [List.length_append]; omega, app _ _ tk (dr _)⟩
    · exact .inr ⟨k3, _, rfl, by have := n3.1; omega, n6.2.2.2 _ _ (n5.2.2.2 _ _ (n4.2.2.2 _ _ n3.2.1)), by rw [List.length_reverse]; omega, fun x hx => ht x (List.mem_reverse.mp hx)⟩
    · exact .inr ⟨k4, _, rfl, by have := n4.1; omega, n6.2.2.2 _ _ (n5.2.2.2 _ _ n4.2.1), by rw [List.length_append]; omega, app _ _ ht ht⟩
    · exact .inr ⟨k5, _, rfl, by have := n5.1; omega, n6.2.2.2 _ _ n5.2.1, by rw [List.length_append]; omega, app _ _ ht tk⟩
    · exact .inr ⟨k6, _, rfl, by have := n6.1; omega, n6.2.1, by have := l2 p; rw [List.length_append]; omega, app _ _ (app _ _ tk (fun x hx => dr p x (List.mem_of_mem_take hx))) (dr _)⟩
  have lk : k < [o, .oid k1, .tup ds, .oid k2, .oid k3, .oid k4, .oid k5, .oid k6].length := hk
  have e := pick8 _ lk
  refine ⟨_, U6, ?_, all _ (List.getElem_mem lk), st, cS3.trans K6⟩
  have tp := tup_o u1
  have ln := len_o g2 (by omega)
  have ty1 := ty_o g2
  have s1 := slO u1 (sl_take ds p)
  have s2 := slO u1 (sl_dropN ds (p + 1))
  have s2' : gSl (.oid n) (some ((p : Int) + 1)) none U1 = .ok (.lst (ds.drop (p + 1))) U1 := s2
  have s3 := slO u4 (sl_take ds p)
  have s4 := slO u5 (sl_take ds p)
  have s5 := slO u5 (sl_mid ds p (by omega))
  have s6 := slO u5 (sl_dropN ds p)
  have ga := addL_l (ds.take p) ((ds.drop p).take 1) U5 (by omega)
  have gb : ∀ (a b : List D) (T : Store), a.length = 6 → b.length = 2 → gAdd (.lst a) (.lst b) T = .ok (.lst (a ++ b)) T := fun a b T h1 h2 => addL_l a b T (by omega)
  clear all t2 s2
  generalize ds.take p ++ (ds.drop p).take 1 = u7 at *
  generalize (ds.drop p).take 1 = u3 at *
  generalize ds.take p = u2 at *
  generalize ds.drop (p + 1) = u1 at *
  generalize ds.drop p = u0 at *
  unfold S_p_law_other_o
  rw [zoo_eq]
  unfold zoo zoo0 zoo1 zoo2 zoo3 zoo4 zoo5
  simp [fPart, fPartN, fSl, List.replicate, q1', q2, q3', ty1, tysOf, isiA, isiT, ln, tp, s1, s2', s3, s4, s5, s6, ga, gb, e1, e2, e3, e4, e5, e6, sh6, sh2, sh8]
  rw [e]
  simp
end K03

/-! Drawn things bent. -/
namespace K03
open PySem L2 DL
theorem drn_mono : ∀ {i j : Nat} {d : D}, i ≤ j → Drn i d → Drn j d
  | i, 0, d, h, q => by
    have : i = 0 := by omega
    subst this
    exact q
  | i, j + 1, d, h, q => by
    by_cases e : i = j + 1
    · subst e
      exact q
    · exact .inl (drn_mono (by omega) q)
def BentOk (s j : Nat) (sem : DL.Sem') : Prop := ∀ (S : Store) (d : D), Sta S s → Drn j d → ∃ (e : D) (T : Store), sem [.oid s, d] S = .ok e T ∧ e.tre = true ∧ Sta T s ∧ Kps s S T
theorem drn0_ty {d : D} (h : Drn 0 d) (S : Store) : tyS S d = some "NoneType" ∨ tyS S d = some "int" ∨ tyS S d = some "str" := by
  rcases h with rfl | ⟨i, rfl, _⟩ | ⟨w, rfl, _⟩
  · exact .inl rfl
  · exact .inr (.inl rfl)
  · exact .inr (.inr rfl)
theorem ix_t {ds : List D} {p : Nat} (h : p < ds.length) (S : Store) : gIx (.tup ds) (.int p) S = .ok ds[p] S := by
  have a := pick8 ds h
  simp [gIx, pDic1, asD, isS, gIxQ, asQ, a]
noncomputable def zb40 : FS := (gIf (fAndT (toB (fCB gIsi (fCons (fVar 1) (fCons (fTup (fCons (fC (.ty "list")) (fCons (fC (.ty "tuple")) (fun _ S => .ok [] S)))) (fun _ S => .ok [] S))))) (fAndT (toB (fBin gGt (fCB gLen (fCons (fVar 1) (fun _ S => .ok [] S))) (fC (.int 0)))) (toB (fBin gGt (fCall S_p_law_next (fun ds es => pick [(0, 0), (0, 1)] ds es []) 2 0 2 (fCons (fVar 0) (fCons (fC (.int 5)) (fun _ S => .ok [] S))) (fun _ S => .ok [] S)) (fC (.int 0)))))) (gSeq (gSet 2 (fCall S_p_law_next (fun ds es => pick [(0, 0), (0, 1)] ds es []) 2 0 2 (fCons (fVar 0) (fCons (fCB gLen (fCons (fVar 1) (fun _ S => .ok [] S))) (fun _ S => .ok [] S))) (fun _ S => .ok [] S))) (gSeq (gSet 3 (fCall S_p_law_bent_r5 (fun ds es => pick [(0, 0), (0, 1)] ds es []) 2 0 2 (fCons (fVar 0) (fCons (fBin gIx (fVar 1) (fVar 2)) (fun _ S => .ok [] S))) (fun _ S => .ok [] S))) (gRet (fBin gAdd0 (fBin gAdd0 (fSlW (fVar 1) fPartN (fPart (fVar 2))) (fIf (toB (fCB gIsi (fCons (fVar 1) (fCons (fC (.ty "list")) (fun _ S => .ok [] S))))) (fLst (fCons (fVar 3) (fun _ S => .ok [] S))) (fTup (fCons (fVar 3) (fun _ S => .ok [] S))))) (fSlW (fVar 1) (fPart (fBin gAdd0 (fVar 2) (fC (.int 1)))) fPartN))))) gNil)
noncomputable def zb41 : FS := (gRet (fCall S_p_law_other (fun ds es => pick [(0, 0), (0, 1)] ds es []) 2 0 2 (fCons (fVar 0) (fCons (fVar 1) (fun _ S => .ok [] S))) (fun _ S => .ok [] S)))
noncomputable def zb4 : FS := (gSeq zb40 zb41)
theorem zb4_eq : m_p_law_bent_r4 = zb4 := rfl
noncomputable def zb30 : FS := (gIf (fAndT (toB (fCB gIsi (fCons (fVar 1) (fCons (fTup (fCons (fC (.ty "list")) (fCons (fC (.ty "tuple")) (fun _ S => .ok [] S)))) (fun _ S => .ok [] S))))) (fAndT (toB (fBin gGt (fCB gLen (fCons (fVar 1) (fun _ S => .ok [] S))) (fC (.int 0)))) (toB (fBin gGt (fCall S_p_law_next (fun ds es => pick [(0, 0), (0, 1)] ds es []) 2 0 2 (fCons (fVar 0) (fCons (fC (.int 5)) (fun _ S => .ok [] S))) (fun _ S => .ok [] S)) (fC (.int 0)))))) (gSeq (gSet 2 (fCall S_p_law_next (fun ds es => pick [(0, 0), (0, 1)] ds es []) 2 0 2 (fCons (fVar 0) (fCons (fCB gLen (fCons (fVar 1) (fun _ S => .ok [] S))) (fun _ S => .ok [] S))) (fun _ S => .ok [] S))) (gSeq (gSet 3 (fCall S_p_law_bent_r4 (fun ds es => pick [(0, 0), (0, 1)] ds es []) 2 0 2 (fCons (fVar 0) (fCons (fBin gIx (fVar 1) (fVar 2)) (fun _ S => .ok [] S))) (fun _ S => .ok [] S))) (gRet (fBin gAdd0 (fBin gAdd0 (fSlW (fVar 1) fPartN (fPart (fVar 2))) (fIf (toB (fCB gIsi (fCons (fVar 1) (fCons (fC (.ty "list")) (fun _ S => .ok [] S))))) (fLst (fCons (fVar 3) (fun _ S => .ok [] S))) (fTup (fCons (fVar 3) (fun _ S => .ok [] S))))) (fSlW (fVar 1) (fPart (fBin gAdd0 (fVar 2) (fC (.int 1)))) fPartN))))) gNil)
noncomputable def zb31 : FS := (gRet (fCall S_p_law_other (fun ds es => pick [(0, 0), (0, 1)] ds es []) 2 0 2 (fCons (fVar 0) (fCons (fVar 1) (fun _ S => .ok [] S))) (fun _ S => .ok [] S)))
noncomputable def zb3 : FS := (gSeq zb30 zb31)
theorem zb3_eq : m_p_law_bent_r3 = zb3 := rfl
noncomputable def zb20 : FS := (gIf (fAndT (toB (fCB gIsi (fCons (fVar 1) (fCons (fTup (fCons (fC (.ty "list")) (fCons (fC (.ty "tuple")) (fun _ S => .ok [] S)))) (fun _ S => .ok [] S))))) (fAndT (toB (fBin gGt (fCB gLen (fCons (fVar 1) (fun _ S => .ok [] S))) (fC (.int 0)))) (toB (fBin gGt (fCall S_p_law_next (fun ds es => pick [(0, 0), (0, 1)] ds es []) 2 0 2 (fCons (fVar 0) (fCons (fC (.int 5)) (fun _ S => .ok [] S))) (fun _ S => .ok [] S)) (fC (.int 0)))))) (gSeq (gSet 2 (fCall S_p_law_next (fun ds es => pick [(0, 0), (0, 1)] ds es []) 2 0 2 (fCons (fVar 0) (fCons (fCB gLen (fCons (fVar 1) (fun _ S => .ok [] S))) (fun _ S => .ok [] S))) (fun _ S => .ok [] S))) (gSeq (gSet 3 (fCall S_p_law_bent_r3 (fun ds es => pick [(0, 0), (0, 1)] ds es []) 2 0 2 (fCons (fVar 0) (fCons (fBin gIx (fVar 1) (fVar 2)) (fun _ S => .ok [] S))) (fun _ S => .ok [] S))) (gRet (fBin gAdd0 (fBin gAdd0 (fSlW (fVar 1) fPartN (fPart (fVar 2))) (fIf (toB (fCB gIsi (fCons (fVar 1) (fCons (fC (.ty "list")) (fun _ S => .ok [] S))))) (fLst (fCons (fVar 3) (fun _ S => .ok [] S))) (fTup (fCons (fVar 3) (fun _ S => .ok [] S))))) (fSlW (fVar 1) (fPart (fBin gAdd0 (fVar 2) (fC (.int 1)))) fPartN))))) gNil)
noncomputable def zb21 : FS := (gRet (fCall S_p_law_other (fun ds es => pick [(0, 0), (0, 1)] ds es []) 2 0 2 (fCons (fVar 0) (fCons (fVar 1) (fun _ S => .ok [] S))) (fun _ S => .ok [] S)))
noncomputable def zb2 : FS := (gSeq zb20 zb21)
theorem zb2_eq : m_p_law_bent_r2 = zb2 := rfl
noncomputable def zb10 : FS := (gIf (fAndT (toB (fCB gIsi (fCons (fVar 1) (fCons (fTup (fCons (fC (.ty "list")) (fCons (fC (.ty "tuple")) (fun _ S => .ok [] S)))) (fun _ S => .ok [] S))))) (fAndT (toB (fBin gGt (fCB gLen (fCons (fVar 1) (fun _ S => .ok [] S))) (fC (.int 0)))) (toB (fBin gGt (fCall S_p_law_next (fun ds es => pick [(0, 0), (0, 1)] ds es []) 2 0 2 (fCons (fVar 0) (fCons (fC (.int 5)) (fun _ S => .ok [] S))) (fun _ S => .ok [] S)) (fC (.int 0)))))) (gSeq (gSet 2 (fCall S_p_law_next (fun ds es => pick [(0, 0), (0, 1)] ds es []) 2 0 2 (fCons (fVar 0) (fCons (fCB gLen (fCons (fVar 1) (fun _ S => .ok [] S))) (fun _ S => .ok [] S))) (fun _ S => .ok [] S))) (gSeq (gSet 3 (fCall S_p_law_bent_r2 (fun ds es => pick [(0, 0), (0, 1)] ds es []) 2 0 2 (fCons (fVar 0) (fCons (fBin gIx (fVar 1) (fVar 2)) (fun _ S => .ok [] S))) (fun _ S => .ok [] S))) (gRet (fBin gAdd0 (fBin gAdd0 (fSlW (fVar 1) fPartN (fPart (fVar 2))) (fIf (toB (fCB gIsi (fCons (fVar 1) (fCons (fC (.ty "list")) (fun _ S => .ok [] S))))) (fLst (fCons (fVar 3) (fun _ S => .ok [] S))) (fTup (fCons (fVar 3) (fun _ S => .ok [] S))))) (fSlW (fVar 1) (fPart (fBin gAdd0 (fVar 2) (fC (.int 1)))) fPartN))))) gNil)
noncomputable def zb11 : FS := (gRet (fCall S_p_law_other (fun ds es => pick [(0, 0), (0, 1)] ds es []) 2 0 2 (fCons (fVar 0) (fCons (fVar 1) (fun _ S => .ok [] S))) (fun _ S => .ok [] S)))
noncomputable def zb1 : FS := (gSeq zb10 zb11)
theorem zb1_eq : m_p_law_bent_r1 = zb1 := rfl
theorem bent4 (s : Nat) : BentOk s 0 S_p_law_bent_r4 := by
  intro S d h hd
  obtain ⟨e, T, q, r⟩ := other_drn h hd
  refine ⟨e, T, ?_, r⟩
  unfold S_p_law_bent_r4
  rw [zb4_eq]
  unfold zb4 zb40 zb41
  rcases drn0_ty hd S with t | t | t <;> simp [List.replicate, t, tysOf, isiA, isiT, q]
theorem bent3 (s : Nat) : BentOk s 1 S_p_law_bent_r3 := by
  intro S d h hd
  have ih := bent4 s
  rcases drn_cases hd with h0 | ⟨ds, j, hj, rfl, hl, hx⟩
  · obtain ⟨e, T, q, r⟩ := other_drn h hd
    refine ⟨e, T, ?_, r⟩
    unfold S_p_law_bent_r3
    rw [zb3_eq]
    unfold zb3 zb30 zb31
    rcases drn0_ty h0 S with t | t | t <;> simp [List.replicate, t, tysOf, isiA, isiT, q]
  · have ln := fun T => len_t01 (ds := ds) (by omega) T
    have ty1 : ∀ T, tyS T (.tup ds) = some "tuple" := fun T => rfl
    by_cases z : ds.length = 0
    · obtain ⟨e, T, q, r⟩ := other_drn h hd
      refine ⟨e, T, ?_, r⟩
      have z1 : ¬ (0 : Int) < (ds.length : Int) := by omega
      have z2 : gLen [.tup ds] S = .ok (.int 0) S := by rw [ln, z]; rfl
      have z5 : ¬ 0 < ds.length := by omega
      unfold S_p_law_bent_r3
      rw [zb3_eq]
      unfold zb3 zb30 zb31
      simp [List.replicate, ty1, tysOf, isiA, isiT, z2, z5, q]
    · have z1 : (0 : Int) < (ds.length : Int) := by omega
      have z3 : 0 < ds.length := by omega
      have z4 : ds ≠ [] := fun e => z (by rw [e]; rfl)
      obtain ⟨x, S1, hx5, q1, a1, c1⟩ := drawK h 5 (by omega) (by omega)
      have q1' : S_p_law_next [.oid s, .int 5] S = .ok (.int x) S1 := q1
      by_cases x0 : x = 0
      · subst x0
        obtain ⟨e, T, q, t, a, c⟩ := other_drn a1 hd
        refine ⟨e, T, ?_, t, a, c1.trans c⟩
        unfold S_p_law_bent_r3
        rw [zb3_eq]
        unfold zb3 zb30 zb31
        simp [List.replicate, ty1, tysOf, isiA, isiT, ln, z1, z3, z4, q1', q]
      · have x1 : (0 : Int) < (x : Int) := by omega
        have x2 : 0 < x := by omega
        obtain ⟨p, S2, hp, q2, a2, c2⟩ := drawK a1 ds.length (by omega) (by omega)
        obtain ⟨e, T, q, t, a, c⟩ := ih S2 ds[p] a2 (drn_mono (by omega) (hx _ (List.getElem_mem hp)))
        have ixp := ix_t hp S2
        have ixq := pick8 ds hp
        have b1 := slw_tl ds p T
        have b2 := slw_td ds p T
        have l1 : (ds.take p).length ≤ 100 := by rw [List.length_take]; omega
        have l2 : (ds.drop (p + 1)).length ≤ 100 := by rw [List.length_drop]; omega
        have g1 := add0_t (ds.take p) [e] T (by simp only [List.length_cons, List.length_nil]; omega)
        have l3 : (ds.take p ++ [e]).length ≤ 101 := by rw [List.length_append]; simp only [List.length_cons, List.length_nil]; omega
        have g2 := add0_t (ds.take p ++ [e]) (ds.drop (p + 1)) T (by omega)
        have gp : gAdd0 (.int (p : Int)) (.int 1) T = .ok (.int ((p : Int) + 1)) T := add0_i _ _ T
        refine ⟨.tup (ds.take p ++ [e] ++ ds.drop (p + 1)), T, ?_, ?_, a, c1.trans (c2.trans c)⟩
        · generalize ds.take p ++ [e] ++ ds.drop (p + 1) = u3 at *
          generalize ds.take p ++ [e] = u2 at *
          generalize ds.take p = u1 at *
          generalize ds.drop (p + 1) = u0 at *
          unfold S_p_law_bent_r3
          rw [zb3_eq]
          unfold zb3 zb30 zb31
          simp [fPart, fPartN, List.replicate, ty1, tysOf, isiA, isiT, ln, z1, z3, z4, q1', x1, x2, q2, ixp, ixq, q, b1, b2, g1, g2, gp]
        · refine tre_len ?_ (by rw [List.length_append]; omega)
          intro y hy
          rcases List.mem_append.mp hy with hy | hy
          · rcases List.mem_append.mp hy with hy | hy
            · exact drn_tre (hx y (List.mem_of_mem_take hy))
            · rw [List.mem_singleton.mp hy]
              exact t
          · exact drn_tre (hx y (List.mem_of_mem_drop hy))
theorem bent2 (s : Nat) : BentOk s 2 S_p_law_bent_r2 := by
  intro S d h hd
  have ih := bent3 s
  rcases drn_cases hd with h0 | ⟨ds, j, hj, rfl, hl, hx⟩
  · obtain ⟨e, T, q, r⟩ := other_drn h hd
    refine ⟨e, T, ?_, r⟩
    unfold S_p_law_bent_r2
    rw [zb2_eq]
    unfold zb2 zb20 zb21
    rcases drn0_ty h0 S with t | t | t <;> simp [List.replicate, t, tysOf, isiA, isiT, q]
  · have ln := fun T => len_t01 (ds := ds) (by omega) T
    have ty1 : ∀ T, tyS T (.tup ds) = some "tuple" := fun T => rfl
    by_cases z : ds.length = 0
    · obtain ⟨e, T, q, r⟩ := other_drn h hd
      refine ⟨e, T, ?_, r⟩
      have z1 : ¬ (0 : Int) < (ds.length : Int) := by omega
      have z2 : gLen [.tup ds] S = .ok (.int 0) S := by rw [ln, z]; rfl
      have z5 : ¬ 0 < ds.length := by omega
      unfold S_p_law_bent_r2
      rw [zb2_eq]
      unfold zb2 zb20 zb21
      simp [List.replicate, ty1, tysOf, isiA, isiT, z2, z5, q]
    · have z1 : (0 : Int) < (ds.length : Int) := by omega
      have z3 : 0 < ds.length := by omega
      have z4 : ds ≠ [] := fun e => z (by rw [e]; rfl)
      obtain ⟨x, S1, hx5, q1, a1, c1⟩ := drawK h 5 (by omega) (by omega)
      have q1' : S_p_law_next [.oid s, .int 5] S = .ok (.int x) S1 := q1
      by_cases x0 : x = 0
      · subst x0
        obtain ⟨e, T, q, t, a, c⟩ := other_drn a1 hd
        refine ⟨e, T, ?_, t, a, c1.trans c⟩
        unfold S_p_law_bent_r2
        rw [zb2_eq]
        unfold zb2 zb20 zb21
        simp [List.replicate, ty1, tysOf, isiA, isiT, ln, z1, z3, z4, q1', q]
      · have x1 : (0 : Int) < (x : Int) := by omega
        have x2 : 0 < x := by omega
        obtain ⟨p, S2, hp, q2, a2, c2⟩ := drawK a1 ds.length (by omega) (by omega)
        obtain ⟨e, T, q, t, a, c⟩ := ih S2 ds[p] a2 (drn_mono (by omega) (hx _ (List.getElem_mem hp)))
        have ixp := ix_t hp S2
        have ixq := pick8 ds hp
        have b1 := slw_tl ds p T
        have b2 := slw_td ds p T
        have l1 : (ds.take p).length ≤ 100 := by rw [List.length_take]; omega
        have l2 : (ds.drop (p + 1)).length ≤ 100 := by rw [List.length_drop]; omega
        have g1 := add0_t (ds.take p) [e] T (by simp only [List.length_cons, List.length_nil]; omega)
        have l3 : (ds.take p ++ [e]).length ≤ 101 := by rw [List.length_append]; simp only [List.length_cons, List.length_nil]; omega
        have g2 := add0_t (ds.take p ++ [e]) (ds.drop (p + 1)) T (by omega)
        have gp : gAdd0 (.int (p : Int)) (.int 1) T = .ok (.int ((p : Int) + 1)) T := add0_i _ _ T
        refine ⟨.tup (ds.take p ++ [e] ++ ds.drop (p + 1)), T, ?_, ?_, a, c1.trans (c2.trans c)⟩
        · generalize ds.take p ++ [e] ++ ds.drop (p + 1) = u3 at *
          generalize ds.take p ++ [e] = u2 at *
          generalize ds.take p = u1 at *
          generalize ds.drop (p + 1) = u0 at *
          unfold S_p_law_bent_r2
          rw [zb2_eq]
          unfold zb2 zb20 zb21
          simp [fPart, fPartN, List.replicate, ty1, tysOf, isiA, isiT, ln, z1, z3, z4, q1', x1, x2, q2, ixp, ixq, q, b1, b2, g1, g2, gp]
        · refine tre_len ?_ (by rw [List.length_append]; omega)
          intro y hy
          rcases List.mem_append.mp hy with hy | hy
          · rcases List.mem_append.mp hy with hy | hy
            · exact drn_tre (hx y (List.mem_of_mem_take hy))
            · rw [List.mem_singleton.mp hy]
              exact t
          · exact drn_tre (hx y (List.mem_of_mem_drop hy))
theorem bent1 (s : Nat) : BentOk s 3 S_p_law_bent_r1 := by
  intro S d h hd
  have ih := bent2 s
  rcases drn_cases hd with h0 | ⟨ds, j, hj, rfl, hl, hx⟩
  · obtain ⟨e, T, q, r⟩ := other_drn h hd
    refine ⟨e, T, ?_, r⟩
    unfold S_p_law_bent_r1
    rw [zb1_eq]
    unfold zb1 zb10 zb11
    rcases drn0_ty h0 S with t | t | t <;> simp [List.replicate, t, tysOf, isiA, isiT, q]
  · have ln := fun T => len_t01 (ds := ds) (by omega) T
    have ty1 : ∀ T, tyS T (.tup ds) = some "tuple" := fun T => rfl
    by_cases z : ds.length = 0
    · obtain ⟨e, T, q, r⟩ := other_drn h hd
      refine ⟨e, T, ?_, r⟩
      have z1 : ¬ (0 : Int) < (ds.length : Int) := by omega
      have z2 : gLen [.tup ds] S = .ok (.int 0) S := by rw [ln, z]; rfl
      have z5 : ¬ 0 < ds.length := by omega
      unfold S_p_law_bent_r1
      rw [zb1_eq]
      unfold zb1 zb10 zb11
      simp [List.replicate, ty1, tysOf, isiA, isiT, z2, z5, q]
    · have z1 : (0 : Int) < (ds.length : Int) := by omega
      have z3 : 0 < ds.length := by omega
      have z4 : ds ≠ [] := fun e => z (by rw [e]; rfl)
      obtain ⟨x, S1, hx5, q1, a1, c1⟩ := drawK h 5 (by omega) (by omega)
      have q1' : S_p_law_next [.oid s, .int 5] S = .ok (.int x) S1 := q1
      by_cases x0 : x = 0
      · subst x0
        obtain ⟨e, T, q, t, a, c⟩ := other_drn a1 hd
        refine ⟨e, T, ?_, t, a, c1.trans c⟩
        unfold S_p_law_bent_r1
        rw [zb1_eq]
        unfold zb1 zb10 zb11
        simp [List.replicate, ty1, tysOf, isiA, isiT, ln, z1, z3, z4, q1', q]
      · have x1 : (0 : Int) < (x : Int) := by omega
        have x2 : 0 < x := by omega
        obtain ⟨p, S2, hp, q2, a2, c2⟩ := drawK a1 ds.length (by omega) (by omega)
        obtain ⟨e, T, q, t, a, c⟩ := ih S2 ds[p] a2 (drn_mono (by omega) (hx _ (List.getElem_mem hp)))
        have ixp := ix_t hp S2
        have ixq := pick8 ds hp
        have b1 := slw_tl ds p T
        have b2 := slw_td ds p T
        have l1 : (ds.take p).length ≤ 100 := by rw [List.length_take]; omega
        have l2 : (ds.drop (p + 1)).length ≤ 100 := by rw [List.length_drop]; omega
        have g1 := add0_t (ds.take p) [e] T (by simp only [List.length_cons, List.length_nil]; omega)
        have l3 : (ds.take p ++ [e]).length ≤ 101 := by rw [List.length_append]; simp only [List.length_cons, List.length_nil]; omega
        have g2 := add0_t (ds.take p ++ [e]) (ds.drop (p + 1)) T (by omega)
        have gp : gAdd0 (.int (p : Int)) (.int 1) T = .ok (.int ((p : Int) + 1)) T := add0_i _ _ T
        refine ⟨.tup (ds.take p ++ [e] ++ ds.drop (p + 1)), T, ?_, ?_, a, c1.trans (c2.trans c)⟩
        · generalize ds.take p ++ [e] ++ ds.drop (p + 1) = u3 at *
          generalize ds.take p ++ [e] = u2 at *
          generalize ds.take p = u1 at *
          generalize ds.drop (p + 1) = u0 at *
          unfold S_p_law_bent_r1
          rw [zb1_eq]
          unfold zb1 zb10 zb11
          simp [fPart, fPartN, List.replicate, ty1, tysOf, isiA, isiT, ln, z1, z3, z4, q1', x1, x2, q2, ixp, ixq, q, b1, b2, g1, g2, gp]
        · refine tre_len ?_ (by rw [List.length_append]; omega)
          intro y hy
          rcases List.mem_append.mp hy with hy | hy
          · rcases List.mem_append.mp hy with hy | hy
            · exact drn_tre (hx y (List.mem_of_mem_take hy))
            · rw [List.mem_singleton.mp hy]
              exact t
          · exact drn_tre (hx y (List.mem_of_mem_drop hy))
end K03

/-! A list of drawn things bent. -/
namespace K03
open PySem L2 DL
noncomputable def zbe0 : FS := (gIf (fAndT (toB (fCB gIsi (fCons (fVar 1) (fCons (fTup (fCons (fC (.ty "list")) (fCons (fC (.ty "tuple")) (fun _ S => .ok [] S)))) (fun _ S => .ok [] S))))) (fAndT (toB (fBin gGt (fCB gLen (fCons (fVar 1) (fun _ S => .ok [] S))) (fC (.int 0)))) (toB (fBin gGt (fCall S_p_law_next (fun ds es => pick [(0, 0), (0, 1)] ds es []) 2 0 2 (fCons (fVar 0) (fCons (fC (.int 5)) (fun _ S => .ok [] S))) (fun _ S => .ok [] S)) (fC (.int 0)))))) (gSeq (gSet 2 (fCall S_p_law_next (fun ds es => pick [(0, 0), (0, 1)] ds es []) 2 0 2 (fCons (fVar 0) (fCons (fCB gLen (fCons (fVar 1) (fun _ S => .ok [] S))) (fun _ S => .ok [] S))) (fun _ S => .ok [] S))) (gSeq (gSet 3 (fCall S_p_law_bent_r1 (fun ds es => pick [(0, 0), (0, 1)] ds es []) 2 0 2 (fCons (fVar 0) (fCons (fBin gIx (fVar 1) (fVar 2)) (fun _ S => .ok [] S))) (fun _ S => .ok [] S))) (gRet (fBin gAddO (fBin gAdd (fSl (fVar 1) fPartN (fPart (fVar 2))) (fIf (toB (fCB gIsi (fCons (fVar 1) (fCons (fC (.ty "list")) (fun _ S => .ok [] S))))) (fLst (fCons (fVar 3) (fun _ S => .ok [] S))) (fTup (fCons (fVar 3) (fun _ S => .ok [] S))))) (fSl (fVar 1) (fPart (fBin gAdd (fVar 2) (fC (.int 1)))) fPartN))))) gNil)
noncomputable def zbe1 : FS := (gRet (fCall S_p_law_other_o (fun ds es => pick [(0, 0), (0, 1)] ds es []) 2 0 2 (fCons (fVar 0) (fCons (fVar 1) (fun _ S => .ok [] S))) (fun _ S => .ok [] S)))
noncomputable def zbe : FS := (gSeq zbe0 zbe1)
theorem zbe_eq : m_p_law_bent = zbe := rfl
theorem val_drn {n : Int} (hn : n ≤ 1000000000) : ∀ {d : D}, valA n d = true → Drn 1 d := by
  intro d h
  unfold valA at h
  split at h
  · exact .inl (.inl rfl)
  · simp only [Bool.and_eq_true, decide_eq_true_eq] at h
    exact .inl (.inr (.inl ⟨_, rfl, h.1, h.2⟩))
  · simp only [Bool.and_eq_true, decide_eq_true_eq] at h
    obtain ⟨rfl, h1, h2⟩ := h
    refine .inr ⟨_, rfl, by simp, fun x hx => ?_⟩
    simp only [List.mem_cons, List.not_mem_nil, or_false] at hx
    rcases hx with rfl | rfl
    · exact .inr (.inr ⟨_, rfl, by decide⟩)
    · exact .inr (.inl ⟨_, rfl, by omega, by omega⟩)
  · cases h
theorem whl_int {d : D} {a b : Int} (h : whl d a b = true) : ∃ i, d = .int i ∧ a ≤ i ∧ i ≤ b := by
  unfold whl at h
  split at h
  · simp only [Bool.and_eq_true, decide_eq_true_eq] at h
    exact ⟨_, rfl, h.1, h.2⟩
  · cases h
theorem non_of {d : D} (h : d.isNon = true) : d = .non := by
  cases d <;> first | rfl | cases h
theorem cell_drn {n : Int} (hn : n ≤ 1000000000) : ∀ {d : D}, cellA n d = true → Drn 3 d := by
  intro d h
  unfold cellA at h
  split at h
  · rename_i w z
    have two : ∀ {k}, w.length ≤ 100 → Drn 2 z → k = 3 → Drn k (.tup [.str w, z]) := by
      rintro k hw hz rfl
      refine .inr ⟨_, rfl, by simp, fun x hx => ?_⟩
      simp only [List.mem_cons, List.not_mem_nil, or_false] at hx
      rcases hx with rfl | rfl
      · exact .inl (.inl (.inr (.inr ⟨_, rfl, hw⟩)))
      · exact hz
    split at h
    · rename_i e
      refine two (by rw [e]; decide) ?_ rfl
      unfold tieA at h
      rw [Bool.or_eq_true] at h
      rcases h with h | h
      · rw [non_of h]
        exact .inl (.inl (.inl rfl))
      · obtain ⟨i, rfl, a, b⟩ := whl_int h
        exact .inl (.inl (.inr (.inl ⟨_, rfl, by omega, by omega⟩)))
    · split at h
      · rename_i e
        refine two (by rcases e with e | e <;> rw [e] <;> decide) ?_ rfl
        unfold insA at h
        split at h
        · rename_i ds
          simp only [Bool.and_eq_true, decide_eq_true_eq, List.all_eq_true] at h
          exact .inr ⟨ds, rfl, by omega, fun x hx => val_drn hn (h.2 x hx)⟩
        · cases h
      · cases h
  · cases h
theorem bent_top {S : Store} {s n : Nat} (h : Sta S s) (hn : n ≠ s) {ds : List D} (hS : S[n]? = some (.lst ds)) (hl : ds.length ≤ 100) (ht : ∀ x ∈ ds, Drn 3 x) : ∃ (e : D) (T : Store), S_p_law_bent [.oid s, .oid n] S = .ok e T ∧ TopR S T e ∧ Sta T s ∧ Kps s S T := by
  have ls : s < S.length := by
    obtain ⟨v, hv⟩ := h
    exact lt_of hv
  have tr : ∀ x ∈ ds, x.tre = true := fun x hx => drn_tre (ht x hx)
  have ln := len_o hS (by omega)
  have ty1 := ty_o hS
  by_cases z : ds.length = 0
  · obtain ⟨e, T, q, r⟩ := other_lst h hn hS hl tr
    refine ⟨e, T, ?_, r⟩
    have z2 : gLen [.oid n] S = .ok (.int 0) S := by rw [ln, z]; rfl
    unfold S_p_law_bent
    rw [zbe_eq]
    unfold zbe zbe0 zbe1
    simp [List.replicate, ty1, tysOf, isiA, isiT, z2, q]
  · have z1 : (0 : Int) < (ds.length : Int) := by omega
    have z3 : 0 < ds.length := by omega
    have z4 : ds ≠ [] := fun e => z (by rw [e]; rfl)
    obtain ⟨x, S1, hx5, q1, a1, c1⟩ := drawK h 5 (by omega) (by omega)
    have q1' : S_p_law_next [.oid s, .int 5] S = .ok (.int x) S1 := q1
    have g1 := c1.2 n _ hn hS
    have ln1 := len_o g1 (by omega)
    have ty2 := ty_o g1
    by_cases x0 : x = 0
    · subst x0
      obtain ⟨e, T, q, t, a, c⟩ := other_lst a1 hn g1 hl tr
      refine ⟨e, T, ?_, t.kps (by have := c1.1; omega) c1.1 (.rfl s T), a, c1.trans c⟩
      unfold S_p_law_bent
      rw [zbe_eq]
      unfold zbe zbe0 zbe1
      simp [List.replicate, ty1, tysOf, isiA, isiT, ln, z1, z3, z4, q1', q]
    · have x1 : (0 : Int) < (x : Int) := by omega
      have x2 : 0 < x := by omega
      obtain ⟨p, S2, hp, q2, a2, c2⟩ := drawK a1 ds.length (by omega) (by omega)
      have g2 := c2.2 n _ hn g1
      obtain ⟨e, T, q, t, a, c⟩ := bent1 s S2 ds[p] a2 (ht _ (List.getElem_mem hp))
      have g3 := c.2 n _ hn g2
      have ixq := pick8 ds hp
      have ixo : gIx (.oid n) (.int p) S2 = .ok ds[p] S2 := by
        simp [gIx, pDic1, asD, g2, isS, gIxQ, asQ, asL, ixq]
      have ty3 := ty_o g3
      have b1 := slO g3 (sl_take ds p)
      have b2 : gSl (.oid n) (some ((p : Int) + 1)) none T = .ok (.lst (ds.drop (p + 1))) T := slO g3 (sl_dropN ds (p + 1))
      have l1 : (ds.take p).length ≤ 100 := by rw [List.length_take]; omega
      have l2 : (ds.drop (p + 1)).length ≤ 100 := by rw [List.length_drop]; omega
      have h1 := addL_l (ds.take p) [e] T (by simp only [List.length_cons, List.length_nil]; omega)
      have l3 : (ds.take p ++ [e]).length ≤ 101 := by rw [List.length_append]; simp only [List.length_cons, List.length_nil]; omega
      obtain ⟨U, k, e1, n1⟩ := addO_new (x := .lst (ds.take p ++ [e])) (y := .lst (ds.drop (p + 1))) (T := T) (xs := ds.take p ++ [e]) (ys := ds.drop (p + 1)) rfl rfl (by omega)
      refine ⟨.oid k, U, ?_, .inr ⟨k, _, rfl, ?_, n1.2.1, by rw [List.length_append]; omega, ?_⟩, n1.sta a, c1.trans (c2.trans (c.trans (n1.kps s)))⟩
      · generalize ds.take p ++ [e] = u2 at *
        generalize ds.take p = u1 at *
        generalize ds.drop (p + 1) = u0 at *
        have sh1 : short 1 = true := by decide
        unfold S_p_law_bent
        rw [zbe_eq]
        unfold zbe zbe0 zbe1
        simp [fPart, fPartN, fSl, List.replicate, ty1, ty3, tysOf, isiA, isiT, ln, ln1, z1, z3, z4, q1', x1, x2, q2, ixo, ixq, q, b1, b2, h1, e1, sh1]
      · have := n1.1
        have := c1.1
        have := c2.1
        have := c.1
        omega
      · intro y hy
        rcases List.mem_append.mp hy with hy | hy
        · rcases List.mem_append.mp hy with hy | hy
          · exact tr y (List.mem_of_mem_take hy)
          · rw [List.mem_singleton.mp hy]
            exact t
        · exact tr y (List.mem_of_mem_drop hy)
end K03

/-! Whether things are webs, by program and law, whatever they are. -/
namespace K03
open PySem L2 DL
/-- a row of small things -/
def RowT (S : Store) (d : D) (es : List D) : Prop := RowS S d es ∧ es.length ≤ 500 ∧ ∀ x ∈ es, x.tre = true
/-- no row -/
def NoRw (S : Store) (d : D) : Prop := ∃ T, tyS S d = some T ∧ T ∈ tysO ∧ T ≠ "list" ∧ T ≠ "tuple"
theorem top_thg {S T : Store} {e : D} (h : TopR S T e) : (∃ es, RowT T e es) ∨ NoRw T e := by
  rcases h with ⟨a, b, c⟩ | ⟨n, es, rfl, _, a, b, c⟩
  · cases e with
    | tup ds => exact .inl ⟨ds, .inl rfl, c ds rfl, (tre_tup a).1⟩
    | lst ds => cases b
    | non => exact .inr ⟨_, rfl, by decide, by decide, by decide⟩
    | bl x => exact .inr ⟨_, rfl, by decide, by decide, by decide⟩
    | int x => exact .inr ⟨_, rfl, by decide, by decide, by decide⟩
    | str x => exact .inr ⟨_, rfl, by decide, by decide, by decide⟩
    | dic x => exact .inr ⟨_, rfl, by decide, by decide, by decide⟩
    | _ => simp [D.tre] at a
  · exact .inl ⟨es, .inr (.inr ⟨n, rfl, a⟩), b, c⟩
theorem isrow_no {S : Store} {d : D} (h : NoRw S d) : S_is_row [d] S = .ok (.bl false) S := by
  obtain ⟨T, a, b, c, e⟩ := h
  rw [isrow_ty a b]
  simp [c, e]
/-- what the two words say -/
def webT (S : Store) (d e : D) (b : Bool) : Prop := (∃ cs ps, RowT S d cs ∧ RowT S e ps ∧ b = webA cs ps) ∨ (b = false ∧ (NoRw S d ∨ NoRw S e))
theorem web_thg {S : Store} {d e : D} (h1 : (∃ es, RowT S d es) ∨ NoRw S d) (h2 : (∃ es, RowT S e es) ∨ NoRw S e) : ∃ b, S_is_web [d, e] S = .ok (.bl b) S ∧ S_p_law_is_web [d, e] S = .ok (.bl b) S ∧ webT S d e b := by
  rcases h1 with ⟨cs, r1, l1, t1⟩ | n1
  · rcases h2 with ⟨ps, r2, l2, t2⟩ | n2
    · exact ⟨webA cs ps, web_any r1 r2 t1 t2 (by omega) (by omega), lweb_any r1 r2 t1 t2 (by omega) (by omega), .inl ⟨cs, ps, ⟨r1, l1, t1⟩, ⟨r2, l2, t2⟩, rfl⟩⟩
    · refine ⟨false, ?_, ?_, .inr ⟨rfl, .inr n2⟩⟩
      · unfold S_is_web
        rw [zib_eq]
        unfold zib zib0 zib1 zib2
        simp [List.replicate, isrow_row r1, isrow_no n2]
      · unfold S_p_law_is_web
        rw [zlw_eq]
        unfold zlw zlw0 zlw1 zlw2
        obtain ⟨T, a, b, c, e⟩ := n2
        simp only [tysO, List.mem_cons, List.not_mem_nil, or_false] at b
        rcases ty_row r1 with y | y <;> rcases b with rfl | rfl | rfl | rfl | rfl | rfl | rfl
        all_goals first | exact absurd rfl c | exact absurd rfl e | simp [List.replicate, y, a, tysOf, isiA, isiT]
  · refine ⟨false, ?_, ?_, .inr ⟨rfl, .inl n1⟩⟩
    · unfold S_is_web
      rw [zib_eq]
      unfold zib zib0 zib1 zib2
      simp [List.replicate, isrow_no n1]
    · unfold S_p_law_is_web
      rw [zlw_eq]
      unfold zlw zlw0 zlw1 zlw2
      obtain ⟨T, a, b, c, e⟩ := n1
      simp only [tysO, List.mem_cons, List.not_mem_nil, or_false] at b
      rcases b with rfl | rfl | rfl | rfl | rfl | rfl | rfl
      all_goals first | exact absurd rfl c | exact absurd rfl e | simp [List.replicate, a, tysOf, isiA, isiT]
end K03

/-! A Web made. -/
namespace K03
open PySem L2 DL
noncomputable def zwi0 : FS := (gIf (fNotT (toB (fCall S_is_web (fun ds es => pick [(0, 0), (0, 1)] ds es []) 2 0 2 (fCons (fVar 1) (fCons (fVar 2) (fun _ S => .ok [] S))) (fun _ S => .ok [] S)))) (fun ρ S => .ex "BadWeb" [] ρ S) gNil)
noncomputable def zwi1 : FS := (gFld ["Web"] "all_cells" (fVar 0) (fCB gList (fCons (fVar 1) (fun _ S => .ok [] S))))
noncomputable def zwi2 : FS := (gFld ["Web"] "all_pegs" (fVar 0) (fCB gList (fCons (fVar 2) (fun _ S => .ok [] S))))
noncomputable def zwi : FS := (gSeq zwi0 (gSeq zwi1 zwi2))
theorem zwi_eq : m_Web_init = zwi := rfl
/-- a cell's data, once it is one -/
theorem val_sim {n : Int} (hn : n ≤ 1000000) {d : D} (h : valA n d = true) : d.sim = true ∧ d.dep ≤ 1 ∧ d.wt ≤ 80 ∧ d.nb = true := by
  unfold valA at h
  split at h
  · exact ⟨rfl, by decide, by decide, rfl⟩
  · simp only [Bool.and_eq_true, decide_eq_true_eq] at h
    exact ⟨by simp only [D.sim, decide_eq_true_eq]; omega, by simp [D.dep], by simp [D.wt], rfl⟩
  · simp only [Bool.and_eq_true, decide_eq_true_eq] at h
    obtain ⟨rfl, h1, h2⟩ := h
    have a : PyData.strOk (Str.ofString "at") = true := by decide +kernel
    have b : (Str.ofString "at").cps.size ≤ 10 := by decide +kernel
    refine ⟨?_, by simp [D.dep, depL], ?_, by simp [D.nb, nbL]⟩
    · simp only [D.sim, simL, a, Bool.and_true, Bool.true_and, decide_eq_true_eq]
      omega
    · simp only [D.wt, wtL]
      omega
  · cases h
theorem word_ok {w : Str} (h : w = Str.ofString "tie" ∨ w = Str.ofString "cell" ∨ w = Str.ofString "last") : PyData.strOk w = true ∧ w.cps.size ≤ 10 := by
  rcases h with rfl | rfl | rfl <;> exact ⟨by decide +kernel, by decide +kernel⟩
theorem cell_sim {n : Int} (hn : n ≤ 1000000) {d : D} (h : cellA n d = true) : d.sim = true ∧ d.dep ≤ 3 ∧ d.wt ≤ 1000 ∧ d.nb = true := by
  unfold cellA at h
  split at h
  · rename_i w z
    have two : (w = Str.ofString "tie" ∨ w = Str.ofString "cell" ∨ w = Str.ofString "last") → z.sim = true ∧ z.dep ≤ 2 ∧ z.wt ≤ 900 ∧ z.nb = true → (D.tup [.str w, z]).sim = true ∧ (D.tup [.str w, z]).dep ≤ 3 ∧ (D.tup [.str w, z]).wt ≤ 1000 ∧ (D.tup [.str w, z]).nb = true := by
      intro hw ⟨a, b, c, e⟩
      obtain ⟨w1, w2⟩ := word_ok hw
      refine ⟨by simp only [D.sim, simL, w1, a, Bool.and_true], ?_, ?_, by simp [D.nb, nbL, e]⟩
      · simp only [D.dep, depL]
        omega
      · simp only [D.wt, wtL]
        omega
    split at h
    · rename_i e
      refine two (.inl e) ?_
      unfold tieA at h
      rw [Bool.or_eq_true] at h
      rcases h with h | h
      · rw [non_of h]
        exact ⟨rfl, by decide, by decide, rfl⟩
      · obtain ⟨i, rfl, a, b⟩ := whl_int h
        exact ⟨by simp only [D.sim, decide_eq_true_eq]; omega, by simp [D.dep], by simp [D.wt], rfl⟩
    · split at h
      · rename_i e
        refine two (.inr e) ?_
        unfold insA at h
        split at h
        · rename_i ds
          simp only [Bool.and_eq_true, decide_eq_true_eq, List.all_eq_true] at h
          have q2 : depL ds ≤ 1 := depL_le.mpr fun d hd => (val_sim hn (h.2 d hd)).2.1
          have q3 := wtL_le (n := 80) (ds := ds) fun d hd => (val_sim hn (h.2 d hd)).2.2.1
          refine ⟨simL_all.mpr fun d hd => (val_sim hn (h.2 d hd)).1, ?_, ?_, nbL_all.mpr fun d hd => (val_sim hn (h.2 d hd)).2.2.2⟩
          · simp only [D.dep]
            omega
          · simp only [D.wt]
            omega
        · cases h
      · cases h
  · cases h
/-- the rows of a web -/
structure WebOk (cs ps : List D) : Prop where
  lc : cs.length ≤ 501
  lp : ps.length ≤ 501
  c : ∀ x ∈ cs, cellA cs.length x = true
  p : ∀ x ∈ ps, valA cs.length x = true
theorem WebOk.web {cs ps : List D} (h : WebOk cs ps) : webA cs ps = true := by
  simp only [webA, Bool.and_eq_true, List.all_eq_true]
  exact ⟨h.c, h.p⟩
theorem WebOk.cs {cs ps : List D} (h : WebOk cs ps) : (D.lst cs).sim = true ∧ (D.lst cs).dep ≤ 4 ∧ (D.lst cs).wt ≤ 501501 ∧ (D.lst cs).nb = true := by
  have n1 : (cs.length : Int) ≤ 1000000 := by have := h.lc; omega
  have q2 : depL cs ≤ 3 := depL_le.mpr fun d hd => (cell_sim n1 (h.c d hd)).2.1
  have q3 := wtL_le (n := 1000) (ds := cs) fun d hd => (cell_sim n1 (h.c d hd)).2.2.1
  have := h.lc
  refine ⟨simL_all.mpr fun d hd => (cell_sim n1 (h.c d hd)).1, ?_, ?_, nbL_all.mpr fun d hd => (cell_sim n1 (h.c d hd)).2.2.2⟩
  · simp only [D.dep]
    omega
  · simp only [D.wt]
    omega
theorem WebOk.ps {cs ps : List D} (h : WebOk cs ps) : (D.lst ps).sim = true ∧ (D.lst ps).dep ≤ 4 ∧ (D.lst ps).wt ≤ 40581 ∧ (D.lst ps).nb = true := by
  have n1 : (cs.length : Int) ≤ 1000000 := by have := h.lc; omega
  have q2 : depL ps ≤ 1 := depL_le.mpr fun d hd => (val_sim n1 (h.p d hd)).2.1
  have q3 := wtL_le (n := 80) (ds := ps) fun d hd => (val_sim n1 (h.p d hd)).2.2.1
  have := h.lp
  refine ⟨simL_all.mpr fun d hd => (val_sim n1 (h.p d hd)).1, ?_, ?_, nbL_all.mpr fun d hd => (val_sim n1 (h.p d hd)).2.2.2⟩
  · simp only [D.dep]
    omega
  · simp only [D.wt]
    omega
/-- the web made -/
def webD (cs ps : List D) : D := .ins "Web" [("all_cells", .lst cs), ("all_pegs", .lst ps)]
theorem list_row {S : Store} {d : D} {ds : List D} (h : RowS S d ds) : gList [d] S = .ok (.lst ds) S := by
  rcases h with rfl | rfl | ⟨n, rfl, h⟩
  · simp [gList, isDic1, gToL, asQ, asD]
  · simp [gList, isDic1, gToL, asQ, asD, asL]
  · simp [gList, isDic1, gToL, asQ, asD, asL, h]
theorem init_ok {S : Store} {k : Nat} {d e : D} {cs ps : List D} (hk : S[k]? = some (.ins "Web" [])) (h1 : RowS S d cs) (h2 : RowS S e ps) (t1 : ∀ x ∈ cs, x.tre = true) (t2 : ∀ x ∈ ps, x.tre = true) (m1 : cs.length ≤ 1000) (m2 : ps.length ≤ 1000) (hb : webA cs ps = true) : S_Web_init [.oid k, d, e] S = .ok .non (S.set k (.ins "Web" [("all_cells", .lst cs), ("all_pegs", .lst ps)])) := by
  have w := web_any h1 h2 t1 t2 m1 m2
  rw [hb] at w
  have l1 := list_row h1
  have h2' : RowS (S.set k (.ins "Web" [("all_cells", .lst cs)])) e ps := by
    rcases h2 with rfl | rfl | ⟨n, rfl, q⟩
    · exact .inl rfl
    · exact .inr (.inl rfl)
    · refine .inr (.inr ⟨n, rfl, ?_⟩)
      rw [set_ne]
      · exact q
      · rintro rfl
        rw [hk] at q
        cases q
  have l2 := list_row h2'
  have g2 : (S.set k (.ins "Web" [("all_cells", .lst cs)]))[k]? = some (.ins "Web" [("all_cells", .lst cs)]) := set_eq hk
  have p2 : putFD "all_pegs" (.lst ps) ([("all_cells", D.lst cs)] : List (Str × D)) = ([("all_cells", D.lst cs), ("all_pegs", .lst ps)] : List (Str × D)) := by
    unfold putFD
    rw [if_neg (by decide +kernel)]
    rfl
  unfold S_Web_init
  rw [zwi_eq]
  unfold zwi zwi0 zwi1 zwi2
  simp [List.replicate, w, l1, hk, putFD, l2, g2, p2, List.set_set]
theorem init_no {S : Store} {k : Nat} {d e : D} (w : S_is_web [d, e] S = .ok (.bl false) S) : S_Web_init [.oid k, d, e] S = .ex "BadWeb" [] S := by
  unfold S_Web_init
  rw [zwi_eq]
  unfold zwi zwi0 zwi1 zwi2
  simp [List.replicate, w]
end K03

/-! What is told of a making. -/
namespace K03
open PySem L2 DL
def clP : D → Bool
  | .tup [_, .bl b] => b
  | _ => false
def clF : D → D
  | .tup [x, _] => x
  | _ => .non
theorem isx (c : Str) (b : Bool) (S : Store) : gIsX [("BadWeb", b)] (.cls c) [.exc "BadWeb" [], .cls c] S = .ok (.bl b) S := by
  simp [gIsX, isArg, List.lookup]
theorem isxT (n : String) (b : Bool) (S : Store) : gIsX [("BadWeb", b)] (.ty n) [.exc "BadWeb" [], .ty n] S = .ok (.bl b) S := by
  simp [gIsX, isArg, List.lookup]
theorem join1 (S : Store) : gJoin (.str " ") [.lst [.str "BadWeb"]] S = .ok (.str "BadWeb") S := by
  have h : Txt.join " " ["BadWeb"] = "BadWeb" := by decide +kernel
  unfold gJoin
  have e : (asQ S (.lst [.str "BadWeb"])).bind strsOf = some [("BadWeb" : Str)] := rfl
  simp only [e]
  rw [if_pos (by decide +kernel), h]
theorem clP_t (a : Str) : clP (.tup [.str a, .bl true]) = true := rfl
theorem clP_f (a : Str) : clP (.tup [.str a, .bl false]) = false := rfl
theorem clF_t (a : Str) (b : Bool) : clF (.tup [.str a, .bl b]) = .str a := rfl
theorem classes_ok (S : Store) : S_p_law_classes [.exc "BadWeb" []] S = .ok (.str "BadWeb") S := by
  unfold S_p_law_classes m_p_law_classes
  simp [isx, isxT, short_le]
  erw [comp_filter (p := clP) (f := clF)]
  · simp [clP_t, clP_f, clF_t, List.filter_cons, finL, short_le, tyS, join1]
  · intro d hd
    simp only [List.mem_cons, List.not_mem_nil, or_false] at hd
    rcases hd with rfl | rfl | rfl | rfl | rfl | rfl | rfl | rfl | rfl | rfl | rfl | rfl | rfl | rfl | rfl | rfl | rfl | rfl <;> exact ⟨_, rfl, rfl, fun _ => rfl⟩
theorem told_no (th : Store → Res D) (S S' : Store) (h : th S = .ex "BadWeb" [] S') : (m_p_law_told th (List.replicate 4 none) S).res = .ok (.tup [.str "refused", .str "BadWeb"]) S' := by
  unfold m_p_law_told
  have c : callSub S_p_law_classes [.exc "BadWeb" []] S' = .ok (.str "BadWeb") S' := callSub_ok rfl (classes_ok []) rfl
  simp [gTry, gActSet, h, hdM, tb_YardError, Out.undo, c, List.replicate, short_le, D.isNon]
theorem told_yes (th : Store → Res D) (S S' : Store) (d : D) (h : th S = .ok d S') : (m_p_law_told th (List.replicate 4 none) S).res = .ok (.tup [.str "told", d]) S' := by
  unfold m_p_law_told
  simp [gTry, gActSet, h, List.replicate, D.isNon]
def pL : He.Defn := ("law", none)
def qL : Str := (("law" : Str) ++ ".<locals>.") ++ "<lambda>"
theorem any_tab {T : Store} (h : T[0]? = some (.tbl pL qL)) : T.any (isTab pL qL) = true := List.any_eq_true.mpr ⟨_, List.mem_of_getElem? h, by simp [isTab]⟩
theorem told_eq {n : Nat} {m : (Store → Res D) → FS} {fb : FE} {ρ : EnvD} {S : Store} (h : S[0]? = some (.tbl pL qL)) : fTold ("law", none) ((("law" : Str) ++ ".<locals>.") ++ "<lambda>") n m fb ρ S = (m (fun S => fb ρ S) (List.replicate n none) S).res := by
  have a := any_tab h
  have a : S.any (isTab ("law", none) ((("law" : Str) ++ ".<locals>.") ++ "<lambda>")) = true := a
  unfold fTold
  rw [if_pos a]
/-! ### freezing what was made -/
theorem frzL_same {k : Nat} {S : Store} : ∀ (ds : List D), (∀ d ∈ ds, frzD k d S = some (d, S)) → frzL (frzD k) ds S = some (ds, S)
  | [], _ => rfl
  | d :: ds, h => by
    have ih := frzL_same ds fun e he => h e (List.mem_cons_of_mem _ he)
    simp [frzL, h d List.mem_cons_self, ih]
theorem frz_sim : ∀ (k : Nat) (d : D) (S : Store), d.sim = true → d.dep < k → frzD k d S = some (d, S)
  | 0, d, S, _, h => absurd h (Nat.not_lt_zero _)
  | k + 1, d, S, hs, hd => by
    cases d with
    | tup ds =>
      simp only [D.sim] at hs
      simp only [D.dep] at hd
      have := frzL_same (k := k) (S := S) ds fun e he => frz_sim k e S (simL_all.mp hs e he) (by have := depL_le.mp (Nat.le_refl _) e he; omega)
      rw [frzD]
      simp [this]
    | lst ds =>
      simp only [D.sim] at hs
      simp only [D.dep] at hd
      have := frzL_same (k := k) (S := S) ds fun e he => frz_sim k e S (simL_all.mp hs e he) (by have := depL_le.mp (Nat.le_refl _) e he; omega)
      rw [frzD]
      simp [this]
    | oid _ => simp [D.sim] at hs
    | dic _ => simp [D.sim] at hs
    | ins _ _ => simp [D.sim] at hs
    | _ => rfl
theorem frz_web {S : Store} {k : Nat} {cs ps : List D} (W : WebOk cs ps) (h : S[k]? = some (.ins "Web" [("all_cells", .lst cs), ("all_pegs", .lst ps)])) : frzD 60 (.oid k) S = some (webD cs ps, S.set k (.frz (webD cs ps))) := by
  have a := frz_sim 59 (.lst cs) S W.cs.1 (by have := W.cs.2.1; omega)
  have b := frz_sim 59 (.lst ps) S W.ps.1 (by have := W.ps.2.1; omega)
  rw [frzD]
  simp [h, frzF, a, b, webD]
/-- what the law's own work makes: the web, or a refusal -/
theorem row_no {S : Store} {d : D} {es : List D} (h : RowT S d es) (n : NoRw S d) : False := by
  obtain ⟨T, a, _, b, c⟩ := n
  rcases ty_row h.1 with q | q
  · rw [q] at a
    cases a
    exact b rfl
  · rw [q] at a
    cases a
    exact c rfl
theorem work_ok {S : Store} {d e : D} {b : Bool} (c1 : (∃ es, RowT S d es) ∨ NoRw S d) (c2 : (∃ es, RowT S e es) ∨ NoRw S e) (w : webT S d e b) {ρ : EnvD} (h5 : ρ[5]? = some (some d)) (h6 : ρ[6]? = some (some e)) :
    (b = true → ∃ cs ps, RowT S d cs ∧ RowT S e ps ∧ WebOk cs ps ∧ fFrzD 60 (fMake (makeO S_Web_init (fun ds es => pick [(0, 0), (1, 1), (1, 0)] ds es []) "Web" 3) 0 2 (fun _ S => .ok [] S) (fCons (fVar 6) (fCons (fVar 5) (fun _ S => .ok [] S)))) ρ S = .ok (webD cs ps) (S ++ [.frz (webD cs ps)])) ∧
    (b = false → fFrzD 60 (fMake (makeO S_Web_init (fun ds es => pick [(0, 0), (1, 1), (1, 0)] ds es []) "Web" 3) 0 2 (fun _ S => .ok [] S) (fCons (fVar 6) (fCons (fVar 5) (fun _ S => .ok [] S)))) ρ S = .ex "BadWeb" [] (S ++ [.ins "Web" []])) := by
  have g0 : (S ++ [SO.ins "Web" []])[S.length]? = some (.ins "Web" []) := by simp
  have up : ∀ {x : D} {xs : List D}, RowT S x xs → RowT (S ++ [SO.ins "Web" []]) x xs := fun {x xs} h => ⟨by
    rcases h.1 with rfl | rfl | ⟨n, rfl, q⟩
    · exact .inl rfl
    · exact .inr (.inl rfl)
    · exact .inr (.inr ⟨n, rfl, app_old q⟩), h.2⟩
  have no : ∀ {x : D}, NoRw S x → NoRw (S ++ [SO.ins "Web" []]) x := fun {x} h => by
    obtain ⟨T, a, r⟩ := h
    refine ⟨T, ?_, r⟩
    rw [← a]
    cases x with
    | oid n =>
      cases q : S[n]? with
      | none => simp [tyS, q] at a
      | some o => simp [tyS, q, app_old q]
    | _ => rfl
  constructor
  · rintro rfl
    rcases w with ⟨cs, ps, r1, r2, hb⟩ | ⟨hb, _⟩
    · simp only [webA, Bool.true_eq, Bool.and_eq_true, List.all_eq_true] at hb
      have W : WebOk cs ps := ⟨by have := r1.2.1; omega, by have := r2.2.1; omega, hb.1, hb.2⟩
      refine ⟨cs, ps, r1, r2, W, ?_⟩
      have i := init_ok g0 (up r1).1 (up r2).1 r1.2.2 r2.2.2 (by have := r1.2.1; omega) (by have := r2.2.1; omega) W.web
      have f := frz_web W (S := (S ++ [SO.ins "Web" []]).set S.length (.ins "Web" [("all_cells", .lst cs), ("all_pegs", .lst ps)])) (set_eq g0)
      have e1 : ((S ++ [SO.ins "Web" []]).set S.length (.ins "Web" [("all_cells", .lst cs), ("all_pegs", .lst ps)])) = S ++ [.ins "Web" [("all_cells", .lst cs), ("all_pegs", .lst ps)]] := by simp
      have e2 : ((S ++ [SO.ins "Web" []]).set S.length (.ins "Web" [("all_cells", .lst cs), ("all_pegs", .lst ps)])).set S.length (.frz (webD cs ps)) = S ++ [.frz (webD cs ps)] := by simp
      rw [e2] at f
      unfold fFrzD
      simp [h5, h6, makeO, i, D.isNon]
      rw [e1] at f
      simp [f]
    · cases hb
  · rintro rfl
    have hw' : S_is_web [d, e] (S ++ [SO.ins "Web" []]) = .ok (.bl false) (S ++ [SO.ins "Web" []]) := by
      rcases w with ⟨cs, ps, r1, r2, hb⟩ | ⟨_, hn⟩
      · have q1 := up r1
        have q2 := up r2
        have := web_any q1.1 q2.1 q1.2.2 q2.2.2 (by have := q1.2.1; omega) (by have := q2.2.1; omega)
        rw [← hb] at this
        exact this
      · obtain ⟨b', q, _, wt⟩ := web_thg (S := S ++ [SO.ins "Web" []]) (c1.imp (fun ⟨es, r⟩ => ⟨es, up r⟩) no) (c2.imp (fun ⟨es, r⟩ => ⟨es, up r⟩) no)
        rcases wt with ⟨cs, ps, r1, r2, _⟩ | ⟨rfl, _⟩
        · rcases hn with hn | hn
          · exact (row_no r1 (no hn)).elim
          · exact (row_no r2 (no hn)).elim
        · exact q
    have i := init_no (k := S.length) hw'
    unfold fFrzD
    simp [h5, h6, makeO, i]
end K03

/-! The state of a cell of the script (lines of k03's text turned to this law). -/
namespace K03
open PySem L2 DL
abbrev fNo : FA := fun _ S => .ok [] S
noncomputable abbrev tgt (i j : Nat) : FG := mTup 2 (mCons (mName i) (mCons (mName j) (fun ds ρ _ => match ds with | [] => some ρ | _ => none)))
theorem p1018 (S : Store) : gPow (.int 10) (.int 18) S = .ok (.int 1000000000000000000) S := by
  have : cPow 10 18 = true := by simp [cPow]
  simp [gPow, gI, this]
theorem e_fEnum_l {ρ : EnvD} {S : Store} {i : Nat} {ds : List D} (h : ρ[i]? = some (some (.lst ds))) : fEnum (fCons (fVar i) fNo) ρ S = .ok ⟨enumD 0 ds, none⟩ S := by
  simp [fEnum, h]
noncomputable def sbody : FS := (gSeq (gSet 7 (fBin gMod (fBin gAdd (fBin gAdd (fBin gAdd (fVar 2) (fBin gMul (fC (.int 104729)) (fVar 1))) (fBin gMul (fC (.int 1299709)) (fVar 5))) (fC (.int 17))) (fVar 6))) (gSet 4 (fBin gAdd (fBin gMul (fVar 4) (fC (.int 2147483647))) (fBin gMod (fBin gMul (fVar 7) (fBin gAdd (fBin gAdd (fBin gMul (fVar 7) (fVar 7)) (fBin gMul (fC (.int 2)) (fVar 5))) (fC (.int 3)))) (fVar 6)))))
theorem cMul_l {i j : Int} (h1 : -18446744073709551616 < i) (h2 : i < 18446744073709551616) : cMul i j = true := @decide_eq_true _ (Classical.propDecidable _) (.inl ⟨h1, h2⟩)
theorem cMul_r {i j : Int} (h1 : -18446744073709551616 < j) (h2 : j < 18446744073709551616) : cMul i j = true := @decide_eq_true _ (Classical.propDecidable _) (.inr ⟨h1, h2⟩)
theorem toPyL_ints (l : List Int) : toPyL (l.map D.int) = some (l.map PyData.int) := by
  induction l with
  | nil => rfl
  | cons n l ih => simp [toPyL, toPy, ih]
theorem lay_alli (l : List Int) : PyData.canLayAll0 (l.map PyData.int) = true ∧ PyData.depthAll (l.map PyData.int) = 0 := by
  induction l with
  | nil => exact ⟨rfl, rfl⟩
  | cons n l ih =>
    simp only [List.map_cons, PyData.canLayAll0, PyData.canLay0, PyData.depthAll, PyData.depth, ih.1, ih.2]
    exact ⟨rfl, rfl⟩
theorem ne_scr (ns : List Int) (S : Store) : gNe (.scr (ns.map D.int)) (.lst []) S = .ok (.bl (!ns.isEmpty)) S := by
  have e1 : pyOf S (.scr (ns.map D.int)) = some (.list (ns.map PyData.int)) := by simp [pyOf, toPy, toPyL_ints]
  have e2 : pyOf S (.lst []) = some (.list []) := by simp [pyOf, toPy, toPyL]
  have e3 : SeqAt.shaped (.list []) = true := by simp [SeqAt.shaped, PyData.canLay0, PyData.canLayAll0, PyData.depth, PyData.depthAll]
  have e5 : SeqAt.shaped (.list (ns.map PyData.int)) = true := by simp [SeqAt.shaped, PyData.canLay0, lay_alli, PyData.depth]
  have e4 : PyData.eqv (.list (ns.map PyData.int)) (.list []) = ns.isEmpty := by
    cases ns <;> simp [PyData.eqv, PyData.eqvAll]
  show (if pScal (.scr (ns.map D.int)) (.lst []) S then _ else gEqD true (.scr (ns.map D.int)) (.lst []) S) = _
  rw [if_neg (by simp [pScal, scalD])]
  simp [gEqD, e1, e2, e3, e5, e4]
theorem sloop_ok {ps : List Int} (hp : ∀ p ∈ ps, 0 < p ∧ p < 2147483648) (x0 x3 : Option D) (k : Nat) (cell f : Int) (y5 y6 y7 : Option D) (S : Store) :
    ∃ f' z5 z6 z7, loopF none (tgt 5 6) sbody (enumD 0 (ps.map D.int)) [x0, some (.int k), some (.int cell), x3, some (.int f), y5, y6, y7] S = .nx [x0, some (.int k), some (.int cell), x3, some (.int f'), z5, z6, z7] S := by
  obtain ⟨ρ', S', h1, f', z5, z6, z7, rfl, rfl⟩ := loop_inv (m := tgt 5 6) (b := sbody) (fun j ρ S' => ∃ (f' : Int) (z5 z6 z7 : Option D), ρ = [x0, some (.int k), some (.int cell), x3, some (.int f'), z5, z6, z7] ∧ S = S')
    (enumD 0 (ps.map D.int)) 0 [x0, some (.int k), some (.int cell), x3, some (.int f), y5, y6, y7] S ⟨f, y5, y6, y7, rfl, rfl⟩ (by
    rintro j d ρ S' hd ⟨f', z5, z6, z7, rfl, rfl⟩
    rw [enumD_get, List.getElem?_map] at hd
    cases hv : ps[j]? with
    | none => rw [hv] at hd; cases hd
    | some p =>
      rw [hv] at hd
      cases hd
      obtain ⟨p1, p2⟩ := hp p (List.mem_of_getElem? hv)
      have b1 := Int.emod_nonneg (cell + 104729 * k + 1299709 * j + 17) (b := p) (by omega)
      have b2 := Int.emod_lt_of_pos (cell + 104729 * k + 1299709 * j + 17) p1
      have m1 : cMul 104729 (k : Int) = true := cMul_l (by decide) (by decide)
      have m2 : cMul 1299709 (j : Int) = true := cMul_l (by decide) (by decide)
      have m3 : cMul f' 2147483647 = true := cMul_r (by decide) (by decide)
      have m4 : cMul 2 (j : Int) = true := cMul_l (by decide) (by decide)
      have m5 : ∀ x, cMul ((cell + 104729 * k + 1299709 * j + 17) % p) x = true := fun x => cMul_l (by omega) (by omega)
      have hb : sbody [x0, some (.int k), some (.int cell), x3, some (.int f'), some (.int ((0 + j : Nat) : Int)), some (.int p), z7] S =
          .nx [x0, some (.int k), some (.int cell), x3, some (.int (f' * 2147483647 + (cell + 104729 * k + 1299709 * j + 17) % p * ((cell + 104729 * k + 1299709 * j + 17) % p * ((cell + 104729 * k + 1299709 * j + 17) % p) + 2 * j + 3) % p)), some (.int ((0 + j : Nat) : Int)), some (.int p), some (.int ((cell + 104729 * k + 1299709 * j + 17) % p))] S := by
        unfold sbody
        simp [m1, m2, m3, m4, m5, p1]
      exact ⟨_, _, S, rfl, .inl hb, _, _, _, _, rfl, rfl⟩)
  exact ⟨f', z5, z6, z7, h1⟩
theorem state_ok (ns : List Int) (k : Nat) (S : Store) : ∃ v : Int, S_p_law_state [.scr (ns.map D.int), .int k] S = .ok (.oid S.length) (S ++ [.lst [.int v]]) := by
  -- the cell
  have hcell : ∃ cell : Int, fIf (toB (fBin gNe (fVar 0) (fLst fNo))) (fCB gAbs (fCons (fBin gIx (fVar 0) (fBin gMod (fVar 1) (fCB gLen (fCons (fVar 0) fNo)))) fNo)) (fC (.int 0)) [some (.scr (ns.map D.int)), some (.int k), none, none, none, none, none, none] S = .ok (.int cell) S := by
    cases ns with
    | nil => exact ⟨0, by simp [show gNe (.scr []) (.lst []) S = .ok (.bl false) S from ne_scr [] S]⟩
    | cons n ns =>
      have lp : (0 : Int) < ((n :: ns).length : Int) := by simp only [List.length_cons]; omega
      have g1 := Int.emod_nonneg (k : Int) (b := ((n :: ns).length : Int)) (by omega)
      have g2 := Int.emod_lt_of_pos (k : Int) lp
      obtain ⟨i, hi⟩ : ∃ i : Nat, (k : Int) % ((n :: ns).length : Int) = (i : Int) := ⟨((k : Int) % ((n :: ns).length : Int)).toNat, by omega⟩
      have hil : i < (n :: ns).length := by omega
      have ea : atI ((n :: ns).map D.int) (i : Int) = some (.int ((n :: ns)[i])) := by
        rw [at_nat _ _ (by simpa using hil), List.getElem?_map, List.getElem?_eq_getElem hil]
        rfl
      refine ⟨if (n :: ns)[i] < 0 then -(n :: ns)[i] else (n :: ns)[i], ?_⟩
      have nn := ne_scr (n :: ns) S
      have md : gMod (.int k) (.int (((n :: ns).map D.int).length : Nat)) S = .ok (.int i) S := by
        rw [List.length_map, e_gMod _ _ _ lp, hi]
      simp only [e_fIf, e_toB, e_fBin, e_fVar, e_fLst, List.getElem?_cons_succ, List.getElem?_cons_zero, Res.bind_ok, List.length_nil, short0, if_true, nn, List.isEmpty_cons, Bool.not_false, e_fCB, e_fCons, e_len_s, md, e_ix_s, ea, e_abs]
  obtain ⟨cell, hcell⟩ := hcell
  by_cases hb : (1000000000000000000 : Int) ≤ cell ∧ k < ns.length
  · refine ⟨cell - 1000000000000000000, ?_⟩
    have h2 : (k : Int) < (ns.length : Int) := by omega
    have key : m_p_law_state [some (.scr (ns.map D.int)), some (.int k), none, none, none, none, none, none] S = .rt (.oid S.length) (S ++ [.lst [.int (cell - 1000000000000000000)]]) := by
      unfold m_p_law_state
      rw [e_gSeq, e_gSet, hcell]
      simp [p1018, hb.1, hb.2]
    show (m_p_law_state [some (.scr (ns.map D.int)), some (.int k), none, none, none, none, none, none] S).res = _
    rw [key]
    rfl
  · let ps : List Int := [2147483629, 2147483587, 2147483579, 2147483563, 2147483549, 2147483543, 2147483497, 2147483489, 2147483477, 2147483423, 2147483399, 2147483353, 2147483323, 2147483269, 2147483249]
    have hps : ∀ p ∈ ps, 0 < p ∧ p < 2147483648 := by decide
    obtain ⟨f', z5, z6, z7, hl⟩ := sloop_ok hps (some (.scr (ns.map D.int))) (some (.lst (ps.map D.int))) k cell 0 none none none S
    refine ⟨f', ?_⟩
    have no : (fAndT (toB (fBin gGe (fVar 2) (fBin gPow (fC (.int 10)) (fC (.int 18))))) (toB (fBin gLt (fVar 1) (fCB gLen (fCons (fVar 0) fNo))))) [some (.scr (ns.map D.int)), some (.int k), some (.int cell), none, none, none, none, none] S = .ok false S := by
      by_cases h1 : (1000000000000000000 : Int) ≤ cell
      · have h2 : ¬ k < ns.length := fun z => hb ⟨h1, z⟩
        simp [p1018, h1, h2]
      · simp [p1018, h1]
    have key : m_p_law_state [some (.scr (ns.map D.int)), some (.int k), none, none, none, none, none, none] S = .rt (.oid S.length) (S ++ [.lst [.int f']]) := by
      unfold m_p_law_state
      rw [e_gSeq, e_gSet, hcell]
      simp only [Res.into_ok, Out.seq_nx, List.set_cons_succ, List.set_cons_zero]
      rw [e_gSeq, e_gIf, no]
      simp only [Res.into_ok, Bool.false_eq_true, if_false, e_gNil, Out.seq_nx]
      rw [e_gSeq, e_gSet]
      have p8 : fLst (fCons (fC (.int 2147483629)) (fCons (fC (.int 2147483587)) (fCons (fC (.int 2147483579)) (fCons (fC (.int 2147483563)) (fCons (fC (.int 2147483549)) (fCons (fC (.int 2147483543)) (fCons (fC (.int 2147483497)) (fCons (fC (.int 2147483489)) fNo)))))))) [some (.scr (ns.map D.int)), some (.int k), some (.int cell), none, none, none, none, none] S =
          .ok (.lst [.int 2147483629, .int 2147483587, .int 2147483579, .int 2147483563, .int 2147483549, .int 2147483543, .int 2147483497, .int 2147483489]) S := by simp
      rw [p8]
      simp only [Res.into_ok, Out.seq_nx, List.set_cons_succ, List.set_cons_zero]
      rw [e_gSeq, e_gSet, e_fBin]
      have p7 : ∀ ρ : EnvD, fLst (fCons (fC (.int 2147483477)) (fCons (fC (.int 2147483423)) (fCons (fC (.int 2147483399)) (fCons (fC (.int 2147483353)) (fCons (fC (.int 2147483323)) (fCons (fC (.int 2147483269)) (fCons (fC (.int 2147483249)) fNo))))))) ρ S =
          .ok (.lst [.int 2147483477, .int 2147483423, .int 2147483399, .int 2147483353, .int 2147483323, .int 2147483269, .int 2147483249]) S := fun ρ => by simp
      have fv : ∀ d : D, fVar 3 [some (.scr (ns.map D.int)), some (.int k), some (.int cell), some d, none, none, none, none] S = .ok d S := fun d => rfl
      rw [fv]
      simp only [Res.bind_ok]
      rw [p7]
      simp only [Res.bind_ok]
      rw [e_addl _ _ S (short_le (by decide))]
      simp only [Res.into_ok, Out.seq_nx, List.set_cons_succ, List.set_cons_zero]
      rw [e_gSeq, e_gSet]
      simp only [e_fC, Res.into_ok, Out.seq_nx, List.set_cons_succ, List.set_cons_zero]
      rw [e_gSeq, e_gFor, e_fEnum_l (ds := ps.map D.int) (by rfl)]
      simp only [Res.into_ok]
      have hl' : loopF none (tgt 5 6) sbody (enumD 0 (ps.map D.int)) [some (.scr (ns.map D.int)), some (.int k), some (.int cell), some (.lst ([D.int 2147483629, .int 2147483587, .int 2147483579, .int 2147483563, .int 2147483549, .int 2147483543, .int 2147483497, .int 2147483489] ++ [.int 2147483477, .int 2147483423, .int 2147483399, .int 2147483353, .int 2147483323, .int 2147483269, .int 2147483249])), some (.int 0), none, none, none] S = _ := hl
      refine Eq.trans (congrArg (fun o => Out.seq o (gRet (fLstO (fCons (fVar 4) fNo)))) hl') ?_
      simp
    show (m_p_law_state [some (.scr (ns.map D.int)), some (.int k), none, none, none, none, none, none] S).res = _
    rw [key]
    rfl
end K03

/-! Cells and pegs that are nearly the same. -/
namespace K03
open PySem L2 DL
noncomputable def znr0 : FS := (gSet 3 (fCall S_p_law_next (fun ds es => pick [(0, 0), (0, 1)] ds es []) 2 0 2 (fCons (fVar 0) (fCons (fC (.int 8)) (fun _ S => .ok [] S))) (fun _ S => .ok [] S)))
noncomputable def znr1 : FS := (gSet 4 (fCall S_p_law_value (fun ds es => pick [(0, 0), (0, 1)] ds es []) 2 0 2 (fCons (fVar 0) (fCons (fCB gLen (fCons (fVar 1) (fun _ S => .ok [] S))) (fun _ S => .ok [] S))) (fun _ S => .ok [] S)))
noncomputable def znr2 : FS := (gSet 5 (fCall S_p_law_cell (fun ds es => pick [(0, 0), (0, 1)] ds es []) 2 0 2 (fCons (fVar 0) (fCons (fCB gLen (fCons (fVar 1) (fun _ S => .ok [] S))) (fun _ S => .ok [] S))) (fun _ S => .ok [] S)))
noncomputable def znr3 : FS := (gSet 6 (fCall S_p_law_next (fun ds es => pick [(0, 0), (0, 1)] ds es []) 2 0 2 (fCons (fVar 0) (fCons (fCB gMax (fCons (fC (.int 1)) (fCons (fCB gLen (fCons (fVar 1) (fun _ S => .ok [] S))) (fun _ S => .ok [] S)))) (fun _ S => .ok [] S))) (fun _ S => .ok [] S)))
noncomputable def znr4 : FS := (gSet 7 (fCall S_p_law_next (fun ds es => pick [(0, 0), (0, 1)] ds es []) 2 0 2 (fCons (fVar 0) (fCons (fCB gMax (fCons (fC (.int 1)) (fCons (fCB gLen (fCons (fVar 2) (fun _ S => .ok [] S))) (fun _ S => .ok [] S)))) (fun _ S => .ok [] S))) (fun _ S => .ok [] S)))
noncomputable def znr5 : FS := (gSet 8 (fCall S_p_law_next (fun ds es => pick [(0, 0), (0, 1)] ds es []) 2 0 2 (fCons (fVar 0) (fCons (fCB gMax (fCons (fC (.int 1)) (fCons (fCB gLen (fCons (fVar 1) (fun _ S => .ok [] S))) (fun _ S => .ok [] S)))) (fun _ S => .ok [] S))) (fun _ S => .ok [] S)))
noncomputable def znr6 : FS := (gIf (toB (fBin gEq (fVar 3) (fC (.int 1)))) (gRet (fTup (fCons (fBin gAdd (fBin gAdd (fSl (fVar 1) fPartN (fPart (fVar 6))) (fLst (fCons (fVar 5) (fun _ S => .ok [] S)))) (fSl (fVar 1) (fPart (fBin gAdd (fVar 6) (fC (.int 1)))) fPartN)) (fCons (fVar 2) (fun _ S => .ok [] S))))) gNil)
noncomputable def znr7 : FS := (gIf (toB (fBin gEq (fVar 3) (fC (.int 2)))) (gRet (fTup (fCons (fVar 1) (fCons (fBin gAdd (fBin gAdd (fSl (fVar 2) fPartN (fPart (fVar 7))) (fLst (fCons (fVar 4) (fun _ S => .ok [] S)))) (fSl (fVar 2) (fPart (fBin gAdd (fVar 7) (fC (.int 1)))) fPartN)) (fun _ S => .ok [] S))))) gNil)
noncomputable def znr8 : FS := (gIf (toB (fBin gEq (fVar 3) (fC (.int 3)))) (gRet (fTup (fCons (fBin gAdd (fVar 1) (fLst (fCons (fVar 5) (fun _ S => .ok [] S)))) (fCons (fVar 2) (fun _ S => .ok [] S))))) gNil)
noncomputable def znr9 : FS := (gIf (toB (fBin gEq (fVar 3) (fC (.int 4)))) (gRet (fTup (fCons (fVar 1) (fCons (fBin gAdd (fVar 2) (fLst (fCons (fVar 4) (fun _ S => .ok [] S)))) (fun _ S => .ok [] S))))) gNil)
noncomputable def znr10 : FS := (gIf (fAndT (toB (fBin gEq (fVar 3) (fC (.int 5)))) (toB (fBin gNe (fVar 1) (fLst (fun _ S => .ok [] S))))) (gSeq (gSet 9 (fCB gListO (fCons (fVar 1) (fun _ S => .ok [] S)))) (gSeq (gPut2 (fVar 9) (fVar 6) (fVar 9) (fVar 8) (fTup (fCons (fBin gIx (fVar 1) (fVar 8)) (fCons (fBin gIx (fVar 1) (fVar 6)) (fun _ S => .ok [] S))))) (gRet (fTup (fCons (fFrz (fVar 9)) (fCons (fVar 2) (fun _ S => .ok [] S))))))) gNil)
noncomputable def znr11 : FS := (gIf (toB (fBin gEq (fVar 3) (fC (.int 6)))) (gRet (fTup (fCons (fVar 1) (fCons (fun ρ S => ((fVar 2) ρ S).bind gRevL) (fun _ S => .ok [] S))))) gNil)
noncomputable def znr12 : FS := (gIf (fAndT (toB (fBin gEq (fVar 3) (fC (.int 7)))) (fAndT (toB (fBin gNe (fVar 1) (fLst (fun _ S => .ok [] S)))) (toB (fBin gNe (fBin gIx (fBin gIx (fVar 1) (fVar 6)) (fC (.int 0))) (fC (.str "tie")))))) (gRet (fTup (fCons (fBin gAdd (fBin gAdd (fSl (fVar 1) fPartN (fPart (fVar 6))) (fLst (fCons (fTup (fCons (fBin gIx (fLst (fCons (fC (.str "last")) (fCons (fC (.str "cell")) (fun _ S => .ok [] S)))) (fCB gIntB (fCons (fBin gEq (fBin gIx (fBin gIx (fVar 1) (fVar 6)) (fC (.int 0))) (fC (.str "last"))) (fun _ S => .ok [] S)))) (fCons (fBin gIx (fBin gIx (fVar 1) (fVar 6)) (fC (.int 1))) (fun _ S => .ok [] S)))) (fun _ S => .ok [] S)))) (fSl (fVar 1) (fPart (fBin gAdd (fVar 6) (fC (.int 1)))) fPartN)) (fCons (fVar 2) (fun _ S => .ok [] S))))) gNil)
noncomputable def znr13 : FS := (gRet (fTup (fCons (fCB gList (fCons (fVar 1) (fun _ S => .ok [] S))) (fCons (fCB gList (fCons (fVar 2) (fun _ S => .ok [] S))) (fun _ S => .ok [] S)))))
noncomputable def znr : FS := (gSeq znr0 (gSeq znr1 (gSeq znr2 (gSeq znr3 (gSeq znr4 (gSeq znr5 (gSeq znr6 (gSeq znr7 (gSeq znr8 (gSeq znr9 (gSeq znr10 (gSeq znr11 (gSeq znr12 znr13)))))))))))))
theorem znr_eq : m_p_law_near = znr := rfl
theorem val_mono {n m : Int} (h : n ≤ m) {d : D} (q : valA n d = true) : valA m d = true := by
  unfold valA at q ⊢
  split at q
  · rfl
  · exact q
  · simp only [Bool.and_eq_true, decide_eq_true_eq] at q ⊢
    exact ⟨q.1, q.2.1, by omega⟩
  · cases q
theorem cell_mono {n m : Int} (h : n ≤ m) {d : D} (q : cellA n d = true) : cellA m d = true := by
  unfold cellA at q ⊢
  split at q
  · rename_i w z
    by_cases e1 : w = Str.ofString "tie"
    · rw [if_pos e1] at q ⊢
      unfold tieA at q ⊢
      rw [Bool.or_eq_true] at q ⊢
      refine q.imp id fun a => ?_
      obtain ⟨i, rfl, b, c⟩ := whl_int a
      simp only [whl, Bool.and_eq_true, decide_eq_true_eq]
      exact ⟨b, by omega⟩
    · rw [if_neg e1] at q ⊢
      by_cases e2 : w = Str.ofString "cell" ∨ w = Str.ofString "last"
      · rw [if_pos e2] at q ⊢
        unfold insA at q ⊢
        split at q
        · simp only [Bool.and_eq_true, List.all_eq_true] at q ⊢
          exact ⟨q.1, fun x hx => val_mono h (q.2 x hx)⟩
        · cases q
      · rw [if_neg e2] at q
        cases q
  · cases q
theorem web_of {cs cs' ps' : List D} (l1 : cs.length ≤ cs'.length) (l2 : cs'.length ≤ 501) (l3 : ps'.length ≤ 501) (c : ∀ x ∈ cs', cellA cs.length x = true) (p : ∀ x ∈ ps', valA cs.length x = true) : WebOk cs' ps' :=
  ⟨l2, l3, fun x hx => cell_mono (by omega) (c x hx), fun x hx => val_mono (by omega) (p x hx)⟩
theorem mid_all {P : D → Prop} {l : List D} {e : D} {k : Nat} (h : ∀ x ∈ l, P x) (he : P e) : ∀ x ∈ l.take k ++ [e] ++ l.drop (k + 1), P x := by
  intro y hy
  rcases List.mem_append.mp hy with hy | hy
  · rcases List.mem_append.mp hy with hy | hy
    · exact h y (List.mem_of_mem_take hy)
    · rw [List.mem_singleton.mp hy]
      exact he
  · exact h y (List.mem_of_mem_drop hy)
theorem mid_len (l : List D) (e : D) {k : Nat} (hk : k < max 1 l.length) : l.length ≤ (l.take k ++ [e] ++ l.drop (k + 1)).length ∧ (l.take k ++ [e] ++ l.drop (k + 1)).length ≤ l.length + 1 := by
  simp only [List.length_append, List.length_take, List.length_drop, List.length_cons, List.length_nil]
  omega
theorem slL {ds : List D} {lo hi : Option Int} {ys : List D} (e : cutD ds lo hi = ys) (S : Store) : gSl (.lst ds) lo hi S = .ok (.lst ys) S := by
  subst e
  simp [gSl, asL]
structure NrC (S : Store) (s : Nat) (cs ps : List D) (v c : D) (p g r : Nat) : Prop where
  st : Sta S s
  W : WebOk cs ps
  m1 : cs.length ≤ 500
  m2 : ps.length ≤ 500
  av : valA cs.length v = true
  ac : cellA cs.length c = true
  hp : p < max 1 cs.length
  hg : g < max 1 ps.length
  hr : r < max 1 cs.length
section
variable {S : Store} {s : Nat} {cs ps : List D} {v c : D} {p g r : Nat}
noncomputable def nrT : FS := (gSeq znr6 (gSeq znr7 (gSeq znr8 (gSeq znr9 (gSeq znr10 (gSeq znr11 (gSeq znr12 znr13)))))))
abbrev nrE (s : Nat) (cs ps : List D) (k : Int) (v c : D) (p g r : Nat) : EnvD := [some (.oid s), some (.lst cs), some (.lst ps), some (.int k), some v, some c, some (.int p), some (.int g), some (.int r), none]
/-- what a way gives -/
def NrOk (s : Nat) (S : Store) (o : Out) : Prop := ∃ (cs' ps' : List D) (T : Store), o = .rt (.tup [.lst cs', .lst ps']) T ∧ WebOk cs' ps' ∧ Sta T s ∧ Kps s S T
theorem sk6 {k : Int} (h : k ≠ 1) : znr6 (nrE s cs ps k v c p g r) S = .nx (nrE s cs ps k v c p g r) S := by
  unfold znr6
  simp [h]
theorem sk7 {k : Int} (h : k ≠ 2) : znr7 (nrE s cs ps k v c p g r) S = .nx (nrE s cs ps k v c p g r) S := by
  unfold znr7
  simp [h]
theorem sk8 {k : Int} (h : k ≠ 3) : znr8 (nrE s cs ps k v c p g r) S = .nx (nrE s cs ps k v c p g r) S := by
  unfold znr8
  simp [h]
theorem sk9 {k : Int} (h : k ≠ 4) : znr9 (nrE s cs ps k v c p g r) S = .nx (nrE s cs ps k v c p g r) S := by
  unfold znr9
  simp [h]
theorem sk10 {k : Int} (h : k ≠ 5) : znr10 (nrE s cs ps k v c p g r) S = .nx (nrE s cs ps k v c p g r) S := by
  unfold znr10
  simp [h]
theorem sk11 {k : Int} (h : k ≠ 6) : znr11 (nrE s cs ps k v c p g r) S = .nx (nrE s cs ps k v c p g r) S := by
  unfold znr11
  simp [h]
theorem sk12 {k : Int} (h : k ≠ 7) : znr12 (nrE s cs ps k v c p g r) S = .nx (nrE s cs ps k v c p g r) S := by
  unfold znr12
  simp [h]
theorem ne_cs (W : WebOk cs ps) (T : Store) : gNe (.lst cs) (.lst []) T = .ok (.bl (!decide (cs = []))) T := by
  rw [ne_D W.cs.1 (by rfl) (by have := W.cs.2.1; omega) (by decide), eqv_dec W.cs.1 (by rfl) W.cs.2.2.2 (by rfl)]
  simp
theorem nr13 {k : Int} (C : NrC S s cs ps v c p g r) : NrOk s S (znr13 (nrE s cs ps k v c p g r) S) := by
  have gl : ∀ xs T, gList [.lst xs] T = .ok (.lst xs) T := fun xs T => list_row (.inr (.inl rfl))
  refine ⟨cs, ps, S, ?_, C.W, C.st, .rfl _ _⟩
  unfold znr13
  simp [gl]
theorem nr0 (C : NrC S s cs ps v c p g r) : NrOk s S (nrT (nrE s cs ps 0 v c p g r) S) := by
  unfold nrT
  rw [e_gSeq, sk6 (by decide), Out.seq_nx, e_gSeq, sk7 (by decide), Out.seq_nx, e_gSeq, sk8 (by decide), Out.seq_nx, e_gSeq, sk9 (by decide), Out.seq_nx, e_gSeq, sk10 (by decide), Out.seq_nx, e_gSeq, sk11 (by decide), Out.seq_nx, e_gSeq, sk12 (by decide), Out.seq_nx]
  exact nr13 C
theorem mid_sum {l : List D} {e : D} {k : Nat} (h : l.length ≤ 500) (T : Store) : gAdd (.lst (l.take k)) (.lst [e]) T = .ok (.lst (l.take k ++ [e])) T ∧ gAdd (.lst (l.take k ++ [e])) (.lst (l.drop (k + 1))) T = .ok (.lst (l.take k ++ [e] ++ l.drop (k + 1))) T := by
  constructor
  · exact addL_l _ _ T (by simp only [List.length_cons, List.length_nil, List.length_take]; omega)
  · exact addL_l _ _ T (by simp only [List.length_append, List.length_cons, List.length_nil, List.length_take, List.length_drop]; omega)
theorem rt_seq {d : D} {T : Store} {f : EnvD → Store → Out} : (Out.rt d T).seq f = .rt d T := rfl
theorem nr1 (C : NrC S s cs ps v c p g r) : NrOk s S (nrT (nrE s cs ps 1 v c p g r) S) := by
  have k1 := mid_len cs c C.hp
  have m1 := C.m1
  have m2 := C.m2
  obtain ⟨w1, w2⟩ := mid_sum (e := c) (k := p) C.m1 S
  have u1 := slL (sl_take cs p) S
  have u2 : gSl (.lst cs) (some ((p : Int) + 1)) none S = .ok (.lst (cs.drop (p + 1))) S := slL (sl_dropN cs (p + 1)) S
  have sh1 : short 1 = true := by decide
  refine ⟨cs.take p ++ [c] ++ cs.drop (p + 1), ps, S, ?_, web_of k1.1 (by omega) (by omega) (mid_all C.W.c C.ac) C.W.p, C.st, .rfl _ _⟩
  clear k1
  generalize cs.take p ++ [c] ++ cs.drop (p + 1) = z3 at w2 ⊢
  generalize cs.take p ++ [c] = z2 at w1 w2
  generalize cs.take p = z1 at w1 u1
  generalize cs.drop (p + 1) = z0 at w2 u2
  have v6 : znr6 (nrE s cs ps 1 v c p g r) S = .rt (.tup [.lst z3, .lst ps]) S := by
    unfold znr6
    simp [fPart, fPartN, fSl, u1, u2, w1, w2, sh1]
  unfold nrT
  rw [e_gSeq, v6, rt_seq]
theorem nr2 (C : NrC S s cs ps v c p g r) : NrOk s S (nrT (nrE s cs ps 2 v c p g r) S) := by
  have k1 := mid_len ps v C.hg
  have m1 := C.m1
  have m2 := C.m2
  obtain ⟨w1, w2⟩ := mid_sum (e := v) (k := g) C.m2 S
  have u1 := slL (sl_take ps g) S
  have u2 : gSl (.lst ps) (some ((g : Int) + 1)) none S = .ok (.lst (ps.drop (g + 1))) S := slL (sl_dropN ps (g + 1)) S
  have sh1 : short 1 = true := by decide
  refine ⟨cs, ps.take g ++ [v] ++ ps.drop (g + 1), S, ?_, web_of (Nat.le_refl _) (by omega) (by omega) C.W.c (mid_all C.W.p C.av), C.st, .rfl _ _⟩
  clear k1
  generalize ps.take g ++ [v] ++ ps.drop (g + 1) = z3 at w2 ⊢
  generalize ps.take g ++ [v] = z2 at w1 w2
  generalize ps.take g = z1 at w1 u1
  generalize ps.drop (g + 1) = z0 at w2 u2
  have v7 : znr7 (nrE s cs ps 2 v c p g r) S = .rt (.tup [.lst cs, .lst z3]) S := by
    unfold znr7
    simp [fPart, fPartN, fSl, u1, u2, w1, w2, sh1]
  unfold nrT
  rw [e_gSeq, sk6 (by decide), Out.seq_nx, e_gSeq, v7, rt_seq]
theorem nr3 (C : NrC S s cs ps v c p g r) : NrOk s S (nrT (nrE s cs ps 3 v c p g r) S) := by
  have m1 := C.m1
  have m2 := C.m2
  have w5 : gAdd (.lst cs) (.lst [c]) S = .ok (.lst (cs ++ [c])) S := addL_l _ _ S (by simp only [List.length_cons, List.length_nil]; omega)
  have sh1 : short 1 = true := by decide
  refine ⟨cs ++ [c], ps, S, ?_, web_of (by simp) (by simp; omega) (by omega) (fun x hx => (List.mem_append.mp hx).elim (C.W.c x) fun q => by rw [List.mem_singleton.mp q]; exact C.ac) C.W.p, C.st, .rfl _ _⟩
  generalize cs ++ [c] = z3 at w5 ⊢
  have v8 : znr8 (nrE s cs ps 3 v c p g r) S = .rt (.tup [.lst z3, .lst ps]) S := by
    unfold znr8
    simp [w5, sh1]
  unfold nrT
  rw [e_gSeq, sk6 (by decide), Out.seq_nx, e_gSeq, sk7 (by decide), Out.seq_nx, e_gSeq, v8, rt_seq]
theorem nr4 (C : NrC S s cs ps v c p g r) : NrOk s S (nrT (nrE s cs ps 4 v c p g r) S) := by
  have m1 := C.m1
  have m2 := C.m2
  have w5 : gAdd (.lst ps) (.lst [v]) S = .ok (.lst (ps ++ [v])) S := addL_l _ _ S (by simp only [List.length_cons, List.length_nil]; omega)
  have sh1 : short 1 = true := by decide
  refine ⟨cs, ps ++ [v], S, ?_, web_of (Nat.le_refl _) (by omega) (by simp; omega) C.W.c (fun x hx => (List.mem_append.mp hx).elim (C.W.p x) fun q => by rw [List.mem_singleton.mp q]; exact C.av), C.st, .rfl _ _⟩
  generalize ps ++ [v] = z3 at w5 ⊢
  have v9 : znr9 (nrE s cs ps 4 v c p g r) S = .rt (.tup [.lst cs, .lst z3]) S := by
    unfold znr9
    simp [w5, sh1]
  unfold nrT
  rw [e_gSeq, sk6 (by decide), Out.seq_nx, e_gSeq, sk7 (by decide), Out.seq_nx, e_gSeq, sk8 (by decide), Out.seq_nx, e_gSeq, v9, rt_seq]
theorem nr5 (C : NrC S s cs ps v c p g r) : NrOk s S (nrT (nrE s cs ps 5 v c p g r) S) := by
  have m1 := C.m1
  have m2 := C.m2
  have ne := ne_cs C.W S
  unfold nrT
  rw [e_gSeq, sk6 (by decide), Out.seq_nx, e_gSeq, sk7 (by decide), Out.seq_nx, e_gSeq, sk8 (by decide), Out.seq_nx, e_gSeq, sk9 (by decide), Out.seq_nx]
  by_cases e0 : cs = []
  · rw [decide_eq_true e0] at ne
    have v10 : znr10 (nrE s cs ps 5 v c p g r) S = .nx (nrE s cs ps 5 v c p g r) S := by
      unfold znr10
      simp [ne]
    rw [e_gSeq, v10, Out.seq_nx, e_gSeq, sk11 (by decide), Out.seq_nx, e_gSeq, sk12 (by decide), Out.seq_nx]
    exact nr13 C
  · rw [decide_eq_false e0] at ne
    have l0 : 0 < cs.length := List.length_pos_iff.mpr e0
    have hp' : p < cs.length := by have := C.hp; omega
    have hr' : r < cs.length := by have := C.hr; omega
    have i1 := pick8 cs hp'
    have i2 := pick8 cs hr'
    have x1 : ∀ T, gIx (.lst cs) (.int p) T = .ok cs[p] T := fun T => by simp [gIx, pDic1, asD, isS, gIxQ, asQ, asL, i1]
    have x2 : ∀ T, gIx (.lst cs) (.int r) T = .ok cs[r] T := fun T => by simp [gIx, pDic1, asD, isS, gIxQ, asQ, asL, i2]
    have lo : gListO [.lst cs] S = .ok (.oid S.length) (S ++ [.lst cs]) := by simp [gListO, isDic1, asD, gToO, asQ]
    have st1 : storeAt (.oid S.length) (.int p) cs[r] (S ++ [.lst cs]) = some (S ++ [.lst (cs.set p cs[r])]) := by
      simp [storeAt, ixN, hp']
    have st2 : storeAt (.oid S.length) (.int r) cs[p] (S ++ [.lst (cs.set p cs[r])]) = some (S ++ [.lst ((cs.set p cs[r]).set r cs[p])]) := by
      simp [storeAt, ixN, hr']
    have fz : ∀ ρ : EnvD, ρ[9]? = some (some (.oid S.length)) → fFrz (fVar 9) ρ (S ++ [SO.lst ((cs.set p cs[r]).set r cs[p])]) = .ok (.lst ((cs.set p cs[r]).set r cs[p])) (S ++ [.frz (.lst ((cs.set p cs[r]).set r cs[p]))]) := fun ρ h9 => by
      simp [fFrz, h9]
    have mem : ∀ x ∈ (cs.set p cs[r]).set r cs[p], x ∈ cs := fun x hx => by
      rcases List.mem_or_eq_of_mem_set hx with hx | rfl
      · rcases List.mem_or_eq_of_mem_set hx with hx | rfl
        · exact hx
        · exact List.getElem_mem hr'
      · exact List.getElem_mem hp'
    have ll : ((cs.set p cs[r]).set r cs[p]).length = cs.length := by simp
    refine ⟨(cs.set p cs[r]).set r cs[p], ps, S ++ [.frz (.lst ((cs.set p cs[r]).set r cs[p]))], ?_, web_of (by omega) (by omega) (by omega) (fun x hx => C.W.c x (mem x hx)) C.W.p, C.st.app _, .app _ _ _⟩
    clear mem ll i1 i2
    generalize (cs.set p cs[r]).set r cs[p] = z2 at st2 fz ⊢
    generalize cs.set p cs[r] = z1 at st1 st2
    generalize cs[r] = z4 at st1 x2
    generalize cs[p] = z5 at st2 x1
    have v10 : znr10 (nrE s cs ps 5 v c p g r) S = .rt (.tup [.lst z2, .lst ps]) (S ++ [.frz (.lst z2)]) := by
      unfold znr10
      simp [ne, x1, x2, lo, gPut2, st1, st2, fz]
    rw [e_gSeq, v10, rt_seq]
theorem nr6 (C : NrC S s cs ps v c p g r) : NrOk s S (nrT (nrE s cs ps 6 v c p g r) S) := by
  have m1 := C.m1
  have m2 := C.m2
  refine ⟨cs, ps.reverse, S, ?_, web_of (Nat.le_refl _) (by omega) (by rw [List.length_reverse]; omega) C.W.c (fun x hx => C.W.p x (List.mem_reverse.mp hx)), C.st, .rfl _ _⟩
  have v11 : znr11 (nrE s cs ps 6 v c p g r) S = .rt (.tup [.lst cs, .lst ps.reverse]) S := by
    unfold znr11
    simp [gRevL, asL]
  unfold nrT
  rw [e_gSeq, sk6 (by decide), Out.seq_nx, e_gSeq, sk7 (by decide), Out.seq_nx, e_gSeq, sk8 (by decide), Out.seq_nx, e_gSeq, sk9 (by decide), Out.seq_nx, e_gSeq, sk10 (by decide), Out.seq_nx, e_gSeq, v11, rt_seq]
theorem nr7 (C : NrC S s cs ps v c p g r) : NrOk s S (nrT (nrE s cs ps 7 v c p g r) S) := by
  have m1 := C.m1
  have m2 := C.m2
  have ne := ne_cs C.W S
  unfold nrT
  rw [e_gSeq, sk6 (by decide), Out.seq_nx, e_gSeq, sk7 (by decide), Out.seq_nx, e_gSeq, sk8 (by decide), Out.seq_nx, e_gSeq, sk9 (by decide), Out.seq_nx, e_gSeq, sk10 (by decide), Out.seq_nx, e_gSeq, sk11 (by decide), Out.seq_nx]
  by_cases e0 : cs = []
  · rw [decide_eq_true e0] at ne
    have v12 : znr12 (nrE s cs ps 7 v c p g r) S = .nx (nrE s cs ps 7 v c p g r) S := by
      unfold znr12
      simp [ne]
    rw [e_gSeq, v12, Out.seq_nx]
    exact nr13 C
  · rw [decide_eq_false e0] at ne
    have l0 : 0 < cs.length := List.length_pos_iff.mpr e0
    have hp' : p < cs.length := by have := C.hp; omega
    have i1 := pick8 cs hp'
    have x1 : ∀ T, gIx (.lst cs) (.int p) T = .ok cs[p] T := fun T => by simp [gIx, pDic1, asD, isS, gIxQ, asQ, asL, i1]
    have cp := C.W.c _ (List.getElem_mem hp')
    obtain ⟨w, z, ew⟩ : ∃ w z, cs[p] = .tup [.str w, z] := by
      unfold cellA at cp
      split at cp
      · rename_i w z e
        exact ⟨w, z, e⟩
      · cases cp
    have y0 : ∀ T, gIx (.tup [.str w, z]) (.int 0) T = .ok (.str w) T := fun T => rfl
    have y1 : ∀ T, gIx (.tup [.str w, z]) (.int 1) T = .ok z T := fun T => rfl
    rw [ew] at cp x1 i1
    by_cases et : w = Str.ofString "tie"
    · subst et
      have v12 : znr12 (nrE s cs ps 7 v c p g r) S = .nx (nrE s cs ps 7 v c p g r) S := by
        unfold znr12
        simp [ne, x1, y0, i1]
      rw [e_gSeq, v12, Out.seq_nx]
      exact nr13 C
    · have cw : w = Str.ofString "cell" ∨ w = Str.ofString "last" := by
        simp only [cellA, if_neg et] at cp
        by_cases q : w = Str.ofString "cell" ∨ w = Str.ofString "last"
        · exact q
        · rw [if_neg q] at cp
          cases cp
      obtain ⟨w', ew', cw'⟩ : ∃ w', w' = (if w = Str.ofString "last" then Str.ofString "cell" else Str.ofString "last") ∧ cellA cs.length (.tup [.str w', z]) = true := by
        refine ⟨_, rfl, ?_⟩
        simp only [cellA, if_neg et, if_pos cw] at cp
        rcases cw with rfl | rfl
        · simp [cellA, cp]
        · simp [cellA, cp]
      obtain ⟨w1, w2⟩ := mid_sum (e := .tup [.str w', z]) (k := p) C.m1 S
      have k3 := mid_len cs (.tup [.str w', z]) C.hp
      have u1 := slL (sl_take cs p) S
      have u2 : gSl (.lst cs) (some ((p : Int) + 1)) none S = .ok (.lst (cs.drop (p + 1))) S := slL (sl_dropN cs (p + 1)) S
      refine ⟨cs.take p ++ [.tup [.str w', z]] ++ cs.drop (p + 1), ps, S, ?_, web_of k3.1 (by omega) (by omega) (mid_all C.W.c cw') C.W.p, C.st, .rfl _ _⟩
      have sh2 : short 2 = true := by decide
      have sh1 : short 1 = true := by decide
      clear k3
      generalize cs.take p ++ [.tup [.str w', z]] ++ cs.drop (p + 1) = z3 at w2 ⊢
      generalize cs.take p ++ [.tup [.str w', z]] = z2 at w1 w2
      generalize cs.take p = z1 at w1 u1
      generalize cs.drop (p + 1) = z0 at w2 u2
      have v12 : znr12 (nrE s cs ps 7 v c p g r) S = .rt (.tup [.lst z3, .lst ps]) S := by
        unfold znr12
        rcases cw with rfl | rfl
        · simp at ew'
          subst ew'
          simp [fPart, fPartN, fSl, ne, x1, y0, y1, i1, u1, u2, w1, w2, sh1, sh2, gIntB]
        · simp at ew'
          subst ew'
          simp [fPart, fPartN, fSl, ne, x1, y0, y1, i1, u1, u2, w1, w2, sh1, sh2, gIntB]
      rw [e_gSeq, v12, rt_seq]
end
theorem near_ok {S : Store} {s : Nat} (h : Sta S s) {cs ps : List D} (W : WebOk cs ps) (m1 : cs.length ≤ 500) (m2 : ps.length ≤ 500) : ∃ (cs' ps' : List D) (T : Store), S_p_law_near [.oid s, .lst cs, .lst ps] S = .ok (.tup [.lst cs', .lst ps']) T ∧ WebOk cs' ps' ∧ Sta T s ∧ Kps s S T := by
  obtain ⟨k, S1, hk, q1, a1, c1⟩ := drawK h 8 (by omega) (by omega)
  have q1' : S_p_law_next [.oid s, .int 8] S = .ok (.int k) S1 := q1
  obtain ⟨v, S2, q2, tv, av, a2, c2⟩ := valueK a1 cs.length (by omega)
  obtain ⟨c, S3, q3, tc, ac, a3, c3⟩ := cellK a2 cs.length (by omega)
  obtain ⟨p, S4, hp, q4, a4, c4⟩ := drawK a3 (max 1 cs.length) (by omega) (by omega)
  obtain ⟨g, S5, hg, q5, a5, c5⟩ := drawK a4 (max 1 ps.length) (by omega) (by omega)
  obtain ⟨r, S6, hr, q6, a6, c6⟩ := drawK a5 (max 1 cs.length) (by omega) (by omega)
  have mx : ∀ n : Nat, (((max 1 n : Nat)) : Int) = if (1 : Int) < (n : Int) then (n : Int) else 1 := fun n => by
    split <;> omega
  rw [mx] at q4 q5 q6
  have K6 : Kps s S S6 := c1.trans (c2.trans (c3.trans (c4.trans (c5.trans c6))))
  have ln : ∀ T, gLen [.lst cs] T = .ok (.int cs.length) T := fun T => len_row (.inr (.inl rfl)) (by omega)
  have lp : ∀ T, gLen [.lst ps] T = .ok (.int ps.length) T := fun T => len_row (.inr (.inl rfl)) (by omega)
  have C : NrC S6 s cs ps v c p g r := ⟨a6, W, m1, m2, av, ac, hp, hg, hr⟩
  have pre : S_p_law_near [.oid s, .lst cs, .lst ps] S = (nrT (nrE s cs ps k v c p g r) S6).res := by
    have t0 : znr0 [some (.oid s), some (.lst cs), some (.lst ps), none, none, none, none, none, none, none] S = .nx [some (.oid s), some (.lst cs), some (.lst ps), some (.int k), none, none, none, none, none, none] S1 := by
      unfold znr0
      simp [q1']
    have t1 : znr1 [some (.oid s), some (.lst cs), some (.lst ps), some (.int k), none, none, none, none, none, none] S1 = .nx [some (.oid s), some (.lst cs), some (.lst ps), some (.int k), some v, none, none, none, none, none] S2 := by
      unfold znr1
      simp [ln, q2]
    have t2 : znr2 [some (.oid s), some (.lst cs), some (.lst ps), some (.int k), some v, none, none, none, none, none] S2 = .nx [some (.oid s), some (.lst cs), some (.lst ps), some (.int k), some v, some c, none, none, none, none] S3 := by
      unfold znr2
      simp [ln, q3]
    have t3 : znr3 [some (.oid s), some (.lst cs), some (.lst ps), some (.int k), some v, some c, none, none, none, none] S3 = .nx [some (.oid s), some (.lst cs), some (.lst ps), some (.int k), some v, some c, some (.int p), none, none, none] S4 := by
      unfold znr3
      simp [ln, q4]
    have t4 : znr4 [some (.oid s), some (.lst cs), some (.lst ps), some (.int k), some v, some c, some (.int p), none, none, none] S4 = .nx [some (.oid s), some (.lst cs), some (.lst ps), some (.int k), some v, some c, some (.int p), some (.int g), none, none] S5 := by
      unfold znr4
      simp [lp, q5]
    have t5 : znr5 [some (.oid s), some (.lst cs), some (.lst ps), some (.int k), some v, some c, some (.int p), some (.int g), none, none] S5 = .nx (nrE s cs ps k v c p g r) S6 := by
      unfold znr5
      simp [ln, q6]
    have st : startD 10 [.oid s, .lst cs, .lst ps] = [some (.oid s), some (.lst cs), some (.lst ps), none, none, none, none, none, none, none] := rfl
    unfold S_p_law_near
    rw [znr_eq, e_semOf, st]
    unfold znr
    rw [e_gSeq, t0, Out.seq_nx, e_gSeq, t1, Out.seq_nx, e_gSeq, t2, Out.seq_nx, e_gSeq, t3, Out.seq_nx, e_gSeq, t4, Out.seq_nx, e_gSeq, t5, Out.seq_nx]
    rfl
  rw [pre]
  have all : NrOk s S6 (nrT (nrE s cs ps k v c p g r) S6) := by
    rcases (by omega : k = 0 ∨ k = 1 ∨ k = 2 ∨ k = 3 ∨ k = 4 ∨ k = 5 ∨ k = 6 ∨ k = 7) with rfl | rfl | rfl | rfl | rfl | rfl | rfl | rfl
    · exact nr0 C
    · exact nr1 C
    · exact nr2 C
    · exact nr3 C
    · exact nr4 C
    · exact nr5 C
    · exact nr6 C
    · exact nr7 C
  obtain ⟨cs', ps', T, e, W', a, K⟩ := all
  rw [e]
  exact ⟨cs', ps', T, rfl, W', a, K6.trans K⟩
end K03

/-! Webs compared. -/
namespace K03
open PySem L2 DL
open scoped Classical
noncomputable def zwq0 : FS := (gIf (fNotT (toB (fCB (gIsiW "Web") (fCons (fVar 1) (fCons (fC (.cls "Web")) (fun _ S => .ok [] S)))))) (gRet (fC (.bl false))) gNil)
noncomputable def zwq1 : FS := (gRet (fAndV (fBin gEq (fFld ["Web"] "all_cells" (fVar 0)) (fFld ["Web"] "all_cells" (fVar 1))) (fBin gEq (fFld ["Web"] "all_pegs" (fVar 0)) (fFld ["Web"] "all_pegs" (fVar 1)))))
noncomputable def zwq : FS := (gSeq zwq0 zwq1)
theorem zwq_eq : m_Web_eq = zwq := rfl
theorem eq_lst {a b : List D} (h1 : (D.lst a).sim = true ∧ (D.lst a).dep ≤ 4 ∧ (D.lst a).nb = true) (h2 : (D.lst b).sim = true ∧ (D.lst b).dep ≤ 4 ∧ (D.lst b).nb = true) (S : Store) : gEq (.lst a) (.lst b) S = .ok (.bl (decide (a = b))) S := by
  rw [eq_D h1.1 h2.1 (by have := h1.2.1; omega) (by have := h2.2.1; omega), eqv_dec h1.1 h2.1 h1.2.2 h2.2.2]
  by_cases e : a = b
  · simp [e]
  · have : D.lst a ≠ D.lst b := fun q => e (by cases q; rfl)
    rw [decide_eq_false this, decide_eq_false e]
theorem WebOk.cs3 {cs ps : List D} (h : WebOk cs ps) : (D.lst cs).sim = true ∧ (D.lst cs).dep ≤ 4 ∧ (D.lst cs).nb = true := ⟨h.cs.1, h.cs.2.1, h.cs.2.2.2⟩
theorem WebOk.ps3 {cs ps : List D} (h : WebOk cs ps) : (D.lst ps).sim = true ∧ (D.lst ps).dep ≤ 4 ∧ (D.lst ps).nb = true := ⟨h.ps.1, h.ps.2.1, h.ps.2.2.2⟩
theorem lk1 (x y : D) : List.lookup (Str.ofString "all_cells") [(Str.ofString "all_cells", x), (Str.ofString "all_pegs", y)] = some x := by
  rw [List.lookup, beq_self_eq_true]
theorem lk2 (x y : D) : List.lookup (Str.ofString "all_pegs") [(Str.ofString "all_cells", x), (Str.ofString "all_pegs", y)] = some y := by
  have e : (Str.ofString "all_pegs" == Str.ofString "all_cells") = false := by decide +kernel
  rw [List.lookup, e]
  simp only
  rw [List.lookup, beq_self_eq_true]
theorem weq_ok {a b c d : List D} (W : WebOk a b) (V : WebOk c d) (S : Store) : S_Web_eq [webD a b, webD c d] S = .ok (.bl (decide (a = c ∧ b = d))) S := by
  have e1 := eq_lst W.cs3 V.cs3 S
  have e2 := eq_lst W.ps3 V.ps3 S
  unfold S_Web_eq
  rw [zwq_eq]
  unfold zwq zwq0 zwq1
  by_cases q1 : a = c
  · subst q1
    by_cases q2 : b = d
    · subst q2
      simp [List.replicate, webD, gIsiW, asI, lk1, lk2, e1, e2, fAndV]
    · rw [decide_eq_false q2] at e2
      simp [List.replicate, webD, gIsiW, asI, lk1, lk2, e1, e2, fAndV, q2]
  · rw [decide_eq_false q1] at e1
    simp [List.replicate, webD, gIsiW, asI, lk1, lk2, e1, e2, fAndV, q1]
theorem weq_no {x y d : D} {a b : List D} {S : Store} (h : asI S d = none) {T : String} (ht : tyS S d = some T) (hT : T ∈ tysO) : S_Web_eq [webD a b, d] S = .ok (.bl false) S := by
  unfold S_Web_eq
  rw [zwq_eq]
  unfold zwq zwq0 zwq1
  simp [List.replicate, gIsiW, h, ht, hT]
theorem own_yes {a b c d : List D} (W : WebOk a b) (V : WebOk c d) (n : Bool) (S : Store) : gOwnB "Web" S_Web_eq n (webD a b) (webD c d) S = .ok (.bl (decide (a = c ∧ b = d) != n)) S := by
  have q := weq_ok W V S
  have e1 : asI S (webD a b) = some (("Web" : Str), ([("all_cells", D.lst a), ("all_pegs", D.lst b)] : List (Str × D))) := rfl
  have e2 : knO "Web" S (webD c d) = true := by simp [knO, webD, asI]
  unfold gOwnB
  rw [e1]
  simp only [e2, and_self, if_true, q]
theorem own_no {d : D} {a b : List D} (n : Bool) {S : Store} (h : asI S d = none) {T : String} (ht : tyS S d = some T) (hT : T ∈ tysO) : gOwnB "Web" S_Web_eq n (webD a b) d S = .ok (.bl (false != n)) S := by
  have q := weq_no (x := d) (y := d) (a := a) (b := b) h ht hT
  have e1 : asI S (webD a b) = some (("Web" : Str), ([("all_cells", D.lst a), ("all_pegs", D.lst b)] : List (Str × D))) := rfl
  have e2 : knO "Web" S d = true := by
    unfold knO
    rw [h]
    simp only [ht]
    simpa using hT
  unfold gOwnB
  rw [e1]
  simp only [e2, and_self, if_true, q]
theorem makeF_ok {cs ps : List D} {x y : D} (W : WebOk cs ps) (l1 : cs.length ≤ 1000) (l2 : ps.length ≤ 1000) (hx : x = .tup cs ∨ x = .lst cs) (hy : y = .tup ps ∨ y = .lst ps) (S : Store) : makeF S_Web_init (fun ds es => pick [(0, 0), (0, 1), (0, 2)] ds es []) "Web" 3 [x, y] [] S = .ok (webD cs ps) S := by
  have n1 : (cs.length : Int) ≤ 1000000 := by omega
  have t1 : ∀ z ∈ cs, z.tre = true := fun z hz => drn_tre (cell_drn (by omega) (W.c z hz))
  have t2 : ∀ z ∈ ps, z.tre = true := fun z hz => drn_tre (val_drn (by omega) (W.p z hz))
  have p1 := treL_pure cs (treL_all.mpr t1)
  have p2 := treL_pure ps (treL_all.mpr t2)
  have r1 : RowS [SO.ins "Web" []] x cs := hx.imp id .inl
  have r2 : RowS [SO.ins "Web" []] y ps := hy.imp id .inl
  have i := init_ok (k := 0) (S := [SO.ins "Web" []]) rfl r1 r2 t1 t2 l1 l2 W.web
  have px : x.pure = true := by rcases hx with rfl | rfl <;> simpa [D.pure] using p1
  have py : y.pure = true := by rcases hy with rfl | rfl <;> simpa [D.pure] using p2
  unfold makeF
  simp [pureL, px, py, i, pureF, D.pure, p1, p2, webD]
end K03

/-! _law_equal_right. -/
namespace K03
open PySem L2 DL
open scoped Classical
noncomputable def zer0 : FS := (gSet 4 (fCall S_p_law_near (fun ds es => pick [(0, 0), (0, 1), (0, 2)] ds es []) 3 0 3 (fCons (fVar 0) (fCons (fVar 2) (fCons (fVar 3) (fun _ S => .ok [] S)))) (fun _ S => .ok [] S)))
noncomputable def zer1 : FS := (gPar 5 6 (fCons (fMake (makeF S_Web_init (fun ds es => pick [(0, 0), (0, 1), (0, 2)] ds es []) "Web" 3) 2 0 (fCons (fCB gTuple (fCons (fBin gIx (fVar 4) (fC (.int 0))) (fun _ S => .ok [] S))) (fCons (fCB gTuple (fCons (fBin gIx (fVar 4) (fC (.int 1))) (fun _ S => .ok [] S))) (fun _ S => .ok [] S))) (fun _ S => .ok [] S)) (fCons (fBin gEq (fLst (fCons (fVar 2) (fCons (fVar 3) (fun _ S => .ok [] S)))) (fLst (fCons (fBin gIx (fVar 4) (fC (.int 0))) (fCons (fBin gIx (fVar 4) (fC (.int 1))) (fun _ S => .ok [] S))))) (fun _ S => .ok [] S))))
noncomputable def zer2 : FS := (gIf (toB (fBin gNe (fLst (fCons (fBin (gOwnB "Web" S_Web_eq false) (fVar 1) (fVar 5)) (fCons (fBin (gOwnB "Web" S_Web_eq false) (fVar 5) (fVar 1)) (fCons (fBin (gOwnB "Web" S_Web_eq false) (fVar 1) (fVar 1)) (fCons (fBin (gOwnB "Web" S_Web_eq false) (fMake (makeF S_Web_init (fun ds es => pick [(0, 0), (0, 1), (0, 2)] ds es []) "Web" 3) 2 0 (fCons (fVar 2) (fCons (fVar 3) (fun _ S => .ok [] S))) (fun _ S => .ok [] S)) (fVar 1)) (fun _ S => .ok [] S)))))) (fLst (fCons (fVar 6) (fCons (fVar 6) (fCons (fC (.bl true)) (fCons (fC (.bl true)) (fun _ S => .ok [] S)))))))) (gRet (fC (.bl false))) gNil)
noncomputable def zer3 : FS := (gRet (fBin gEq (fComp (fSeq (fLst (fCons (fTup (fCons (fVar 2) (fCons (fVar 3) (fun _ S => .ok [] S)))) (fCons (fVar 2) (fCons (fC .non) (fCons fDict0 (fCons (fC (.int 0)) (fun _ S => .ok [] S)))))))) (mName 7) (fOrT (toB (fBin (gOwnB "Web" S_Web_eq false) (fVar 1) (fVar 7))) (fNotT (toB (fBin (gOwnB "Web" S_Web_eq true) (fVar 1) (fVar 7))))) (fVar 7) ([("_law_thing", 7)].map (·.2)) finL) (fLst (fun _ S => .ok [] S))))
noncomputable def zer : FS := (gSeq zer0 (gSeq zer1 (gSeq zer2 zer3)))
theorem zer_eq : m_p_law_equal_right = zer := rfl
theorem due_ok {a b c d : List D} (W : WebOk a b) (V : WebOk c d) (S : Store) : gEq (.lst [.lst a, .lst b]) (.lst [.lst c, .lst d]) S = .ok (.bl (decide (a = c ∧ b = d))) S := by
  have s1 : (D.lst [.lst a, .lst b]).sim = true := by simp only [D.sim, simL]; have h1 := W.cs.1; have h2 := W.ps.1; simp only [D.sim] at h1 h2; simp [h1, h2]
  have s2 : (D.lst [.lst c, .lst d]).sim = true := by simp only [D.sim, simL]; have h1 := V.cs.1; have h2 := V.ps.1; simp only [D.sim] at h1 h2; simp [h1, h2]
  have n1 : (D.lst [.lst a, .lst b]).nb = true := by simp only [D.nb, nbL]; have h1 := W.cs.2.2.2; have h2 := W.ps.2.2.2; simp only [D.nb] at h1 h2; simp [h1, h2]
  have n2 : (D.lst [.lst c, .lst d]).nb = true := by simp only [D.nb, nbL]; have h1 := V.cs.2.2.2; have h2 := V.ps.2.2.2; simp only [D.nb] at h1 h2; simp [h1, h2]
  have d1 : (D.lst [.lst a, .lst b]).dep ≤ 60 := by
    have h1 := W.cs.2.1
    have h2 := W.ps.2.1
    have e : (D.lst [.lst a, .lst b]).dep = max (D.lst a).dep (max (D.lst b).dep 0) + 1 := by simp only [D.dep, depL]
    omega
  have d2 : (D.lst [.lst c, .lst d]).dep ≤ 60 := by
    have h1 := V.cs.2.1
    have h2 := V.ps.2.1
    have e : (D.lst [.lst c, .lst d]).dep = max (D.lst c).dep (max (D.lst d).dep 0) + 1 := by simp only [D.dep, depL]
    omega
  rw [eq_D s1 s2 d1 d2, eqv_dec s1 s2 n1 n2]
  by_cases h : a = c ∧ b = d
  · obtain ⟨rfl, rfl⟩ := h
    simp
  · have : D.lst [.lst a, .lst b] ≠ D.lst [.lst c, .lst d] := fun q => h (by cases q; exact ⟨rfl, rfl⟩)
    rw [decide_eq_false this, decide_eq_false h]
theorem bls_ne (b : Bool) (S : Store) : gNe (.lst [.bl b, .bl b, .bl true, .bl true]) (.lst [.bl b, .bl b, .bl true, .bl true]) S = .ok (.bl false) S := by
  have s1 : (D.lst [.bl b, .bl b, .bl true, .bl true]).sim = true := by simp [D.sim, simL]
  have d1 : (D.lst [.bl b, .bl b, .bl true, .bl true]).dep ≤ 60 := by simp [D.dep, depL]
  rw [ne_D s1 s1 d1 d1, eqv_refl _ (D.sh _ s1).hd]
  rfl
theorem tup_of_lst (xs : List D) (h : xs.length ≤ 1000) (S : Store) : gTuple [.lst xs] S = .ok (.tup xs) S := tup_lst xs h S
theorem equal_ok {S : Store} {s : Nat} (h : Sta S s) {cs ps : List D} (W : WebOk cs ps) (m1 : cs.length ≤ 500) (m2 : ps.length ≤ 500) : ∃ T : Store, S_p_law_equal_right [.oid s, webD cs ps, .lst cs, .lst ps] S = .ok (.bl true) T ∧ Sta T s ∧ Kps s S T := by
  obtain ⟨cs', ps', T, q, V, a, K⟩ := near_ok h W m1 m2
  have sh2 : short 2 = true := by decide
  have sh4 : short 4 = true := by decide
  have sh5 : short 5 = true := by decide
  have sh0 : short 0 = true := by decide
  have x0 : gIx (.tup [.lst cs', .lst ps']) (.int 0) T = .ok (.lst cs') T := rfl
  have x1 : gIx (.tup [.lst cs', .lst ps']) (.int 1) T = .ok (.lst ps') T := rfl
  have t1 := tup_of_lst cs' (by have := V.lc; omega) T
  have t2 := tup_of_lst ps' (by have := V.lp; omega) T
  have mk := makeF_ok V (by have := V.lc; omega) (by have := V.lp; omega) (.inl rfl) (.inl rfl) T
  have mk2 := makeF_ok W (by omega) (by omega) (.inr rfl) (.inr rfl) T
  have du := due_ok W V T
  obtain ⟨b, hb⟩ : ∃ b : Bool, decide (cs = cs' ∧ ps = ps') = b := ⟨_, rfl⟩
  have hb2 : decide (cs' = cs ∧ ps' = ps) = b := by
    rw [← hb]
    congr 1
    exact propext ⟨fun ⟨p, q⟩ => ⟨p.symm, q.symm⟩, fun ⟨p, q⟩ => ⟨p.symm, q.symm⟩⟩
  have o1 := own_yes W V false T
  have o2 := own_yes V W false T
  have o3 := own_yes W W false T
  rw [hb] at du o1
  rw [hb2] at o2
  rw [decide_eq_true (show cs = cs ∧ ps = ps from ⟨rfl, rfl⟩)] at o3
  have bf : ∀ b : Bool, (b != false) = b := fun b => by cases b <;> rfl
  rw [bf] at o1 o2 o3
  have bn := bls_ne b T
  obtain ⟨wd, hwd⟩ : ∃ wd, webD cs ps = wd := ⟨_, rfl⟩
  obtain ⟨we, hwe⟩ : ∃ we, webD cs' ps' = we := ⟨_, rfl⟩
  have r0 : zer0 [some (.oid s), some wd, some (.lst cs), some (.lst ps), none, none, none, none] S = .nx [some (.oid s), some wd, some (.lst cs), some (.lst ps), some (.tup [.lst cs', .lst ps']), none, none, none] T := by
    unfold zer0
    simp [q]
  have r1 : zer1 [some (.oid s), some wd, some (.lst cs), some (.lst ps), some (.tup [.lst cs', .lst ps']), none, none, none] T = .nx [some (.oid s), some wd, some (.lst cs), some (.lst ps), some (.tup [.lst cs', .lst ps']), some we, some (.bl b), none] T := by
    rw [hwe] at mk
    unfold zer1
    simp only [gPar, e_fCons, e_fMake, e_fCB, e_fBin, e_fVar, e_fC, e_fLst, List.getElem?_cons_succ, List.getElem?_cons_zero, Res.bind_ok, x0, x1, t1, t2, mk, du, List.length_cons, List.length_nil, sh2, if_true, and_self, Res.into_ok, List.set_cons_succ, List.set_cons_zero, Nat.reduceAdd]
  have r2 : zer2 [some (.oid s), some wd, some (.lst cs), some (.lst ps), some (.tup [.lst cs', .lst ps']), some we, some (.bl b), none] T = .nx [some (.oid s), some wd, some (.lst cs), some (.lst ps), some (.tup [.lst cs', .lst ps']), some we, some (.bl b), none] T := by
    rw [hwd, hwe] at o1 o2
    rw [hwd] at o3 mk2
    unfold zer2
    simp only [e_gIf, e_toB, e_fCons, e_fMake, e_fCB, e_fBin, e_fVar, e_fC, e_fLst, List.getElem?_cons_succ, List.getElem?_cons_zero, Res.bind_ok, o1, o2, o3, mk2, bn, List.length_cons, List.length_nil, sh4, if_true, and_self, Res.into_ok, e_gNil, Nat.reduceAdd, Bool.false_eq_true, if_false]
  have r3 : ∃ U, zer3 [some (.oid s), some wd, some (.lst cs), some (.lst ps), some (.tup [.lst cs', .lst ps']), some we, some (.bl b), none] T = .rt (.bl true) U ∧ Sta U s ∧ Kps s T U := by
    refine ⟨T ++ [.dic []], ?_, a.app _, .app _ _ _⟩
    have gd : (T ++ [SO.dic []])[T.length]? = some (.dic []) := by simp
    have tyd : tyS (T ++ [SO.dic []]) (.oid T.length) = some "dict" := by simp [tyS]
    have asd : asI (T ++ [SO.dic []]) (.oid T.length) = none := by simp [asI]
    have no : ∀ d ∈ [D.tup [.lst cs, .lst ps], .lst cs, .non, .oid T.length, .int 0], ∀ n, gOwnB "Web" S_Web_eq n wd d (T ++ [SO.dic []]) = .ok (.bl (false != n)) (T ++ [SO.dic []]) := by
      intro d hd n
      rw [← hwd]
      simp only [List.mem_cons, List.not_mem_nil, or_false] at hd
      rcases hd with rfl | rfl | rfl | rfl | rfl
      · exact own_no n rfl (T := "tuple") rfl (by decide)
      · exact own_no n rfl (T := "list") rfl (by decide)
      · exact own_no n rfl (T := "NoneType") rfl (by decide)
      · exact own_no n asd tyd (by decide)
      · exact own_no n rfl (T := "int") rfl (by decide)
    have cf := comp_filter (m := mName 7) (ft := fOrT (toB (fBin (gOwnB "Web" S_Web_eq false) (fVar 1) (fVar 7))) (fNotT (toB (fBin (gOwnB "Web" S_Web_eq true) (fVar 1) (fVar 7))))) (fe := fVar 7) (f := id) (p := fun _ => false) (ρ := [some (.oid s), some wd, some (.lst cs), some (.lst ps), some (.tup [.lst cs', .lst ps']), some we, some (.bl b), none]) (S := T ++ [SO.dic []]) [D.tup [.lst cs, .lst ps], .lst cs, .non, .oid T.length, .int 0] (fun d hd => by
      have n1 := no d hd false
      have n2 := no d hd true
      refine ⟨_, rfl, ?_, fun z => (by cases z)⟩
      simp [n1, n2])
    unfold zer3
    simp only [fDict0, e_gRet, e_fBin, e_fComp, e_fSeq, e_fLst, e_fCons, e_fTup, e_fVar, e_fC, List.getElem?_cons_succ, List.getElem?_cons_zero, Res.bind_ok, List.length_cons, List.length_nil, sh2, sh5, if_true, Nat.reduceAdd, e_seqD_l, List.map_cons, List.map_nil, e_wipe1, e_wipe0, List.set_cons_succ, List.set_cons_zero]
    rw [cf]
    have e0 : gEq (.lst []) (.lst []) (T ++ [SO.dic []]) = .ok (.bl true) (T ++ [SO.dic []]) := by
      have := eq_lst (a := []) (b := []) ⟨by rfl, by decide, by rfl⟩ ⟨by rfl, by decide, by rfl⟩ (T ++ [SO.dic []])
      simpa using this
    simp [finL, sh0, e0]
  obtain ⟨U, r3, b1, b2⟩ := r3
  have st : startD 8 [.oid s, wd, .lst cs, .lst ps] = [some (.oid s), some wd, some (.lst cs), some (.lst ps), none, none, none, none] := rfl
  refine ⟨U, ?_, b1, K.trans b2⟩
  rw [hwd]
  unfold S_p_law_equal_right
  rw [zer_eq, e_semOf, st]
  unfold zer
  rw [e_gSeq, r0, Out.seq_nx, e_gSeq, r1, Out.seq_nx, e_gSeq, r2, Out.seq_nx, r3]
  rfl
end K03

/-! The law's loop: what is drawn. -/
namespace K03
open PySem L2 DL
noncomputable def zla0b0 : FS := (gSet 2 (fCall S_p_law_state (fun ds es => pick [(0, 0), (0, 1)] ds es []) 2 0 2 (fCons (fVar 0) (fCons (fVar 1) (fun _ S => .ok [] S))) (fun _ S => .ok [] S)))
noncomputable def zla0b1 : FS := (gSet 3 (fCall S_p_law_next (fun ds es => pick [(0, 0), (0, 1)] ds es []) 2 0 2 (fCons (fVar 2) (fCons (fC (.int 6)) (fun _ S => .ok [] S))) (fun _ S => .ok [] S)))
noncomputable def zla0b2 : FS := (gSet 4 (fCall S_p_law_next (fun ds es => pick [(0, 0), (0, 1)] ds es []) 2 0 2 (fCons (fVar 2) (fCons (fC (.int 4)) (fun _ S => .ok [] S))) (fun _ S => .ok [] S)))
noncomputable def zla0b3 : FS := (gAsg (mTup 2 (mCons (mName 5) (mCons (mName 6) (fun ds ρ _ => match ds with | [] => some ρ | _ => none)))) (fCall S_p_law_web (fun ds es => pick [(0, 0), (0, 1)] ds es []) 2 0 2 (fCons (fVar 2) (fCons (fC (.int 7)) (fun _ S => .ok [] S))) (fun _ S => .ok [] S)))
noncomputable def zla0b4 : FS := (gIf (toB (fBin gGt (fVar 3) (fC (.int 2)))) (gSet 5 (fCall S_p_law_bent (fun ds es => pick [(0, 0), (0, 1)] ds es []) 2 0 2 (fCons (fVar 2) (fCons (fVar 5) (fun _ S => .ok [] S))) (fun _ S => .ok [] S))) gNil)
noncomputable def zla0b5 : FS := (gIf (fOrT (toB (fBin gEq (fVar 3) (fC (.int 2)))) (toB (fBin gEq (fVar 3) (fC (.int 5))))) (gSet 6 (fCall S_p_law_bent (fun ds es => pick [(0, 0), (0, 1)] ds es []) 2 0 2 (fCons (fVar 2) (fCons (fVar 6) (fun _ S => .ok [] S))) (fun _ S => .ok [] S))) gNil)
noncomputable def zla0b6 : FS := (gIf (fAndT (toB (fBin gEq (fVar 4) (fC (.int 3)))) (fAndT (toB (fCB gIsi (fCons (fVar 5) (fCons (fC (.ty "list")) (fun _ S => .ok [] S))))) (toB (fCB gIsi (fCons (fVar 6) (fCons (fC (.ty "list")) (fun _ S => .ok [] S))))))) (gAsg (mTup 2 (mCons (mName 5) (mCons (mName 6) (fun ds ρ _ => match ds with | [] => some ρ | _ => none)))) (fTup (fCons (fCB gTuple (fCons (fVar 5) (fun _ S => .ok [] S))) (fCons (fCB gTuple (fCons (fVar 6) (fun _ S => .ok [] S))) (fun _ S => .ok [] S))))) gNil)
noncomputable def zla0b7 : FS := (gSet 7 (fCall S_p_law_is_web (fun ds es => pick [(0, 0), (0, 1)] ds es []) 2 0 2 (fCons (fVar 5) (fCons (fVar 6) (fun _ S => .ok [] S))) (fun _ S => .ok [] S)))
noncomputable def zla0b8 : FS := (gSet 8 (fTold ("law", none) ((("law" : Str) ++ ".<locals>.") ++ "<lambda>") 4 m_p_law_told (fFrzD 60 (fMake (makeO S_Web_init (fun ds es => pick [(0, 0), (1, 1), (1, 0)] ds es []) "Web" 3) 0 2 (fun _ S => .ok [] S) (fCons (fVar 6) (fCons (fVar 5) (fun _ S => .ok [] S)))))))
noncomputable def zla0b9 : FS := (gIf (fNotT (toB (fVar 7))) (gSeq (gIf (toB (fBin gNe (fVar 8) (fTup (fCons (fC (.str "refused")) (fCons (fC (.str "BadWeb")) (fun _ S => .ok [] S)))))) (gRet (fC (.bl false))) gNil) (fun ρ S => .ct ρ S)) gNil)
noncomputable def zla0b10 : FS := (gIf (toB (fBin gNe (fBin gIx (fVar 8) (fC (.int 0))) (fC (.str "told")))) (gRet (fC (.bl false))) gNil)
noncomputable def zla0b11 : FS := (gPar 9 10 (fCons (fCB gList (fCons (fVar 5) (fun _ S => .ok [] S))) (fCons (fCB gList (fCons (fVar 6) (fun _ S => .ok [] S))) (fun _ S => .ok [] S))))
noncomputable def zla0b12 : FS := (gIf (fNotT (toB (fCall S_p_law_equal_right (fun ds es => pick [(0, 0), (0, 1), (0, 2), (0, 3)] ds es []) 4 0 4 (fCons (fVar 2) (fCons (fBin gIx (fVar 8) (fC (.int 1))) (fCons (fVar 9) (fCons (fVar 10) (fun _ S => .ok [] S))))) (fun _ S => .ok [] S)))) (gRet (fC (.bl false))) gNil)
noncomputable def zla0b13 : FS := (gIf (fAndT (toB (fCB gIsi (fCons (fVar 5) (fCons (fC (.ty "list")) (fun _ S => .ok [] S))))) (toB (fCB gIsi (fCons (fVar 6) (fCons (fC (.ty "list")) (fun _ S => .ok [] S)))))) (gSeq (gExpr (fBM "list" gApp (fVar 5) (fCons (fC (.str "more")) (fun _ S => .ok [] S)))) (gExpr (fBM "list" gApp (fVar 6) (fCons (fC (.str "more")) (fun _ S => .ok [] S))))) gNil)
noncomputable def zla0b14 : FS := (gExpr (fBM "list" gApp (fMeth S_Web_cells_o (fun ds es => pick [(0, 0)] ds es []) "Web" "cells" 1 0 1 (fBin gIx (fVar 8) (fC (.int 1))) (fun _ S => .ok [] S) (fun _ S => .ok [] S)) (fCons (fC (.str "more")) (fun _ S => .ok [] S))))
noncomputable def zla0b15 : FS := (gExpr (fBM "list" gApp (fMeth S_Web_pegs_o (fun ds es => pick [(0, 0)] ds es []) "Web" "pegs" 1 0 1 (fBin gIx (fVar 8) (fC (.int 1))) (fun _ S => .ok [] S) (fun _ S => .ok [] S)) (fCons (fC (.str "more")) (fun _ S => .ok [] S))))
noncomputable def zla0b16 : FS := (gIf (toB (fBin gNe (fCB gRepr (fCons (fLst (fCons (fMeth (callSub S_Web_cells) (fun ds es => pick [(0, 0)] ds es []) "Web" "cells" 1 0 1 (fBin gIx (fVar 8) (fC (.int 1))) (fun _ S => .ok [] S) (fun _ S => .ok [] S)) (fCons (fMeth (callSub S_Web_pegs) (fun ds es => pick [(0, 0)] ds es []) "Web" "pegs" 1 0 1 (fBin gIx (fVar 8) (fC (.int 1))) (fun _ S => .ok [] S) (fun _ S => .ok [] S)) (fCons (fCB (gLenO "Web" S_Web_len) (fCons (fBin gIx (fVar 8) (fC (.int 1))) (fun _ S => .ok [] S))) (fun _ S => .ok [] S))))) (fun _ S => .ok [] S))) (fCB gRepr (fCons (fLst (fCons (fVar 9) (fCons (fVar 10) (fCons (fCB gLen (fCons (fVar 9) (fun _ S => .ok [] S))) (fun _ S => .ok [] S))))) (fun _ S => .ok [] S))))) (gRet (fC (.bl false))) gNil)
noncomputable def zla0b : FS := (gSeq zla0b0 (gSeq zla0b1 (gSeq zla0b2 (gSeq zla0b3 (gSeq zla0b4 (gSeq zla0b5 (gSeq zla0b6 (gSeq zla0b7 (gSeq zla0b8 (gSeq zla0b9 (gSeq zla0b10 (gSeq zla0b11 (gSeq zla0b12 (gSeq zla0b13 (gSeq zla0b14 (gSeq zla0b15 zla0b16))))))))))))))))
noncomputable def zla0 : FS := (gFor (fRng1 (fCons (fCB gMax (fCons (fC (.int 1)) (fCons (fCB gLen (fCons (fVar 0) (fun _ S => .ok [] S))) (fun _ S => .ok [] S)))) (fun _ S => .ok [] S))) (mName 1) zla0b)
noncomputable def zla1 : FS := (gRet (fC (.bl true)))
noncomputable def zla : FS := (gSeq zla0 zla1)
theorem zla_eq : m_law = zla := rfl
theorem webK {S : Store} {s : Nat} (h : Sta S s) : ∃ (cs ps : List D) (T : Store), S_p_law_web [.oid s, .int 7] S = .ok (.tup [.oid S.length, .oid (S.length + 1)]) T ∧ T[S.length]? = some (.lst cs) ∧ T[S.length + 1]? = some (.lst ps) ∧
    cs.length ≤ 7 ∧ ps.length ≤ 4 ∧ (∀ d ∈ cs, Drn 3 d) ∧ (∀ d ∈ ps, Drn 3 d) ∧ Sta T s ∧ Kps s S T := by
  obtain ⟨cs, ps, v, w, q, l1, l2, c1, c2, a⟩ := web_draw h
  have ls : s < S.length := by
    obtain ⟨v, hv⟩ := h
    exact lt_of hv
  have n1 : (cs.length : Int) ≤ 1000000000 := by omega
  refine ⟨cs, ps, _, q, ?_, ?_, l1, l2, fun d hd => cell_drn n1 (c1 d hd).2, fun d hd => drn_mono (by omega) (val_drn n1 (c2 d hd).2), a, ?_⟩
  · refine app_old ?_
    rw [set_ne (by omega)]
    have : (S.set s (SO.lst [.int v])).length = S.length := List.length_set
    rw [← this, List.getElem?_append_right (Nat.le_refl _)]
    simp
  · have : (((S.set s (SO.lst [.int v])) ++ [SO.lst cs]).set s (.lst [.int w])).length = S.length + 1 := by simp
    rw [← this, List.getElem?_append_right (Nat.le_refl _)]
    simp
  · exact ((Kps.set s S _).trans (.app s _ _)).trans ((Kps.set s _ _).trans (.app s _ _))
def isL : D → Bool
  | .oid _ => true
  | _ => false
theorem isi_l {S T : Store} {e : D} (h : TopR S T e) : ((tyS T e).bind fun T => isiT T "list") = some (isL e) := by
  rcases h with ⟨a, b, c⟩ | ⟨n, es, rfl, _, a, b, c⟩
  · cases e with
    | tup ds => simp [isiT, tyS, isL]
    | lst ds => cases b
    | non => simp [isiT, tyS, isL]
    | bl x => simp [isiT, tyS, isL]
    | int x => simp [isiT, tyS, isL]
    | str x => simp [isiT, tyS, isL]
    | dic x => simp [isiT, tyS, isL]
    | _ => simp [D.tre] at a
  · simp [isiT, tyS, a, isL]
theorem top_tup {S T : Store} {e : D} (h : TopR S T e) (hl : isL e = true) : ∃ t, gTuple [e] T = .ok t T ∧ TopR S T t := by
  rcases h with ⟨a, b, c⟩ | ⟨n, es, rfl, _, a, b, c⟩
  · cases e <;> first | (cases hl; done) | (exfalso; simp [D.tre] at a; done)
  · exact ⟨.tup es, tup_o a, .inl ⟨tre_len c (by omega), rfl, fun ds h => by cases h; exact b⟩⟩
/-- one turn's draws -/
theorem draws_ok (ns : List Int) (sc : Option D) (hsc : sc = some (.scr (ns.map D.int))) (idx : Nat) {T : Store} (y2 y3 y4 y5 y6 y7 y8 y9 y10 : Option D) :
    ∃ (w a : Nat) (d e : D) (U T1 : Store), (∀ R : FS, (gSeq zla0b0 (gSeq zla0b1 (gSeq zla0b2 (gSeq zla0b3 (gSeq zla0b4 (gSeq zla0b5 (gSeq zla0b6 R))))))) [sc, some (.int (idx : Nat)), y2, y3, y4, y5, y6, y7, y8, y9, y10] T = R [sc, some (.int (idx : Nat)), some (.oid T.length), some (.int w), some (.int a), some d, some e, y7, y8, y9, y10] U) ∧
      TopR T1 U d ∧ TopR T1 U e ∧ T1.length = T.length + 1 ∧ Sta U T.length ∧ Kps T.length (T ++ [.lst []]) U := by
  obtain ⟨v, q0⟩ := state_ok ns idx T
  obtain ⟨T1, hT1⟩ : ∃ T1, T1 = T ++ [SO.lst [.int v]] := ⟨_, rfl⟩
  rw [← hT1] at q0
  have L1 : T1.length = T.length + 1 := by rw [hT1]; simp
  have a0 : Sta T1 T.length := ⟨v, by rw [hT1]; simp⟩
  have K0 : Kps T.length (T ++ [.lst []]) T1 := ⟨by rw [hT1]; simp, fun j o hj ho => by
    rw [hT1]
    have : j < T.length := by
      have := lt_of ho
      simp at this
      omega
    rw [List.getElem?_append_left this] at ho ⊢
    exact ho⟩
  generalize hs : T.length = s at *
  obtain ⟨w, T2, hw, q1, a1, c1⟩ := drawK a0 6 (by omega) (by omega)
  obtain ⟨a, T3, ha, q2, a2, c2⟩ := drawK a1 4 (by omega) (by omega)
  have q1' : S_p_law_next [.oid s, .int 6] T1 = .ok (.int w) T2 := q1
  have q2' : S_p_law_next [.oid s, .int 4] T2 = .ok (.int a) T3 := q2
  obtain ⟨cs, ps, T4, q3, g1, g2, l1, l2, d1, d2, a3, c3⟩ := webK a2
  have L3 : s + 1 ≤ T3.length := by have := c1.1; have := c2.1; omega
  have t1 : TopR T1 T4 (.oid T3.length) := .inr ⟨_, cs, rfl, by omega, g1, by omega, fun x hx => drn_tre (d1 x hx)⟩
  have t2 : TopR T1 T4 (.oid (T3.length + 1)) := .inr ⟨_, ps, rfl, by omega, g2, by omega, fun x hx => drn_tre (d2 x hx)⟩
  have v0 : zla0b0 [sc, some (.int (idx : Nat)), y2, y3, y4, y5, y6, y7, y8, y9, y10] T = .nx [sc, some (.int (idx : Nat)), some (.oid s), y3, y4, y5, y6, y7, y8, y9, y10] T1 := by
    rw [hsc]
    generalize D.scr (ns.map D.int) = X at *
    unfold zla0b0
    simp [q0]
  have v1 : zla0b1 [sc, some (.int (idx : Nat)), some (.oid s), y3, y4, y5, y6, y7, y8, y9, y10] T1 = .nx [sc, some (.int (idx : Nat)), some (.oid s), some (.int w), y4, y5, y6, y7, y8, y9, y10] T2 := by
    unfold zla0b1
    simp [q1']
  have v2 : zla0b2 [sc, some (.int (idx : Nat)), some (.oid s), some (.int w), y4, y5, y6, y7, y8, y9, y10] T2 = .nx [sc, some (.int (idx : Nat)), some (.oid s), some (.int w), some (.int a), y5, y6, y7, y8, y9, y10] T3 := by
    unfold zla0b2
    simp [q2']
  have v3 : zla0b3 [sc, some (.int (idx : Nat)), some (.oid s), some (.int w), some (.int a), y5, y6, y7, y8, y9, y10] T3 = .nx [sc, some (.int (idx : Nat)), some (.oid s), some (.int w), some (.int a), some (.oid T3.length), some (.oid (T3.length + 1)), y7, y8, y9, y10] T4 := by
    unfold zla0b3
    simp [q3]
  have f4 : ∃ (d : D) (T5 : Store), zla0b4 [sc, some (.int (idx : Nat)), some (.oid s), some (.int w), some (.int a), some (.oid T3.length), some (.oid (T3.length + 1)), y7, y8, y9, y10] T4 = .nx [sc, some (.int (idx : Nat)), some (.oid s), some (.int w), some (.int a), some d, some (.oid (T3.length + 1)), y7, y8, y9, y10] T5 ∧ TopR T1 T5 d ∧ T5[T3.length + 1]? = some (.lst ps) ∧ Sta T5 s ∧ Kps s T4 T5 := by
    by_cases c : 2 < w
    · have c' : (2 : Int) < (w : Int) := by omega
      obtain ⟨e, T5, q, t, b, k⟩ := bent_top a3 (by omega) g1 (by omega) d1
      refine ⟨e, T5, ?_, t.kps (s := s) (by have := c3.1; omega) (by have := c1.1; have := c2.1; have := c3.1; omega) (.rfl s T5), k.2 _ _ (by omega) g2, b, k⟩
      unfold zla0b4
      simp [c, c', q]
    · have c' : ¬ (2 : Int) < (w : Int) := by omega
      refine ⟨_, T4, ?_, t1, g2, a3, .rfl s T4⟩
      unfold zla0b4
      simp [c, c']
  obtain ⟨d, T5, v4, td, g3, a4, c4⟩ := f4
  have f5 : ∃ (e : D) (T6 : Store), zla0b5 [sc, some (.int (idx : Nat)), some (.oid s), some (.int w), some (.int a), some d, some (.oid (T3.length + 1)), y7, y8, y9, y10] T5 = .nx [sc, some (.int (idx : Nat)), some (.oid s), some (.int w), some (.int a), some d, some e, y7, y8, y9, y10] T6 ∧ TopR T1 T6 e ∧ Sta T6 s ∧ Kps s T5 T6 := by
    by_cases c : w = 2 ∨ w = 5
    · obtain ⟨e, T6, q, t, b, k⟩ := bent_top a4 (by omega) g3 (by omega) d2
      refine ⟨e, T6, ?_, t.kps (s := s) (by have := c3.1; have := c4.1; omega) (by have := c1.1; have := c2.1; have := c3.1; have := c4.1; omega) (.rfl s T6), b, k⟩
      unfold zla0b5
      rcases c with rfl | rfl <;> simp [q]
    · obtain ⟨n2, n5⟩ := not_or.mp c
      have n2' : ¬ (w : Int) = 2 := by omega
      have n5' : ¬ (w : Int) = 5 := by omega
      refine ⟨_, T5, ?_, t2.kps (s := s) (by omega) (Nat.le_refl _) c4, a4, .rfl s T5⟩
      unfold zla0b5
      simp [n2, n5, n2', n5']
  obtain ⟨e, T6, v5, te, a5, c5⟩ := f5
  have td6 := td.kps (s := s) (by omega) (Nat.le_refl _) c5
  have i1 := isi_l td6
  have i2 := isi_l te
  have f6 : ∃ (d' e' : D), zla0b6 [sc, some (.int (idx : Nat)), some (.oid s), some (.int w), some (.int a), some d, some e, y7, y8, y9, y10] T6 = .nx [sc, some (.int (idx : Nat)), some (.oid s), some (.int w), some (.int a), some d', some e', y7, y8, y9, y10] T6 ∧ TopR T1 T6 d' ∧ TopR T1 T6 e' := by
    by_cases c : (a : Int) = 3 ∧ isL d = true ∧ isL e = true
    · obtain ⟨x1, y1, z1⟩ := top_tup td6 c.2.1
      obtain ⟨x2, y2', z2⟩ := top_tup te c.2.2
      have sh2 : short 2 = true := by decide
      rw [c.2.1] at i1
      rw [c.2.2] at i2
      refine ⟨x1, x2, ?_, z1, z2⟩
      unfold zla0b6
      have c1n : a = 3 := by omega
      simp [c1n, i1, i2, y1, y2', sh2]
    · refine ⟨d, e, ?_, td6, te⟩
      unfold zla0b6
      by_cases c1 : (a : Int) = 3
      · have c1n : a = 3 := by omega
        by_cases c2 : isL d = true
        · have c3 : isL e = false := by
            cases q : isL e
            · rfl
            · exact absurd ⟨c1, c2, q⟩ c
          rw [c2] at i1
          rw [c3] at i2
          simp [c1n, i1, i2]
        · have c2 : isL d = false := by simpa using c2
          rw [c2] at i1
          simp [c1n, i1, i2]
      · have c1n : ¬ a = 3 := by omega
        simp [c1, c1n]
  obtain ⟨d', e', v6, td7, te7⟩ := f6
  refine ⟨w, a, d', e', T6, T1, fun R => ?_, td7, te7, by omega, a5, K0.trans (c1.trans (c2.trans (c3.trans (c4.trans c5))))⟩
  rw [e_gSeq, v0, Out.seq_nx, e_gSeq, v1, Out.seq_nx, e_gSeq, v2, Out.seq_nx, e_gSeq, v3, Out.seq_nx, e_gSeq, v4, Out.seq_nx, e_gSeq, v5, Out.seq_nx, e_gSeq, v6, Out.seq_nx]
end K03

/-! The law's loop: what is asked. -/
namespace K03
open PySem L2 DL
open scoped Classical
noncomputable def zco0 : FS := (gRet (fCB gListO (fCons (fFld ["Web"] "all_cells" (fVar 0)) (fun _ S => .ok [] S))))
theorem zco_eq : m_Web_cells_o = zco0 := rfl
noncomputable def zcc0 : FS := (gRet (fCB gList (fCons (fFld ["Web"] "all_cells" (fVar 0)) (fun _ S => .ok [] S))))
theorem zcc_eq : m_Web_cells = zcc0 := rfl
noncomputable def zpo0 : FS := (gRet (fCB gListO (fCons (fFld ["Web"] "all_pegs" (fVar 0)) (fun _ S => .ok [] S))))
theorem zpo_eq : m_Web_pegs_o = zpo0 := rfl
noncomputable def zpp0 : FS := (gRet (fCB gList (fCons (fFld ["Web"] "all_pegs" (fVar 0)) (fun _ S => .ok [] S))))
theorem zpp_eq : m_Web_pegs = zpp0 := rfl
noncomputable def zle0 : FS := (gRet (fCB gLen (fCons (fFld ["Web"] "all_cells" (fVar 0)) (fun _ S => .ok [] S))))
theorem zle_eq : m_Web_len = zle0 := rfl
theorem cellsO (cs ps : List D) (S : Store) : S_Web_cells_o [webD cs ps] S = .ok (.oid S.length) (S ++ [.lst cs]) := by
  unfold S_Web_cells_o
  rw [zco_eq]
  unfold zco0
  simp [List.replicate, webD, asI, lk1, gListO, isDic1, asD, gToO, asQ]
theorem pegsO (cs ps : List D) (S : Store) : S_Web_pegs_o [webD cs ps] S = .ok (.oid S.length) (S ++ [.lst ps]) := by
  unfold S_Web_pegs_o
  rw [zpo_eq]
  unfold zpo0
  simp [List.replicate, webD, asI, lk2, gListO, isDic1, asD, gToO, asQ]
theorem web_pure {cs ps : List D} (W : WebOk cs ps) : pureL cs = true ∧ pureL ps = true ∧ (webD cs ps).pure = true := by
  have n1 : (cs.length : Int) ≤ 1000000 := by have := W.lc; omega
  have t1 : ∀ z ∈ cs, z.tre = true := fun z hz => drn_tre (cell_drn (by omega) (W.c z hz))
  have t2 : ∀ z ∈ ps, z.tre = true := fun z hz => drn_tre (val_drn (by omega) (W.p z hz))
  have p1 := treL_pure cs (treL_all.mpr t1)
  have p2 := treL_pure ps (treL_all.mpr t2)
  exact ⟨p1, p2, by simp [webD, D.pure, pureF, p1, p2]⟩
theorem c_cells {cs ps : List D} (W : WebOk cs ps) (S : Store) : callSub S_Web_cells [webD cs ps] S = .ok (.lst cs) S := by
  obtain ⟨p1, p2, p3⟩ := web_pure W
  refine callSub_ok (by simp [pureL, p3]) (S' := []) ?_ (by simpa [D.pure] using p1)
  unfold S_Web_cells
  rw [zcc_eq]
  unfold zcc0
  simp [List.replicate, webD, asI, lk1, gList, isDic1, asD, gToL, asQ]
theorem c_pegs {cs ps : List D} (W : WebOk cs ps) (S : Store) : callSub S_Web_pegs [webD cs ps] S = .ok (.lst ps) S := by
  obtain ⟨p1, p2, p3⟩ := web_pure W
  refine callSub_ok (by simp [pureL, p3]) (S' := []) ?_ (by simpa [D.pure] using p2)
  unfold S_Web_pegs
  rw [zpp_eq]
  unfold zpp0
  simp [List.replicate, webD, asI, lk2, gList, isDic1, asD, gToL, asQ]
theorem c_len {cs ps : List D} (W : WebOk cs ps) (l : cs.length ≤ 500) (S : Store) : gLenO "Web" S_Web_len [webD cs ps] S = .ok (.int cs.length) S := by
  obtain ⟨p1, p2, p3⟩ := web_pure W
  have q : S_Web_len [webD cs ps] [] = .ok (.int cs.length) [] := by
    have ln : ∀ T, gLen [.lst cs] T = .ok (.int cs.length) T := fun T => len_row (.inr (.inl rfl)) (by omega)
    unfold S_Web_len
    rw [zle_eq]
    unfold zle0
    simp [List.replicate, webD, asI, lk1, ln]
  exact e_gLenO p3 q (by omega) (by omega)
theorem repr_web {cs ps : List D} (W : WebOk cs ps) (l1 : cs.length ≤ 500) (l2 : ps.length ≤ 500) (S : Store) : ∃ t, gRepr [.lst [.lst cs, .lst ps, .int cs.length]] S = .ok (.str t) S := by
  obtain ⟨a1, a2, a3, _⟩ := W.cs
  obtain ⟨b1, b2, b3, _⟩ := W.ps
  refine ⟨_, repr_D ?_ ?_ ?_ S⟩
  · have e : (D.lst [.lst cs, .lst ps, .int cs.length]).sim = ((D.lst cs).sim && ((D.lst ps).sim && ((D.int cs.length).sim && true))) := by simp only [D.sim, simL]
    have e2 : (D.int cs.length).sim = true := by
      simp only [D.sim, decide_eq_true_eq]
      omega
    rw [e, a1, b1, e2]
    rfl
  · have e : (D.lst [.lst cs, .lst ps, .int cs.length]).dep = max (D.lst cs).dep (max (D.lst ps).dep (max (D.int cs.length).dep 0)) + 1 := by simp only [D.dep, depL]
    have e2 : (D.int cs.length).dep = 0 := by simp only [D.dep]
    omega
  · have e : (D.lst [.lst cs, .lst ps, .int cs.length]).wt = (D.lst cs).wt + 1 + ((D.lst ps).wt + 1 + ((D.int cs.length).wt + 1 + 0)) := by simp only [D.wt, wtL]
    have e2 : (D.int cs.length).wt = 64 := by simp only [D.wt]
    omega
theorem refused_eq (S : Store) : gNe (.tup [.str "refused", .str "BadWeb"]) (.tup [.str "refused", .str "BadWeb"]) S = .ok (.bl false) S := by
  have s1 : (D.tup [.str "refused", .str "BadWeb"]).sim = true := by
    have a : PyData.strOk (Str.ofString "refused") = true := by decide +kernel
    have b : PyData.strOk (Str.ofString "BadWeb") = true := by decide +kernel
    simp [D.sim, simL, a, b]
  have d1 : (D.tup [.str "refused", .str "BadWeb"]).dep ≤ 60 := by simp [D.dep, depL]
  rw [ne_D s1 s1 d1 d1, eqv_refl _ (D.sh _ s1).hd]
  rfl
/-- appending to a list of the store -/
theorem app_ok {S : Store} {n : Nat} {xs : List D} (h : S[n]? = some (.lst xs)) (l : xs.length ≤ 2000) (d : D) : gApp (.oid n) [d] S = .ok .non (S.set n (.lst (xs ++ [d]))) := by
  have : xs.length < sizeLine := Nat.lt_of_le_of_lt l (by decide)
  simp [gApp, h, this]
theorem body_ok (ns : List Int) (sc : Option D) (hsc : sc = some (.scr (ns.map D.int))) (idx : Nat) {T : Store} (hT : T[0]? = some (.tbl pL qL)) (y2 y3 y4 y5 y6 y7 y8 y9 y10 : Option D) :
    ∃ (z2 z3 z4 z5 z6 z7 z8 z9 z10 : Option D) (T' : Store), T'[0]? = some (.tbl pL qL) ∧ (zla0b [sc, some (.int (idx : Nat)), y2, y3, y4, y5, y6, y7, y8, y9, y10] T = .nx [sc, some (.int (idx : Nat)), z2, z3, z4, z5, z6, z7, z8, z9, z10] T' ∨ zla0b [sc, some (.int (idx : Nat)), y2, y3, y4, y5, y6, y7, y8, y9, y10] T = .ct [sc, some (.int (idx : Nat)), z2, z3, z4, z5, z6, z7, z8, z9, z10] T') := by
  obtain ⟨w, a, d, e, U, T1, pre, td, te, L1, st, K0⟩ := draws_ok ns sc hsc idx (T := T) y2 y3 y4 y5 y6 y7 y8 y9 y10
  have tp : 0 < T.length := lt_of hT
  generalize hs : T.length = s at *
  have n0 : (0 : Nat) ≠ s := by omega
  have u0 : U[0]? = some (.tbl pL qL) := K0.2 0 _ n0 (app_old hT)
  have c1 := top_thg td
  have c2 := top_thg te
  obtain ⟨b, hw, hl, wt⟩ := web_thg c1 c2
  have v7 : zla0b7 [sc, some (.int (idx : Nat)), some (.oid s), some (.int w), some (.int a), some d, some e, y7, y8, y9, y10] U = .nx [sc, some (.int (idx : Nat)), some (.oid s), some (.int w), some (.int a), some d, some e, some (.bl b), y8, y9, y10] U := by
    unfold zla0b7
    simp [hl]
  have wk := work_ok (ρ := [sc, some (.int (idx : Nat)), some (.oid s), some (.int w), some (.int a), some d, some e, some (.bl b), y8, y9, y10]) c1 c2 wt rfl rfl
  have go : ∀ R, zla0b [sc, some (.int (idx : Nat)), y2, y3, y4, y5, y6, y7, y8, y9, y10] T = R → R = (gSeq zla0b8 (gSeq zla0b9 (gSeq zla0b10 (gSeq zla0b11 (gSeq zla0b12 (gSeq zla0b13 (gSeq zla0b14 (gSeq zla0b15 zla0b16)))))))) [sc, some (.int (idx : Nat)), some (.oid s), some (.int w), some (.int a), some d, some e, some (.bl b), y8, y9, y10] U := by
    intro R hR
    rw [← hR]
    unfold zla0b
    rw [pre, e_gSeq, v7, Out.seq_nx]
  cases hb : b with
  | false =>
    have f := wk.2 hb
    subst hb
    have v8 : zla0b8 [sc, some (.int (idx : Nat)), some (.oid s), some (.int w), some (.int a), some d, some e, some (.bl false), y8, y9, y10] U = .nx [sc, some (.int (idx : Nat)), some (.oid s), some (.int w), some (.int a), some d, some e, some (.bl false), some (.tup [.str "refused", .str "BadWeb"]), y9, y10] (U ++ [.ins "Web" []]) := by
      unfold zla0b8
      rw [e_gSet, told_eq u0, told_no _ _ _ f]
      simp
    have v9 : zla0b9 [sc, some (.int (idx : Nat)), some (.oid s), some (.int w), some (.int a), some d, some e, some (.bl false), some (.tup [.str "refused", .str "BadWeb"]), y9, y10] (U ++ [.ins "Web" []]) = .ct [sc, some (.int (idx : Nat)), some (.oid s), some (.int w), some (.int a), some d, some e, some (.bl false), some (.tup [.str "refused", .str "BadWeb"]), y9, y10] (U ++ [.ins "Web" []]) := by
      have sh2 : short 2 = true := by decide
      have r := refused_eq (U ++ [.ins "Web" []])
      unfold zla0b9
      simp [sh2, r]
    refine ⟨some (.oid s), some (.int w), some (.int a), some d, some e, some (.bl false), some (.tup [.str "refused", .str "BadWeb"]), y9, y10, U ++ [.ins "Web" []], app_old u0, .inr ?_⟩
    rw [go _ rfl, e_gSeq, v8, Out.seq_nx, e_gSeq, v9]
    rfl
  | true =>
    obtain ⟨cs, ps, r1, r2, W, f⟩ := wk.1 hb
    subst hb
    have m1 := r1.2.1
    have m2 := r2.2.1
    obtain ⟨V, hV⟩ : ∃ V, V = U ++ [SO.frz (webD cs ps)] := ⟨_, rfl⟩
    rw [← hV] at f
    have stV : Sta V s := by rw [hV]; exact st.app _
    have KV : Kps s U V := by rw [hV]; exact .app _ _ _
    have up : ∀ {x : D} {xs : List D}, RowS U x xs → RowS V x xs := fun {x xs} h => by
      rcases h with rfl | rfl | ⟨n, rfl, q⟩
      · exact .inl rfl
      · exact .inr (.inl rfl)
      · exact .inr (.inr ⟨n, rfl, by rw [hV]; exact app_old q⟩)
    have g1 := list_row (up r1.1)
    have g2 := list_row (up r2.1)
    obtain ⟨X, eX, stX, KX⟩ := equal_ok stV W m1 m2
    have tdX : TopR T1 X d := td.kps (s := s) (by omega) (Nat.le_refl _) (KV.trans KX)
    have teX : TopR T1 X e := te.kps (s := s) (by omega) (Nat.le_refl _) (KV.trans KX)
    obtain ⟨wd, hwd⟩ : ∃ wd, webD cs ps = wd := ⟨_, rfl⟩
    have v8 : zla0b8 [sc, some (.int (idx : Nat)), some (.oid s), some (.int w), some (.int a), some d, some e, some (.bl true), y8, y9, y10] U = .nx [sc, some (.int (idx : Nat)), some (.oid s), some (.int w), some (.int a), some d, some e, some (.bl true), some (.tup [.str "told", wd]), y9, y10] V := by
      rw [hwd] at f
      unfold zla0b8
      rw [e_gSet, told_eq u0, told_yes _ _ _ _ f]
      simp
    have x0 : ∀ S, gIx (.tup [.str "told", wd]) (.int 0) S = .ok (.str "told") S := fun S => rfl
    have x1 : ∀ S, gIx (.tup [.str "told", wd]) (.int 1) S = .ok wd S := fun S => rfl
    have v9 : zla0b9 [sc, some (.int (idx : Nat)), some (.oid s), some (.int w), some (.int a), some d, some e, some (.bl true), some (.tup [.str "told", wd]), y9, y10] V = .nx [sc, some (.int (idx : Nat)), some (.oid s), some (.int w), some (.int a), some d, some e, some (.bl true), some (.tup [.str "told", wd]), y9, y10] V := by
      unfold zla0b9
      simp
    have v10 : zla0b10 [sc, some (.int (idx : Nat)), some (.oid s), some (.int w), some (.int a), some d, some e, some (.bl true), some (.tup [.str "told", wd]), y9, y10] V = .nx [sc, some (.int (idx : Nat)), some (.oid s), some (.int w), some (.int a), some d, some e, some (.bl true), some (.tup [.str "told", wd]), y9, y10] V := by
      unfold zla0b10
      simp [x0]
    have v11 : zla0b11 [sc, some (.int (idx : Nat)), some (.oid s), some (.int w), some (.int a), some d, some e, some (.bl true), some (.tup [.str "told", wd]), y9, y10] V = .nx [sc, some (.int (idx : Nat)), some (.oid s), some (.int w), some (.int a), some d, some e, some (.bl true), some (.tup [.str "told", wd]), some (.lst cs), some (.lst ps)] V := by
      unfold zla0b11
      simp [gPar, g1, g2]
    have v12 : zla0b12 [sc, some (.int (idx : Nat)), some (.oid s), some (.int w), some (.int a), some d, some e, some (.bl true), some (.tup [.str "told", wd]), some (.lst cs), some (.lst ps)] V = .nx [sc, some (.int (idx : Nat)), some (.oid s), some (.int w), some (.int a), some d, some e, some (.bl true), some (.tup [.str "told", wd]), some (.lst cs), some (.lst ps)] X := by
      rw [hwd] at eX
      unfold zla0b12
      simp [x1, eX]
    have f13 : ∃ Y, zla0b13 [sc, some (.int (idx : Nat)), some (.oid s), some (.int w), some (.int a), some d, some e, some (.bl true), some (.tup [.str "told", wd]), some (.lst cs), some (.lst ps)] X = .nx [sc, some (.int (idx : Nat)), some (.oid s), some (.int w), some (.int a), some d, some e, some (.bl true), some (.tup [.str "told", wd]), some (.lst cs), some (.lst ps)] Y ∧ Y[0]? = some (.tbl pL qL) := by
      have x0 : X[0]? = some (.tbl pL qL) := KX.2 0 _ n0 (KV.2 0 _ n0 u0)
      have i1 := isi_l tdX
      have i2 := isi_l teX
      by_cases c : isL d = true ∧ isL e = true
      · rw [c.1] at i1
        rw [c.2] at i2
        have j : isiT "list" "list" = some true := by decide +kernel
        rcases tdX with ⟨q, _⟩ | ⟨n, xs, rfl, ln, hn, l1, _⟩
        · exfalso
          cases d <;> first | (cases c.1; done) | (simp [D.tre] at q; done)
        rcases teX with ⟨q, _⟩ | ⟨m, zs, rfl, lm, hm, l2, _⟩
        · exfalso
          cases e <;> first | (cases c.2; done) | (simp [D.tre] at q; done)
        have p1 := app_ok hn (by omega) (.str "more")
        obtain ⟨zs', hm', l2'⟩ : ∃ zs', (X.set n (.lst (xs ++ [.str "more"])))[m]? = some (.lst zs') ∧ zs'.length ≤ 2000 := by
          by_cases q : n = m
          · subst q
            exact ⟨_, set_eq hn, by simp; omega⟩
          · exact ⟨zs, by rw [set_ne q]; exact hm, by omega⟩
        have p2 := app_ok hm' l2' (.str "more")
        refine ⟨(X.set n (.lst (xs ++ [.str "more"]))).set m (.lst (zs' ++ [.str "more"])), ?_, ?_⟩
        · unfold zla0b13
          have y1 := ty_o hn
          have y2 := ty_o hm'
          have y3 := ty_o hm
          simp [j, p1, p2, y1, y2, y3]
        · rw [set_ne (by omega), set_ne (by omega)]
          exact x0
      · refine ⟨X, ?_, x0⟩
        unfold zla0b13
        cases q1 : isL d
        · rw [q1] at i1
          simp [i1]
        · cases q2 : isL e
          · rw [q1] at i1
            rw [q2] at i2
            simp [i1, i2]
          · exact absurd ⟨q1, q2⟩ c
    obtain ⟨Y, v13, y0⟩ := f13
    have ny := lt_of y0
    have aw : ∀ S, asI S wd = some (("Web" : Str), ([("all_cells", D.lst cs), ("all_pegs", D.lst ps)] : List (Str × D))) := fun S => by rw [← hwd]; rfl
    have lc : List.lookup (Str.ofString "cells") ([("all_cells", D.lst cs), ("all_pegs", D.lst ps)] : List (Str × D)) = none := by
      have e1 : (Str.ofString "cells" == Str.ofString "all_cells") = false := by decide +kernel
      have e2 : (Str.ofString "cells" == Str.ofString "all_pegs") = false := by decide +kernel
      simp only [List.lookup, e1, e2]
    have lp : List.lookup (Str.ofString "pegs") ([("all_cells", D.lst cs), ("all_pegs", D.lst ps)] : List (Str × D)) = none := by
      have e1 : (Str.ofString "pegs" == Str.ofString "all_cells") = false := by decide +kernel
      have e2 : (Str.ofString "pegs" == Str.ofString "all_pegs") = false := by decide +kernel
      simp only [List.lookup, e1, e2]
    obtain ⟨fs, hfs⟩ : ∃ fs : List (Str × D), fs = ([("all_cells", D.lst cs), ("all_pegs", D.lst ps)] : List (Str × D)) := ⟨_, rfl⟩
    rw [← hfs] at lc lp
    have aw : ∀ S, asI S wd = some (("Web" : Str), fs) := fun S => by rw [aw, hfs]
    have lcP : ∀ (a : Str) (b : D), (a, b) ∈ fs → ¬Str.ofString "cells" = a := by
      intro a b h q
      rw [hfs] at h
      simp only [List.mem_cons, Prod.mk.injEq, List.not_mem_nil, or_false] at h
      rcases h with ⟨rfl, _⟩ | ⟨rfl, _⟩
      · exact absurd q (by decide +kernel)
      · exact absurd q (by decide +kernel)
    have lpP : ∀ (a : Str) (b : D), (a, b) ∈ fs → ¬Str.ofString "pegs" = a := by
      intro a b h q
      rw [hfs] at h
      simp only [List.mem_cons, Prod.mk.injEq, List.not_mem_nil, or_false] at h
      rcases h with ⟨rfl, _⟩ | ⟨rfl, _⟩
      · exact absurd q (by decide +kernel)
      · exact absurd q (by decide +kernel)
    have co := cellsO cs ps Y
    have ca := app_ok (S := Y ++ [SO.lst cs]) (n := Y.length) (xs := cs) (by simp) (by omega) (.str "more")
    obtain ⟨Z, hZ⟩ : ∃ Z, Z = (Y ++ [SO.lst cs]).set Y.length (.lst (cs ++ [.str "more"])) := ⟨_, rfl⟩
    have ta := ty_o (T := Y ++ [SO.lst cs]) (n := Y.length) (ds := cs) (by simp)
    rw [← hZ] at ca
    have z0 : Z[0]? = some (.tbl pL qL) := by
      rw [hZ, set_ne (by omega)]
      exact app_old y0
    have nz := lt_of z0
    have po := pegsO cs ps Z
    have pa := app_ok (S := Z ++ [SO.lst ps]) (n := Z.length) (xs := ps) (by simp) (by omega) (.str "more")
    obtain ⟨Q, hQ⟩ : ∃ Q, Q = (Z ++ [SO.lst ps]).set Z.length (.lst (ps ++ [.str "more"])) := ⟨_, rfl⟩
    have tb := ty_o (T := Z ++ [SO.lst ps]) (n := Z.length) (ds := ps) (by simp)
    rw [← hQ] at pa
    have q0 : Q[0]? = some (.tbl pL qL) := by
      rw [hQ, set_ne (by omega)]
      exact app_old z0
    have cc := c_cells W Q
    have cp := c_pegs W Q
    have cl := c_len W m1 Q
    have ln : gLen [.lst cs] Q = .ok (.int cs.length) Q := len_row (.inr (.inl rfl)) (by omega)
    obtain ⟨t, rp⟩ := repr_web W m1 m2 Q
    rw [hwd] at co po cc cp cl
    have v14 : zla0b14 [sc, some (.int (idx : Nat)), some (.oid s), some (.int w), some (.int a), some d, some e, some (.bl true), some (.tup [.str "told", wd]), some (.lst cs), some (.lst ps)] Y = .nx [sc, some (.int (idx : Nat)), some (.oid s), some (.int w), some (.int a), some d, some e, some (.bl true), some (.tup [.str "told", wd]), some (.lst cs), some (.lst ps)] Z := by
      unfold zla0b14
      simp [x1, aw, if_pos lcP, co, ca, ta]
    have v15 : zla0b15 [sc, some (.int (idx : Nat)), some (.oid s), some (.int w), some (.int a), some d, some e, some (.bl true), some (.tup [.str "told", wd]), some (.lst cs), some (.lst ps)] Z = .nx [sc, some (.int (idx : Nat)), some (.oid s), some (.int w), some (.int a), some d, some e, some (.bl true), some (.tup [.str "told", wd]), some (.lst cs), some (.lst ps)] Q := by
      unfold zla0b15
      simp [x1, aw, if_pos lpP, po, pa, tb]
    have v16 : zla0b16 [sc, some (.int (idx : Nat)), some (.oid s), some (.int w), some (.int a), some d, some e, some (.bl true), some (.tup [.str "told", wd]), some (.lst cs), some (.lst ps)] Q = .nx [sc, some (.int (idx : Nat)), some (.oid s), some (.int w), some (.int a), some d, some e, some (.bl true), some (.tup [.str "told", wd]), some (.lst cs), some (.lst ps)] Q := by
      have sh3 : short 3 = true := by decide
      unfold zla0b16
      simp [x1, aw, if_pos lcP, if_pos lpP, cc, cp, cl, ln, rp, sh3]
    refine ⟨some (.oid s), some (.int w), some (.int a), some d, some e, some (.bl true), some (.tup [.str "told", wd]), some (.lst cs), some (.lst ps), Q, q0, .inl ?_⟩
    rw [go _ rfl, e_gSeq, v8, Out.seq_nx, e_gSeq, v9, Out.seq_nx, e_gSeq, v10, Out.seq_nx, e_gSeq, v11, Out.seq_nx, e_gSeq, v12, Out.seq_nx, e_gSeq, v13, Out.seq_nx, e_gSeq, v14, Out.seq_nx, e_gSeq, v15, Out.seq_nx, v16]
end K03

/-! The law. -/
namespace K03
open PySem L2 DL
theorem rng_getA {n j : Nat} {e : D} (h : (rng 0 (n : Int))[j]? = some e) : e = .int ((j : Nat) : Int) ∧ j < n := by
  obtain ⟨hl, he⟩ := List.getElem?_eq_some_iff.mp h
  have l : j < n := by
    rw [rng_length] at hl
    omega
  refine ⟨?_, l⟩
  rw [← he]
  simp [rng]
theorem good (ns : List Int) (hn : ns.length ≤ 63) : ∃ S, S_law [.scr (ns.map D.int)] (tabS tq) = .ok (.bl true) S := by
  obtain ⟨sc, hsc⟩ : ∃ sc, sc = some (D.scr (ns.map D.int)) := ⟨_, rfl⟩
  have hT : (tabS tq)[0]? = some (.tbl pL qL) := rfl
  have st0 : startD 11 [.scr (ns.map D.int)] = [some (.scr (ns.map D.int)), none, none, none, none, none, none, none, none, none, none] := rfl
  obtain ⟨m, hm, hm2⟩ : ∃ m : Nat, (if (ns.length : Int) > 1 then (ns.length : Int) else 1) = (m : Int) ∧ m ≤ 63 := by
    by_cases h1 : (ns.length : Int) > 1
    · rw [if_pos h1]
      exact ⟨ns.length, rfl, by omega⟩
    · rw [if_neg h1]
      exact ⟨1, rfl, by decide⟩
  obtain ⟨T0, hT0⟩ : ∃ T0, T0 = tabS tq := ⟨_, rfl⟩
  rw [← hT0] at hT ⊢
  obtain ⟨ρ', S', lo, z1, z2, z3, z4, z5, z6, z7, z8, z9, z10, rfl, tb⟩ := loop_inv (m := mName 1) (b := zla0b) (fun j ρ S => ∃ z1 z2 z3 z4 z5 z6 z7 z8 z9 z10, ρ = [sc, z1, z2, z3, z4, z5, z6, z7, z8, z9, z10] ∧ S[0]? = some (.tbl pL qL)) (rng 0 (m : Nat)) 0 [sc, none, none, none, none, none, none, none, none, none, none] T0 ⟨none, none, none, none, none, none, none, none, none, none, rfl, hT⟩ (by
    rintro j e ρ S hd ⟨z1, z2, z3, z4, z5, z6, z7, z8, z9, z10, rfl, tb⟩
    obtain ⟨rfl, hj⟩ := rng_getA hd
    obtain ⟨x2, x3, x4, x5, x6, x7, x8, x9, x10, T', tb', hb⟩ := body_ok ns sc hsc j tb z2 z3 z4 z5 z6 z7 z8 z9 z10
    exact ⟨_, _, T', rfl, hb, _, _, _, _, _, _, _, _, _, _, rfl, tb'⟩)
  refine ⟨S', ?_⟩
  have fr : fRng1 (fCons (fCB gMax (fCons (fC (.int 1)) (fCons (fCB gLen (fCons (fVar 0) (fun _ S => .ok [] S))) (fun _ S => .ok [] S)))) (fun _ S => .ok [] S)) [sc, none, none, none, none, none, none, none, none, none, none] T0 = .ok ⟨rng 0 (m : Nat), none⟩ T0 := by
    have c : cRng (m : Int) = true := @decide_eq_true _ (Classical.propDecidable _) ⟨by omega, by omega⟩
    rw [hsc, e_fRng1]
    simp only [e_fCons, e_fCB, e_fC, e_fVar, List.getElem?_cons_zero, Res.bind_ok, e_len_s, List.length_map, e_max2, hm, c, if_true]
  unfold S_law
  rw [zla_eq, e_semOf, st0, ← hsc]
  unfold zla
  have v0 : zla0 [sc, none, none, none, none, none, none, none, none, none, none] T0 = .nx [sc, z1, z2, z3, z4, z5, z6, z7, z8, z9, z10] S' := by
    rw [← lo]
    unfold zla0
    rw [e_gFor, fr]
    rfl
  rw [e_gSeq, v0, Out.seq_nx]
  unfold zla1
  simp
end K03

open PySem PySem.W PySem.Calls PyProof.Rows
theorem PySem.Challenge.cw_reachyard_k01_webs_of_anything_holds : PySem.Challenge.rw_reachyard_k01_webs_of_anything.Holds := by
  w_on; o_law
  refine HandSHeadRun.head_any (r := OpenLaw.row PySem.Challenge.rw_reachyard_k01_webs_of_anything) (q := view (OpenLaw.row PySem.Challenge.rw_reachyard_k01_webs_of_anything).prog [49]) (H := K03.hk) (ob := K03.ob) (M := 40000) (loose := K03.loose) (d := HandSHeadRun.topDef (OpenLaw.row PySem.Challenge.rw_reachyard_k01_webs_of_anything).prog 49) (kwd := []) K03.ob_eq
    (by kernel_rfl) (fun s => by kernel_rfl) K03.run (by kernel_rfl) (by kernel_rfl) (by kernel_rfl) (by rfl) (by first | assumption | decide +kernel) (by decide +kernel) ⟨rfl, rfl, rfl, rfl, rfl, by decide +kernel⟩ ?hw ?hc
  case hw => w_witness2
  case hc =>
    refine DL.walk_ofGT (l := PySem.Challenge.rw_reachyard_k01_webs_of_anything) (n := 63) (k := 33) (x := "_law_script") (sem := K03.S_law) (tq := K03.tq) rfl (by decide) (by kernel_rfl) ⟨rfl, by decide, by decide⟩ K03.good ?F
    intro w mg fa h Y G hmg0
    obtain ⟨K, KX, Sy⟩ := Y
    have hmg : mg ("law" : PySem.Str) = some (.ref fa) := by
      have e : (HandSHeadRun.topDef (OpenLaw.row PySem.Challenge.rw_reachyard_k01_webs_of_anything).prog 49).name = ("law" : PySem.Str) := by kernel_rfl
      rw [← e]
      exact hmg0
    have T := K03.txt_of KX G Sy.says Sy.ex
    have e := hmg.symm.trans (K03.glo_law T)
    cases e
    obtain ⟨fd, F⟩ := K03.fun_law T
    refine ⟨K, fd, KX, Sy.tabs, Sy.out, Sy.hd, Sy.nd, fun s v => L2.FunD.bindsA (ps := ["_law_script"]) F (fun _ _ _ _ _ _ us hl => match us, hl with | [_], _ => rfl) s [v] rfl, fun base kb gb TB => ?_⟩
    obtain ⟨fd2, F2, G2⟩ := K03.ok_law (P := (PySem.Challenge.rw_reachyard_k01_webs_of_anything).prog) (w := w) (base := base) T TB
    have ed : fd2 = fd := by
      obtain ⟨_, _, _, _, _, _, _, _, _, _, e1, l1, _⟩ := F.ex
      obtain ⟨_, _, _, _, _, _, _, _, _, _, e2, l2, _⟩ := F2.ex
      rw [l1] at l2
      cases l2
      rfl
    rw [ed] at G2
    exact G2

