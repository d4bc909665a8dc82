import PyProof.Rows.All
import Wide.All
import OpenK.AllK
import Wide.FinOn
import HandS.ForMost
import HandS.ForExc
import HandS.Exc
import HandS.TryOnly
import HandS.ExcOwn
import HandS.Defaults
import HandS.IsInst
import HandS.Flow
import HandS.Wide
import HandS.Lambda
import HandS.HeadHook4
import HandS.ExcCtx
import HandS.MakeKwOnly
import HandS.Small
import HandS.SortInts
import HandS.Conv
import HandS.SetFor
import KE.GoesEnum
import KE.KDictZip
import KE.KDictItemsList
import KE.KUnpackStar
import HandS.Ends
import HandS.HeadEnd
import HandS.Head0
import HandS.Head1
import HandS.Head2
import HandS.HeadHook1
import HandS.HeadHook2
import HandS.DictComp
import HandS.Deep
import HandS.OwnEq
import HandS.Style
import HandS.Text
import HandS.FStr
import PyProof.StrOps2
import HandS.ExcIs
import HandS.TryMany
import HandS.EndTab
import KE.DataMinMax
import KE.SortData
import HandS.NoneIn
import HandS.ClsMeth
import KE.GoesSet
import KE.GoesMore
import PyProof.InstNe
import HandS.Zip
import HandS.TupMul
import HandS.More
import HandS.HeadHook3
import KE.KDictCopyH
import HandS.HotCalls
import KE.KDictKeyed
import HandS.ExcInit
import HandS.ExcField
import KE.KExcIs
import PyProof.Rows.StrMeet
import HandS.WideMore
import KE.KCallOwn
import HandS.RaiseMore
import HandS.WideBits
import PySem.Challenge.RW_reachyard_k47_yards_made
import PyProof.Rows.StrDigitsNeg
set_option Elab.async false
set_option maxRecDepth 100000
set_option maxHeartbeats 0
set_option linter.all false
namespace DL
open PySem L2

/-- data: what a value is worth; oid: an object of the store -/
inductive D where
  | non | bl (b : Bool) | int (i : Int) | str (x : Str) | ty (n : String)
  | cls (c : Str) | tup (xs : List D) | lst (xs : List D) | scr (xs : List D) | dic (kvs : List (Key × D)) | ins (C : Str) (fs : List (Str × D)) | oid (n : Nat) | exc (C : Str) (fs : List (Str × D))
end DL

namespace DL
open PySem L2

end DL

namespace DL
open PySem L2

end DL

namespace DL
open PySem L2

end DL

namespace DL
open PySem L2

end DL

namespace DL
open PySem L2

end DL

namespace DL
open PySem L2

end DL

namespace DL
open PySem L2

end DL

namespace DL
open PySem L2

section
variable {X : Cx} {W : WX} {k : Nat} {a b c e : Expr} {es : List Expr} {fa fb fc fe : FE} {pos : Pos}
def valD (ks : List (Key × D)) (k : Key) : Option D := (ks.find? fun q => decide (q.1 = k)).map (·.2)
end
end DL

namespace DL
open PySem L2

end DL

namespace PySem
open PySem.Spec PyProof.Rows L2
end PySem
namespace DL
open PySem L2
end DL

namespace PySem
open PySem.Spec PySem.Calls PyProof.Rows PySem.W L2
namespace F
end F
end PySem

namespace DL
open PySem L2
end DL

namespace PySem
open PySem.Spec PySem.Calls PyProof.Rows PySem.W L2
end PySem
namespace DL
open PySem L2
end DL

namespace DL
open PySem PySem.Spec PyProof.Rows L2

end DL

namespace DL
open PySem PySem.Spec PyProof.Rows L2
end DL

namespace DL
open PySem PySem.Spec PyProof.Rows L2
end DL

namespace DL
open PySem PySem.Spec PyProof.Rows L2
def isiB (K : PySem.W.Frag) (c : Str) : Bool := He.eqO (PySem.W.findIn K (.ref (He.ga K c)) "__class__") (some (some (.builtin "object.__class__"))) &&
  (He.eqO (PySem.W.specialIn K (.builtin "object.__class__") "__get__") (some (some (.builtin "getset_descriptor.__get__"))) && (decide (PySem.W.takesIn K (.builtin "object.__class__") = some true) && decide (PySem.W.mroIn K (He.ga K c) (.type "object") = some true)))
end DL

namespace DL
open PySem PySem.Spec PyProof.Rows L2
end DL

namespace DL
open PySem PySem.Spec PyProof.Rows L2
end DL

namespace DL
open PySem PySem.Spec PyProof.Rows L2
end DL

namespace DL
open PySem PySem.Spec PyProof.Rows L2
end DL

namespace DL
open PySem PySem.Spec PyProof.Rows L2
end DL

namespace DL
open PySem PySem.Spec PyProof.Rows L2
end DL

namespace DL
open PySem PySem.Spec PyProof.Rows L2
end DL

namespace DL
open PySem PySem.Spec PyProof.Rows L2
end DL

namespace PySem
open PySem.Spec PySem.Calls PyProof.Rows PySem.W L2
namespace F
end F
end PySem

namespace DL
open PySem PySem.Spec PyProof.Rows L2
end DL

namespace HT
open PySem PySem.Spec PyProof.Rows
end HT
namespace L2
open PySem PySem.Spec PyProof.Rows
end L2
namespace DL
open PySem PySem.Spec PyProof.Rows L2
end DL

namespace DL
open PySem PySem.Spec PyProof.Rows L2
end DL

namespace DL
open PySem PySem.Spec PyProof.Rows L2
end DL

namespace DL
open PySem PySem.Spec PyProof.Rows L2
end DL

namespace DL
open PySem PySem.Spec PyProof.Rows L2
end DL

namespace DL
open PySem PySem.Spec PyProof.Rows L2
end DL

namespace DL
open PySem PySem.Spec PyProof.Rows L2

end DL

namespace DL
open PySem PySem.Spec PyProof.Rows L2

end DL

namespace DL
open PySem PySem.Spec PyProof.Rows L2

end DL

namespace DL
open PySem PySem.Spec PyProof.Rows L2

/-- the tables of the defs that make lambdas -/
def tabA (K : PySem.W.Frag) (tq : List (He.Defn × Str)) : List Addr := tq.map fun p => (He.cT K p.1).2
structure SaysO (fa : List He.Fa) (fn : List He.DefD) (tq : List (He.Defn × Str)) (ex : PySem.W.Frag → Bool) (h : Heap) (K : PySem.W.Frag) : Prop where
  says : He.SaysD fa fn K
  ex : ex K = true
  nd : (tabA K tq).Nodup
  hd : ∀ p ∈ tq, PySem.W.codeHdIn K (He.cT K p.1).1 (He.cT K p.1).2 = true
  out : ∀ p ∈ tq, K.lookup (He.cT K p.1).2 = none
  tabs : ∀ p ∈ tq, h.get? (He.cT K p.1).2 = some { cls := .none, data := .fields #[] }
abbrev bmV : List Value := [.type "ValueError", .type "Exception", .type "BaseException", .type "object"]
def raiB (K : PySem.W.Frag) (c : Str) : Bool := PySem.W.excIn K (He.ga K c) bmV "ValueError.__new__" && (PySem.W.keepIn K (.ref (He.ga K c)) && (decide (PySem.W.subIn K (.ref (He.ga K c)) (.type "BaseException") = some true) && (PySem.W.typeIn K (.ref (He.ga K c)) == some (Value.type "type"))))
/-- what isinstance asks of an exception's class -/
def iseB (K : PySem.W.Frag) (c : Str) : Bool := He.eqO (PySem.W.findIn K (.ref (He.ga K c)) "__getattribute__") (some (some (.builtin "BaseException.__getattribute__"))) && (He.eqO (PySem.W.findIn K (.ref (He.ga K c)) "__getattr__") (some none) && (decide (PySem.W.subIn K (.ref (He.ga K c)) (.type "BaseException") = some true) &&
  (PySem.W.hasDictIn K (He.ga K c) && (He.eqO (PySem.W.findIn K (.ref (He.ga K c)) "__class__") (some (some (.builtin "object.__class__"))) && (He.eqO (PySem.W.specialIn K (.builtin "object.__class__") "__get__") (some (some (.builtin "getset_descriptor.__get__"))) &&
    (decide (PySem.W.takesIn K (.builtin "object.__class__") = some true) && decide (PySem.W.mroIn K (He.ga K c) (.type "object") = some true)))))))
/-- a table: which classes an except clause, isinstance takes -/
def exmT (K : PySem.W.Frag) (c : Value) (t : List (Str × Bool)) : Bool := t.all fun q => decide (PySem.W.exmOne K (.ref (He.ga K q.1)) c = some q.2)
def kitT (K : PySem.W.Frag) (c : Value) (t : List (Str × Bool)) : Bool := t.all fun q => decide (PySem.W.kitOne K (.ref (He.ga K q.1)) c = some q.2)
end DL

namespace DL
open PySem L2
end DL

namespace DL
open PySem PySem.Spec PyProof.Rows L2
end DL

namespace DL
open PySem PySem.Spec PyProof.Rows L2
end DL

namespace PySem.W
open PySem PySem.SeqAt PyProof.Rows
end PySem.W
namespace DL
open PySem PySem.Spec PySem.W PySem.SeqAt PyProof.Rows L2
end DL

namespace DL
open PySem PySem.Spec PyProof.Rows L2
end DL

namespace DL
open PySem PySem.Spec PyProof.Rows L2
end DL

namespace DL
open PySem PySem.Spec PyProof.Rows L2
def cclB (K : PySem.W.Frag) (x m : Str) : Bool := PySem.W.readsIn K (He.ga K x) (.type "type") && (He.eqO (PySem.W.specialIn K (.ref (He.ga K x)) "__getattribute__") (some (some (.builtin "type.__getattribute__"))) &&
  ((match PySem.W.findCls K (.ref (He.ga K x)) (.type "type") m with
    | some (.val (.ref a)) => decide (a = He.ma K (He.ga K x) m)
    | _ => false) && PySem.W.keepIn K (.ref (He.ma K (He.ga K x) m))))
def strsB : List Value → List Str → Bool
  | [], [] => true
  | .str y _ :: r, z :: s => decide (y = z) && strsB r s
  | _, _ => false
def tupB (K : PySem.W.Frag) (x : Str) (zs : List Str) : Bool := match K.lookup (He.ga K x) with
  | some ⟨.type c, _, .seq its _, _⟩ => decide (c = "tuple") && (decide (its.size ≤ 1000) && strsB its.toList zs)
  | _ => false
end DL

namespace DL
open PySem PySem.Spec PyProof.Rows L2
end DL

namespace DL
open PySem PySem.Spec PyProof.Rows L2
end DL

namespace DL
open PySem PySem.Spec PyProof.Rows L2
end DL

namespace DL
open PySem PySem.Spec PyProof.Rows L2
end DL

namespace DL
open PySem PySem.Spec PyProof.Rows L2
end DL

namespace DL
open PySem PySem.Spec PyProof.Rows L2
end DL

namespace DL
open PySem PySem.Spec PyProof.Rows L2
def hasBit (m a : Nat) : Bool := Nat.beq (Nat.land (Nat.shiftRight m a) 1) 1
/-- what is new of some: the bits of all seen, the new ones, the last one first -/
def newB : List Addr → Nat → List Addr → Nat × List Addr
  | [], m, acc => (m, acc)
  | a :: as, m, acc => match hasBit m a with
    | true => newB as m acc
    | false => newB as (Nat.lor m (Nat.shiftLeft 1 a)) (a :: acc)
def refsB (g : Addr → Option Obj) : List Addr → List Addr
  | [] => []
  | a :: as => (match g a with
    | some o => He.refsD o
    | none => []) ++ refsB g as
def asBn (g : Addr → Option Obj) : Nat → Nat → List Addr → List Addr → List Addr
  | 0, _, _, all => all
  | n + 1, m, fr, all => match newB (refsB g fr) m [] with
    | (m', new) => asBn g n m' new (all ++ new)
def asB (g : Addr → Option Obj) (n : Nat) : List Addr := PySem.cStatics :: asBn g n (Nat.lor (Nat.shiftLeft 1 mainGlobals) (Nat.shiftLeft 1 PySem.cStatics)) [mainGlobals] [mainGlobals]
def obsLb (n : Nat) (fa : List He.Fa) (fn : List He.DefD) (tq : List (He.Defn × Str)) (ex : PySem.W.Frag → Bool) (g : Addr → Option Obj) : He.AlD × Bool :=
  (He.obsD fa fn (He.frT g (asB g n)), ex (He.frT g (asB g n)) && (decide (tabA (He.frT g (asB g n)) tq).Nodup && He.tabsB g (tq.map (·.1)) (He.frT g (asB g n))))
theorem saysOb_of {n : Nat} {fa : List He.Fa} {fn : List He.DefD} {tq : List (He.Defn × Str)} {ex : PySem.W.Frag → Bool} {h : Heap} (e : obsLb n fa fn tq ex h.get? = (He.valD fn, true)) : SaysO fa fn tq ex h (He.frT h.get? (asB h.get? n)) := by
  have e1 := congrArg Prod.fst e
  have e2 : (ex (He.frT h.get? (asB h.get? n)) && (decide (tabA (He.frT h.get? (asB h.get? n)) tq).Nodup && He.tabsB h.get? (tq.map (·.1)) (He.frT h.get? (asB h.get? n)))) = true := congrArg Prod.snd e
  obtain ⟨q1, q2⟩ := He.ba e2
  obtain ⟨q3, q4⟩ := He.ba q2
  have each : ∀ p ∈ tq, PySem.W.codeHdIn (He.frT h.get? (asB h.get? n)) (He.cT (He.frT h.get? (asB h.get? n)) p.1).1 (He.cT (He.frT h.get? (asB h.get? n)) p.1).2 = true ∧ ∃ o, h.get? (He.cT (He.frT h.get? (asB h.get? n)) p.1).2 = some o ∧ He.emptyTab o = true := fun p hp => by
    obtain ⟨z1, z2⟩ := He.ba (List.all_eq_true.mp q4 p.1 (List.mem_map.mpr ⟨p, hp, rfl⟩))
    refine ⟨z1, ?_⟩
    cases q : h.get? (He.cT (He.frT h.get? (asB h.get? n)) p.1).2 with
    | none => rw [q] at z2; cases z2
    | some o =>
      rw [q] at z2
      exact ⟨o, rfl, z2⟩
  refine ⟨e1, q1, of_decide_eq_true q3, fun p hp => (each p hp).1, fun p hp => ?_, fun p hp => ?_⟩
  · obtain ⟨_, o, z1, z2⟩ := each p hp
    exact He.frT_none z1 z2
  · obtain ⟨_, o, z1, z2⟩ := each p hp
    rw [z1, He.emptyTab_eq z2]
def hookLb (n : Nat) (fa : List He.Fa) (fn : List He.DefD) (tq : List (He.Defn × Str)) (ex : PySem.W.Frag → Bool) : PySem.W.Hook where
  α := He.AlD × Bool
  obs := fun s => obsLb n fa fn tq ex s.heap.get?
  val := fun _ => (He.valD fn, true)
  says := fun _ h => ∃ K : PySem.W.Frag, K.In h ∧ SaysO fa fn tq ex h K
  of := fun _ _ e => ⟨_, He.frT_in, saysOb_of e⟩
  keeps := fun _ _ _ ⟨K, hK, c⟩ k => ⟨K, PySem.W.Frag.In.keeps hK k, ⟨c.says, c.ex, c.nd, c.hd, c.out, fun p hp => k _ _ (c.tabs p hp)⟩⟩
theorem obsLb_eq {n : Nat} {fa : List He.Fa} {fn : List He.DefD} {tq : List (He.Defn × Str)} {ex : PySem.W.Frag → Bool} {g : Addr → Option Obj} {s : Shared} (h : ∀ a, g a = s.heap.get? a) : obsLb n fa fn tq ex g = (hookLb n fa fn tq ex).obs s := by
  have e : g = s.heap.get? := funext h
  rw [e] <;> rfl
end DL

namespace DL
open PySem L2
end DL

namespace DL
open PySem L2
end DL

namespace DL
open PySem PySem.Spec PyProof.Rows L2
end DL
namespace SrtO
open PySem PyProof.Rows Srt
end SrtO
namespace DL
open PySem PySem.Spec PyProof.Rows L2
end DL

namespace DL
open PySem PySem.Spec PyProof.Rows L2
end DL

namespace L2
open PySem PySem.Spec PyProof.Rows
end L2
namespace DL
open PySem PySem.Spec PyProof.Rows L2
end DL

namespace DL
open PySem PySem.Spec PyProof.Rows L2
end DL

namespace DL
open PySem PySem.Spec PyProof.Rows L2
end DL

namespace DL
open PySem PySem.Spec PyProof.Rows L2
end DL

namespace L2
open PySem PySem.Spec PyProof.Rows
end L2
namespace DL
open PySem PySem.Spec PyProof.Rows L2
end DL

namespace L2
open PySem PySem.Spec PyProof.Rows
end L2
namespace DL
open PySem PySem.Spec PyProof.Rows L2
end DL

namespace L2
open PySem PySem.Spec PyProof.Rows
end L2
namespace DL
open PySem PySem.Spec PyProof.Rows L2
end DL

namespace DL
open PySem PySem.Spec PyProof.Rows L2
end DL

namespace PySem
open PySem.Spec PySem.Calls PyProof.Rows PySem.W L2
end PySem
namespace DL
open PySem L2
end DL

namespace DL
open PySem PySem.Spec PyProof.Rows L2
end DL

namespace DL
open PySem PySem.Spec PyProof.Rows L2
end DL

namespace DL
open PySem PySem.Spec PyProof.Rows L2
end DL

namespace DL
open PySem PySem.Spec PyProof.Rows L2
end DL

namespace DL
open PySem PySem.Spec PyProof.Rows L2
end DL

namespace DL
open PySem PySem.Spec PyProof.Rows L2
end DL

namespace DL
open PySem PySem.Spec PyProof.Rows L2
end DL

namespace DL
open PySem PySem.Spec PyProof.Rows L2
end DL

namespace DL
open PySem PySem.Spec PyProof.Rows L2
end DL

namespace DL
open PySem PySem.Spec PyProof.Rows L2
end DL

namespace DL
open PySem PySem.Spec PyProof.Rows L2
end DL

namespace DL
open PySem PySem.Spec PyProof.Rows L2
end DL

namespace DL
open PySem PySem.Spec PyProof.Rows L2
end DL

namespace DL
open PySem PySem.Spec PyProof.Rows L2
end DL

namespace DL
open PySem PySem.Spec PyProof.Rows L2
end DL

namespace DL
open PySem PySem.Spec PyProof.Rows L2
end DL

namespace DL
open PySem PySem.Spec PyProof.Rows L2
end DL

namespace DL
open PySem PySem.Spec PyProof.Rows L2
end DL

namespace DL
open PySem PySem.Spec PyProof.Rows L2
end DL

namespace DL
open PySem PySem.Spec PyProof.Rows L2
end DL

namespace DL
open PySem PySem.Spec PyProof.Rows L2
end DL

namespace L2
open PySem PySem.Spec PyProof.Rows
end L2
namespace DL
open PySem PySem.Spec PyProof.Rows L2
end DL

namespace DL
open PySem PySem.Spec PyProof.Rows L2
end DL

namespace DL
open PySem PySem.Spec PyProof.Rows L2
end DL

namespace DL
open PySem PySem.Spec PyProof.Rows L2
end DL

namespace DL
open PySem PySem.Spec PyProof.Rows L2
end DL

namespace DL
open PySem PySem.Spec PyProof.Rows L2
end DL

namespace DL
open PySem PySem.Spec PyProof.Rows L2
end DL

namespace DL
open PySem PySem.Spec PyProof.Rows L2
end DL

namespace DL
open PySem PySem.Spec PyProof.Rows L2
end DL

namespace DL96
open PySem PySem.Spec PyProof.Rows L2
end DL96

namespace DL96
open PySem PySem.Spec PyProof.Rows L2
end DL96

namespace L2
open PySem PySem.Spec PyProof.Rows
end L2

namespace DL
open PySem PySem.Spec PyProof.Rows L2
end DL

namespace DL
open PySem PySem.Spec PyProof.Rows L2
end DL

namespace L2
open PySem PySem.Spec PyProof.Rows
end L2
namespace DL
open PySem PySem.Spec PyProof.Rows L2
end DL

namespace DL
open PySem PySem.Spec PyProof.Rows L2
end DL

namespace L2
open PySem PySem.Spec PyProof.Rows
end L2
namespace DL
open PySem PySem.Spec PyProof.Rows L2
end DL

namespace L2
open PySem PySem.Spec PyProof.Rows
end L2
namespace DL
open PySem PySem.Spec PyProof.Rows L2
end DL

namespace L2
open PySem PySem.Spec PyProof.Rows
end L2
namespace DL
open PySem PySem.Spec PyProof.Rows L2
end DL

namespace DL
open PySem PySem.Spec PyProof.Rows L2
end DL

namespace DL
open PySem PySem.Spec PyProof.Rows L2
end DL

namespace DL
open PySem PySem.Spec PyProof.Rows L2
end DL

namespace DL
open PySem PySem.Spec PyProof.Rows L2
end DL

namespace DL
open PySem PySem.Spec PyProof.Rows L2
end DL

namespace DL
open PySem PySem.Spec PyProof.Rows L2
end DL

namespace DL
open PySem PySem.Spec PyProof.Rows L2
end DL

namespace DL
open PySem PySem.Spec PyProof.Rows L2
end DL

namespace L2
open PySem PySem.Spec PyProof.Rows
end L2
namespace DL
open PySem PySem.Spec PyProof.Rows L2
end DL

namespace DL
open PySem PySem.Spec PyProof.Rows L2
end DL

namespace DL
open PySem PySem.Spec PyProof.Rows L2
def isnB (K : PySem.W.Frag) (c : Str) (T : String) : Bool := isiB K c && decide (PySem.W.kitOne K (.ref (He.ga K c)) (.type T) = some false)
end DL

namespace K03
open PySem PySem.Spec PyProof.Rows L2 DL
def top (i : Nat) : Stmt := PySem.Challenge.pw_reachyard_k47_yards_made.main.body.getD i (.Pass ⟨0, 0, 0, 0⟩)
abbrev tb_BadGround : List (Str × Bool) := [("BadGround", true), ("BadNumber", false)]
abbrev tb_BadNumber : List (Str × Bool) := [("BadGround", false), ("BadNumber", true)]
abbrev tb_ValueError : List (Str × Bool) := [("BadGround", true), ("BadNumber", true)]
abbrev tb_YardError : List (Str × Bool) := [("BadGround", true), ("BadNumber", true)]
abbrev s_p_law_state : Stmt := top 90
def d_p_law_state : He.DefD := ⟨("_law_state", none), "_law_state", "_law_state", defArgs s_p_law_state, defBody s_p_law_state, defScope s_p_law_state, [], []⟩
abbrev s_p_law_next : Stmt := top 91
def d_p_law_next : He.DefD := ⟨("_law_next", none), "_law_next", "_law_next", defArgs s_p_law_next, defBody s_p_law_next, defScope s_p_law_next, [], []⟩
abbrev s_p_law_pick : Stmt := top 92
def d_p_law_pick : He.DefD := ⟨("_law_pick", none), "_law_pick", "_law_pick", defArgs s_p_law_pick, defBody s_p_law_pick, defScope s_p_law_pick, [], []⟩
abbrev s_p_law_near : Stmt := top 93
def d_p_law_near : He.DefD := ⟨("_law_near", none), "_law_near", "_law_near", defArgs s_p_law_near, defBody s_p_law_near, defScope s_p_law_near, [], []⟩
abbrev s_p_law_got : Stmt := top 96
def d_p_law_got : He.DefD := ⟨("_law_got", none), "_law_got", "_law_got", defArgs s_p_law_got, defBody s_p_law_got, defScope s_p_law_got, [], []⟩
abbrev s_is_whole : Stmt := top 38
def d_is_whole : He.DefD := ⟨("is_whole", none), "is_whole", "is_whole", defArgs s_is_whole, defBody s_is_whole, defScope s_is_whole, [], []⟩
abbrev s_Ground_init : Stmt := inClass (top 51) 0
def d_Ground_init : He.DefD := ⟨("Ground", some "__init__"), "__init__", "Ground.__init__", defArgs s_Ground_init, defBody s_Ground_init, defScope s_Ground_init, [], []⟩
abbrev s_Floor_init : Stmt := inClass (top 31) 0
def d_Floor_init : He.DefD := ⟨("Floor", some "__init__"), "__init__", "Floor.__init__", defArgs s_Floor_init, defBody s_Floor_init, defScope s_Floor_init, [], []⟩
abbrev s_Yard_init : Stmt := inClass (top 87) 0
def d_Yard_init : He.DefD := ⟨("Yard", some "__init__"), "__init__", "Yard.__init__", defArgs s_Yard_init, defBody s_Yard_init, defScope s_Yard_init, [], [("young", .int 24), ("half", .int 96), ("kind", .str "first"), ("ages", .int 2), ("pay", .int 0)]⟩
abbrev s_p_law_made : Stmt := top 95
def d_p_law_made : He.DefD := ⟨("_law_made", none), "_law_made", "_law_made", defArgs s_p_law_made, defBody s_p_law_made, defScope s_p_law_made, [], []⟩
abbrev s_p_law_good : Stmt := top 94
def d_p_law_good : He.DefD := ⟨("_law_good", none), "_law_good", "_law_good", defArgs s_p_law_good, defBody s_p_law_good, defScope s_p_law_good, [], []⟩
abbrev s_Ground_pegs : Stmt := inClass (top 51) 1
def d_Ground_pegs : He.DefD := ⟨("Yard", some "pegs"), "pegs", "Ground.pegs", defArgs s_Ground_pegs, defBody s_Ground_pegs, defScope s_Ground_pegs, [], []⟩
abbrev s_Yard_made : Stmt := inClass (top 87) 12
def d_Yard_made : He.DefD := ⟨("Yard", some "made"), "made", "Yard.made", defArgs s_Yard_made, defBody s_Yard_made, defScope s_Yard_made, [], []⟩
abbrev s_Yard_news : Stmt := inClass (top 87) 22
def d_Yard_news : He.DefD := ⟨("Yard", some "news"), "news", "Yard.news", defArgs s_Yard_news, defBody s_Yard_news, defScope s_Yard_news, [], []⟩
abbrev s_many_in : Stmt := top 22
def d_many_in : He.DefD := ⟨("many_in", none), "many_in", "many_in", defArgs s_many_in, defBody s_many_in, defScope s_many_in, [], []⟩
abbrev s_Floor_size : Stmt := inClass (top 31) 6
def d_Floor_size : He.DefD := ⟨("Floor", some "size"), "size", "Floor.size", defArgs s_Floor_size, defBody s_Floor_size, defScope s_Floor_size, [], []⟩
abbrev s_Floor_places : Stmt := inClass (top 31) 11
def d_Floor_places : He.DefD := ⟨("Floor", some "places"), "places", "Floor.places", defArgs s_Floor_places, defBody s_Floor_places, defScope s_Floor_places, [], []⟩
abbrev s_sort_in : Stmt := top 21
def d_sort_in : He.DefD := ⟨("sort_in", none), "sort_in", "sort_in", defArgs s_sort_in, defBody s_sort_in, defScope s_sort_in, [], []⟩
abbrev s_Floor_sort_of : Stmt := inClass (top 31) 4
def d_Floor_sort_of : He.DefD := ⟨("Floor", some "sort_of"), "sort_of", "Floor.sort_of", defArgs s_Floor_sort_of, defBody s_Floor_sort_of, defScope s_Floor_sort_of, [], []⟩
abbrev s_serial_in : Stmt := top 25
def d_serial_in : He.DefD := ⟨("serial_in", none), "serial_in", "serial_in", defArgs s_serial_in, defBody s_serial_in, defScope s_serial_in, [], []⟩
abbrev s_Floor_there : Stmt := inClass (top 31) 9
def d_Floor_there : He.DefD := ⟨("Floor", some "there"), "there", "Floor.there", defArgs s_Floor_there, defBody s_Floor_there, defScope s_Floor_there, [], []⟩
abbrev s_Floor_serial_of : Stmt := inClass (top 31) 8
def d_Floor_serial_of : He.DefD := ⟨("Floor", some "serial_of"), "serial_of", "Floor.serial_of", defArgs s_Floor_serial_of, defBody s_Floor_serial_of, defScope s_Floor_serial_of, [], []⟩
abbrev s_is_place : Stmt := top 27
def d_is_place : He.DefD := ⟨("is_place", none), "is_place", "is_place", defArgs s_is_place, defBody s_is_place, defScope s_is_place, [], []⟩
abbrev s_value_of : Stmt := top 29
def d_value_of : He.DefD := ⟨("value_of", none), "value_of", "value_of", defArgs s_value_of, defBody s_value_of, defScope s_value_of, [], []⟩
abbrev s_Floor_words_at : Stmt := inClass (top 31) 5
def d_Floor_words_at : He.DefD := ⟨("Floor", some "words_at"), "words_at", "Floor.words_at", defArgs s_Floor_words_at, defBody s_Floor_words_at, defScope s_Floor_words_at, [], []⟩
abbrev s_age_in : Stmt := top 23
def d_age_in : He.DefD := ⟨("age_in", none), "age_in", "age_in", defArgs s_age_in, defBody s_age_in, defScope s_age_in, [], []⟩
abbrev s_mark_in : Stmt := top 24
def d_mark_in : He.DefD := ⟨("mark_in", none), "mark_in", "mark_in", defArgs s_mark_in, defBody s_mark_in, defScope s_mark_in, [], []⟩
abbrev s_pictured : Stmt := top 88
def d_pictured : He.DefD := ⟨("pictured", none), "pictured", "pictured", defArgs s_pictured, defBody s_pictured, defScope s_pictured, [], []⟩
abbrev s_Yard_picture : Stmt := inClass (top 87) 23
def d_Yard_picture : He.DefD := ⟨("Yard", some "picture"), "picture", "Yard.picture", defArgs s_Yard_picture, defBody s_Yard_picture, defScope s_Yard_picture, [], []⟩
abbrev s_word_of : Stmt := top 28
def d_word_of : He.DefD := ⟨("word_of", none), "word_of", "word_of", defArgs s_word_of, defBody s_word_of, defScope s_word_of, [], []⟩
abbrev s_Floor_there_word : Stmt := inClass (top 31) 10
def d_Floor_there_word : He.DefD := ⟨("Floor", some "there_word"), "there_word", "Floor.there_word", defArgs s_Floor_there_word, defBody s_Floor_there_word, defScope s_Floor_there_word, [], []⟩
abbrev s_Yard_seen_places_o : Stmt := inClass (top 87) 13
def d_Yard_seen_places_o : He.DefD := ⟨("Yard", some "seen_places"), "seen_places", "Yard.seen_places", defArgs s_Yard_seen_places_o, defBody s_Yard_seen_places_o, defScope s_Yard_seen_places_o, [], []⟩
abbrev s_Yard_serials : Stmt := inClass (top 87) 17
def d_Yard_serials : He.DefD := ⟨("Yard", some "serials"), "serials", "Yard.serials", defArgs s_Yard_serials, defBody s_Yard_serials, defScope s_Yard_serials, [], []⟩
abbrev s_Yard_step : Stmt := inClass (top 87) 21
def d_Yard_step : He.DefD := ⟨("Yard", some "step"), "step", "Yard.step", defArgs s_Yard_step, defBody s_Yard_step, defScope s_Yard_step, [], [("units", .int 1)]⟩
abbrev s_Ground_sure_pegs : Stmt := inClass (top 51) 2
def d_Ground_sure_pegs : He.DefD := ⟨("Yard", some "sure_pegs"), "sure_pegs", "Ground.sure_pegs", defArgs s_Ground_sure_pegs, defBody s_Ground_sure_pegs, defScope s_Ground_sure_pegs, [], []⟩
abbrev s_Yard_goal : Stmt := inClass (top 87) 1
def d_Yard_goal : He.DefD := ⟨("Yard", some "goal"), "goal", "Yard.goal", defArgs s_Yard_goal, defBody s_Yard_goal, defScope s_Yard_goal, [], []⟩
abbrev s_led_to_webs : Stmt := top 46
def d_led_to_webs : He.DefD := ⟨("led_to_webs", none), "led_to", "led_to", defArgs s_led_to_webs, defBody s_led_to_webs, defScope s_led_to_webs, [], []⟩
abbrev s_Yard_sort_at : Stmt := inClass (top 87) 2
def d_Yard_sort_at : He.DefD := ⟨("Yard", some "sort_at"), "sort_at", "Yard.sort_at", defArgs s_Yard_sort_at, defBody s_Yard_sort_at, defScope s_Yard_sort_at, [], []⟩
abbrev s_Ground_what : Stmt := inClass (top 51) 10
def d_Ground_what : He.DefD := ⟨("Yard", some "what"), "what", "Ground.what", defArgs s_Ground_what, defBody s_Ground_what, defScope s_Ground_what, [], []⟩
abbrev s_p_law_steps_right : Stmt := top 97
def d_p_law_steps_right : He.DefD := ⟨("_law_steps_right", none), "_law_steps_right", "_law_steps_right", defArgs s_p_law_steps_right, defBody s_p_law_steps_right, defScope s_p_law_steps_right, [], []⟩
abbrev s_p_law_new_right : Stmt := top 98
def d_p_law_new_right : He.DefD := ⟨("_law_new_right", none), "_law_new_right", "_law_new_right", defArgs s_p_law_new_right, defBody s_p_law_new_right, defScope s_p_law_new_right, [], []⟩
abbrev s_law : Stmt := top 99
def d_law : He.DefD := ⟨("law", none), "law", "law", defArgs s_law, defBody s_law, defScope s_law, [], []⟩
def fn : List He.DefD := [d_p_law_state, d_p_law_next, d_p_law_pick, d_p_law_near, d_p_law_got, d_is_whole, d_Ground_init, d_Floor_init, d_Yard_init, d_p_law_made, d_p_law_good, d_Ground_pegs, d_Yard_made, d_Yard_news, d_many_in, d_Floor_size, d_Floor_places, d_sort_in, d_Floor_sort_of, d_serial_in, d_Floor_there, d_Floor_serial_of, d_is_place, d_value_of, d_Floor_words_at, d_age_in, d_mark_in, d_pictured, d_Yard_picture, d_word_of, d_Floor_there_word, d_Yard_seen_places_o, d_Yard_serials, d_Yard_step, d_Ground_sure_pegs, d_Yard_goal, d_led_to_webs, d_Yard_sort_at, d_Ground_what, d_p_law_steps_right, d_p_law_new_right, d_law]
def fa : List He.Fa := [.glo "_law_state", .glo "_law_next", .glo "_law_pick", .glo "_law_near", .glo "_law_got", .glo "is_whole", .glo "_law_made", .glo "_law_good", .glo "many_in", .glo "sort_in", .glo "serial_in", .glo "is_place", .glo "value_of", .glo "age_in", .glo "mark_in", .glo "pictured", .glo "word_of", .glo "led_to_webs", .glo "_law_steps_right", .glo "_law_new_right", .glo "law", .free "ValueError", .free "abs", .free "all", .free "bool", .free "int", .free "isinstance", .free "len", .free "list", .free "max", .free "min", .free "range", .free "sorted", .free "str", .free "tuple", .int "LEAST_PLACES" (7), .int "MOST_PAY" (100), .int "MOST_PEGS" (40), .int "MOST_PLACES" (400), .int "MOST_UNITS" (1000), .int "POST" (3), .glo "SORTS", .glo "BadGround", .glo "BadNumber", .glo "Ground", .glo "YardError", .glo "Floor", .cls "Floor", .glo "Yard", .cls "Yard", .mkr "Floor", .mkr "Yard", .meth "Floor" "places", .meth "Floor" "serial_of", .meth "Floor" "size", .meth "Floor" "sort_of", .meth "Floor" "there", .meth "Floor" "there_word", .meth "Floor" "words_at", .meth "Yard" "goal", .meth "Yard" "made", .meth "Yard" "news", .meth "Yard" "pegs", .meth "Yard" "picture", .meth "Yard" "seen_places", .meth "Yard" "serials", .meth "Yard" "sort_at", .meth "Yard" "step", .meth "Yard" "sure_pegs", .meth "Yard" "what", .noat "Floor" "barrier", .noat "Floor" "cursor", .noat "Floor" "far_places", .noat "Floor" "greys", .noat "Floor" "half_places", .noat "Floor" "last_places", .noat "Floor" "most_age", .noat "Floor" "new_first", .noat "Floor" "new_top", .noat "Floor" "old_first", .noat "Floor" "old_top", .noat "Floor" "phase", .noat "Floor" "serials_made", .noat "Floor" "store", .noat "Floor" "tie_places", .noat "Floor" "told_news", .noat "Floor" "young_first", .noat "Floor" "young_places", .noat "Floor" "young_spare", .noat "Floor" "young_top", .noat "Yard" "floor", .noat "Yard" "queue", .noat "Yard" "stands", .noat "Yard" "units_paid"]
def exB (K : PySem.W.Frag) : Bool := isiB K "Yard" && (isnB K "Yard" "str" && (cclB K "Ground" "__init__" && (tupB K "SORTS" (["cell", "last", "tie", "post"] : List Str) && (raiB K "BadGround" && (raiB K "BadNumber" && (iseB K "BadGround" && (iseB K "BadNumber" && (exmT K (.ref (He.ga K "BadGround")) tb_BadGround && (exmT K (.ref (He.ga K "BadNumber")) tb_BadNumber && (exmT K (.ref (He.ga K "YardError")) tb_YardError && (kitT K (.type "ValueError") tb_ValueError && (true))))))))))))
def tq : List (He.Defn × Str) := [(("law", none), (("law" : Str) ++ ".<locals>.") ++ "<lambda>")]
end K03

namespace K03
open PySem PySem.Spec PyProof.Rows L2 DL
def loose0 : List Str := ["_wall", "YardError", "BadWeb", "BadGround", "BadNumber", "NoPeg", "NoCell", "NoField", "NoTurn", "NoRoom", "CELL", "LAST", "TIE", "POST", "SORTS", "WHITE"]
def loose1 : List Str := ["GREY", "BLACK", "head_word", "sort_in", "many_in", "age_in", "mark_in", "serial_in", "marked", "is_place", "word_of", "value_of", "Floor", "YOUNG", "HALF", "MOST_FIELDS"]
def loose2 : List Str := ["MOST_PEGS", "GREATEST", "is_whole", "is_number", "is_row", "is_at", "is_value", "is_cell", "is_web", "led_to", "led_to_webs", "Web", "HOLDING", "Ground", "led_to", "led_to_handing"]
def loose3 : List Str := ["roots", "staying", "words_of_all", "cut_loose", "come_due", "take_old", "copied", "carry", "newer", "hand_on", "hand_on_handing", "shade_all", "shade_pegs", "begin_marking", "look_again", "cut_white"]
def loose4 : List Str := ["end_marking", "look_turn", "led_anew", "pass_turn", "mend_cell", "mend_turn", "kept_places", "end_round", "LEAST_PLACES", "MOST_PLACES", "MOST_PAY", "MOST_UNITS", "THINGS", "Yard", "pictured", "_law_state"]
def loose5 : List Str := ["_law_next", "_law_pick", "_law_near", "_law_good", "_law_made", "_law_got", "_law_steps_right", "_law_new_right"]
def loose : List Str := loose0 ++ loose1 ++ loose2 ++ loose3 ++ loose4 ++ loose5
abbrev R : PySem.W.OpenRow := PySem.W.OpenLaw.row PySem.Challenge.rw_reachyard_k47_yards_made
abbrev hk : PySem.W.Hook := hookLb 6 fa fn tq exB
def ob (s : PySem.W.SharedT) : He.AlD × Bool := obsLb 6 fa fn tq exB (HandSHeadRun.getT s)
theorem ob_eq (s : PySem.W.SharedT) : ob s = hk.obs s.abs := obsLb_eq (HandSHeadRun.getT_eq s)
theorem runf (w : World) : HandSHeadRun.RunEq R (PySem.W.view R.prog [99]) hk ob 40000 loose (w.withFollow "special-get-raises" false) := by
  intro os
  kernel_rfl
theorem runt (w : World) : HandSHeadRun.RunEq R (PySem.W.view R.prog [99]) hk ob 40000 loose (w.withFollow "special-get-raises" true) := by
  intro os
  kernel_rfl
theorem run (w : World) : HandSHeadRun.RunEq R (PySem.W.view R.prog [99]) hk ob 40000 loose w :=
  PySem.W.byRow2 "special-get-raises" (P := fun w => HandSHeadRun.RunEq R (PySem.W.view R.prog [99]) hk ob 40000 loose w) runf runt w

end K03
set_option Elab.async false
set_option maxRecDepth 100000
set_option maxHeartbeats 0
set_option linter.all false
/-! The data layer, part 1: data, stores, the relation to the abstract heap, the judgements. -/
namespace DL
open PySem L2

/-- objects that may change; frz: one that changes no more -/
inductive SO where
  | lst (ds : List D) | dic (ks : List (Key × D)) | ins (C : Str) (fs : List (Str × D)) | frz (d : D) | tbl (p : Str × Option Str) (q : Str) | dkt (ks : List (List Int × D))
def SO.live : SO → Bool
  | .frz _ => false
  | _ => true
abbrev Store := List SO
/-- an entry of a dict whose keys are tuples of whole numbers (truths count as numbers) -/
def entN (x : List Int × Addr × Value) : DictEntry := { hash := reduceHash (Builtin.Tuple.tupleHashOf (x.1.map hashInt)), key := .ref x.2.1, val := x.2.2 }
/-- such a dict, by what lies at its address -/
def DktO (a : Addr) (xs : List (List Int × Addr × Value)) : HO := .ext fun hp => (a == sysModules) = false ∧ xs.length ≤ sizeLine ∧ ∃ (o : Obj) (es : Array DictEntry) (ep : Nat), hp.get? a = some o ∧ o.ExactDict ∧ o.data = .dict es ep ∧ es.toList = xs.map entN ∧ (xs.map (·.1)).Nodup
def numV : V → Option Int
  | .int i => some i
  | .bl b => some (if b = true then 1 else 0)
  | _ => none
def numsV : List V → Option (List Int)
  | [] => some []
  | v :: vs => (numV v).bind fun i => (numsV vs).map fun is => i :: is
/-- a caught exception: of the class cls, its dict dd -/
def ExcV (cls : Value) (dd : Option Addr) (a : Addr) : HO := .ext fun hp => ∃ (ob : Obj) (fs : Array Value), hp.get? a = some ob ∧ L2N.Zn cls dd ob ∧ ob.data = .fields fs

section
variable (K : PySem.W.Frag) (mg : Str → Option Value) (φ : List Addr) (G : Hp)
mutual
def Dat : D → V → Prop
  | .non, v => v = .non
  | .bl b, v => v = .bl b
  | .int i, v => v = .int i
  | .str x, v => v = .str x
  | .ty n, v => v = .ty n
  | .tup ds, v => ∃ a vs, v = .ref a ∧ SqT K G a vs ∧ DatL ds vs
  | .lst ds, v => ∃ a vs, v = .ref a ∧ G a = some (.lst vs) ∧ DatL ds vs
  | .scr ds, v => ∃ a vs, v = .ref a ∧ SqL K G a vs ∧ DatL ds vs
  | .cls c, v => ∃ A, v = .ref A ∧ mg c = some (.ref A)
  | .dic ks, v => ∃ a kvs, v = .ref a ∧ G a = some (.dK kvs) ∧ DatK ks kvs
  | .ins C fs, v => ∃ a A dx fvs, v = .ref a ∧ mg C = some (.ref A) ∧ G a = some (.ins A dx fvs) ∧ DatF fs fvs
  | .oid n, v => ∃ a, v = .ref a ∧ φ[n]? = some a
  | .exc C fs, v => ∃ a A dx, v = .ref a ∧ mg C = some (.ref A) ∧ G a = some (ExcV (.ref A) dx a) ∧ ((fs = [] ∧ dx = none) ∨ fs ≠ [] ∧ ∃ b fvs, dx = some b ∧ G b = some (.xd fvs) ∧ DatF fs fvs)
def DatL : List D → List V → Prop
  | [], vs => vs = []
  | d :: ds, vs => ∃ v r, vs = v :: r ∧ Dat d v ∧ DatL ds r
def DatK : List (Key × D) → List (Key × V) → Prop
  | [], vs => vs = []
  | (k, d) :: ds, vs => ∃ v r, vs = (k, v) :: r ∧ Dat d v ∧ DatK ds r
def DatF : List (Str × D) → List (Str × V) → Prop
  | [], vs => vs = []
  | (k, d) :: ds, vs => ∃ v r, vs = (k, v) :: r ∧ Dat d v ∧ DatF ds r
end
def DatT : List (List Int × D) → List (List Int × Addr × Value) → Prop
  | [], xs => xs = []
  | (k, d) :: ds, xs => ∃ b u r v vs, xs = (k, b, u) :: r ∧ SqT K G b vs ∧ numsV vs = some k ∧ Dat K mg φ G d v ∧ RelV v u ∧ DatT ds r
end

theorem sqt_mono {K : PySem.W.Frag} {G G' : Hp} (e : Same G G') {a : Addr} {xs : List V} (h : SqT K G a xs) : SqT K G' a xs :=
  h.imp (fun r => r.imp (e _ _) fun ⟨o, q⟩ => ⟨o, e _ _ q⟩) id
section
variable {K : PySem.W.Frag} {mg : Str → Option Value} {φ φ' : List Addr} {G G' : Hp}
theorem pre_get {φ φ' : List Addr} (p : φ <+: φ') {n : Nat} {a : Addr} (h : φ[n]? = some a) : φ'[n]? = some a := by
  obtain ⟨t, rfl⟩ := p
  rw [List.getElem?_append_left (List.getElem?_eq_some_iff.mp h).1]
  exact h
mutual
theorem Dat.mono (p : φ <+: φ') (e : Same G G') : ∀ (d : D) (v : V), Dat K mg φ G d v → Dat K mg φ' G' d v
  | .non, _, h => h
  | .bl _, _, h => h
  | .int _, _, h => h
  | .str _, _, h => h
  | .ty _, _, h => h
  | .tup ds, _, h => by
    unfold Dat at h ⊢
    obtain ⟨a, vs, rfl, h1, h2⟩ := h
    exact ⟨a, vs, rfl, sqt_mono e h1, DatL.mono p e ds vs h2⟩
  | .lst ds, _, h => by
    unfold Dat at h ⊢
    obtain ⟨a, vs, rfl, h1, h2⟩ := h
    exact ⟨a, vs, rfl, e _ _ h1, DatL.mono p e ds vs h2⟩
  | .scr ds, _, h => by
    unfold Dat at h ⊢
    obtain ⟨a, vs, rfl, h1, h2⟩ := h
    exact ⟨a, vs, rfl, Same.seq e h1, DatL.mono p e ds vs h2⟩
  | .cls c, _, h => by
    unfold Dat at h ⊢
    exact h
  | .dic ks, _, h => by
    unfold Dat at h ⊢
    obtain ⟨a, vs, rfl, h1, h2⟩ := h
    exact ⟨a, vs, rfl, e _ _ h1, DatK.mono p e ks vs h2⟩
  | .ins C fs, _, h => by
    unfold Dat at h ⊢
    obtain ⟨a, A, dx, fvs, rfl, h0, h1, h2⟩ := h
    exact ⟨a, A, dx, fvs, rfl, h0, e _ _ h1, DatF.mono p e fs fvs h2⟩
  | .oid n, _, h => by
    unfold Dat at h ⊢
    obtain ⟨a, rfl, h⟩ := h
    exact ⟨a, rfl, pre_get p h⟩
  | .exc C fs, _, h => by
    unfold Dat at h ⊢
    obtain ⟨a, A, dx, rfl, h0, h1, h2⟩ := h
    exact ⟨a, A, dx, rfl, h0, e _ _ h1, h2.imp id fun ⟨z, b, fvs, q0, q1, q2⟩ => ⟨z, b, fvs, q0, e _ _ q1, DatF.mono p e fs fvs q2⟩⟩
theorem DatL.mono (p : φ <+: φ') (e : Same G G') : ∀ (ds : List D) (vs : List V), DatL K mg φ G ds vs → DatL K mg φ' G' ds vs
  | [], _, h => by
    unfold DatL at h ⊢
    exact h
  | d :: ds, _, h => by
    unfold DatL at h ⊢
    obtain ⟨v, r, rfl, h1, h2⟩ := h
    exact ⟨v, r, rfl, Dat.mono p e d v h1, DatL.mono p e ds r h2⟩
theorem DatK.mono (p : φ <+: φ') (e : Same G G') : ∀ (ds : List (Key × D)) (vs : List (Key × V)), DatK K mg φ G ds vs → DatK K mg φ' G' ds vs
  | [], _, h => by
    unfold DatK at h ⊢
    exact h
  | (k, d) :: ds, _, h => by
    unfold DatK at h ⊢
    obtain ⟨v, r, rfl, h1, h2⟩ := h
    exact ⟨v, r, rfl, Dat.mono p e d v h1, DatK.mono p e ds r h2⟩
theorem DatF.mono (p : φ <+: φ') (e : Same G G') : ∀ (ds : List (Str × D)) (vs : List (Str × V)), DatF K mg φ G ds vs → DatF K mg φ' G' ds vs
  | [], _, h => by
    unfold DatF at h ⊢
    exact h
  | (k, d) :: ds, _, h => by
    unfold DatF at h ⊢
    obtain ⟨v, r, rfl, h1, h2⟩ := h
    exact ⟨v, r, rfl, Dat.mono p e d v h1, DatF.mono p e ds r h2⟩
end
theorem DatT.mono (p : φ <+: φ') (e : Same G G') : ∀ (ds : List (List Int × D)) (xs : List (List Int × Addr × Value)), DatT K mg φ G ds xs → DatT K mg φ' G' ds xs
  | [], _, h => by
    unfold DatT at h ⊢
    exact h
  | (k, d) :: ds, _, h => by
    unfold DatT at h ⊢
    obtain ⟨b, u, r, v, vs, rfl, h1, h2, h3, h4, h5⟩ := h
    exact ⟨b, u, r, v, vs, rfl, sqt_mono e h1, h2, Dat.mono p e d v h3, h4, DatT.mono p e ds r h5⟩
theorem DatL.length : ∀ {ds : List D} {vs : List V}, DatL K mg φ G ds vs → vs.length = ds.length
  | [], _, h => by unfold DatL at h; rw [h]; rfl
  | d :: ds, _, h => by
    unfold DatL at h
    obtain ⟨v, r, rfl, _, h2⟩ := h
    rw [List.length_cons, List.length_cons, DatL.length h2]
theorem DatL.get : ∀ {ds : List D} {vs : List V} {i : Nat} {d : D}, DatL K mg φ G ds vs → ds[i]? = some d → ∃ v, vs[i]? = some v ∧ Dat K mg φ G d v
  | [], _, _, _, _, e => by cases e
  | d :: ds, _, 0, _, h, e => by
    unfold DatL at h
    obtain ⟨v, r, rfl, h1, _⟩ := h
    cases e
    exact ⟨v, rfl, h1⟩
  | d :: ds, _, i + 1, _, h, e => by
    unfold DatL at h
    obtain ⟨v, r, rfl, _, h2⟩ := h
    obtain ⟨w, a, b⟩ := DatL.get (i := i) h2 e
    exact ⟨w, a, b⟩
theorem DatL.nil : DatL K mg φ G [] [] := by unfold DatL; rfl
theorem DatL.cons {d : D} {v : V} {ds : List D} {vs : List V} (h : Dat K mg φ G d v) (t : DatL K mg φ G ds vs) : DatL K mg φ G (d :: ds) (v :: vs) := by
  unfold DatL
  exact ⟨v, vs, rfl, h, t⟩
theorem DatL.uncons {d : D} {ds : List D} {vs : List V} (h : DatL K mg φ G (d :: ds) vs) : ∃ v r, vs = v :: r ∧ Dat K mg φ G d v ∧ DatL K mg φ G ds r := by
  unfold DatL at h
  exact h
theorem DatL.append : ∀ {ds es : List D} {vs us : List V}, DatL K mg φ G ds vs → DatL K mg φ G es us → DatL K mg φ G (ds ++ es) (vs ++ us)
  | [], _, _, _, h, t => by
    unfold DatL at h
    subst h
    exact t
  | d :: ds, _, _, _, h, t => by
    obtain ⟨v, r, rfl, h1, h2⟩ := h.uncons
    exact .cons h1 (DatL.append h2 t)
theorem DatL.set : ∀ {ds : List D} {vs : List V} {d : D} {v : V} (i : Nat), DatL K mg φ G ds vs → Dat K mg φ G d v → DatL K mg φ G (ds.set i d) (vs.set i v)
  | [], _, _, _, _, h, _ => by
    unfold DatL at h
    subst h
    exact DatL.nil
  | e :: ds, _, _, _, 0, h, q => by
    obtain ⟨w, r, rfl, _, h2⟩ := h.uncons
    exact .cons q h2
  | e :: ds, _, _, _, i + 1, h, q => by
    obtain ⟨w, r, rfl, h1, h2⟩ := h.uncons
    exact .cons h1 (DatL.set i h2 q)
theorem DatL.map {α : Type} {f : α → D} {g : α → V} : ∀ {l : List α}, (∀ x ∈ l, Dat K mg φ G (f x) (g x)) → DatL K mg φ G (l.map f) (l.map g)
  | [], _ => DatL.nil
  | x :: l, h => .cons (h x List.mem_cons_self) (DatL.map fun y hy => h y (List.mem_cons_of_mem _ hy))
theorem DatL.take : ∀ {ds : List D} {vs : List V} (n : Nat), DatL K mg φ G ds vs → DatL K mg φ G (ds.take n) (vs.take n)
  | _, _, 0, _ => by rw [List.take_zero, List.take_zero]; exact DatL.nil
  | [], _, n + 1, h => by
    unfold DatL at h
    subst h
    exact DatL.nil
  | d :: ds, _, n + 1, h => by
    obtain ⟨v, r, rfl, h1, h2⟩ := h.uncons
    exact .cons h1 (DatL.take n h2)
theorem DatL.drop : ∀ {ds : List D} {vs : List V} (n : Nat), DatL K mg φ G ds vs → DatL K mg φ G (ds.drop n) (vs.drop n)
  | _, _, 0, h => h
  | [], _, n + 1, h => by
    unfold DatL at h
    subst h
    exact DatL.nil
  | d :: ds, _, n + 1, h => by
    obtain ⟨v, r, rfl, h1, h2⟩ := h.uncons
    exact DatL.drop n h2
end

/-! ### the store over the abstract heap -/
def liveA : List Addr → Store → List Addr
  | a :: φ, o :: S => if o.live then a :: liveA φ S else liveA φ S
  | _, _ => []
/-- H without the addresses of l -/
def without (l : List Addr) (H : Hp) : Hp := fun a => if a ∈ l then none else H a
/-- the ground: what changes no more; Z: hidden addresses -/
def gnd (Z : List Addr) (φ : List Addr) (S : Store) (H : Hp) : Hp := without (Z ++ liveA φ S) H
theorem without_some {l : List Addr} {H : Hp} {a : Addr} {o : HO} : without l H a = some o ↔ a ∉ l ∧ H a = some o := by
  unfold without
  by_cases h : a ∈ l
  · rw [if_pos h]
    exact ⟨fun z => (nomatch z), fun z => absurd h z.1⟩
  · rw [if_neg h]
    exact ⟨fun z => ⟨h, z⟩, fun z => z.2⟩
theorem liveA_mem : ∀ {φ : List Addr} {S : Store} {a : Addr}, a ∈ liveA φ S → ∃ (n : Nat) (o : SO), φ[n]? = some a ∧ S[n]? = some o ∧ o.live = true
  | [], _, _, h => by simp [liveA] at h
  | _ :: _, [], _, h => by simp [liveA] at h
  | b :: φ, o :: S, a, h => by
    unfold liveA at h
    have step : a ∈ liveA φ S → ∃ (n : Nat) (o' : SO), (b :: φ)[n]? = some a ∧ (o :: S)[n]? = some o' ∧ o'.live = true := fun q => by
      obtain ⟨n, u, h1, h2, h3⟩ := liveA_mem q
      exact ⟨n + 1, u, h1, h2, h3⟩
    cases hl : o.live with
    | false =>
      rw [hl] at h
      exact step h
    | true =>
      rw [hl] at h
      rcases List.mem_cons.mp h with rfl | q
      · exact ⟨0, o, rfl, rfl, hl⟩
      · exact step q
theorem mem_liveA : ∀ {φ : List Addr} {S : Store} {a : Addr} {n : Nat} {o : SO}, φ[n]? = some a → S[n]? = some o → o.live = true → a ∈ liveA φ S
  | [], _, _, _, _, h, _, _ => by cases h
  | _ :: _, [], _, _, _, _, h, _ => by cases h
  | b :: φ, u :: S, a, 0, o, h1, h2, h3 => by
    cases h1
    cases h2
    unfold liveA
    rw [h3]
    exact List.mem_cons_self
  | b :: φ, u :: S, a, n + 1, o, h1, h2, h3 => by
    have q := mem_liveA (n := n) (φ := φ) (S := S) h1 h2 h3
    unfold liveA
    split
    · exact List.mem_cons_of_mem _ q
    · exact q
theorem liveA_sub {φ : List Addr} {S : Store} {a : Addr} (h : a ∈ liveA φ S) : a ∈ φ := by
  obtain ⟨n, o, h1, _⟩ := liveA_mem h
  exact List.mem_of_getElem? h1
theorem liveA_snoc : ∀ {φ : List Addr} {S : Store} {p : Addr} {o : SO}, φ.length = S.length → liveA (φ ++ [p]) (S ++ [o]) = liveA φ S ++ (if o.live then [p] else [])
  | [], [], p, o, _ => by cases h : o.live <;> simp [liveA, h]
  | a :: φ, u :: S, p, o, h => by
    have q := liveA_snoc (φ := φ) (S := S) (p := p) (o := o) (by simpa using h)
    simp only [List.cons_append, liveA, q]
    split <;> rfl
theorem liveA_set : ∀ {φ : List Addr} {S : Store} {n : Nat} {o u : SO}, S[n]? = some o → u.live = o.live → liveA φ (S.set n u) = liveA φ S
  | [], _, _, _, _, _, _ => by simp [liveA]
  | _ :: _, [], _, _, _, h, _ => by cases h
  | a :: φ, x :: S, 0, o, u, h, e => by
    cases h
    simp only [List.set_cons_zero, liveA, e]
  | a :: φ, x :: S, n + 1, o, u, h, e => by
    have q := liveA_set (φ := φ) (S := S) (n := n) h e
    simp only [List.set_cons_succ, liveA, q]

section
variable (K : PySem.W.Frag) (mg : Str → Option Value)
def SOk (φ : List Addr) (G H : Hp) (a : Addr) : SO → Prop
  | .lst ds => ∃ vs, H a = some (.lst vs) ∧ DatL K mg φ G ds vs
  | .dic ks => ∃ kvs, H a = some (.dK kvs) ∧ DatK K mg φ G ks kvs
  | .ins C fs => ∃ A dx fvs, mg C = some (.ref A) ∧ H a = some (.ins A dx fvs) ∧ DatF K mg φ G fs fvs
  | .frz d => Dat K mg φ G d (.ref a)
  | .dkt ks => ∃ xs, H a = some (DktO a xs) ∧ DatT K mg φ G ks xs
  | .tbl p q => a = (He.cT K p).2 ∧ ∃ ps, H a = some (.tbl ps) ∧ TriplesOk ps.toList ∧ ∀ (pos : Pos) (cv : Value), codeAmong pos ps.toList = some cv → ∃ c, cv = .ref c ∧ G c = some (LamX.CodeO c q)
structure Rel (Z : List Addr) (φ : List Addr) (S : Store) (H : Hp) : Prop where
  len : φ.length = S.length
  nd : φ.Nodup
  zd : ∀ a ∈ φ, a ∉ Z
  zh : ∀ a ∈ Z, H a ≠ none
  ph : ∀ a ∈ φ, H a ≠ none
  ob : ∀ (n : Nat) (a : Addr) (o : SO), φ[n]? = some a → S[n]? = some o → SOk K mg φ (gnd Z φ S H) H a o
end
/-- how a state goes on -/
structure Evo (Z : List Addr) (φ : List Addr) (S : Store) (H : Hp) (φ' : List Addr) (S' : Store) (H' : Hp) : Prop where
  pre : φ <+: φ'
  ext : Same (gnd Z φ S H) (gnd Z φ' S' H')
  out : ∀ a o, H a = some o → a ∉ liveA φ S → H' a = some o
  lv : ∀ a ∈ liveA φ' S', H a ≠ none → a ∈ liveA φ S
theorem Evo.refl {Z φ : List Addr} {S : Store} {H : Hp} : Evo Z φ S H φ S H := ⟨List.prefix_refl _, Same.refl _, fun _ _ h _ => h, fun _ h _ => h⟩
theorem Evo.trans {Z φ φ1 φ2 : List Addr} {S S1 S2 : Store} {H H1 H2 : Hp} (a : Evo Z φ S H φ1 S1 H1) (b : Evo Z φ1 S1 H1 φ2 S2 H2) : Evo Z φ S H φ2 S2 H2 := by
  refine ⟨a.pre.trans b.pre, a.ext.trans b.ext, fun c o h n => ?_, fun c h hn => ?_⟩
  · exact b.out c o (a.out c o h n) fun q => n (a.lv c q (by rw [h]; exact fun z => nomatch z))
  · by_cases q : c ∈ liveA φ S
    · exact q
    · obtain ⟨o, ho⟩ := Option.ne_none_iff_exists'.mp hn
      exact a.lv c (b.lv c h (by rw [a.out c o ho q]; exact fun z => nomatch z)) hn
end DL

/-! The data layer, part 2: how stores change; results; the judgements. -/
namespace DL
open PySem L2

section
variable {K : PySem.W.Frag} {mg : Str → Option Value} {Z φ φ' : List Addr} {S S' : Store} {H H' : Hp}
theorem gnd_same (e : Same H H') : Same (gnd Z φ S H) (gnd Z φ S H') := fun a o h => by
  obtain ⟨h1, h2⟩ := without_some.mp h
  exact without_some.mpr ⟨h1, e a o h2⟩
theorem SOk.mono {φ φ' : List Addr} {G G' H H' : Hp} {a : Addr} (p : φ <+: φ') (e : Same G G') (hl : ∀ o : HO, H a = some o → H' a = some o) : ∀ {o : SO}, SOk K mg φ G H a o → SOk K mg φ' G' H' a o
  | .lst ds, ⟨vs, h1, h2⟩ => ⟨vs, hl _ h1, h2.mono p e⟩
  | .dic ks, ⟨vs, h1, h2⟩ => ⟨vs, hl _ h1, h2.mono p e⟩
  | .ins C fs, ⟨A, dx, fvs, h0, h1, h2⟩ => ⟨A, dx, fvs, h0, hl _ h1, h2.mono p e⟩
  | .frz d, h => Dat.mono p e d _ h
  | .dkt ks, ⟨xs, h1, h2⟩ => ⟨xs, hl _ h1, h2.mono p e⟩
  | .tbl _ _, ⟨h0, ps, h1, h2, h3⟩ => ⟨h0, ps, hl _ h1, h2, fun pos cv hc => by
    obtain ⟨c, q1, q2⟩ := h3 pos cv hc
    exact ⟨c, q1, e _ _ q2⟩⟩
/-- all that stood stands -/
theorem Rel.same (R : Rel K mg Z φ S H) (e : Same H H') : Rel K mg Z φ S H' ∧ Evo Z φ S H φ S H' := by
  have some_of : ∀ a, H a ≠ none → H' a ≠ none := fun a h => by
    obtain ⟨o, ho⟩ := Option.ne_none_iff_exists'.mp h
    rw [e a o ho]
    exact fun z => nomatch z
  exact ⟨⟨R.len, R.nd, R.zd, fun a h => some_of a (R.zh a h), fun a h => some_of a (R.ph a h), fun n a o h1 h2 => (R.ob n a o h1 h2).mono (List.prefix_refl _) (gnd_same e) (e a)⟩,
    ⟨List.prefix_refl _, gnd_same e, fun a o h _ => e a o h, fun a h _ => h⟩⟩
theorem Rel.out_gnd (R : Rel K mg Z φ S H) {p : Addr} (hp : H p = none) : p ∉ Z ++ liveA φ S := fun q => by
  rcases List.mem_append.mp q with z | z
  · exact R.zh p z hp
  · exact R.ph p (liveA_sub z) hp
theorem same_upd {p : Addr} {o : HO} (hp : H p = none) : Same H (upd H p o) := fun b u e => by
  rw [upd_ne (ne_of_none e hp)]
  exact e
/-- a new object that changes no more -/
theorem Rel.fresh (R : Rel K mg Z φ S H) {p : Addr} {o : HO} (hp : H p = none) : Rel K mg Z φ S (upd H p o) ∧ Evo Z φ S H φ S (upd H p o) ∧ gnd Z φ S (upd H p o) p = some o := by
  obtain ⟨a, b⟩ := R.same (same_upd (o := o) hp)
  exact ⟨a, b, without_some.mpr ⟨R.out_gnd hp, upd_same⟩⟩
/-- a new object that may change -/
theorem Rel.newOid (R : Rel K mg Z φ S H) {p : Addr} {so : SO} (e : Same H H') (hp : H p = none) (hp' : H' p ≠ none) (hl : so.live = true) (ok : SOk K mg (φ ++ [p]) (gnd Z (φ ++ [p]) (S ++ [so]) H') H' p so) :
    Rel K mg Z (φ ++ [p]) (S ++ [so]) H' ∧ Evo Z φ S H (φ ++ [p]) (S ++ [so]) H' := by
  have hn := R.out_gnd hp
  have pφ : p ∉ φ := fun q => R.ph p q hp
  have lv : liveA (φ ++ [p]) (S ++ [so]) = liveA φ S ++ [p] := by rw [liveA_snoc R.len, hl]; rfl
  have ext : Same (gnd Z φ S H) (gnd Z (φ ++ [p]) (S ++ [so]) H') := fun a o h => by
    obtain ⟨h1, h2⟩ := without_some.mp h
    refine without_some.mpr ⟨fun q => h1 ?_, e a o h2⟩
    rw [lv] at q
    rcases List.mem_append.mp q with z | z
    · exact List.mem_append_left _ z
    · rcases List.mem_append.mp z with z | z
      · exact List.mem_append_right _ z
      · rw [List.mem_singleton.mp z, hp] at h2
        cases h2
  have some_of : ∀ a, H a ≠ none → H' a ≠ none := fun a h => by
    obtain ⟨o, ho⟩ := Option.ne_none_iff_exists'.mp h
    rw [e a o ho]
    exact fun z => nomatch z
  refine ⟨⟨by rw [List.length_append, List.length_append, R.len]; rfl, List.nodup_append.mpr ⟨R.nd, by simp, fun a ha b hb => ?_⟩, fun a ha => ?_, fun a h => some_of a (R.zh a h), fun a ha => ?_, fun n a o h1 h2 => ?_⟩,
    ⟨⟨[p], rfl⟩, ext, fun a o h _ => e a o h, fun a h hn => ?_⟩⟩
  · rw [List.mem_singleton.mp hb]
    intro z
    rw [z] at ha
    exact pφ ha
  · rcases List.mem_append.mp ha with z | z
    · exact R.zd a z
    · rw [List.mem_singleton.mp z]
      exact fun q => hn (List.mem_append_left _ q)
  · rcases List.mem_append.mp ha with z | z
    · exact some_of a (R.ph a z)
    · rw [List.mem_singleton.mp z]
      exact hp'
  · by_cases hlt : n < φ.length
    · rw [List.getElem?_append_left hlt] at h1
      rw [List.getElem?_append_left (by rw [← R.len]; exact hlt)] at h2
      exact (R.ob n a o h1 h2).mono ⟨[p], rfl⟩ ext (e a)
    · have hlt' : φ.length ≤ n := Nat.le_of_not_lt hlt
      rw [List.getElem?_append_right hlt'] at h1
      rw [List.getElem?_append_right (by rw [← R.len]; exact hlt')] at h2
      have e0 : n - φ.length = 0 := by
        have := (List.getElem?_eq_some_iff.mp h1).1
        simp only [List.length_singleton] at this
        omega
      rw [← R.len] at h2
      rw [e0] at h1 h2
      cases h1
      cases h2
      exact ok
  · rw [lv] at h
    rcases List.mem_append.mp h with z | z
    · exact z
    · rw [List.mem_singleton.mp z] at hn
      exact absurd hp hn
theorem gnd_mut {n : Nat} {a : Addr} {o u : SO} {ho : HO} (h1 : φ[n]? = some a) (h2 : S[n]? = some o) (l1 : o.live = true) (l2 : u.live = true) : gnd Z φ (S.set n u) (upd H a ho) = gnd Z φ S H := by
  funext b
  unfold gnd without
  rw [liveA_set h2 (l2.trans l1.symm)]
  by_cases hb : b = a
  · subst hb
    rw [if_pos (List.mem_append_right _ (mem_liveA h1 h2 l1)), if_pos (List.mem_append_right _ (mem_liveA h1 h2 l1))]
  · rw [upd_ne hb]
/-- an object changes -/
theorem Rel.mutate (R : Rel K mg Z φ S H) {n : Nat} {a : Addr} {o u : SO} {ho : HO} (h1 : φ[n]? = some a) (h2 : S[n]? = some o) (l1 : o.live = true) (l2 : u.live = true) (ok : SOk K mg φ (gnd Z φ S H) (upd H a ho) a u) :
    Rel K mg Z φ (S.set n u) (upd H a ho) ∧ Evo Z φ S H φ (S.set n u) (upd H a ho) := by
  have eg := gnd_mut (Z := Z) (H := H) (ho := ho) h1 h2 l1 l2
  have lv : liveA φ (S.set n u) = liveA φ S := liveA_set h2 (l2.trans l1.symm)
  have some_of : ∀ b, H b ≠ none → upd H a ho b ≠ none := fun b h => by
    by_cases hb : b = a
    · subst hb
      rw [upd_same]
      exact fun z => nomatch z
    · rw [upd_ne hb]
      exact h
  refine ⟨⟨by rw [List.length_set, R.len], R.nd, R.zd, fun b h => some_of b (R.zh b h), fun b h => some_of b (R.ph b h), fun m b w q1 q2 => ?_⟩,
    ⟨List.prefix_refl _, by rw [eg]; exact Same.refl _, fun b w h hn => ?_, fun b h _ => by rw [lv] at h; exact h⟩⟩
  · rw [eg]
    by_cases hm : m = n
    · subst hm
      rw [h1] at q1
      cases q1
      rw [List.getElem?_set_self (List.getElem?_eq_some_iff.mp h2).1] at q2
      cases q2
      exact ok
    · rw [List.getElem?_set_ne (fun z => hm z.symm)] at q2
      refine (R.ob m b w q1 q2).mono (List.prefix_refl _) (Same.refl _) fun ob hb => ?_
      rw [upd_ne]
      · exact hb
      · intro z
        subst z
        exact hm (nd_ix R.nd q1 h1)
  · rw [upd_ne]
    · exact h
    · intro z
      subst z
      exact hn (mem_liveA h1 h2 l1)
theorem liveA_set_sub : ∀ {φ : List Addr} {S : Store} {n : Nat} {u : SO} {a : Addr}, u.live = false → a ∈ liveA φ (S.set n u) → a ∈ liveA φ S
  | [], _, _, _, _, _, h => by simp [liveA] at h
  | _ :: _, [], _, _, _, _, h => by simp [liveA] at h
  | b :: φ, x :: S, 0, u, a, e, h => by
    simp only [List.set_cons_zero, liveA, e] at h
    unfold liveA
    split
    · exact List.mem_cons_of_mem _ h
    · exact h
  | b :: φ, x :: S, n + 1, u, a, e, h => by
    simp only [List.set_cons_succ, liveA] at h
    unfold liveA
    split at h
    · rename_i hx
      rw [if_pos hx]
      rcases List.mem_cons.mp h with rfl | q
      · exact List.mem_cons_self
      · exact List.mem_cons_of_mem _ (liveA_set_sub e q)
    · rename_i hx
      rw [if_neg hx]
      exact liveA_set_sub e h
theorem live_set_not {φ : List Addr} {S : Store} (nd : φ.Nodup) {n : Nat} {u : SO} {a : Addr} (h1 : φ[n]? = some a) (e : u.live = false) : a ∉ liveA φ (S.set n u) := fun q => by
  obtain ⟨m, o, q1, q2, q3⟩ := liveA_mem q
  have hm : m = n := nd_ix nd q1 h1
  subst hm
  have hl := (List.getElem?_eq_some_iff.mp q2).1
  rw [List.getElem?_set_self (by rw [List.length_set] at hl; exact hl)] at q2
  cases q2
  rw [e] at q3
  cases q3
/-- an object changes no more -/
theorem Rel.freeze (R : Rel K mg Z φ S H) {n : Nat} {a : Addr} {d : D} (h1 : φ[n]? = some a) (ok : Dat K mg φ (gnd Z φ (S.set n (.frz d)) H) d (.ref a)) :
    Rel K mg Z φ (S.set n (.frz d)) H ∧ Evo Z φ S H φ (S.set n (.frz d)) H := by
  have ext : Same (gnd Z φ S H) (gnd Z φ (S.set n (.frz d)) H) := fun b o h => by
    obtain ⟨q1, q2⟩ := without_some.mp h
    refine without_some.mpr ⟨fun q => q1 ?_, q2⟩
    rcases List.mem_append.mp q with z | z
    · exact List.mem_append_left _ z
    · exact List.mem_append_right _ (liveA_set_sub rfl z)
  refine ⟨⟨by rw [List.length_set, R.len], R.nd, R.zd, R.zh, R.ph, fun m b w q1 q2 => ?_⟩, ⟨List.prefix_refl _, ext, fun b w h _ => h, fun b h _ => liveA_set_sub rfl h⟩⟩
  by_cases hm : m = n
  · subst hm
    rw [h1] at q1
    cases q1
    have hl := (List.getElem?_eq_some_iff.mp q2).1
    rw [List.getElem?_set_self (by rw [List.length_set] at hl; exact hl)] at q2
    cases q2
    exact ok
  · rw [List.getElem?_set_ne (fun z => hm z.symm)] at q2
    exact (R.ob m b w q1 q2).mono (List.prefix_refl _) ext fun _ z => z
theorem gnd_frz (R : Rel K mg Z φ S H) {n : Nat} {a : Addr} {d : D} (h1 : φ[n]? = some a) {o : HO} (ho : H a = some o) : gnd Z φ (S.set n (.frz d)) H a = some o :=
  without_some.mpr ⟨fun q => (List.mem_append.mp q).elim (R.zd a (List.mem_of_getElem? h1)) (live_set_not R.nd h1 rfl), ho⟩
theorem evo_frz {n : Nat} {d : D} : Same (gnd Z φ S H) (gnd Z φ (S.set n (.frz d)) H) := fun b o h => by
  obtain ⟨q1, q2⟩ := without_some.mp h
  refine without_some.mpr ⟨fun q => q1 ?_, q2⟩
  rcases List.mem_append.mp q with z | z
  · exact List.mem_append_left _ z
  · exact List.mem_append_right _ (liveA_set_sub rfl z)
theorem Dat.evo {d : D} {v : V} (E : Evo Z φ S H φ' S' H') (h : Dat K mg φ (gnd Z φ S H) d v) : Dat K mg φ' (gnd Z φ' S' H') d v := Dat.mono E.pre E.ext d v h
theorem DatL.evo {d : List D} {v : List V} (E : Evo Z φ S H φ' S' H') (h : DatL K mg φ (gnd Z φ S H) d v) : DatL K mg φ' (gnd Z φ' S' H') d v := DatL.mono E.pre E.ext d v h
end

/-! ### results -/
inductive Res (α : Type) where
  | ok (a : α) (S : Store) | ex (C : Str) (fs : List (Str × D)) (S : Store) | stuck
def Res.bind {α β : Type} (r : Res α) (k : α → Store → Res β) : Res β := match r with
  | .ok a S => k a S
  | .ex C fs S => .ex C fs S
  | .stuck => .stuck
@[simp] theorem Res.bind_ok {α β : Type} (a : α) (S : Store) (k : α → Store → Res β) : (Res.ok a S).bind k = k a S := rfl
@[simp] theorem Res.bind_ex {α β : Type} (C : Str) (fs : List (Str × D)) (S : Store) (k : α → Store → Res β) : (Res.ex C fs S).bind k = .ex C fs S := rfl
@[simp] theorem Res.bind_stuck {α β : Type} (k : α → Store → Res β) : (Res.stuck : Res α).bind k = .stuck := rfl
abbrev EnvD := List (Option D)

section
variable (K : PySem.W.Frag) (mg : Str → Option Value)
def ExD (φ : List Addr) (G : Hp) (fs : List (Str × D)) (dx : Option Addr) : Prop := (fs = [] ∧ dx = none) ∨ fs ≠ [] ∧ ∃ a fvs, dx = some a ∧ G a = some (.xd fvs) ∧ DatF K mg φ G fs fvs
/-- what is wanted behind a result -/
def Want {α β : Type} (R : List Addr → Hp → α → β → Prop) (Z φ : List Addr) (S : Store) (H : Hp) (r : Res α) (Q : β → Hp → Prop) (E : XK) : Prop := match r with
  | .ok a S' => ∀ b φ' H', Rel K mg Z φ' S' H' → Evo Z φ S H φ' S' H' → R φ' (gnd Z φ' S' H') a b → Q b H'
  | .ex C fs S' => ∀ A dx φ' H', mg C = some (.ref A) → Rel K mg Z φ' S' H' → Evo Z φ S H φ' S' H' → ExD K mg φ' (gnd Z φ' S' H') fs dx → E (.ref A) dx H'
  | .stuck => False
abbrev RDat : List Addr → Hp → D → V → Prop := fun φ G d v => Dat K mg φ G d v
abbrev RLst : List Addr → Hp → List D → List V → Prop := fun φ G d v => DatL K mg φ G d v
abbrev REq {α : Type} : List Addr → Hp → α → α → Prop := fun _ _ a b => a = b
def Slots (φ : List Addr) (G : Hp) (ρ : EnvD) (σ : L2.St) : Prop := ρ.length = σ.length ∧ ∀ (i : Nat) (d : D), ρ[i]? = some (some d) → ∃ v, σ[i]? = some (some v) ∧ Dat K mg φ G d v
end
section
variable {K : PySem.W.Frag} {mg : Str → Option Value} {Z φ φ' : List Addr} {S S' : Store} {H H' : Hp} {α β γ δ : Type}
theorem Want.go {R : List Addr → Hp → α → β → Prop} {r : Res α} {Q : β → Hp → Prop} {E : XK} (e : Evo Z φ S H φ' S' H') (h : Want K mg R Z φ S H r Q E) : Want K mg R Z φ' S' H' r Q E := by
  cases r with
  | ok a S1 => exact fun b φ1 H1 r1 e1 d => h b φ1 H1 r1 (e.trans e1) d
  | ex C fs S1 => exact fun A dx φ1 H1 m r1 e1 d => h A dx φ1 H1 m r1 (e.trans e1) d
  | stuck => exact h
theorem Want.bind {R : List Addr → Hp → α → β → Prop} {R' : List Addr → Hp → γ → δ → Prop} {r : Res α} {k : α → Store → Res γ} {Q : δ → Hp → Prop} {Q1 : β → Hp → Prop} {E : XK} (h : Want K mg R' Z φ S H (r.bind k) Q E)
    (f : ∀ a S1 b φ1 H1, Rel K mg Z φ1 S1 H1 → Evo Z φ S H φ1 S1 H1 → R φ1 (gnd Z φ1 S1 H1) a b → Want K mg R' Z φ1 S1 H1 (k a S1) Q E → Q1 b H1) : Want K mg R Z φ S H r Q1 E := by
  cases r with
  | ok a S1 => exact fun b φ1 H1 r1 e1 d => f a S1 b φ1 H1 r1 e1 d (h.go e1)
  | ex C fs S1 => exact h
  | stuck => exact h
theorem Want.imp {R : List Addr → Hp → α → β → Prop} {r : Res α} {Q Q1 : β → Hp → Prop} {E : XK} (h : Want K mg R Z φ S H r Q E) (f : ∀ b H', Q b H' → Q1 b H') : Want K mg R Z φ S H r Q1 E := by
  cases r with
  | ok a S1 => exact fun b φ1 H1 r1 e1 d => f _ _ (h b φ1 H1 r1 e1 d)
  | ex C fs S1 => exact h
  | stuck => exact h
/-- the result stands -/
theorem Want.now {R : List Addr → Hp → α → β → Prop} {a : α} {b : β} {Q : β → Hp → Prop} {E : XK} (h : Want K mg R Z φ S H (.ok a S) Q E) (r : Rel K mg Z φ S H) (d : R φ (gnd Z φ S H) a b) : Q b H := h b φ H r Evo.refl d
theorem Slots.evo {ρ : EnvD} {σ : L2.St} (e : Evo Z φ S H φ' S' H') (h : Slots K mg φ (gnd Z φ S H) ρ σ) : Slots K mg φ' (gnd Z φ' S' H') ρ σ := ⟨h.1, fun i d q => by
  obtain ⟨v, a, b⟩ := h.2 i d q
  exact ⟨v, a, b.evo e⟩⟩
theorem Slots.set {G : Hp} {ρ : EnvD} {σ : L2.St} {i : Nat} {d : D} {v : V} (h : Slots K mg φ G ρ σ) (hd : Dat K mg φ G d v) : Slots K mg φ G (ρ.set i (some d)) (σ.set i (some v)) := by
  refine ⟨by rw [List.length_set, List.length_set, h.1], fun j e q => ?_⟩
  by_cases hj : j = i
  · subst hj
    have hl := (List.getElem?_eq_some_iff.mp q).1
    rw [List.length_set] at hl
    rw [List.getElem?_set_self hl] at q
    cases q
    exact ⟨v, by rw [List.getElem?_set_self (by rw [← h.1]; exact hl)], hd⟩
  · rw [List.getElem?_set_ne (fun z => hj z.symm)] at q
    obtain ⟨w, a, b⟩ := h.2 j e q
    exact ⟨w, by rw [List.getElem?_set_ne (fun z => hj z.symm)]; exact a, b⟩
end

/-! ### the judgements -/
section
variable (X : Cx) (W : WX)
abbrev FE := EnvD → Store → Res D
abbrev FT := EnvD → Store → Res Bool
abbrev FA := EnvD → Store → Res (List D)
variable {X W}
/-- the canonical readings of mirrors -/
def tD (K : PySem.W.Frag) (mg : Str → Option Value) (W : WX) (f : FE) : TE := fun σ H Q => ∃ Z φ S ρ, Rel K mg Z φ S H ∧ Slots K mg φ (gnd Z φ S H) ρ σ ∧ Want K mg (RDat K mg) Z φ S H (f ρ S) Q (WE W σ)
def tDT (K : PySem.W.Frag) (mg : Str → Option Value) (W : WX) (f : FT) : TT := fun σ H Q => ∃ Z φ S ρ, Rel K mg Z φ S H ∧ Slots K mg φ (gnd Z φ S H) ρ σ ∧ Want K mg REq Z φ S H (f ρ S) Q (WE W σ)
def tDA (K : PySem.W.Frag) (mg : Str → Option Value) (W : WX) (f : FA) : TA := fun σ H Q => ∃ Z φ S ρ, Rel K mg Z φ S H ∧ Slots K mg φ (gnd Z φ S H) ρ σ ∧ Want K mg (RLst K mg) Z φ S H (f ρ S) Q (WE W σ)
theorem PE.weak {e : Expr} {t t' : TE} (h : PE X e t) (i : ∀ σ H Q, t' σ H Q → t σ H Q) : PE X e t' := ⟨fun pins s σ H Q I q => h.run pins s σ H Q I (i _ _ _ q)⟩
theorem PT.weak {e : Expr} {t t' : TT} (h : PT X e t) (i : ∀ σ H Q, t' σ H Q → t σ H Q) : PT X e t' := ⟨fun pins s σ H Q I q => h.run pins s σ H Q I (i _ _ _ q)⟩
theorem PW.weak {e : Expr} {t t' : TT} (h : L2.PW X e t) (i : ∀ σ H Q, t' σ H Q → t σ H Q) : L2.PW X e t' := ⟨fun wh pins s σ H Q I q => h.run wh pins s σ H Q I (i _ _ _ q)⟩
theorem PA.weak {e : List Expr} {t t' : TA} (h : PA X e t) (i : ∀ σ H Q, t' σ H Q → t σ H Q) : PA X e t' := ⟨fun po pins s σ H Q I q => h.run po pins s σ H Q I (i _ _ _ q)⟩
theorem PK.weak {e : List Keyword} {t t' : TA} (h : L2.PK X e t) (i : ∀ σ H Q, t' σ H Q → t σ H Q) : L2.PK X e t' := ⟨fun po pins s σ H Q I q => h.run po pins s σ H Q I (i _ _ _ q)⟩
theorem PS.weak {e : Stmt} {t t' : TS} (h : PS X e t) (i : ∀ D σ H, t' D σ H → t D σ H) : PS X e t' := ⟨fun pins s σ H D I q => h.run pins s σ H D I (i _ _ _ q)⟩
theorem PSs.weak {e : List Stmt} {t t' : TS} (h : PSs X e t) (i : ∀ D σ H, t' D σ H → t D σ H) : PSs X e t' := ⟨fun pins s σ H D I q => h.run pins s σ H D I (i _ _ _ q)⟩
variable (X W)
abbrev IsE (t : TE) (f : FE) : Prop := ∀ Z φ S ρ σ H (Q : VK), Rel X.K X.mg Z φ S H → Slots X.K X.mg φ (gnd Z φ S H) ρ σ → Want X.K X.mg (RDat X.K X.mg) Z φ S H (f ρ S) Q (WE W σ) → t σ H Q
abbrev IsT (t : TT) (f : FT) : Prop := ∀ Z φ S ρ σ H (Q : Bool → Hp → Prop), Rel X.K X.mg Z φ S H → Slots X.K X.mg φ (gnd Z φ S H) ρ σ → Want X.K X.mg REq Z φ S H (f ρ S) Q (WE W σ) → t σ H Q
abbrev IsA (t : TA) (f : FA) : Prop := ∀ Z φ S ρ σ H (Q : List V → Hp → Prop), Rel X.K X.mg Z φ S H → Slots X.K X.mg φ (gnd Z φ S H) ρ σ → Want X.K X.mg (RLst X.K X.mg) Z φ S H (f ρ S) Q (WE W σ) → t σ H Q
def DE (e : Expr) (f : FE) : Prop := PE X e (tD X.K X.mg W f)
def DT (e : Expr) (f : FT) : Prop := PT X e (tDT X.K X.mg W f)
def DW (e : Expr) (f : FT) : Prop := L2.PW X e (tDT X.K X.mg W f)
def DA (es : List Expr) (f : FA) : Prop := PA X es (tDA X.K X.mg W f)
def DKw (ks : List Keyword) (f : FA) : Prop := L2.PK X ks (tDA X.K X.mg W f)
variable {X W}
theorem DE.mk {e : Expr} {f : FE} {t : TE} (p : PE X e t) (h : IsE X W t f) : DE X W e f := PE.weak p fun σ H Q ⟨Z, φ, S, ρ, R, sl, w⟩ => h Z φ S ρ σ H Q R sl w
theorem DE.ex {e : Expr} {f : FE} (h : DE X W e f) : ∃ t : TE, PE X e t ∧ IsE X W t f := ⟨_, h, fun Z φ S ρ σ H Q R sl w => ⟨Z, φ, S, ρ, R, sl, w⟩⟩
theorem DT.mk {e : Expr} {f : FT} {t : TT} (p : PT X e t) (h : IsT X W t f) : DT X W e f := PT.weak p fun σ H Q ⟨Z, φ, S, ρ, R, sl, w⟩ => h Z φ S ρ σ H Q R sl w
theorem DT.ex {e : Expr} {f : FT} (h : DT X W e f) : ∃ t : TT, PT X e t ∧ IsT X W t f := ⟨_, h, fun Z φ S ρ σ H Q R sl w => ⟨Z, φ, S, ρ, R, sl, w⟩⟩
theorem DW.mk {e : Expr} {f : FT} {t : TT} (p : L2.PW X e t) (h : IsT X W t f) : DW X W e f := PW.weak p fun σ H Q ⟨Z, φ, S, ρ, R, sl, w⟩ => h Z φ S ρ σ H Q R sl w
theorem DW.ex {e : Expr} {f : FT} (h : DW X W e f) : ∃ t : TT, L2.PW X e t ∧ IsT X W t f := ⟨_, h, fun Z φ S ρ σ H Q R sl w => ⟨Z, φ, S, ρ, R, sl, w⟩⟩
theorem DA.mk {e : List Expr} {f : FA} {t : TA} (p : PA X e t) (h : IsA X W t f) : DA X W e f := PA.weak p fun σ H Q ⟨Z, φ, S, ρ, R, sl, w⟩ => h Z φ S ρ σ H Q R sl w
theorem DA.ex {e : List Expr} {f : FA} (h : DA X W e f) : ∃ t : TA, PA X e t ∧ IsA X W t f := ⟨_, h, fun Z φ S ρ σ H Q R sl w => ⟨Z, φ, S, ρ, R, sl, w⟩⟩
theorem DKw.mk {e : List Keyword} {f : FA} {t : TA} (p : L2.PK X e t) (h : IsA X W t f) : DKw X W e f := PK.weak p fun σ H Q ⟨Z, φ, S, ρ, R, sl, w⟩ => h Z φ S ρ σ H Q R sl w
theorem DKw.ex {e : List Keyword} {f : FA} (h : DKw X W e f) : ∃ t : TA, L2.PK X e t ∧ IsA X W t f := ⟨_, h, fun Z φ S ρ σ H Q R sl w => ⟨Z, φ, S, ρ, R, sl, w⟩⟩
variable (X W)
/-- a statement's result -/
inductive Out where
  | nx (ρ : EnvD) (S : Store) | rt (d : D) (S : Store) | bk (ρ : EnvD) (S : Store) | ct (ρ : EnvD) (S : Store) | ex (C : Str) (fs : List (Str × D)) (ρ : EnvD) (S : Store) | stuck
abbrev FS := EnvD → Store → Out
def WantS (Z φ : List Addr) (S : Store) (H : Hp) (o : Out) (Dd : Ends) : Prop := match o with
  | .nx ρ S' => ∀ σ φ' H', Rel X.K X.mg Z φ' S' H' → Evo Z φ S H φ' S' H' → Slots X.K X.mg φ' (gnd Z φ' S' H') ρ σ → Dd.nx σ H'
  | .rt d S' => ∀ v φ' H', Rel X.K X.mg Z φ' S' H' → Evo Z φ S H φ' S' H' → Dat X.K X.mg φ' (gnd Z φ' S' H') d v → Dd.rt v H'
  | .bk ρ S' => ∀ σ φ' H', Rel X.K X.mg Z φ' S' H' → Evo Z φ S H φ' S' H' → Slots X.K X.mg φ' (gnd Z φ' S' H') ρ σ → Dd.bk σ H'
  | .ct ρ S' => ∀ σ φ' H', Rel X.K X.mg Z φ' S' H' → Evo Z φ S H φ' S' H' → Slots X.K X.mg φ' (gnd Z φ' S' H') ρ σ → Dd.ct σ H'
  | .ex C fs ρ S' => ∀ A dx σ φ' H', X.mg C = some (.ref A) → Rel X.K X.mg Z φ' S' H' → Evo Z φ S H φ' S' H' → Slots X.K X.mg φ' (gnd Z φ' S' H') ρ σ → ExD X.K X.mg φ' (gnd Z φ' S' H') fs dx → W (.ref A) dx σ H'
  | .stuck => False
def tDS (g : FS) : TS := fun Dd σ H => ∃ Z φ S ρ, Rel X.K X.mg Z φ S H ∧ Slots X.K X.mg φ (gnd Z φ S H) ρ σ ∧ WantS X W Z φ S H (g ρ S) Dd
abbrev IsS (t : TS) (g : FS) : Prop := ∀ Z φ S ρ σ H Dd, Rel X.K X.mg Z φ S H → Slots X.K X.mg φ (gnd Z φ S H) ρ σ → WantS X W Z φ S H (g ρ S) Dd → t Dd σ H
def DS (st : Stmt) (g : FS) : Prop := PS X st (tDS X W g)
def DSs (sts : List Stmt) (g : FS) : Prop := PSs X sts (tDS X W g)
variable {X W}
theorem DS.mk {e : Stmt} {f : FS} {t : TS} (p : PS X e t) (h : IsS X W t f) : DS X W e f := PS.weak p fun D σ H ⟨Z, φ, S, ρ, R, sl, w⟩ => h Z φ S ρ σ H D R sl w
theorem DS.ex {e : Stmt} {f : FS} (h : DS X W e f) : ∃ t : TS, PS X e t ∧ IsS X W t f := ⟨_, h, fun Z φ S ρ σ H D R sl w => ⟨Z, φ, S, ρ, R, sl, w⟩⟩
theorem DSs.mk {e : List Stmt} {f : FS} {t : TS} (p : PSs X e t) (h : IsS X W t f) : DSs X W e f := PSs.weak p fun D σ H ⟨Z, φ, S, ρ, R, sl, w⟩ => h Z φ S ρ σ H D R sl w
theorem DSs.ex {e : List Stmt} {f : FS} (h : DSs X W e f) : ∃ t : TS, PSs X e t ∧ IsS X W t f := ⟨_, h, fun Z φ S ρ σ H D R sl w => ⟨Z, φ, S, ρ, R, sl, w⟩⟩
end
section
variable {X : Cx} {W : WX} {Z φ φ' : List Addr} {S S' : Store} {H H' : Hp} {Dd : Ends}
theorem WantS.go {o : Out} (e : Evo Z φ S H φ' S' H') (h : WantS X W Z φ S H o Dd) : WantS X W Z φ' S' H' o Dd := by
  cases o with
  | nx ρ S1 => exact fun σ φ1 H1 r1 e1 d => h σ φ1 H1 r1 (e.trans e1) d
  | rt d S1 => exact fun σ φ1 H1 r1 e1 d => h σ φ1 H1 r1 (e.trans e1) d
  | bk ρ S1 => exact fun σ φ1 H1 r1 e1 d => h σ φ1 H1 r1 (e.trans e1) d
  | ct ρ S1 => exact fun σ φ1 H1 r1 e1 d => h σ φ1 H1 r1 (e.trans e1) d
  | ex C fs ρ S1 => exact fun A dx σ φ1 H1 m r1 e1 sl d => h A dx σ φ1 H1 m r1 (e.trans e1) sl d
  | stuck => exact h
/-- an expression's result within a statement -/
def Res.into {α : Type} (r : Res α) (ρ : EnvD) (k : α → Store → Out) : Out := match r with
  | .ok a S => k a S
  | .ex C fs S => .ex C fs ρ S
  | .stuck => .stuck
@[simp] theorem Res.into_ok {α : Type} (a : α) (S : Store) (ρ : EnvD) (k : α → Store → Out) : (Res.ok a S).into ρ k = k a S := rfl
@[simp] theorem Res.into_ex {α : Type} (C : Str) (fs : List (Str × D)) (S : Store) (ρ : EnvD) (k : α → Store → Out) : (Res.ex C fs S).into ρ k = .ex C fs ρ S := rfl
@[simp] theorem Res.into_stuck {α : Type} (ρ : EnvD) (k : α → Store → Out) : (Res.stuck : Res α).into ρ k = .stuck := rfl
theorem WantS.into {α β : Type} {R : List Addr → Hp → α → β → Prop} {r : Res α} {ρ : EnvD} {σ : L2.St} {k : α → Store → Out} {Q1 : β → Hp → Prop} (sl : Slots X.K X.mg φ (gnd Z φ S H) ρ σ) (h : WantS X W Z φ S H (r.into ρ k) Dd)
    (f : ∀ a S1 b φ1 H1, Rel X.K X.mg Z φ1 S1 H1 → Evo Z φ S H φ1 S1 H1 → R φ1 (gnd Z φ1 S1 H1) a b → WantS X W Z φ1 S1 H1 (k a S1) Dd → Q1 b H1) : Want X.K X.mg R Z φ S H r Q1 (WE W σ) := by
  cases r with
  | ok a S1 => exact fun b φ1 H1 r1 e1 d => f a S1 b φ1 H1 r1 e1 d (h.go e1)
  | ex C fs S1 => exact fun A dx φ1 H1 m r1 e1 d => h A dx σ φ1 H1 m r1 e1 (sl.evo e1) d
  | stuck => exact h
end
end DL

/-! The data layer, part 3: names, constants, operators, tests, displays, items, built-ins. -/
namespace DL
open PySem L2

section
variable {K : PySem.W.Frag} {mg : Str → Option Value} {Z φ : List Addr} {S : Store} {H : Hp}
theorem gnd_sub : Same (gnd Z φ S H) H := fun a o h => (without_some.mp h).2
/-- the items of a list, wherever it lies -/
def asL (S : Store) : D → Option (List D)
  | .lst ds => some ds
  | .scr ds => some ds
  | .oid n => match S[n]? with
    | some (.lst ds) => some ds
    | some (.frz (.lst ds)) => some ds
    | _ => none
  | _ => none
/-- the items of a list or a tuple -/
def asQ (S : Store) : D → Option (List D)
  | .tup ds => some ds
  | d => asL S d
theorem asL_ok (R : Rel K mg Z φ S H) {d : D} {v : V} {ds : List D} (h : Dat K mg φ (gnd Z φ S H) d v) (e : asL S d = some ds) : ∃ a vs, v = .ref a ∧ SqL K H a vs ∧ DatL K mg φ (gnd Z φ S H) ds vs := by
  cases d with
  | lst es =>
    cases e
    unfold Dat at h
    obtain ⟨a, vs, rfl, h1, h2⟩ := h
    exact ⟨a, vs, rfl, .of (gnd_sub _ _ h1), h2⟩
  | scr es =>
    cases e
    unfold Dat at h
    obtain ⟨a, vs, rfl, h1, h2⟩ := h
    exact ⟨a, vs, rfl, Same.seq gnd_sub h1, h2⟩
  | oid n =>
    unfold Dat at h
    obtain ⟨a, rfl, h1⟩ := h
    cases q : S[n]? with
    | none => simp [asL, q] at e
    | some o =>
      simp only [asL, q] at e
      have ok := R.ob n a o h1 q
      cases o with
      | lst es =>
        cases e
        obtain ⟨vs, q1, q2⟩ := ok
        exact ⟨a, vs, rfl, .of q1, q2⟩
      | frz d =>
        cases d with
        | lst es =>
          cases e
          have ok' : Dat K mg φ (gnd Z φ S H) (.lst _) (.ref a) := ok
          unfold Dat at ok'
          obtain ⟨b, vs, e1, q1, q2⟩ := ok'
          cases e1
          exact ⟨a, vs, rfl, .of (gnd_sub _ _ q1), q2⟩
        | _ => cases e
      | _ => cases e
  | _ => cases e
theorem asQ_ok (R : Rel K mg Z φ S H) {d : D} {v : V} {ds : List D} (h : Dat K mg φ (gnd Z φ S H) d v) (e : asQ S d = some ds) : ∃ a vs, v = .ref a ∧ (SqL K H a vs ∨ SqT K H a vs) ∧ DatL K mg φ (gnd Z φ S H) ds vs := by
  cases d with
  | tup es =>
    cases e
    unfold Dat at h
    obtain ⟨a, vs, rfl, h1, h2⟩ := h
    exact ⟨a, vs, rfl, .inr (sqt_mono gnd_sub h1), h2⟩
  | _ =>
    obtain ⟨a, vs, e1, h1, h2⟩ := asL_ok R h e
    exact ⟨a, vs, e1, .inl h1, h2⟩
end

section
variable {X : Cx} {W : WX} {a b c e : Expr} {es : List Expr} {fa fb fc fe : FE} {pos : Pos}

/-! ### names and constants -/
def fVar (i : Nat) : FE := fun ρ S => match ρ[i]? with
  | some (some d) => .ok d S
  | _ => .stuck
def fC (d : D) : FE := fun _ S => .ok d S
theorem de_var {i : Nat} {x : Str} (p : PE X (.Name x pos) (tVar i)) : DE X W (.Name x pos) (fVar i) :=
  .mk p (fun Z φ S ρ σ H Q R sl w => by
    unfold fVar at w
    cases h : ρ[i]? with
    | none => rw [h] at w; exact w.elim
    | some o =>
      cases o with
      | none => rw [h] at w; exact w.elim
      | some d =>
        rw [h] at w
        obtain ⟨v, h1, h2⟩ := sl.2 i d h
        exact ⟨v, h1, w.now R h2⟩)
theorem de_c {t : TE} {v : V} {d : D} (p : PE X e t) (ht : t = tC v) (hd : ∀ φ G, Dat X.K X.mg φ G d v) : DE X W e (fC d) := by
  subst ht
  exact .mk p (fun Z φ S ρ σ H Q R sl w => w.now R (hd _ _))
theorem de_int {i : Int} {j} : DE X W (.Constant (.int i) j pos) (fC (.int i)) := de_c pe_int rfl fun _ _ => by unfold Dat; rfl
theorem de_bl {i : Bool} {j} : DE X W (.Constant (.bool i) j pos) (fC (.bl i)) := de_c pe_bl rfl fun _ _ => by unfold Dat; rfl
theorem de_non {j} : DE X W (.Constant .none j pos) (fC .non) := de_c pe_non rfl fun _ _ => by unfold Dat; rfl
theorem de_str {i : Str} {j} : DE X W (.Constant (.str i) j pos) (fC (.str i)) := de_c pe_str rfl fun _ _ => by unfold Dat; rfl
/-- a module's int -/
theorem de_globI {x : Str} {i : Int} {t : Tok} (hg : Gl X x) (hm : X.mg x = some (.int i t)) (hd : (x == ("__debug__" : Str)) = false := by decide) : DE X W (.Name x pos) (fC (.int i)) :=
  de_c (pe_glob (v := .int i) hg hm ⟨t, rfl⟩ hd) rfl fun _ _ => by unfold Dat; rfl
/-- a built-in class as a value -/
theorem de_ty {x : Str} {n : String} (hg : Gl X x) (hm : X.mg x = none) (hv : bootBuiltins x = some (.type n)) (hn : x ≠ "__name__" := by decide) (hd : (x == ("__debug__" : Str)) = false := by decide) : DE X W (.Name x pos) (fC (.ty n)) :=
  de_c (pe_bltn (v := .ty n) hg hm hv rfl hn hd) rfl fun _ _ => by unfold Dat; rfl

/-! ### operators -/
abbrev G2 := D → D → Store → Res D
def OpD (X : Cx) (r : R2) (g : G2) : Prop := ∀ (Z φ : List Addr) (S : Store) (H : Hp) (x y : D) (u v : V) (Q : VK) (E : XK), Rel X.K X.mg Z φ S H → Dat X.K X.mg φ (gnd Z φ S H) x u → Dat X.K X.mg φ (gnd Z φ S H) y v →
  Want X.K X.mg (RDat X.K X.mg) Z φ S H (g x y S) Q E → r u v H Q
def fBin (g : G2) (fa fb : FE) : FE := fun ρ S => (fa ρ S).bind fun x S => (fb ρ S).bind fun y S => g x y S
theorem dbin {ta tb : TE} {r : R2} {g : G2} (hg : OpD X r g)
    (ha : ∀ Z φ S ρ σ H (Q : VK), Rel X.K X.mg Z φ S H → Slots X.K X.mg φ (gnd Z φ S H) ρ σ → Want X.K X.mg (RDat X.K X.mg) Z φ S H (fa ρ S) Q (WE W σ) → ta σ H Q)
    (hb : ∀ Z φ S ρ σ H (Q : VK), Rel X.K X.mg Z φ S H → Slots X.K X.mg φ (gnd Z φ S H) ρ σ → Want X.K X.mg (RDat X.K X.mg) Z φ S H (fb ρ S) Q (WE W σ) → tb σ H Q)
    (Z φ S ρ σ H) (Q : VK) (R : Rel X.K X.mg Z φ S H) (sl : Slots X.K X.mg φ (gnd Z φ S H) ρ σ) (w : Want X.K X.mg (RDat X.K X.mg) Z φ S H (fBin g fa fb ρ S) Q (WE W σ)) : tOp r ta tb σ H Q :=
  ha Z φ S ρ σ H _ R sl (w.bind fun x S1 u φ1 H1 R1 E1 d1 w1 => hb Z φ1 S1 ρ σ H1 _ R1 (sl.evo E1) (w1.bind fun y S2 v φ2 H2 R2 E2 d2 w2 => hg Z φ2 S2 H2 x y u v Q _ R2 (Dat.evo E2 d1) d2 w2))
theorem de_bin {op : Operator} {r : R2} {g : G2} (ho : OpR X (binaryOp op) r) (hg : OpD X r g) (ha : DE X W a fa) (hb : DE X W b fb) : DE X W (.BinOp a op b pos) (fBin g fa fb) := by
  obtain ⟨ta, pa, qa⟩ := (ha).ex
  obtain ⟨tb, pb, qb⟩ := (hb).ex
  exact .mk (pe_op ho pa pb) (dbin hg qa qb)
theorem de_cmp {op : CmpOp} {r : R2} {g : G2} (ho : OpR X (compareOp op) r) (hg : OpD X r g) (ha : DE X W a fa) (hb : DE X W b fb) (hm : behindInMarks op b = false) : DE X W (.Compare a [op] [b] pos) (fBin g fa fb) := by
  obtain ⟨ta, pa, qa⟩ := (ha).ex
  obtain ⟨tb, pb, qb⟩ := (hb).ex
  exact .mk (pe_cmpR ho pa pb hm) (dbin hg qa qb)
theorem de_ix {r : R2} {g : G2} (ho : IxR X r) (hg : OpD X r g) (ha : DE X W a fa) (hb : DE X W b fb) (hs : PlainIx b) : DE X W (.Subscript a b pos) (fBin g fa fb) := by
  obtain ⟨ta, pa, qa⟩ := (ha).ex
  obtain ⟨tb, pb, qb⟩ := (hb).ex
  exact .mk (pe_ix ho pa pb hs) (dbin hg qa qb)
/-- the answer as a test -/
def toB (f : FE) : FT := fun ρ S => (f ρ S).bind fun d S => match d with
  | .bl k => .ok k S
  | _ => .stuck
theorem toB_ok {t : TE} {f : FE}
    (ha : ∀ Z φ S ρ σ H (Q : VK), Rel X.K X.mg Z φ S H → Slots X.K X.mg φ (gnd Z φ S H) ρ σ → Want X.K X.mg (RDat X.K X.mg) Z φ S H (f ρ S) Q (WE W σ) → t σ H Q)
    (Z φ S ρ σ H) (Q : Bool → Hp → Prop) (R : Rel X.K X.mg Z φ S H) (sl : Slots X.K X.mg φ (gnd Z φ S H) ρ σ) (w : Want X.K X.mg REq Z φ S H (toB f ρ S) Q (WE W σ)) : t σ H fun x H' => ∃ k, x = .bl k ∧ Q k H' :=
  ha Z φ S ρ σ H _ R sl (w.bind fun x S1 u φ1 H1 R1 E1 d1 w1 => by
    cases x with
    | bl k =>
      unfold RDat Dat at d1
      exact ⟨k, d1, w1.now R1 rfl⟩
    | _ => exact w1.elim)
theorem dt_cmp {op : CmpOp} {r : R2} {g : G2} (ho : OpR X (compareOp op) r) (hg : OpD X r g) (ha : DE X W a fa) (hb : DE X W b fb) (hm : behindInMarks op b = false) : DT X W (.Compare a [op] [b] pos) (toB (fBin g fa fb)) := by
  obtain ⟨ta, pa, qa⟩ := (ha).ex
  obtain ⟨tb, pb, qb⟩ := (hb).ex
  exact .mk (pt_cmpR ho pa pb hm) (toB_ok (dbin hg qa qb))
theorem dt_val (ha : DE X W a fa) (he : ∀ whole, isTrue a X.env whole = (do let v ← whole; standAt a.pos; holding [v] (truthy v)) := by intro _; rfl) : DT X W a (toB fa) := by
  obtain ⟨ta, pa, qa⟩ := (ha).ex
  exact .mk (pt_val pa he) (toB_ok qa)
def fUn (g : D → Store → Res D) (fa : FE) : FE := fun ρ S => (fa ρ S).bind g
def UnD (X : Cx) (r : V → Hp → VK → Prop) (g : D → Store → Res D) : Prop := ∀ (Z φ : List Addr) (S : Store) (H : Hp) (x : D) (u : V) (Q : VK) (E : XK), Rel X.K X.mg Z φ S H → Dat X.K X.mg φ (gnd Z φ S H) x u →
  Want X.K X.mg (RDat X.K X.mg) Z φ S H (g x S) Q E → r u H Q
theorem de_un {op : UnaryOp} {r : V → Hp → VK → Prop} {g : D → Store → Res D} (ho : UnR X (unaryOp op) r) (hg : UnD X r g) (ha : DE X W a fa) : DE X W (.UnaryOp op a pos) (fUn g fa) := by
  obtain ⟨ta, pa, qa⟩ := (ha).ex
  exact .mk (pe_un ho pa) (fun Z φ S ρ σ H Q R sl w => qa Z φ S ρ σ H _ R sl (w.bind fun x S1 u φ1 H1 R1 E1 d1 w1 => hg Z φ1 S1 H1 x u Q _ R1 d1 w1))
theorem OpD.or {r r' : R2} {g g' : G2} (p : D → D → Store → Bool) (h : OpD X r g) (h' : OpD X r' g') : OpD X (fun x y H Q => r x y H Q ∨ r' x y H Q) (fun x y S => if p x y S then g x y S else g' x y S) := fun Z φ S H x y u v Q E R dx dy w => by
  by_cases q : p x y S = true
  · exact .inl (h Z φ S H x y u v Q E R dx dy (by simpa only [q, if_true] using w))
  · exact .inr (h' Z φ S H x y u v Q E R dx dy (by simpa [q] using w))

/-! ints -/
def gI (C : Int → Int → Bool) (f : Int → Int → D) : G2 := fun x y S => match x, y with
  | .int i, .int j => if C i j then .ok (f i j) S else .stuck
  | _, _ => .stuck
theorem gI_inv {C : Int → Int → Bool} {f : Int → Int → D} {x y : D} {S : Store} {Z φ : List Addr} {H : Hp} {Q : VK} {E : XK} (w : Want X.K X.mg (RDat X.K X.mg) Z φ S H (gI C f x y S) Q E) :
    ∃ i j, x = .int i ∧ y = .int j ∧ C i j = true ∧ Want X.K X.mg (RDat X.K X.mg) Z φ S H (.ok (f i j) S) Q E := by
  unfold gI at w
  cases x with
  | int i =>
    cases y with
    | int j =>
      by_cases q : C i j = true
      · simp only [q, if_true] at w
        exact ⟨i, j, rfl, rfl, q, w⟩
      · simp only [q] at w
        exact w.elim
    | _ => exact w.elim
  | _ => exact w.elim
theorem opd_I {C : Int → Int → Prop} {c : Int → Int → Bool} {g : Int → Int → V} {f : Int → Int → D} (hc : ∀ i j, c i j = true → C i j) (hf : ∀ i j φ G, Dat X.K X.mg φ G (f i j) (g i j)) : OpD X (rI C g) (gI c f) :=
  fun Z φ S H x y u v Q E R dx dy w => by
    obtain ⟨i, j, rfl, rfl, q, w⟩ := gI_inv w
    unfold Dat at dx dy
    exact ⟨i, j, dx, dy, hc i j q, w.now R (hf i j _ _)⟩
theorem opd_I0 {g : Int → Int → V} {f : Int → Int → D} (hf : ∀ i j φ G, Dat X.K X.mg φ G (f i j) (g i j)) : OpD X (rI0 g) (gI (fun _ _ => true) f) :=
  fun Z φ S H x y u v Q E R dx dy w => by
    obtain ⟨i, j, rfl, rfl, q, w⟩ := gI_inv w
    unfold Dat at dx dy
    exact ⟨i, j, dx, dy, w.now R (hf i j _ _)⟩
theorem dat_int {φ : List Addr} {G : Hp} (i : Int) : Dat X.K X.mg φ G (.int i) (.int i) := by unfold Dat; rfl
theorem dat_bl {φ : List Addr} {G : Hp} (i : Bool) : Dat X.K X.mg φ G (.bl i) (.bl i) := by unfold Dat; rfl
theorem dat_str {φ : List Addr} {G : Hp} (i : Str) : Dat X.K X.mg φ G (.str i) (.str i) := by unfold Dat; rfl
theorem dat_non {φ : List Addr} {G : Hp} : Dat X.K X.mg φ G .non .non := by unfold Dat; rfl
def gSub : G2 := gI (fun _ _ => true) fun i j => .int (i - j)
noncomputable def cMul (i j : Int) : Bool := @decide ((-18446744073709551616 < i ∧ i < 18446744073709551616) ∨ (-18446744073709551616 < j ∧ j < 18446744073709551616)) (Classical.propDecidable _)
noncomputable def gMul : G2 := gI cMul fun i j => .int (i * j)
def gMod : G2 := gI (fun _ j => decide (0 < j)) fun i j => .int (i % j)
noncomputable def cDiv (_ j : Int) : Bool := @decide (0 < j ∧ j < 1073741824) (Classical.propDecidable _)
noncomputable def gDiv : G2 := gI cDiv fun i j => .int (i / j)
noncomputable def cPow (i j : Int) : Bool := @decide (0 ≤ j ∧ j ≤ 1000000 ∧ i.natAbs < 18446744073709551616) (Classical.propDecidable _)
noncomputable def gPow : G2 := gI cPow fun i j => .int (i ^ j.toNat)
theorem de_sub (ha : DE X W a fa) (hb : DE X W b fb) : DE X W (.BinOp a .Sub b pos) (fBin gSub fa fb) := de_bin op_sub (opd_I0 fun _ _ _ _ => dat_int _) ha hb
theorem de_mul (ha : DE X W a fa) (hb : DE X W b fb) : DE X W (.BinOp a .Mult b pos) (fBin gMul fa fb) :=
  de_bin op_mul (opd_I (fun i j h => by simpa [cMul, CMul] using h) fun _ _ _ _ => dat_int _) ha hb
theorem de_mod (ha : DE X W a fa) (hb : DE X W b fb) : DE X W (.BinOp a .Mod b pos) (fBin gMod fa fb) := de_bin op_mod (opd_I (fun i j h => by simpa using h) fun _ _ _ _ => dat_int _) ha hb
theorem de_fdiv (ha : DE X W a fa) (hb : DE X W b fb) : DE X W (.BinOp a .FloorDiv b pos) (fBin gDiv fa fb) := de_bin op_fdiv (opd_I (fun i j h => by simpa [cDiv, CDiv] using h) fun _ _ _ _ => dat_int _) ha hb
theorem de_pow (ha : DE X W a fa) (hb : DE X W b fb) : DE X W (.BinOp a .Pow b pos) (fBin gPow fa fb) := de_bin op_pow (opd_I (fun i j h => by simpa [cPow, CPow, and_assoc] using h) fun _ _ _ _ => dat_int _) ha hb
def gNeg : D → Store → Res D := fun x S => match x with
  | .int i => .ok (.int (-i)) S
  | _ => .stuck
theorem de_neg (ha : DE X W a fa) : DE X W (.UnaryOp .USub a pos) (fUn gNeg fa) := de_un un_neg (fun Z φ S H x u Q E R dx w => by
  cases x with
  | int i =>
    unfold Dat at dx
    exact ⟨i, dx, w.now R (dat_int _)⟩
  | _ => exact w.elim) ha
def gLt : G2 := gI (fun _ _ => true) fun i j => .bl (decide (i < j))
def gLe : G2 := gI (fun _ _ => true) fun i j => .bl (decide (i ≤ j))
def gGt : G2 := gI (fun _ _ => true) fun i j => .bl (decide (j < i))
def gGe : G2 := gI (fun _ _ => true) fun i j => .bl (decide (j ≤ i))
theorem opd_lt : OpD X (rI0 fun i j => .bl (decide (i < j))) gLt := opd_I0 fun _ _ _ _ => dat_bl _
theorem opd_le : OpD X (rI0 fun i j => .bl (decide (i ≤ j))) gLe := opd_I0 fun _ _ _ _ => dat_bl _
theorem opd_gt : OpD X (rI0 fun i j => .bl (decide (j < i))) gGt := opd_I0 fun _ _ _ _ => dat_bl _
theorem opd_ge : OpD X (rI0 fun i j => .bl (decide (j ≤ i))) gGe := opd_I0 fun _ _ _ _ => dat_bl _
/-! is None -/
def D.isNon : D → Bool
  | .non => true
  | _ => false
theorem isNon_V {φ : List Addr} {G : Hp} {K : PySem.W.Frag} {mg : Str → Option Value} {d : D} {v : V} (h : Dat K mg φ G d v) : decide (v = .non) = d.isNon := by
  cases d <;> unfold Dat at h <;> first
    | (subst h; rfl)
    | (obtain ⟨_, _, rfl, _⟩ := h; rfl)
    | (obtain ⟨_, rfl, _⟩ := h; rfl)
    | (obtain ⟨_, _, _, _, rfl, _⟩ := h; rfl)
    | (obtain ⟨_, _, _, rfl, _⟩ := h; rfl)
def gIs : G2 := fun x y S => if y.isNon then .ok (.bl x.isNon) S else .stuck
def gIsNot : G2 := fun x y S => if y.isNon then .ok (.bl (!x.isNon)) S else .stuck
theorem opd_is : OpD X (fun x y H Q => y = .non ∧ Q (.bl (decide (x = .non))) H) gIs := fun Z φ S H x y u v Q E R dx dy w => by
  unfold gIs at w
  by_cases q : y.isNon = true
  · rw [if_pos q] at w
    have e := isNon_V dy
    rw [q] at e
    refine ⟨of_decide_eq_true e, ?_⟩
    rw [isNon_V dx]
    exact w.now R (dat_bl _)
  · rw [if_neg q] at w
    exact w.elim
/-! ### and, or, not, if -/
def fAndT (ta tb : FT) : FT := fun ρ S => (ta ρ S).bind fun k S => if k then tb ρ S else .ok false S
def fOrT (ta tb : FT) : FT := fun ρ S => (ta ρ S).bind fun k S => if k then .ok true S else tb ρ S
def fNotT (ta : FT) : FT := fun ρ S => (ta ρ S).bind fun k S => .ok (!k) S
variable {ga gb : FT} {rest : List Expr}
theorem dw_and1 (ha : DT X W a ga) : DW X W (.BoolOp .And [a] pos) ga := by
  obtain ⟨t, p, q⟩ := (ha).ex
  exact .mk (pw_and1 p) q
theorem dw_or1 (ha : DT X W a ga) : DW X W (.BoolOp .Or [a] pos) ga := by
  obtain ⟨t, p, q⟩ := (ha).ex
  exact .mk (pw_or1 p) q
theorem dw_and (ha : DT X W a ga) (hb : DW X W (.BoolOp .And (b :: rest) pos) gb) : DW X W (.BoolOp .And (a :: b :: rest) pos) (fAndT ga gb) := by
  obtain ⟨t, p, q⟩ := (ha).ex
  obtain ⟨u, p', q'⟩ := (hb).ex
  refine .mk (pw_and p p') (fun Z φ S ρ σ H Q R sl w => q Z φ S ρ σ H _ R sl (w.bind fun k S1 k' φ1 H1 R1 E1 e w1 => ?_))
  cases e
  cases k with
  | true => exact iteT (q' Z φ1 S1 ρ σ H1 Q R1 (sl.evo E1) w1)
  | false => exact iteF (w1.now R1 rfl)
theorem dw_or (ha : DT X W a ga) (hb : DW X W (.BoolOp .Or (b :: rest) pos) gb) : DW X W (.BoolOp .Or (a :: b :: rest) pos) (fOrT ga gb) := by
  obtain ⟨t, p, q⟩ := (ha).ex
  obtain ⟨u, p', q'⟩ := (hb).ex
  refine .mk (pw_or p p') (fun Z φ S ρ σ H Q R sl w => q Z φ S ρ σ H _ R sl (w.bind fun k S1 k' φ1 H1 R1 E1 e w1 => ?_))
  cases e
  cases k with
  | true => exact iteT (w1.now R1 rfl)
  | false => exact iteF (q' Z φ1 S1 ρ σ H1 Q R1 (sl.evo E1) w1)
theorem DW.dt (h : DW X W a ga) : DT X W a ga := by
  obtain ⟨t, p, q⟩ := (h).ex
  exact .mk (p.pt) q
theorem dt_not (h : DT X W a ga) : DT X W (.UnaryOp .Not a pos) (fNotT ga) := by
  obtain ⟨t, p, q⟩ := (h).ex
  refine .mk (pt_not p) (fun Z φ S ρ σ H Q R sl w => q Z φ S ρ σ H _ R sl (w.bind fun k S1 k' φ1 H1 R1 E1 e w1 => ?_))
  cases e
  exact w1.now R1 rfl
/-- and, or as values, all but the last a truth -/
def fAndV (fa fb : FE) : FE := fun ρ S => (fa ρ S).bind fun d S => match d with
  | .bl true => fb ρ S
  | .bl false => .ok (.bl false) S
  | _ => .stuck
def fOrV (fa fb : FE) : FE := fun ρ S => (fa ρ S).bind fun d S => match d with
  | .bl true => .ok (.bl true) S
  | .bl false => fb ρ S
  | _ => .stuck
theorem de_one {op} (h : DE X W a fa) : DE X W (.BoolOp op [a] pos) fa := by
  obtain ⟨t, p, q⟩ := (h).ex
  exact .mk (pe_one p) q
theorem de_and (ha : DE X W a fa) (hb : DE X W (.BoolOp .And (b :: rest) pos) fb) : DE X W (.BoolOp .And (a :: b :: rest) pos) (fAndV fa fb) := by
  obtain ⟨t, p, q⟩ := (ha).ex
  obtain ⟨u, p', q'⟩ := (hb).ex
  refine .mk (pe_and p p') (fun Z φ S ρ σ H Q R sl w => q Z φ S ρ σ H _ R sl (w.bind fun x S1 v φ1 H1 R1 E1 d w1 => ?_))
  cases x with
  | bl k =>
    unfold RDat Dat at d
    refine ⟨k, d, ?_⟩
    cases k with
    | true => exact iteT (q' Z φ1 S1 ρ σ H1 Q R1 (sl.evo E1) w1)
    | false => exact iteF (w1.now R1 (dat_bl _))
  | _ => exact w1.elim
def fNotV (fa : FE) : FE := fun ρ S => (fa ρ S).bind fun d S => match d with
  | .bl k => .ok (.bl (!k)) S
  | _ => .stuck
theorem de_not (ha : DE X W a fa) : DE X W (.UnaryOp .Not a pos) (fNotV fa) := by
  obtain ⟨t, p, q⟩ := (ha).ex
  refine .mk (pe_not p) (fun Z φ S ρ σ H Q R sl w => q Z φ S ρ σ H _ R sl (w.bind fun x S1 v φ1 H1 R1 E1 d w1 => ?_))
  cases x with
  | bl k =>
    unfold RDat Dat at d
    exact ⟨k, d, w1.now R1 (dat_bl _)⟩
  | _ => exact w1.elim
def fIf (t : FT) (fa fb : FE) : FE := fun ρ S => (t ρ S).bind fun k S => if k then fa ρ S else fb ρ S
theorem de_ifExp (hc : DT X W c ga) (ha : DE X W a fa) (hb : DE X W b fb) : DE X W (.IfExp c a b pos) (fIf ga fa fb) := by
  obtain ⟨tc, pc, qc⟩ := (hc).ex
  obtain ⟨t, p, q⟩ := (ha).ex
  obtain ⟨u, p', q'⟩ := (hb).ex
  refine .mk (pe_ifExp pc p p') (fun Z φ S ρ σ H Q R sl w => qc Z φ S ρ σ H _ R sl (w.bind fun k S1 k' φ1 H1 R1 E1 e w1 => ?_))
  cases e
  cases k with
  | true => exact iteT (q Z φ1 S1 ρ σ H1 Q R1 (sl.evo E1) w1)
  | false => exact iteF (q' Z φ1 S1 ρ σ H1 Q R1 (sl.evo E1) w1)
/-- a < b < c -/
def fChain (g g' : G2) (fa fb fc : FE) : FE := fun ρ S => (fa ρ S).bind fun x S => (fb ρ S).bind fun y S => (g x y S).bind fun z S => match z with
  | .bl true => (fc ρ S).bind fun u S => g' y u S
  | .bl false => .ok (.bl false) S
  | _ => .stuck

/-! ### displays -/
theorem da_nil : DA X W [] (fun _ S => .ok [] S) := .mk pa_nil (fun Z φ S ρ σ H Q R sl w => w.now R DatL.nil)
def fCons (fa : FE) (fr : FA) : FA := fun ρ S => (fa ρ S).bind fun x S => (fr ρ S).bind fun xs S => .ok (x :: xs) S
theorem da_cons {fr : FA} (ha : DE X W e fe) (hr : DA X W es fr) (hs : starEach (e :: es) X.env = (false, eval e X.env) :: starEach es X.env := by rfl) : DA X W (e :: es) (fCons fe fr) := by
  obtain ⟨t, p, q⟩ := (ha).ex
  obtain ⟨u, p', q'⟩ := (hr).ex
  refine .mk (pa_cons p p' hs) (fun Z φ S ρ σ H Q R sl w => q Z φ S ρ σ H _ R sl (w.bind fun x S1 v φ1 H1 R1 E1 d w1 => ?_))
  exact q' Z φ1 S1 ρ σ H1 _ R1 (sl.evo E1) (w1.bind fun xs S2 vs φ2 H2 R2 E2 d2 w2 => w2.now R2 (.cons (Dat.evo E2 d) d2))
def short (n : Nat) : Bool := decide (n ≤ sizeLine)
def fTup (fa : FA) : FE := fun ρ S => (fa ρ S).bind fun xs S => if short xs.length then .ok (.tup xs) S else .stuck
def fLst (fa : FA) : FE := fun ρ S => (fa ρ S).bind fun xs S => if short xs.length then .ok (.lst xs) S else .stuck
def fLstO (fa : FA) : FE := fun ρ S => (fa ρ S).bind fun xs S => if short xs.length then .ok (.oid S.length) (S ++ [.lst xs]) else .stuck
section
variable {K : PySem.W.Frag} {mg : Str → Option Value} {Z φ : List Addr} {S : Store} {H : Hp}
theorem dat_newL (R : Rel K mg Z φ S H) {ds : List D} {vs : List V} (h : DatL K mg φ (gnd Z φ S H) ds vs) {p : Addr} (hp : H p = none) :
    Rel K mg Z φ S (upd H p (.lst vs)) ∧ Evo Z φ S H φ S (upd H p (.lst vs)) ∧ Dat K mg φ (gnd Z φ S (upd H p (.lst vs))) (.lst ds) (.ref p) := by
  obtain ⟨r, e, g⟩ := R.fresh (o := .lst vs) hp
  refine ⟨r, e, ?_⟩
  unfold Dat
  exact ⟨p, vs, rfl, g, DatL.evo e h⟩
theorem dat_newT (R : Rel K mg Z φ S H) {ds : List D} {vs : List V} (h : DatL K mg φ (gnd Z φ S H) ds vs) {p : Addr} (hp : H p = none) :
    Rel K mg Z φ S (upd H p (.tup vs)) ∧ Evo Z φ S H φ S (upd H p (.tup vs)) ∧ Dat K mg φ (gnd Z φ S (upd H p (.tup vs))) (.tup ds) (.ref p) := by
  obtain ⟨r, e, g⟩ := R.fresh (o := .tup vs) hp
  refine ⟨r, e, ?_⟩
  unfold Dat
  exact ⟨p, vs, rfl, .of g, DatL.evo e h⟩
theorem dat_newO (R : Rel K mg Z φ S H) {ds : List D} {vs : List V} (h : DatL K mg φ (gnd Z φ S H) ds vs) {p : Addr} (hp : H p = none) :
    Rel K mg Z (φ ++ [p]) (S ++ [.lst ds]) (upd H p (.lst vs)) ∧ Evo Z φ S H (φ ++ [p]) (S ++ [.lst ds]) (upd H p (.lst vs)) ∧ Dat K mg (φ ++ [p]) (gnd Z (φ ++ [p]) (S ++ [.lst ds]) (upd H p (.lst vs))) (.oid S.length) (.ref p) := by
  have lv : liveA (φ ++ [p]) (S ++ [.lst ds]) = liveA φ S ++ [p] := by rw [liveA_snoc R.len]; rfl
  have ext : Same (gnd Z φ S H) (gnd Z (φ ++ [p]) (S ++ [.lst ds]) (upd H p (.lst vs))) := fun a o h => by
    obtain ⟨h1, h2⟩ := without_some.mp h
    refine without_some.mpr ⟨fun q => h1 ?_, same_upd hp a o h2⟩
    rw [lv] at q
    rcases List.mem_append.mp q with z | z
    · exact List.mem_append_left _ z
    · rcases List.mem_append.mp z with z | z
      · exact List.mem_append_right _ z
      · rw [List.mem_singleton.mp z, hp] at h2
        cases h2
  obtain ⟨r, e⟩ := R.newOid (so := .lst ds) (same_upd (o := .lst vs) hp) hp (by rw [upd_same]; exact fun z => nomatch z) rfl ⟨vs, upd_same, DatL.mono ⟨[p], rfl⟩ ext _ _ h⟩
  refine ⟨r, e, ?_⟩
  unfold Dat
  exact ⟨p, rfl, by rw [List.getElem?_append_right (by rw [R.len]; exact Nat.le_refl _), ← R.len, Nat.sub_self]; rfl⟩
end
theorem de_tup {x1} {fr : FA} (h : DA X W es fr) : DE X W (.Tuple es x1 pos) (fTup fr) := by
  obtain ⟨t, p, q⟩ := (h).ex
  refine .mk (pe_tup p) (fun Z φ S ρ σ H Q R sl w => q Z φ S ρ σ H _ R sl (w.bind fun xs S1 vs φ1 H1 R1 E1 d w1 => ?_))
  by_cases hs : short xs.length = true
  · rw [if_pos hs] at w1
    refine ⟨by rw [DatL.length d]; exact of_decide_eq_true hs, fun p hp => ?_⟩
    obtain ⟨r, e, g⟩ := dat_newT R1 d hp
    exact w1 _ _ _ r e g
  · rw [if_neg hs] at w1
    exact w1.elim
theorem de_lst {fr : FA} (h : DA X W es fr) : DE X W (.List es pos) (fLst fr) := by
  obtain ⟨t, p, q⟩ := (h).ex
  refine .mk (pe_lst p) (fun Z φ S ρ σ H Q R sl w => q Z φ S ρ σ H _ R sl (w.bind fun xs S1 vs φ1 H1 R1 E1 d w1 => ?_))
  by_cases hs : short xs.length = true
  · rw [if_pos hs] at w1
    refine ⟨by rw [DatL.length d]; exact of_decide_eq_true hs, fun p hp => ?_⟩
    obtain ⟨r, e, g⟩ := dat_newL R1 d hp
    exact w1 _ _ _ r e g
  · rw [if_neg hs] at w1
    exact w1.elim
theorem de_lstO {fr : FA} (h : DA X W es fr) : DE X W (.List es pos) (fLstO fr) := by
  obtain ⟨t, p, q⟩ := (h).ex
  refine .mk (pe_lst p) (fun Z φ S ρ σ H Q R sl w => q Z φ S ρ σ H _ R sl (w.bind fun xs S1 vs φ1 H1 R1 E1 d w1 => ?_))
  by_cases hs : short xs.length = true
  · rw [if_pos hs] at w1
    refine ⟨by rw [DatL.length d]; exact of_decide_eq_true hs, fun p hp => ?_⟩
    obtain ⟨r, e, g⟩ := dat_newO R1 d hp
    exact w1 _ _ _ r e g
  · rw [if_neg hs] at w1
    exact w1.elim
end
end DL

/-! The data layer, part 4: targets, what is walked, statements, comprehensions. -/
namespace DL
open PySem L2

/-! ### targets -/
abbrev FG := D → EnvD → Store → Option EnvD
def tG (K : PySem.W.Frag) (mg : Str → Option Value) (is : List Nat) (m : FG) : TG := fun v σ H Q => ∃ Z φ S ρ d ρ', Rel K mg Z φ S H ∧ Slots K mg φ (gnd Z φ S H) ρ σ ∧ Dat K mg φ (gnd Z φ S H) d v ∧ m d ρ S = some ρ' ∧
  ∀ σ', Slots K mg φ (gnd Z φ S H) ρ' σ' → (∀ vs : List Nat, (∀ i ∈ is, i ∈ vs) → wipe σ' vs = wipe σ vs) → Q σ' H
def tGs (K : PySem.W.Frag) (mg : Str → Option Value) (is : List Nat) (m : List D → EnvD → Store → Option EnvD) : TGs := fun vs σ H Q => ∃ Z φ S ρ ds ρ', Rel K mg Z φ S H ∧ Slots K mg φ (gnd Z φ S H) ρ σ ∧ DatL K mg φ (gnd Z φ S H) ds vs ∧ m ds ρ S = some ρ' ∧
  ∀ σ', Slots K mg φ (gnd Z φ S H) ρ' σ' → (∀ vs : List Nat, (∀ i ∈ is, i ∈ vs) → wipe σ' vs = wipe σ vs) → Q σ' H
def DG (X : Cx) (tg : Expr) (is : List Nat) (m : FG) : Prop := PG X tg (tG X.K X.mg is m)
def DGs (X : Cx) (tgs : List Expr) (is : List Nat) (m : List D → EnvD → Store → Option EnvD) : Prop := PGs X tgs (tGs X.K X.mg is m)
theorem PG.weak {X : Cx} {e : Expr} {t t' : TG} (h : PG X e t) (i : ∀ v σ H Q, t' v σ H Q → t v σ H Q) : PG X e t' := ⟨fun pins s σ H v u Q I r q => h.run pins s σ H v u Q I r (i _ _ _ _ q)⟩
theorem PGs.weak {X : Cx} {e : List Expr} {t t' : TGs} (h : PGs X e t) (i : ∀ v σ H Q, t' v σ H Q → t v σ H Q) : PGs X e t' := ⟨fun pins s σ H v u Q I r q => h.run pins s σ H v u Q I r (i _ _ _ _ q)⟩
theorem wipe_set {σ : L2.St} {x : Option V} {i : Nat} : ∀ {vs : List Nat}, i ∈ vs → wipe (σ.set i x) vs = wipe σ vs
  | [], h => absurd h (by simp)
  | v :: vs, h => by
    unfold wipe
    by_cases q : i ∈ vs
    · rw [wipe_set q]
    · have e : i = v := by
        rcases List.mem_cons.mp h with z | z
        · exact z
        · exact absurd z q
      subst e
      have aux : ∀ {vs : List Nat}, i ∉ vs → wipe (σ.set i x) vs = (wipe σ vs).set i x := by
        intro vs
        induction vs with
        | nil => intro _; rfl
        | cons w ws ih =>
          intro hn
          simp only [List.mem_cons, not_or] at hn
          unfold wipe
          rw [ih hn.2, List.set_comm _ _ (fun z => hn.1 z)]
      rw [aux q, List.set_set]
section
variable {X : Cx} {pos : Pos}
def mName (i : Nat) : FG := fun d ρ _ => some (ρ.set i (some d))
theorem dg_name {i : Nat} {x : Str} (p : PG X (.Name x pos) (gName i)) : DG X (.Name x pos) [i] (mName i) :=
  PG.weak p fun v σ H Q ⟨Z, φ, S, ρ, d, ρ', R, sl, hd, hm, q⟩ => by
    cases hm
    exact q _ (sl.set hd) fun vs h => wipe_set (h i (by simp))
theorem dgs_nil : DGs X [] [] (fun ds ρ _ => match ds with | [] => some ρ | _ => none) :=
  PGs.weak pgs_nil fun v σ H Q ⟨Z, φ, S, ρ, ds, ρ', R, sl, hd, hm, q⟩ => by
    cases ds with
    | nil =>
      cases hm
      unfold DatL at hd
      exact ⟨hd, q _ sl fun _ _ => rfl⟩
    | cons _ _ => cases hm
def mCons (m : FG) (ms : List D → EnvD → Store → Option EnvD) : List D → EnvD → Store → Option EnvD := fun ds ρ S => match ds with
  | d :: ds => (m d ρ S).bind fun ρ => ms ds ρ S
  | [] => none
theorem dgs_cons {e : Expr} {es : List Expr} {is js : List Nat} {m : FG} {ms : List D → EnvD → Store → Option EnvD} (h : DG X e is m) (r : DGs X es js ms)
    (hs : (assignEach (e :: es) X.env).map (·.2) = assign e X.env :: (assignEach es X.env).map (·.2) := by rfl) : DGs X (e :: es) (is ++ js) (mCons m ms) :=
  PGs.weak (pgs_cons h r hs) fun v σ H Q ⟨Z, φ, S, ρ, ds, ρ', R, sl, hd, hm, q⟩ => by
    cases ds with
    | nil => cases hm
    | cons d ds =>
      obtain ⟨u, us, rfl, h1, h2⟩ := hd.uncons
      unfold mCons at hm
      obtain ⟨ρ1, e1, e2⟩ := Option.bind_eq_some_iff.mp hm
      refine ⟨u, us, rfl, Z, φ, S, ρ, d, ρ1, R, sl, h1, e1, fun σ1 sl1 w1 => ?_⟩
      refine ⟨Z, φ, S, ρ1, ds, ρ', R, sl1, h2, e2, fun σ2 sl2 w2 => ?_⟩
      exact q σ2 sl2 fun vs hv => (w2 vs fun i hi => hv i (List.mem_append_right _ hi)).trans (w1 vs fun i hi => hv i (List.mem_append_left _ hi))
def mTup (n : Nat) (ms : List D → EnvD → Store → Option EnvD) : FG := fun d ρ S => match d with
  | .tup ds => if ds.length = n then ms ds ρ S else none
  | _ => none
theorem dg_tup {es : List Expr} {k n : Nat} {is : List Nat} {ms : List D → EnvD → Store → Option EnvD} (hc : X.calm = true) (h : DGs X es is ms)
    (hn : (assignEach es X.env).length = n := by rfl) (hst : (assignEach es X.env).findIdx? (·.1) = none := by rfl) : DG X (.Tuple es k pos) is (mTup n ms) :=
  PG.weak (pg_tup hc h hn hst) fun v σ H Q ⟨Z, φ, S, ρ, d, ρ', R, sl, hd, hm, q⟩ => by
    unfold mTup at hm
    cases d with
    | tup ds =>
      unfold Dat at hd
      obtain ⟨a, vs, rfl, h1, h2⟩ := hd
      by_cases hl : ds.length = n
      · simp only [hl, if_true] at hm
        exact ⟨a, vs, rfl, sqt_mono gnd_sub h1, h2.length.trans hl, Z, φ, S, ρ, ds, ρ', R, sl, h2, hm, q⟩
      · simp only [hl, if_false] at hm
        cases hm
    | _ => cases hm
end

/-! ### what is walked -/
/-- the items; of what may change: that it stays as it was -/
structure ItD where
  items : List D
  chk : Option (D × List D) := none
def okC : Option (D × List D) → Store → Prop
  | none, _ => True
  | some (d, ds), S => asL S d = some ds
section
variable (K : PySem.W.Frag) (mg : Str → Option Value)
def RI (Z φ : List Addr) (S : Store) (H : Hp) (it : ItD) (J : It) : Prop := ∀ (i : Nat) (Z' φ' : List Addr) (S' : Store) (H' : Hp), (∀ a ∈ Z, a ∈ Z') → Rel K mg Z' φ' S' H' → (φ <+: φ') → Same (gnd Z φ S H) (gnd Z' φ' S' H') → okC it.chk S' →
  (∀ d, it.items[i]? = some d → J.go i H' ∧ ∀ x H'', J.yld i H' x H'' → Rel K mg Z' φ' S' H'' ∧ Evo Z' φ' S' H' φ' S' H'' ∧ Dat K mg φ' (gnd Z' φ' S' H'') d x) ∧ (it.items.length ≤ i → J.stop i H')
def WantI (Z φ : List Addr) (S : Store) (H : Hp) (r : Res ItD) (Q : It → Hp → Prop) (E : XK) : Prop := match r with
  | .ok it S' => ∀ J φ' H', Rel K mg Z φ' S' H' → Evo Z φ S H φ' S' H' → RI K mg Z φ' S' H' it J → Q J H'
  | .ex C fs S' => ∀ A dx φ' H', mg C = some (.ref A) → Rel K mg Z φ' S' H' → Evo Z φ S H φ' S' H' → ExD K mg φ' (gnd Z φ' S' H') fs dx → E (.ref A) dx H'
  | .stuck => False
end
theorem WantI.go {K : PySem.W.Frag} {mg : Str → Option Value} {Z φ φ' : List Addr} {S S' : Store} {H H' : Hp} {r : Res ItD} {Q : It → Hp → Prop} {E : XK} (e : Evo Z φ S H φ' S' H') (h : WantI K mg Z φ S H r Q E) : WantI K mg Z φ' S' H' r Q E := by
  cases r with
  | ok a S1 => exact fun b φ1 H1 r1 e1 d => h b φ1 H1 r1 (e.trans e1) d
  | ex C fs S1 => exact fun A dx φ1 H1 m r1 e1 d => h A dx φ1 H1 m r1 (e.trans e1) d
  | stuck => exact h
theorem WantI.bind {α β : Type} {K : PySem.W.Frag} {mg : Str → Option Value} {Z φ : List Addr} {S : Store} {H : Hp} {R : List Addr → Hp → α → β → Prop} {r : Res α} {k : α → Store → Res ItD} {Q : It → Hp → Prop} {Q1 : β → Hp → Prop} {E : XK} (h : WantI K mg Z φ S H (r.bind k) Q E)
    (f : ∀ a S1 b φ1 H1, Rel K mg Z φ1 S1 H1 → Evo Z φ S H φ1 S1 H1 → R φ1 (gnd Z φ1 S1 H1) a b → WantI K mg Z φ1 S1 H1 (k a S1) Q E → Q1 b H1) : Want K mg R Z φ S H r Q1 E := by
  cases r with
  | ok a S1 => exact fun b φ1 H1 r1 e1 d => f a S1 b φ1 H1 r1 e1 d (h.go e1)
  | ex C fs S1 => exact h
  | stuck => exact h
abbrev FI := EnvD → Store → Res ItD
def tDI (K : PySem.W.Frag) (mg : Str → Option Value) (W : WX) (f : FI) : TI := fun σ H R => ∃ Z φ S ρ, Rel K mg Z φ S H ∧ Slots K mg φ (gnd Z φ S H) ρ σ ∧ WantI K mg Z φ S H (f ρ S) R (WE W σ)
def DI (X : Cx) (W : WX) (tg e : Expr) (f : FI) : Prop := PI X tg e (tDI X.K X.mg W f)
abbrev IsI (X : Cx) (W : WX) (t : TI) (f : FI) : Prop := ∀ Z φ S ρ σ H (Q : It → Hp → Prop), Rel X.K X.mg Z φ S H → Slots X.K X.mg φ (gnd Z φ S H) ρ σ → WantI X.K X.mg Z φ S H (f ρ S) Q (WE W σ) → t σ H Q
theorem PI.weak {X : Cx} {tg e : Expr} {t t' : TI} (h : PI X tg e t) (i : ∀ σ H R, t' σ H R → t σ H R) : PI X tg e t' := ⟨fun pins s σ H R I q => h.run pins s σ H R I (i _ _ _ q)⟩
theorem PI.or {X : Cx} {tg e : Expr} {t t' : TI} (h : PI X tg e t) (h' : PI X tg e t') : PI X tg e (fun σ H R => t σ H R ∨ t' σ H R) := ⟨fun pins s σ H R I q => q.elim (fun z => h.run pins s σ H R I z) fun z => h'.run pins s σ H R I z⟩
theorem DI.mk {X : Cx} {W : WX} {tg e : Expr} {f : FI} {t : TI} (p : PI X tg e t) (h : IsI X W t f) : DI X W tg e f := PI.weak p fun σ H Q ⟨Z, φ, S, ρ, R, sl, w⟩ => h Z φ S ρ σ H Q R sl w
theorem DI.is {X : Cx} {W : WX} {f : FI} : IsI X W (tDI X.K X.mg W f) f := fun Z φ S ρ σ H Q R sl w => ⟨Z, φ, S, ρ, R, sl, w⟩
section
variable {X : Cx} {W : WX} {tg e : Expr} {fe : FE} {pos p : Pos}
/-- over a list or a tuple -/
def fSeq (fe : FE) : FI := fun ρ S => (fe ρ S).bind fun d S => match d with
  | .tup ds => .ok ⟨ds, none⟩ S
  | .lst ds => .ok ⟨ds, none⟩ S
  | .scr ds => .ok ⟨ds, none⟩ S
  | d => match asL S d with
    | some ds => .ok ⟨ds, some (d, ds)⟩ S
    | none => .stuck
theorem ri_list {Z φ : List Addr} {S : Store} {H : Hp} {d : D} {a : Addr} {ds : List D} {c : Option (D × List D)} (hd : Dat X.K X.mg φ (gnd Z φ S H) d (.ref a)) (hc : ∀ S', okC c S' → asL S' d = some ds) : RI X.K X.mg Z φ S H ⟨ds, c⟩ (Itl X.K a) :=
  fun i Z' φ' S' H' hZ R hp hs ok => by
    have hd' := Dat.mono hp hs d _ hd
    obtain ⟨b, vs, e, h1, h2⟩ := asL_ok R hd' (hc S' ok)
    cases e
    refine ⟨fun x hx => ?_, fun hl => ⟨vs, h1, by rw [h2.length]; exact hl⟩⟩
    obtain ⟨u, hu, du⟩ := h2.get hx
    refine ⟨⟨vs, u, h1, hu⟩, fun y H'' yl => ?_⟩
    obtain ⟨rfl, q⟩ := yl
    have z := q vs h1
    rw [hu] at z
    cases z
    exact ⟨R, Evo.refl, du⟩
theorem ri_tup {Z φ : List Addr} {S : Store} {H : Hp} {a : Addr} {ds : List D} (hd : Dat X.K X.mg φ (gnd Z φ S H) (.tup ds) (.ref a)) : RI X.K X.mg Z φ S H ⟨ds, none⟩ (Itt X.K a) :=
  fun i Z' φ' S' H' hZ R hp hs ok => by
    have hd' := Dat.mono hp hs _ _ hd
    unfold Dat at hd'
    obtain ⟨b, vs, e, h1, h2⟩ := hd'
    cases e
    have h1' := sqt_mono gnd_sub h1
    refine ⟨fun x hx => ?_, fun hl => ⟨vs, h1', by rw [h2.length]; exact hl⟩⟩
    obtain ⟨u, hu, du⟩ := h2.get hx
    refine ⟨⟨vs, u, h1', hu⟩, fun y H'' yl => ?_⟩
    obtain ⟨rfl, q⟩ := yl
    have z := q vs h1'
    rw [hu] at z
    cases z
    exact ⟨R, Evo.refl, du⟩
theorem RI.evo {Z φ φ' : List Addr} {S S' : Store} {H H' : Hp} {it : ItD} {J : It} (e : Evo Z φ S H φ' S' H') (h : RI X.K X.mg Z φ S H it J) : RI X.K X.mg Z φ' S' H' it J := fun i Z1 φ1 S1 H1 hZ R hp hs ok =>
  h i Z1 φ1 S1 H1 hZ R (e.pre.trans hp) (e.ext.trans hs) ok
/-- the result of an expression, known -/
theorem Want.cases {α β : Type} {K : PySem.W.Frag} {mg : Str → Option Value} {Z φ : List Addr} {S : Store} {H : Hp} {R : List Addr → Hp → α → β → Prop} {r : Res α} {P : Prop} {Q : β → Hp → Prop} {E : XK}
    (hok : ∀ a S1, r = .ok a S1 → P) (hx : ∀ C fs S1, r = .ex C fs S1 → P) (hs : r = .stuck → P) : P := by
  cases r with
  | ok a S1 => exact hok a S1 rfl
  | ex C fs S1 => exact hx C fs S1 rfl
  | stuck => exact hs rfl
theorem di_seq (he : DE X W e fe) : DI X W tg e (fSeq fe) := by
  refine PI.weak (PI.or (pi_list he) (pi_tup he)) fun σ H R ⟨Z, φ, S, ρ, R0, sl, w⟩ => ?_
  have run : ∀ {Q1 : VK}, (∀ d S1 v φ1 H1, Rel X.K X.mg Z φ1 S1 H1 → Evo Z φ S H φ1 S1 H1 → Dat X.K X.mg φ1 (gnd Z φ1 S1 H1) d v → fe ρ S = .ok d S1 → Q1 v H1) → (∀ r, r = fe ρ S → r ≠ .stuck) → Want X.K X.mg (RDat X.K X.mg) Z φ S H (fe ρ S) Q1 (WE W σ) := fun f hns => by
    unfold fSeq at w
    cases hr : fe ρ S with
    | ok d S1 => exact fun v φ1 H1 r1 e1 dd => f d S1 v φ1 H1 r1 e1 dd hr
    | ex C fs S1 => rw [hr] at w; exact w
    | stuck => exact absurd rfl (hns _ hr.symm)
  have ns : ∀ r, r = fe ρ S → r ≠ .stuck := fun r h z => by
    unfold fSeq at w
    rw [← h, z] at w
    exact w
  by_cases ht : ∃ ds S1, fe ρ S = .ok (.tup ds) S1
  · obtain ⟨ds, S1, ht⟩ := ht
    refine .inr ⟨Z, φ, S, ρ, R0, sl, run (fun d S2 v φ1 H1 r1 e1 dd hr => ?_) ns⟩
    rw [ht] at hr
    cases hr
    unfold fSeq at w
    rw [ht] at w
    have dd0 := dd
    unfold Dat at dd
    obtain ⟨a, vs, rfl, h1, h2⟩ := dd
    exact ⟨a, rfl, ⟨vs, sqt_mono gnd_sub h1⟩, w _ _ _ r1 e1 (ri_tup dd0)⟩
  · refine .inl ⟨Z, φ, S, ρ, R0, sl, run (fun d S1 v φ1 H1 r1 e1 dd hr => ?_) ns⟩
    unfold fSeq at w
    rw [hr] at w
    simp only [Res.bind_ok] at w
    cases d with
    | tup ds => exact absurd ⟨ds, S1, hr⟩ ht
    | lst ds =>
      obtain ⟨a, vs, rfl, h1, h2⟩ := asL_ok r1 dd rfl
      exact ⟨a, rfl, ⟨vs, h1⟩, w _ _ _ r1 e1 (ri_list (d := .lst ds) dd fun _ _ => rfl)⟩
    | scr ds =>
      obtain ⟨a, vs, rfl, h1, h2⟩ := asL_ok r1 dd rfl
      exact ⟨a, rfl, ⟨vs, h1⟩, w _ _ _ r1 e1 (ri_list (d := .scr ds) dd fun _ _ => rfl)⟩
    | oid n =>
      simp only at w
      cases hq : asL S1 (.oid n) with
      | none => rw [hq] at w; exact w.elim
      | some ds =>
        rw [hq] at w
        obtain ⟨a, vs, rfl, h1, h2⟩ := asL_ok r1 dd hq
        exact ⟨a, rfl, ⟨vs, h1⟩, w _ _ _ r1 e1 (ri_list (d := .oid n) dd fun _ ok => ok)⟩
    | _ => exact w.elim
/-- range(a), range(a, b) -/
def rng (lo hi : Int) : List D := (List.range (hi - lo).toNat).map fun i => .int (lo + (i : Nat))
noncomputable def cRng (i : Int) : Bool := @decide (-4611686018427387904 ≤ i ∧ i < 4611686018427387904) (Classical.propDecidable _)
noncomputable def fRng1 (fa : FA) : FI := fun ρ S => (fa ρ S).bind fun ds S => match ds with
  | [.int j] => if cRng j then .ok ⟨rng 0 j, none⟩ S else .stuck
  | _ => .stuck
theorem ri_rng {Z φ : List Addr} {S : Store} {H : Hp} {lo hi : Int} : RI X.K X.mg Z φ S H ⟨rng lo hi, none⟩ (Itr lo (hi - lo).toNat) := fun i Z' φ' S' H' hZ R hp hs ok => by
  refine ⟨fun d hd => ?_, fun hl => ?_⟩
  · unfold rng at hd
    rw [List.getElem?_map] at hd
    have hi' : i < (hi - lo).toNat := by
      cases q : (List.range (hi - lo).toNat)[i]? with
      | none => rw [q] at hd; cases hd
      | some j => have := (List.getElem?_eq_some_iff.mp q).1; simpa using this
    rw [List.getElem?_range hi'] at hd
    cases hd
    refine ⟨hi', fun x H'' y => ?_⟩
    obtain ⟨rfl, rfl⟩ := y
    exact ⟨R, Evo.refl, dat_int _⟩
  · show (hi - lo).toNat ≤ i
    simpa [rng] using hl
theorem datL1 {φ : List Addr} {G : Hp} {d : D} {vs : List V} (h : DatL X.K X.mg φ G [d] vs) : ∃ v, vs = [v] ∧ Dat X.K X.mg φ G d v := by
  obtain ⟨v, r, rfl, h1, h2⟩ := h.uncons
  unfold DatL at h2
  subst h2
  exact ⟨v, rfl, h1⟩
theorem datL2 {φ : List Addr} {G : Hp} {d e : D} {vs : List V} (h : DatL X.K X.mg φ G [d, e] vs) : ∃ v u, vs = [v, u] ∧ Dat X.K X.mg φ G d v ∧ Dat X.K X.mg φ G e u := by
  obtain ⟨v, r, rfl, h1, h2⟩ := h.uncons
  obtain ⟨u, rfl, h3⟩ := datL1 h2
  exact ⟨v, u, rfl, h1, h3⟩
theorem dInt {φ : List Addr} {G : Hp} {i : Int} {v : V} (h : Dat X.K X.mg φ G (.int i) v) : v = .int i := by
  unfold Dat at h
  exact h
theorem dStr {φ : List Addr} {G : Hp} {i : Str} {v : V} (h : Dat X.K X.mg φ G (.str i) v) : v = .str i := by
  unfold Dat at h
  exact h
theorem di_range1 {a : Expr} {fa : FA} (hg : Gl X "range") (hm : X.mg "range" = none) (ha : DA X W [a] fa) (hs : starEach [a] X.env = [(false, eval a X.env)] := by rfl) : DI X W tg (.Call (.Name "range" p) [a] [] pos) (fRng1 fa) := by
  obtain ⟨t, p, q⟩ := ha.ex
  refine .mk (pi_range1 hg hm p hs) fun Z φ S ρ σ H R R0 sl w => q Z φ S ρ σ H _ R0 sl (w.bind fun ds S1 vs φ1 H1 R1 E1 d w1 => ?_)
  split at w1
  · rename_i j
    obtain ⟨v, rfl, h1⟩ := datL1 d
    cases dInt h1
    by_cases hc : cRng j = true
    · simp only [hc, if_true] at w1
      unfold cRng at hc
      simp only [Bool.and_eq_true, decide_eq_true_eq] at hc
      refine ⟨j, rfl, hc.1, hc.2, w1 _ _ _ R1 Evo.refl ?_⟩
      have z := ri_rng (X := X) (Z := Z) (φ := φ1) (S := S1) (H := H1) (lo := 0) (hi := j)
      rw [Int.sub_zero] at z
      exact z
    · simp only [hc] at w1
      exact w1.elim
  · exact w1.elim
/-- enumerate(list) -/
def enumD : Nat → List D → List D
  | _, [] => []
  | n, d :: ds => .tup [.int (n : Nat), d] :: enumD (n + 1) ds
def fEnum (fa : FA) : FI := fun ρ S => (fa ρ S).bind fun ds S => match ds with
  | [.lst ds] => .ok ⟨enumD 0 ds, none⟩ S
  | [d] => match asL S d with
    | some ds => .ok ⟨enumD 0 ds, some (d, ds)⟩ S
    | none => .stuck
  | _ => .stuck
end

/-! ### the context of a body -/
structure Cn (X : Cx) (W : WX) (k : Nat) : Prop where
  room : Room k X.A
  gd : X.A.guards = some []
  calm : X.calm = true
  nd : X.N.Nodup
  po : PassesOwn (model X.prog X.w) X.A X.env X.xe
  tk : L2N.Takes X W
abbrev W0 : WX := fun _ _ _ _ => False
theorem takes0N {X : Cx} : L2N.Takes X W0 := fun _ _ ⟨_, _, _, _, _, _, _, _, _, _, _, _, _, _, _, _, h⟩ => h.elim

/-! ### statements -/
section
variable {X : Cx} {W : WX} {pos : Pos} {st : Stmt} {sts : List Stmt} {g g' : FS} {e : Expr} {fe : FE} {k : Nat}
def gNil : FS := fun ρ S => .nx ρ S
def Out.seq (o : Out) (k : EnvD → Store → Out) : Out := match o with
  | .nx ρ S => k ρ S
  | o => o
@[simp] theorem Out.seq_nx (ρ : EnvD) (S : Store) (k : EnvD → Store → Out) : (Out.nx ρ S).seq k = k ρ S := rfl
@[simp] theorem Out.seq_rt (d : D) (S : Store) (k : EnvD → Store → Out) : (Out.rt d S).seq k = .rt d S := rfl
@[simp] theorem Out.seq_bk (ρ : EnvD) (S : Store) (k : EnvD → Store → Out) : (Out.bk ρ S).seq k = .bk ρ S := rfl
@[simp] theorem Out.seq_ct (ρ : EnvD) (S : Store) (k : EnvD → Store → Out) : (Out.ct ρ S).seq k = .ct ρ S := rfl
@[simp] theorem Out.seq_ex (C fs) (ρ : EnvD) (S : Store) (k : EnvD → Store → Out) : (Out.ex C fs ρ S).seq k = .ex C fs ρ S := rfl
@[simp] theorem Out.seq_stuck (k : EnvD → Store → Out) : (Out.stuck).seq k = .stuck := rfl
def gSeq (g g' : FS) : FS := fun ρ S => (g ρ S).seq g'
theorem dss_nil : DSs X W [] gNil := .mk pss_nil fun Z φ S ρ σ H Dd R sl w => w σ φ H R Evo.refl sl
theorem dss_one (h : DS X W st g) : DSs X W [st] g := by
  obtain ⟨t, p, q⟩ := h.ex
  exact .mk (pss_one p) q
theorem dss_cons (h : DS X W st g) (r : DSs X W sts g') : DSs X W (st :: sts) (gSeq g g') := by
  obtain ⟨t, p, q⟩ := h.ex
  obtain ⟨u, p', q'⟩ := r.ex
  refine .mk (pss_cons p p') fun Z φ S ρ σ H Dd R sl w => q Z φ S ρ σ H _ R sl ?_
  unfold gSeq at w
  cases hr : g ρ S with
  | nx ρ1 S1 =>
    rw [hr] at w
    exact fun σ1 φ1 H1 R1 E1 sl1 => q' Z φ1 S1 ρ1 σ1 H1 Dd R1 sl1 (w.go E1)
  | _ => rw [hr] at w; exact w
theorem ds_continue : DS X W (.Continue pos) (fun ρ S => .ct ρ S) := .mk ps_continue fun Z φ S ρ σ H Dd R sl w => w σ φ H R Evo.refl sl
def gExpr (fe : FE) : FS := fun ρ S => (fe ρ S).into ρ fun _ S => .nx ρ S
theorem ds_expr (he : DE X W e fe) (hs : swapsWith e none pos.line X.env = pure false := by rfl) : DS X W (.Expr e pos) (gExpr fe) := by
  obtain ⟨t, p, q⟩ := he.ex
  exact .mk (ps_expr p hs) fun Z φ S ρ σ H Dd R sl w => q Z φ S ρ σ H _ R sl (w.into sl fun d S1 v φ1 H1 R1 E1 dd w1 => w1 σ φ1 H1 R1 Evo.refl (sl.evo E1))
def gRet (fe : FE) : FS := fun ρ S => (fe ρ S).into ρ fun d S => .rt d S
theorem ds_ret (he : DE X W e fe) : DS X W (.Return (some e) pos) (gRet fe) := by
  obtain ⟨t, p, q⟩ := he.ex
  exact .mk (ps_ret p) fun Z φ S ρ σ H Dd R sl w => q Z φ S ρ σ H _ R sl (w.into sl fun d S1 v φ1 H1 R1 E1 dd w1 => w1 v φ1 H1 R1 Evo.refl dd)
def gIf (c : FT) (g g' : FS) : FS := fun ρ S => (c ρ S).into ρ fun k S => if k then g ρ S else g' ρ S
theorem ds_if {c : Expr} {fc : FT} {a b : List Stmt} (hc : DT X W c fc) (ha : DSs X W a g) (hb : DSs X W b g') : DS X W (.If c a b pos) (gIf fc g g') := by
  obtain ⟨t, p, q⟩ := hc.ex
  obtain ⟨ta, pa, qa⟩ := ha.ex
  obtain ⟨tb, pb, qb⟩ := hb.ex
  refine .mk (ps_if p pa pb) fun Z φ S ρ σ H Dd R sl w => q Z φ S ρ σ H _ R sl (w.into sl fun k S1 k' φ1 H1 R1 E1 e w1 => ?_)
  cases e
  cases k with
  | true => exact iteT (qa Z φ1 S1 ρ σ H1 Dd R1 (sl.evo E1) w1)
  | false => exact iteF (qb Z φ1 S1 ρ σ H1 Dd R1 (sl.evo E1) w1)
/-- name = value -/
def gSet (i : Nat) (fe : FE) : FS := fun ρ S => (fe ρ S).into ρ fun d S => .nx (ρ.set i (some d)) S
theorem ds_setP {i : Nat} {x : Str} {pos' : Pos} (hp : ∀ t, PE X e t → PS X (.Assign [.Name x pos'] e pos) (tAsg t (L2.gName i))) (he : DE X W e fe) : DS X W (.Assign [.Name x pos'] e pos) (gSet i fe) := by
  obtain ⟨t, p, q⟩ := he.ex
  exact .mk (hp _ p) fun Z φ S ρ σ H Dd R sl w => q Z φ S ρ σ H _ R sl (w.into sl fun d S1 v φ1 H1 R1 E1 dd w1 => w1 _ φ1 H1 R1 Evo.refl ((sl.evo E1).set dd))
theorem ds_set (C : Cn X W k) {i : Nat} {x : Str} {pos' : Pos} (hi : X.N[i]? = some x) (hx : Loc X.env.scope x) (he : DE X W e fe) (hs : swapsWith e (some (.Name x pos')) pos.line X.env = pure false := by rfl)
    (hf : X.fn x = true ∨ X.env.scope.names.lookup x = some .local := by first | exact .inl rfl | exact .inr rfl) : DS X W (.Assign [.Name x pos'] e pos) (gSet i fe) :=
  ds_setP (fun _ p => ps_set C.nd hi hx p hs hf) he
/-- target = value -/
def gAsg (m : FG) (fe : FE) : FS := fun ρ S => (fe ρ S).into ρ fun d S => match m d ρ S with
  | some ρ => .nx ρ S
  | none => .stuck
theorem ds_asg {tg : Expr} {is : List Nat} {m : FG} (he : DE X W e fe) (hg : DG X tg is m) (hs : swapsWithSole [tg] e pos.line X.env = pure false := by rfl) (hw : swappedStores [tg] e X.env = pure none := by rfl)
    (h1 : (assignEach [tg] X.env).map (·.2) = [assign tg X.env] := by rfl) : DS X W (.Assign [tg] e pos) (gAsg m fe) := by
  obtain ⟨t, p, q⟩ := he.ex
  refine .mk (ps_asg p hg hs hw h1) fun Z φ S ρ σ H Dd R sl w => q Z φ S ρ σ H _ R sl (w.into sl fun d S1 v φ1 H1 R1 E1 dd w1 => ?_)
  cases hm : m d ρ S1 with
  | none => rw [hm] at w1; exact w1.elim
  | some ρ1 =>
    rw [hm] at w1
    exact ⟨Z, φ1, S1, ρ, d, ρ1, R1, sl.evo E1, dd, hm, fun σ1 sl1 _ => w1 σ1 φ1 H1 R1 Evo.refl sl1⟩

/-! loops -/
open Classical in
noncomputable def loopF (c : Option (D × List D)) (m : FG) (body : FS) : List D → EnvD → Store → Out
  | [], ρ, S => if okC c S then .nx ρ S else .stuck
  | d :: ds, ρ, S => if okC c S then (match m d ρ S with
    | some ρ => (match body ρ S with
      | .nx ρ S => loopF c m body ds ρ S
      | .ct ρ S => loopF c m body ds ρ S
      | .bk ρ S => .nx ρ S
      | o => o)
    | none => .stuck) else .stuck
noncomputable def gFor (fi : FI) (m : FG) (body : FS) : FS := fun ρ S => (fi ρ S).into ρ fun it S => loopF it.chk m body it.items ρ S
theorem WantS.intoI {Z φ : List Addr} {S : Store} {H : Hp} {Dd : Ends} {r : Res ItD} {ρ : EnvD} {σ : L2.St} {k : ItD → Store → Out} {Q1 : It → Hp → Prop} (sl : Slots X.K X.mg φ (gnd Z φ S H) ρ σ) (h : WantS X W Z φ S H (r.into ρ k) Dd)
    (f : ∀ it S1 J φ1 H1, Rel X.K X.mg Z φ1 S1 H1 → Evo Z φ S H φ1 S1 H1 → RI X.K X.mg Z φ1 S1 H1 it J → WantS X W Z φ1 S1 H1 (k it S1) Dd → Q1 J H1) : WantI X.K X.mg Z φ S H r Q1 (WE W σ) := by
  cases r with
  | ok a S1 => exact fun b φ1 H1 r1 e1 d => f a S1 b φ1 H1 r1 e1 d (h.go e1)
  | ex C fs S1 => exact fun A dx φ1 H1 m r1 e1 d => h A dx σ φ1 H1 m r1 e1 (sl.evo e1) d
  | stuck => exact h
theorem ds_for (C : Cn X W k) {tg iter : Expr} {body : List Stmt} {fi : FI} {is : List Nat} {m : FG} (hi : DI X W tg iter fi) (hg : DG X tg is m) (hb : DSs X W body g) (hs : ∀ x, foldedSetIterable iter X.env x = pure x := by intro _; rfl) :
    DS X W (.For tg iter body [] pos) (gFor fi m g) := by
  obtain ⟨tb, pb, qb⟩ := hb.ex
  refine .mk (ps_for C.po C.calm hi hg pb hs) fun Z φ S ρ σ H Dd R sl w => DI.is Z φ S ρ σ H _ R sl (w.intoI sl fun it S1 J φ1 H1 R1 E1 rj w1 => ?_)
  refine ⟨fun i n σ' H' => n = it.items.length - i ∧ i ≤ it.items.length ∧ ∃ φ' S' ρ', Rel X.K X.mg Z φ' S' H' ∧ Evo Z φ1 S1 H1 φ' S' H' ∧ Slots X.K X.mg φ' (gnd Z φ' S' H') ρ' σ' ∧ WantS X W Z φ' S' H' (loopF it.chk m g (it.items.drop i) ρ' S') Dd,
    ⟨_, rfl, Nat.zero_le _, φ1, S1, ρ, R1, Evo.refl, sl.evo E1, w1⟩, ?_⟩
  rintro i n σ2 H2 ⟨rfl, hle, φ2, S2, ρ2, R2, E2, sl2, w2⟩
  by_cases hlt : i < it.items.length
  · obtain ⟨d, hd⟩ : ∃ d, it.items[i]? = some d := ⟨_, List.getElem?_eq_getElem hlt⟩
    have hdr : it.items.drop i = d :: it.items.drop (i + 1) := by
      rw [List.drop_eq_getElem_cons hlt]
      congr 1
      rw [List.getElem?_eq_getElem hlt] at hd
      exact Option.some.inj hd
    rw [hdr] at w2
    unfold loopF at w2
    by_cases hc : okC it.chk S2
    · rw [if_pos hc] at w2
      have rr := (rj i Z φ2 S2 H2 (fun _ h => h) R2 E2.pre E2.ext hc).1 d hd
      refine .inr ⟨rr.1, fun σ' H' => ∃ φ' S' ρ', Rel X.K X.mg Z φ' S' H' ∧ Evo Z φ1 S1 H1 φ' S' H' ∧ Slots X.K X.mg φ' (gnd Z φ' S' H') ρ' σ' ∧ WantS X W Z φ' S' H' (loopF it.chk m g (it.items.drop (i + 1)) ρ' S') Dd, fun σ' H' hN => ⟨_, by omega, rfl, hlt, hN⟩, fun x H3 y => ?_⟩
      obtain ⟨R3, E3, d3⟩ := rr.2 x H3 y
      cases hm : m d ρ2 S2 with
      | none => rw [hm] at w2; exact w2.elim
      | some ρ3 =>
        rw [hm] at w2
        refine ⟨Z, φ2, S2, ρ2, d, ρ3, R3, sl2.evo E3, d3, hm, fun σ3 sl3 _ => qb Z φ2 S2 ρ3 σ3 H3 _ R3 sl3 ?_⟩
        have w3 := w2.go E3
        cases hr : g ρ3 S2 with
        | nx ρ4 S4 =>
          simp only [hr] at w3
          exact fun σ4 φ4 H4 R4 E4 sl4 => ⟨φ4, S4, ρ4, R4, (E2.trans E3).trans E4, sl4, w3.go E4⟩
        | ct ρ4 S4 =>
          simp only [hr] at w3
          exact fun σ4 φ4 H4 R4 E4 sl4 => ⟨φ4, S4, ρ4, R4, (E2.trans E3).trans E4, sl4, w3.go E4⟩
        | bk ρ4 S4 =>
          simp only [hr] at w3
          exact w3
        | rt d4 S4 =>
          simp only [hr] at w3
          exact w3
        | ex C4 fs4 ρ4 S4 =>
          simp only [hr] at w3
          exact w3
        | stuck =>
          simp only [hr] at w3
          exact w3.elim
    · rw [if_neg hc] at w2
      exact w2.elim
  · have e : i = it.items.length := by omega
    subst e
    rw [List.drop_length] at w2
    unfold loopF at w2
    by_cases hc : okC it.chk S2
    · rw [if_pos hc] at w2
      exact .inl ⟨(rj _ Z φ2 S2 H2 (fun _ h => h) R2 E2.pre E2.ext hc).2 (Nat.le_refl _), w2 σ2 φ2 H2 R2 Evo.refl sl2⟩
    · rw [if_neg hc] at w2
      exact w2.elim
def whileF (c : FT) (body : FS) : Nat → EnvD → Store → Out
  | 0, _, _ => .stuck
  | n + 1, ρ, S => (c ρ S).into ρ fun k S => if k then (match body ρ S with
    | .nx ρ S => whileF c body n ρ S
    | .ct ρ S => whileF c body n ρ S
    | .bk ρ S => .nx ρ S
    | o => o) else .nx ρ S
theorem ds_while (C : Cn X W k) (fuel : Nat) {c : Expr} {fc : FT} {body : List Stmt} (hc : DT X W c fc) (hb : DSs X W body g) : DS X W (.While c body [] pos) (whileF fc g fuel) := by
  obtain ⟨tc, pc, qc⟩ := hc.ex
  obtain ⟨tb, pb, qb⟩ := hb.ex
  refine .mk (ps_while C.po pc pb) fun Z φ S ρ σ H Dd R sl w => ?_
  refine ⟨fun n σ' H' => ∃ φ' S' ρ', Rel X.K X.mg Z φ' S' H' ∧ Slots X.K X.mg φ' (gnd Z φ' S' H') ρ' σ' ∧ WantS X W Z φ' S' H' (whileF fc g n ρ' S') Dd, ⟨fuel, φ, S, ρ, R, sl, w⟩, ?_⟩
  rintro n σ2 H2 ⟨φ2, S2, ρ2, R2, sl2, w2⟩
  cases n with
  | zero => exact w2.elim
  | succ n =>
    unfold whileF at w2
    refine qc Z φ2 S2 ρ2 σ2 H2 _ R2 sl2 (w2.into sl2 fun k S3 k' φ3 H3 R3 E3 e w3 => ?_)
    cases e
    cases k with
    | false => exact iteF (w3 σ2 φ3 H3 R3 Evo.refl (sl2.evo E3))
    | true =>
      refine iteT ⟨fun σ' H' => ∃ φ' S' ρ', Rel X.K X.mg Z φ' S' H' ∧ Slots X.K X.mg φ' (gnd Z φ' S' H') ρ' σ' ∧ WantS X W Z φ' S' H' (whileF fc g n ρ' S') Dd, fun σ' H' hN => ⟨n, Nat.lt_succ_self _, hN⟩, qb Z φ3 S3 ρ2 σ2 H3 _ R3 (sl2.evo E3) ?_⟩
      simp only [if_true] at w3
      cases hr : g ρ2 S3 with
      | nx ρ4 S4 =>
        simp only [hr] at w3
        exact fun σ4 φ4 H4 R4 E4 sl4 => ⟨φ4, S4, ρ4, R4, sl4, w3.go E4⟩
      | ct ρ4 S4 =>
        simp only [hr] at w3
        exact fun σ4 φ4 H4 R4 E4 sl4 => ⟨φ4, S4, ρ4, R4, sl4, w3.go E4⟩
      | bk ρ4 S4 =>
        simp only [hr] at w3
        exact w3
      | rt d4 S4 =>
        simp only [hr] at w3
        exact w3
      | ex C4 fs4 ρ4 S4 =>
        simp only [hr] at w3
        exact w3
      | stuck =>
        simp only [hr] at w3
        exact w3.elim
end
end DL

/-! The data layer, part 5: comprehensions; defs, their calls; the law's end. -/
namespace DL
open PySem L2

def Res.noEx {α : Type} (r : Res α) : Res α := match r with
  | .ok a S => .ok a S
  | _ => .stuck
@[simp] theorem Res.noEx_ok {α : Type} (a : α) (S : Store) : (Res.ok a S).noEx = .ok a S := rfl
section
variable {K : PySem.W.Frag} {mg : Str → Option Value} {Z φ φ1 φ' φ2 : List Addr} {S S1 S' S2 : Store} {H H1 H' H2 : Hp} {p : Addr}
/-! hidden addresses -/
theorem gnd_hide : Same (gnd (p :: Z) φ S H) (gnd Z φ S H) := fun a o h => by
  obtain ⟨h1, h2⟩ := without_some.mp h
  exact without_some.mpr ⟨fun q => h1 (List.mem_cons_of_mem _ q), h2⟩
theorem Evo.hideExt (e : Evo Z φ1 S1 H1 φ S H) (hp : H1 p = none) : Same (gnd Z φ1 S1 H1) (gnd (p :: Z) φ S H) := fun a o h => by
  have q := (without_some.mp h).2
  obtain ⟨h1, h2⟩ := without_some.mp (e.ext a o h)
  refine without_some.mpr ⟨fun z => ?_, h2⟩
  rcases List.mem_cons.mp z with z | z
  · rw [z, hp] at q
    cases q
  · exact h1 z
theorem Evo.hide (e : Evo Z φ1 S1 H1 φ S H) (hp : H1 p = none) (f : Evo (p :: Z) φ S H φ2 S2 H2) : Evo Z φ1 S1 H1 φ2 S2 H2 := by
  refine ⟨e.pre.trans f.pre, ((e.hideExt hp).trans f.ext).trans gnd_hide, fun c o h n => ?_, fun c h hn => ?_⟩
  · exact f.out c o (e.out c o h n) fun q => n (e.lv c q (by rw [h]; exact fun z => nomatch z))
  · by_cases q : c ∈ liveA φ1 S1
    · exact q
    · obtain ⟨o, ho⟩ := Option.ne_none_iff_exists'.mp hn
      exact e.lv c (f.lv c h (by rw [e.out c o ho q]; exact fun z => nomatch z)) hn
theorem Rel.unhide (R : Rel K mg (p :: Z) φ S H) : Rel K mg Z φ S H :=
  ⟨R.len, R.nd, fun a h q => R.zd a h (List.mem_cons_of_mem _ q), fun a h => R.zh a (List.mem_cons_of_mem _ h), R.ph, fun n a o h1 h2 => (R.ob n a o h1 h2).mono (List.prefix_refl _) gnd_hide fun _ z => z⟩
/-- a new object is hidden -/
theorem Rel.hidden (R : Rel K mg Z φ S H) (hp : H p = none) {o : HO} : Rel K mg (p :: Z) φ S (upd H p o) := by
  obtain ⟨r, e, g⟩ := R.fresh (o := o) hp
  have pφ : p ∉ φ := fun q => R.ph p q hp
  have eg : gnd (p :: Z) φ S (upd H p o) = gnd Z φ S H := by
    funext a
    by_cases ha : a = p
    · subst ha
      have h1 : gnd (a :: Z) φ S (upd H a o) a = none := by
        unfold gnd without
        rw [if_pos (List.mem_append_left _ List.mem_cons_self)]
      have h2 : gnd Z φ S H a = none := by
        unfold gnd without
        rw [hp]
        split <;> rfl
      rw [h1, h2]
    · unfold gnd without
      rw [upd_ne ha]
      by_cases hq : a ∈ Z ++ liveA φ S
      · rw [if_pos hq, if_pos (by rw [List.cons_append]; exact List.mem_cons_of_mem _ hq)]
      · rw [if_neg hq, if_neg (by rw [List.cons_append]; exact fun z => (List.mem_cons.mp z).elim ha hq)]
  refine ⟨R.len, R.nd, fun a h q => ?_, fun a h => ?_, r.ph, fun n a u h1 h2 => ?_⟩
  · rcases List.mem_cons.mp q with z | z
    · rw [z] at h
      exact pφ h
    · exact R.zd a h z
  · rcases List.mem_cons.mp h with z | z
    · rw [z, upd_same]
      exact fun q => nomatch q
    · exact r.zh a z
  · rw [eg]
    refine (R.ob n a u h1 h2).mono (List.prefix_refl _) (Same.refl _) fun ob z => ?_
    rw [upd_ne (ne_of_none z hp)]
    exact z
/-- a hidden object changes -/
theorem Rel.hidMut (R : Rel K mg (p :: Z) φ S H) {o : HO} : Rel K mg (p :: Z) φ S (upd H p o) ∧ gnd (p :: Z) φ S (upd H p o) = gnd (p :: Z) φ S H := by
  have eg : gnd (p :: Z) φ S (upd H p o) = gnd (p :: Z) φ S H := by
    funext a
    unfold gnd without
    by_cases ha : a = p
    · rw [ha, if_pos (List.mem_append_left _ List.mem_cons_self), if_pos (List.mem_append_left _ List.mem_cons_self)]
    · rw [upd_ne ha]
  have some_of : ∀ b, H b ≠ none → upd H p o b ≠ none := fun b h => by
    by_cases hb : b = p
    · subst hb
      rw [upd_same]
      exact fun z => nomatch z
    · rw [upd_ne hb]
      exact h
  refine ⟨⟨R.len, R.nd, R.zd, fun b h => some_of b (R.zh b h), fun b h => some_of b (R.ph b h), fun n a u h1 h2 => ?_⟩, eg⟩
  rw [eg]
  refine (R.ob n a u h1 h2).mono (List.prefix_refl _) (Same.refl _) fun ob z => ?_
  rw [upd_ne]
  · exact z
  · intro q
    rw [q] at h1
    exact R.zd p (List.mem_of_getElem? h1) List.mem_cons_self
theorem Evo.hidMut (e : Evo Z φ1 S1 H1 φ S H) (hp : H1 p = none) {o : HO} : Evo Z φ1 S1 H1 φ S (upd H p o) := by
  refine ⟨e.pre, fun a u h => ?_, fun a u h n => ?_, e.lv⟩
  · have q := (without_some.mp h).2
    obtain ⟨h1, h2⟩ := without_some.mp (e.ext a u h)
    refine without_some.mpr ⟨h1, ?_⟩
    rw [upd_ne (ne_of_none q hp)]
    exact h2
  · rw [upd_ne (ne_of_none h hp)]
    exact e.out a u h n
/-- the hidden list becomes an object of the store -/
theorem Rel.shown (R : Rel K mg (p :: Z) φ S H) (pZ : p ∉ Z) {ds : List D} {vs : List V} (hp : H p = some (.lst vs)) (hd : DatL K mg φ (gnd (p :: Z) φ S H) ds vs) :
    Rel K mg Z (φ ++ [p]) (S ++ [.lst ds]) H ∧ gnd Z (φ ++ [p]) (S ++ [.lst ds]) H = gnd (p :: Z) φ S H := by
  have pφ : p ∉ φ := fun q => R.zd p q List.mem_cons_self
  have lv : liveA (φ ++ [p]) (S ++ [.lst ds]) = liveA φ S ++ [p] := by rw [liveA_snoc R.len]; rfl
  have eg : gnd Z (φ ++ [p]) (S ++ [.lst ds]) H = gnd (p :: Z) φ S H := by
    funext a
    unfold gnd without
    rw [lv]
    by_cases q : a ∈ p :: Z ++ liveA φ S
    · rw [if_pos q, if_pos]
      rw [List.cons_append] at q
      rcases List.mem_cons.mp q with z | z
      · exact List.mem_append_right _ (List.mem_append_right _ (by rw [z]; exact List.mem_singleton.mpr rfl))
      · rcases List.mem_append.mp z with z | z
        · exact List.mem_append_left _ z
        · exact List.mem_append_right _ (List.mem_append_left _ z)
    · rw [if_neg q, if_neg]
      intro z
      refine q ?_
      rw [List.cons_append]
      rcases List.mem_append.mp z with z | z
      · exact List.mem_cons_of_mem _ (List.mem_append_left _ z)
      · rcases List.mem_append.mp z with z | z
        · exact List.mem_cons_of_mem _ (List.mem_append_right _ z)
        · rw [List.mem_singleton.mp z]
          exact List.mem_cons_self
  refine ⟨⟨by rw [List.length_append, List.length_append, R.len]; rfl, List.nodup_append.mpr ⟨R.nd, by simp, fun a ha b hb => ?_⟩, fun a ha q => ?_, fun a h => R.zh a (List.mem_cons_of_mem _ h), fun a ha => ?_, fun n a o h1 h2 => ?_⟩, eg⟩
  · rw [List.mem_singleton.mp hb]
    intro z
    rw [z] at ha
    exact pφ ha
  · rcases List.mem_append.mp ha with z | z
    · exact R.zd a z (List.mem_cons_of_mem _ q)
    · rw [List.mem_singleton.mp z] at q
      exact pZ q
  · rcases List.mem_append.mp ha with z | z
    · exact R.ph a z
    · rw [List.mem_singleton.mp z, hp]
      exact fun q => nomatch q
  · rw [eg]
    by_cases hlt : n < φ.length
    · rw [List.getElem?_append_left hlt] at h1
      rw [List.getElem?_append_left (by rw [← R.len]; exact hlt)] at h2
      exact (R.ob n a o h1 h2).mono ⟨[p], rfl⟩ (Same.refl _) fun _ z => z
    · have hlt' : φ.length ≤ n := Nat.le_of_not_lt hlt
      rw [List.getElem?_append_right hlt'] at h1
      rw [List.getElem?_append_right (by rw [← R.len]; exact hlt')] at h2
      have e0 : n - φ.length = 0 := by
        have := (List.getElem?_eq_some_iff.mp h1).1
        simp only [List.length_singleton] at this
        omega
      rw [← R.len] at h2
      rw [e0] at h1 h2
      cases h1
      cases h2
      exact ⟨vs, hp, DatL.mono ⟨[p], rfl⟩ (Same.refl _) _ _ hd⟩
end

/-! ### comprehensions -/
open Classical in
noncomputable def compF (c : Option (D × List D)) (m : FG) (ft : FT) (fe : FE) : List D → EnvD → Store → Res (List D)
  | [], _, S => if okC c S then .ok [] S else .stuck
  | d :: ds, ρ, S => if okC c S then (match m d ρ S with
    | some ρ1 => (ft ρ1 S).noEx.bind fun b S => if b then (fe ρ1 S).noEx.bind fun y S => (compF c m ft fe ds ρ S).bind fun ys S => .ok (y :: ys) S else compF c m ft fe ds ρ S
    | none => .stuck) else .stuck
def wipeD (ρ : EnvD) : List Nat → EnvD
  | [] => ρ
  | v :: vs => (wipeD ρ vs).set v none
theorem slots_wipe {K : PySem.W.Frag} {mg : Str → Option Value} {φ : List Addr} {G : Hp} {ρ : EnvD} {σ : L2.St} (h : Slots K mg φ G ρ σ) : ∀ vs : List Nat, Slots K mg φ G (wipeD ρ vs) (wipe σ vs)
  | [] => h
  | v :: vs => by
    obtain ⟨a, b⟩ := slots_wipe h vs
    unfold wipeD wipe
    refine ⟨by rw [List.length_set, List.length_set, a], fun i d q => ?_⟩
    by_cases hi : v = i
    · subst hi
      have hl := (List.getElem?_eq_some_iff.mp q).1
      rw [List.length_set] at hl
      rw [List.getElem?_set_self hl] at q
      cases q
    · rw [List.getElem?_set_ne hi] at q
      obtain ⟨u, h1, h2⟩ := b i d q
      exact ⟨u, by rw [List.getElem?_set_ne hi]; exact h1, h2⟩
abbrev Fin' := List D → Store → Res D
noncomputable def fComp (fi : FI) (m : FG) (ft : FT) (fe : FE) (own : List Nat) (fin : Fin') : FE := fun ρ S => (fi ρ S).bind fun it S => (compF it.chk m ft fe it.items (wipeD ρ own) S).bind fin
def finL : Fin' := fun ds S => if short ds.length then .ok (.lst ds) S else .stuck
/-- what an end must be -/
def FinOk (fin : Fin') : Prop := (∀ ds S, fin ds S ≠ .stuck → ds.length ≤ sizeLine) ∧ ∀ (K : PySem.W.Frag) (mg : Str → Option Value) (Z φ1 φ : List Addr) (S1 S : Store) (H1 H : Hp) (p : Addr) (ds : List D) (vs : List V) (Q : VK) (E : XK),
  Rel K mg (p :: Z) φ S H → Evo Z φ1 S1 H1 φ S H → H1 p = none → p ∉ Z → H p = some (.lst vs) → DatL K mg φ (gnd (p :: Z) φ S H) ds vs → Want K mg (RDat K mg) Z φ1 S1 H1 (fin ds S) Q E → Q (.ref p) H
theorem finL_ok : FinOk finL := by
  refine ⟨fun ds S h => ?_, fun K mg Z φ1 φ S1 S H1 H p ds vs Q E R e hp pZ hH hd w => ?_⟩
  · unfold finL at h
    by_cases q : short ds.length = true
    · exact of_decide_eq_true q
    · rw [if_neg q] at h
      exact absurd rfl h
  · unfold finL at w
    by_cases q : short ds.length = true
    · rw [if_pos q] at w
      refine w _ φ H R.unhide e ?_
      unfold RDat Dat
      refine ⟨p, vs, rfl, without_some.mpr ⟨fun z => ?_, hH⟩, DatL.mono (List.prefix_refl _) gnd_hide _ _ hd⟩
      rcases List.mem_append.mp z with z | z
      · exact pZ z
      · exact R.zd p (liveA_sub z) List.mem_cons_self
    · rw [if_neg q] at w
      exact w.elim
section
variable {X : Cx} {W : WX} {k : Nat}
theorem Want.noEx {α β : Type} {Z φ : List Addr} {S : Store} {H : Hp} {R : List Addr → Hp → α → β → Prop} {r : Res α} {Q : β → Hp → Prop} {E : XK} (hn : r.noEx ≠ .stuck)
    (f : ∀ a S1 b φ1 H1, r = .ok a S1 → Rel X.K X.mg Z φ1 S1 H1 → Evo Z φ S H φ1 S1 H1 → R φ1 (gnd Z φ1 S1 H1) a b → Q b H1) : Want X.K X.mg R Z φ S H r Q E := by
  cases r with
  | ok a S1 => exact fun b φ1 H1 r1 e1 d => f a S1 b φ1 H1 rfl r1 e1 d
  | _ => exact absurd rfl hn
theorem isE_lc {fi : FI} {is : List Nat} {m : FG} {ft : FT} {fe : FE} {own : List Nat} {fin : Fin'} (hf : FinOk fin) (hio : ∀ i ∈ is, i ∈ own) :
    IsE X W (tLc (tDI X.K X.mg W fi) (tG X.K X.mg is m) (tDT X.K X.mg W0 ft) (tD X.K X.mg W0 fe) own) (fComp fi m ft fe own fin) := fun Z φ S ρ σ H Q R sl w => by
  have wi : WantI X.K X.mg Z φ S H (fi ρ S) (fun J H1 => ∀ D, H1 D = none → ∃ W : Nat → Nat → Hp → Prop, (∃ m, W 0 m (upd H1 D (.lst []))) ∧ ∀ i mm H, W i mm H →
      (J.stop i H ∧ Q (.ref D) H) ∨ (J.go i H ∧ ∃ Nx : Hp → Prop, (∀ H', Nx H' → ∃ m', m' < mm ∧ W (i + 1) m' H') ∧ ∀ x H', J.yld i H x H' → tG X.K X.mg is m x (wipe σ own) H' fun σ2 H2 => wipe σ2 own = wipe σ own ∧ tDT X.K X.mg W0 ft σ2 H2 fun b H3 =>
        if b = true then tD X.K X.mg W0 fe σ2 H3 fun y H4 => ∃ acc, H4 D = some (.lst acc) ∧ acc.length < sizeLine ∧ Nx (upd H4 D (.lst (acc ++ [y]))) else Nx H3)) (WE W σ) := by
    have aux : ∀ it S1 J φ1 H1, Rel X.K X.mg Z φ1 S1 H1 → Evo Z φ S H φ1 S1 H1 → RI X.K X.mg Z φ1 S1 H1 it J → Want X.K X.mg (RDat X.K X.mg) Z φ1 S1 H1 ((compF it.chk m ft fe it.items (wipeD ρ own) S1).bind fin) Q (WE W σ) →
        ∀ D, H1 D = none → ∃ W : Nat → Nat → Hp → Prop, (∃ m, W 0 m (upd H1 D (.lst []))) ∧ ∀ i mm H, W i mm H →
      (J.stop i H ∧ Q (.ref D) H) ∨ (J.go i H ∧ ∃ Nx : Hp → Prop, (∀ H', Nx H' → ∃ m', m' < mm ∧ W (i + 1) m' H') ∧ ∀ x H', J.yld i H x H' → tG X.K X.mg is m x (wipe σ own) H' fun σ2 H2 => wipe σ2 own = wipe σ own ∧ tDT X.K X.mg W0 ft σ2 H2 fun b H3 =>
        if b = true then tD X.K X.mg W0 fe σ2 H3 fun y H4 => ∃ acc, H4 D = some (.lst acc) ∧ acc.length < sizeLine ∧ Nx (upd H4 D (.lst (acc ++ [y]))) else Nx H3) := by
      intro it S1 J φ1 H1 R1 E1 rj w1 p hp
      have pZ : p ∉ Z := fun q => R1.zh p q hp
      let Inv' : Nat → Hp → Prop := fun i H' => ∃ φ' S' acc vs, Rel X.K X.mg (p :: Z) φ' S' H' ∧ Evo Z φ1 S1 H1 φ' S' H' ∧ H' p = some (.lst vs) ∧ DatL X.K X.mg φ' (gnd (p :: Z) φ' S' H') acc vs ∧
        Want X.K X.mg (RDat X.K X.mg) Z φ1 S1 H1 ((compF it.chk m ft fe (it.items.drop i) (wipeD ρ own) S').bind fun ys S => fin (acc ++ ys) S) Q (WE W σ)
      refine ⟨fun i n H' => n = it.items.length - i ∧ i ≤ it.items.length ∧ Inv' i H', ⟨_, rfl, Nat.zero_le _, φ1, S1, [], [], R1.hidden hp, ?_, upd_same, DatL.nil, w1⟩, ?_⟩
      · exact (Evo.refl (Z := Z) (φ := φ1) (S := S1) (H := H1)).hidMut hp
      rintro i n H2 ⟨rfl, hle, φ2, S2, acc, vs, R2, E2, hH2, dv, w2⟩
      have slw : Slots X.K X.mg φ2 (gnd (p :: Z) φ2 S2 H2) (wipeD ρ own) (wipe σ own) := by
        refine slots_wipe ⟨sl.1, fun j d q => ?_⟩ own
        obtain ⟨u, h1, h2⟩ := sl.2 j d q
        exact ⟨u, h1, Dat.mono (E1.pre.trans E2.pre) (E1.ext.trans (E2.hideExt hp)) _ _ h2⟩
      by_cases hlt : i < it.items.length
      · obtain ⟨d, hd⟩ : ∃ d, it.items[i]? = some d := ⟨_, List.getElem?_eq_getElem hlt⟩
        have hdr : it.items.drop i = d :: it.items.drop (i + 1) := by
          rw [List.drop_eq_getElem_cons hlt]
          congr 1
          rw [List.getElem?_eq_getElem hlt] at hd
          exact Option.some.inj hd
        rw [hdr] at w2
        unfold compF at w2
        by_cases hc : okC it.chk S2
        · rw [if_pos hc] at w2
          have rr := (rj i (p :: Z) φ2 S2 H2 (fun _ h => List.mem_cons_of_mem _ h) R2 E2.pre (E2.hideExt hp) hc).1 d hd
          refine .inr ⟨rr.1, Inv' (i + 1), fun H' hN => ⟨_, by omega, rfl, hlt, hN⟩, fun x H3 y => ?_⟩
          obtain ⟨R3, E3, d3⟩ := rr.2 x H3 y
          cases hm : m d (wipeD ρ own) S2 with
          | none => rw [hm] at w2; exact w2.elim
          | some ρ3 =>
            simp only [hm] at w2
            refine ⟨p :: Z, φ2, S2, wipeD ρ own, d, ρ3, R3, slw.evo E3, d3, hm, fun σ3 sl3 hw => ⟨?_, p :: Z, φ2, S2, ρ3, R3, sl3, ?_⟩⟩
            · rw [hw own hio]
              have ww : ∀ vs : List Nat, (∀ i ∈ vs, i ∈ own) → wipe (wipe σ own) vs = wipe σ own := by
                intro vs
                induction vs with
                | nil => intro _; rfl
                | cons v vs ih =>
                  intro hv
                  show (wipe (wipe σ own) vs).set v none = wipe σ own
                  rw [ih fun i hi => hv i (List.mem_cons_of_mem _ hi)]
                  have hv' := hv v List.mem_cons_self
                  have gen : ∀ own : List Nat, v ∈ own → (wipe σ own).set v none = wipe σ own := by
                    intro own
                    induction own with
                    | nil => intro h; simp at h
                    | cons u us ih2 =>
                      intro h
                      unfold wipe
                      by_cases hu : v = u
                      · subst hu
                        rw [List.set_set]
                      · rw [List.set_comm _ _ (fun z => hu z.symm), ih2 ((List.mem_cons.mp h).resolve_left hu)]
                  exact gen own hv'
              exact ww own fun _ h => h
            have ev2 : Evo Z φ1 S1 H1 φ2 S2 H3 := E2.hide hp E3
            have stuckT : (ft ρ3 S2).noEx ≠ .stuck := fun z => by
              rw [z] at w2
              exact w2
            refine Want.noEx stuckT fun b S4 b' φ4 H4 hb R4 E4 eb => ?_
            cases eb
            rw [hb] at w2
            simp only [Res.noEx_ok, Res.bind_ok] at w2
            have ev4 := ev2.hide hp E4
            have hp3 : H3 p = some (.lst vs) := E3.out p _ hH2 fun q => R2.zd p (liveA_sub q) List.mem_cons_self
            have hp4 : H4 p = some (.lst vs) := E4.out p _ hp3 fun q => R3.zd p (liveA_sub q) List.mem_cons_self
            have dv4 := DatL.evo E4 (DatL.evo E3 dv)
            cases b with
            | false =>
              exact iteF ⟨φ4, S4, acc, vs, R4, ev4, hp4, dv4, w2⟩
            | true =>
              simp only [if_true] at w2
              refine iteT ⟨p :: Z, φ4, S4, ρ3, R4, sl3.evo E4, ?_⟩
              have stuckE : (fe ρ3 S4).noEx ≠ .stuck := fun z => by
                rw [z] at w2
                exact w2
              refine Want.noEx stuckE fun yd S5 yv φ5 H5 hy R5 E5 dy => ?_
              rw [hy] at w2
              simp only [Res.noEx_ok, Res.bind_ok] at w2
              have hp5 : H5 p = some (.lst vs) := E5.out p _ hp4 fun q => R4.zd p (liveA_sub q) List.mem_cons_self
              have dv5 := DatL.evo E5 dv4
              obtain ⟨R6, eg⟩ := R5.hidMut (o := .lst (vs ++ [yv]))
              have w3 : Want X.K X.mg (RDat X.K X.mg) Z φ1 S1 H1 ((compF it.chk m ft fe (it.items.drop (i + 1)) (wipeD ρ own) S5).bind fun ys S => fin ((acc ++ [yd]) ++ ys) S) Q (WE W σ) := by
                cases hq : compF it.chk m ft fe (it.items.drop (i + 1)) (wipeD ρ own) S5 with
                | ok ys S7 =>
                  rw [hq] at w2
                  simp only [Res.bind_ok] at w2 ⊢
                  rw [List.append_assoc]
                  exact w2
                | _ => rw [hq] at w2; exact w2
              refine ⟨vs, hp5, ?_, φ5, S5, acc ++ [yd], vs ++ [yv], R6, (ev4.hide hp E5).hidMut hp, upd_same, by rw [eg]; exact dv5.append (.cons dy DatL.nil), w3⟩
              cases hq : compF it.chk m ft fe (it.items.drop (i + 1)) (wipeD ρ own) S5 with
              | ok ys S7 =>
                rw [hq] at w3
                have ns : fin ((acc ++ [yd]) ++ ys) S7 ≠ .stuck := fun z => by
                  simp only [Res.bind_ok, z] at w3
                  exact w3
                have hl := hf.1 _ _ ns
                rw [dv5.length]
                simp only [List.length_append, List.length_singleton] at hl
                omega
              | ex C fs S7 =>
                exfalso
                have : ∀ (ds : List D) (ρ : EnvD) (S : Store) C fs S', compF it.chk m ft fe ds ρ S ≠ .ex C fs S' := by
                  intro ds
                  induction ds with
                  | nil =>
                    intro ρ S C fs S' z
                    unfold compF at z
                    split at z <;> cases z
                  | cons d ds ih =>
                    intro ρ S C fs S' z
                    unfold compF at z
                    split at z
                    · split at z
                      · rename_i ρ1 _
                        cases h1 : ft ρ1 S with
                        | ok b S2 =>
                          rw [h1] at z
                          simp only [Res.noEx_ok, Res.bind_ok] at z
                          cases b with
                          | false => exact ih _ _ _ _ _ z
                          | true =>
                            simp only [if_true] at z
                            cases h2 : fe ρ1 S2 with
                            | ok y S3 =>
                              rw [h2] at z
                              simp only [Res.noEx_ok, Res.bind_ok] at z
                              cases h3 : compF it.chk m ft fe ds ρ S3 with
                              | ex _ _ _ => exact ih _ _ _ _ _ h3
                              | _ => rw [h3] at z; cases z
                            | _ => rw [h2] at z; cases z
                        | _ => rw [h1] at z; cases z
                      · cases z
                    · cases z
                exact this _ _ _ _ _ _ hq
              | stuck =>
                rw [hq] at w3
                exact w3.elim
        · rw [if_neg hc] at w2
          exact w2.elim
      · have e : i = it.items.length := by omega
        subst e
        rw [List.drop_length] at w2
        unfold compF at w2
        by_cases hc : okC it.chk S2
        · rw [if_pos hc] at w2
          simp only [Res.bind_ok, List.append_nil] at w2
          exact .inl ⟨(rj _ (p :: Z) φ2 S2 H2 (fun _ h => List.mem_cons_of_mem _ h) R2 E2.pre (E2.hideExt hp) hc).2 (Nat.le_refl _), hf.2 X.K X.mg Z φ1 φ2 S1 S2 H1 H2 p acc vs Q _ R2 E2 hp pZ hH2 dv w2⟩
        · rw [if_neg hc] at w2
          exact w2.elim
    unfold fComp at w
    cases hr : fi ρ S with
    | ok it S1 =>
      rw [hr] at w
      exact fun J φ1 H1 R1 E1 rj => aux it S1 J φ1 H1 R1 E1 rj (w.go E1)
    | ex C fs S1 => rw [hr] at w; exact w
    | stuck => rw [hr] at w; exact w
  exact ⟨Z, φ, S, ρ, R, sl, wi⟩

/-! tests of a comprehension -/
def DTs (X : Cx) (W : WX) (ifs : List Expr) (ft : FT) : Prop := PTs X ifs (tDT X.K X.mg W ft)
def fYes : FT := fun _ S => .ok true S
theorem dts_nil : DTs X W [] fYes := ⟨fun pins s σ H Q I h => by
  obtain ⟨Z, φ, S, ρ, R, sl, w⟩ := h
  exact pts_nil.run pins s σ H Q I (w.now R rfl)⟩
theorem Cn.blk (C : Cn X W k) {s : Shared} {H : Hp} {scope : Scope} {ce : Env} {fp : List Addr} : Cn (X.blk s H scope ce fp) W0 k :=
  ⟨C.room, C.gd, C.calm, C.nd, PassesOwn.never, takes0N⟩
theorem de_lc (C : Cn X W k) {fin : Fin'} (hf : FinOk fin) {elt tg iter : Expr} {ifs : List Expr} {scope : Scope} {own : List (Str × Nat)} {pos : Pos} {fi : FI} {is : List Nat} {m : FG} {ft : FT} {fe : FE} (hi : DI X W tg iter fi) (ok : BlkOk X.N X.env.scope scope own)
    (hg : ∀ (s : Shared) (H : Hp) (C : Addr) (cl : List (Str × Addr)) (fp : List Addr), DG (X.blk s H scope (compEnvC scope cl C X.env) fp) tg is m) (ht : ∀ (s : Shared) (H : Hp) (C : Addr) (cl : List (Str × Addr)) (fp : List Addr), DTs (X.blk s H scope (compEnvC scope cl C X.env) fp) W0 ifs ft)
    (he : ∀ (s : Shared) (H : Hp) (C : Addr) (cl : List (Str × Addr)) (fp : List Addr), DE (X.blk s H scope (compEnvC scope cl C X.env) fp) W0 elt fe) (hio : ∀ i ∈ is, i ∈ own.map (·.2) := by decide) (hs : ∀ x, foldedSetIterable iter X.env x = pure x := by intro _; rfl) :
    DE X W (.ListComp elt [⟨tg, iter, ifs, 0⟩] scope pos) (fComp fi m ft fe (own.map (·.2)) fin) :=
  .mk (pe_lc (g := tG X.K X.mg is m) (tt := tDT X.K X.mg W0 ft) (te := tD X.K X.mg W0 fe) C.calm C.nd hi ok hg ht he hs) (isE_lc hf hio)
theorem ds_setOf {t : TE} {fe : FE} {e : Expr} {x : Str} {i : Nat} {pos pos' : Pos} (p : PS X (.Assign [.Name x pos'] e pos) (tAsg t (L2.gName i))) (q : IsE X W t fe) : DS X W (.Assign [.Name x pos'] e pos) (gSet i fe) :=
  .mk p fun Z φ S ρ σ H Dd R sl w => q Z φ S ρ σ H _ R sl (w.into sl fun d S1 v φ1 H1 R1 E1 dd w1 => w1 _ φ1 H1 R1 Evo.refl ((sl.evo E1).set dd))
theorem ds_setLc (C : Cn X W k) {fin : Fin'} (hf : FinOk fin) {i : Nat} {y : Str} {py spos : Pos} {elt tg iter : Expr} {ifs : List Expr} {scope : Scope} {own : List (Str × Nat)} {pos : Pos} {fi : FI} {is : List Nat} {m : FG} {ft : FT} {fe : FE} (hy : X.N[i]? = some y) (hyl : X.env.scope.names.lookup y = some .local)
    (hsw : swapsWith (.ListComp elt [⟨tg, iter, ifs, 0⟩] scope pos) (some (.Name y py)) spos.line X.env = pure true) (hi : DI X W tg iter fi) (ok : BlkOk X.N X.env.scope scope own)
    (hg : ∀ (s : Shared) (H : Hp) (C : Addr) (cl : List (Str × Addr)) (fp : List Addr), DG (X.blk s H scope (compEnvC scope cl C X.env) fp) tg is m) (ht : ∀ (s : Shared) (H : Hp) (C : Addr) (cl : List (Str × Addr)) (fp : List Addr), DTs (X.blk s H scope (compEnvC scope cl C X.env) fp) W0 ifs ft)
    (he : ∀ (s : Shared) (H : Hp) (C : Addr) (cl : List (Str × Addr)) (fp : List Addr), DE (X.blk s H scope (compEnvC scope cl C X.env) fp) W0 elt fe) (hio : ∀ i ∈ is, i ∈ own.map (·.2) := by decide) (hs : ∀ x, foldedSetIterable iter X.env x = pure x := by intro _; rfl) :
    DS X W (.Assign [.Name y py] (.ListComp elt [⟨tg, iter, ifs, 0⟩] scope pos) spos) (gSet i (fComp fi m ft fe (own.map (·.2)) fin)) :=
  ds_setOf (ps_setLc (g := tG X.K X.mg is m) (tt := tDT X.K X.mg W0 ft) (te := tD X.K X.mg W0 fe) C.calm C.nd hy hyl hsw hi ok hg ht he hs) (isE_lc hf hio)
end

/-! ### defs -/
/-- a def's promise; what is under way around it is known -/
structure FnG (P : Program) (w : World) (K : PySem.W.Frag) (mg : Str → Option Value) (base : Heap) (k : Nat) (f : Addr) (fd : FuncData) (ps : List Str) (sp : Sp) : Prop where
  len : ∀ vs H Q E, sp vs H Q E → vs.length = ps.length
  run : ∀ (A : Around) (outer : List Env) (s : Shared) (H : Hp) (args : Args) (us : List Value) (vs : List V) (Q : VK) (E : XK), Room k A → A.guards = some [] → Env0 P w K mg base A outer s H → BindsTo s fd args (ps.zip us) → Vals vs us → sp vs H Q E →
    codeAny (model P w) A (.call (.ref f) args) (CR (L2N.CX P w) outer P w H s Q E) s
abbrev Sem' := List D → Store → Res D
def spD (K : PySem.W.Frag) (mg : Str → Option Value) (n : Nat) (sem : Sem') : Sp := fun vs H Q E => vs.length = n ∧ ∃ Z φ S ds, Rel K mg Z φ S H ∧ DatL K mg φ (gnd Z φ S H) ds vs ∧ Want K mg (RDat K mg) Z φ S H (sem ds S) Q E
def startD (n : Nat) (ds : List D) : EnvD := ds.map some ++ List.replicate (n - ds.length) none
def Out.res (o : Out) : Res D := match o with
  | .nx _ S => .ok .non S
  | .rt d S => .ok d S
  | .ex C fs _ S => .ex C fs S
  | _ => .stuck
def semOf (n : Nat) (g : FS) : Sem' := fun ds S => (g (startD n ds) S).res
theorem slots_start {K : PySem.W.Frag} {mg : Str → Option Value} {φ : List Addr} {G : Hp} {N : List Str} {ds : List D} {vs : List V} (h : DatL K mg φ G ds vs) : Slots K mg φ G (startD N.length ds) (L2.start N vs) := by
  have hl := h.length
  unfold startD L2.start
  rw [hl]
  refine ⟨by simp [hl], fun i d q => ?_⟩
  by_cases hi : i < ds.length
  · rw [List.getElem?_append_left (by simpa using hi), List.getElem?_map] at q
    cases hq : ds[i]? with
    | none => rw [hq] at q; cases q
    | some e =>
      rw [hq] at q
      cases q
      obtain ⟨v, h1, h2⟩ := h.get hq
      exact ⟨v, by rw [List.getElem?_append_left (by simpa [hl] using hi), List.getElem?_map, h1]; rfl, h2⟩
  · rw [List.getElem?_append_right (by simpa using hi), List.getElem?_replicate] at q
    split at q <;> cases q
/-- THE RULE: a def by its body's mirror -/
theorem fnG {P : Program} {w : World} {K : PySem.W.Frag} {mg : Str → Option Value} {base : Heap} {x qual : Str} {params : Arguments} {body : List Stmt} {scope : Scope} {dvs : List V} {kws : List (Str × V)} {f : Addr} {fd : FuncData} {N ps : List Str} {k : Nat} {g : FS}
    (F : FunD K x qual params body scope dvs kws f fd) (S : FnScope N ps scope)
    (hb : ∀ (cdv : Value) (A : Around) (outer : List Env) (s : Shared) (H : Hp) (E : XK), Cn (cxOf (L2N.CX P w) P w K mg base N qual scope f cdv A outer s H E) (fun c d _ H' => E c d H') k →
      DSs (cxOf (L2N.CX P w) P w K mg base N qual scope f cdv A outer s H E) (fun c d _ H' => E c d H') body g) : FnG P w K mg base (k + 1) f fd ps (spD K mg ps.length (semOf N.length g)) := by
  obtain ⟨oc, od, dV, kV, doc, pm, an, cdv, ct, osl, rfl, lk, hcd, _, _⟩ := F.ex
  refine ⟨fun vs H Q E h => h.1, fun A outer s H args us vs Q E hr hgd e0 hbd r hsp => ?_⟩
  have hl : us.length = ps.length := r.length.symm.trans hsp.1
  have keep : ∀ b o, base.get? b = some o → s.heap.get? b = some o := fun b o e => (e0.bs b o e).1
  have inK : K.In s.heap := e0.mod.kin.keeps keep
  have par : ∀ y ∈ ps.zip us, scope.names.lookup y.1 = some .local ∨
      (scope.names.lookup y.1 = some .cell ∧ ((cellsFrom (s.heap.objs.size + 1) scope.names []).lookup y.1).isSome = true) := by
    rintro ⟨n, v⟩ hy
    exact (S.par n (List.of_mem_zip hy).1).imp id fun q => ⟨q, PySem.W.cellsFrom_some _ _ _ (.inl q)⟩
  refine codeAny_call_function hr.depth (inK _ _ lk) rfl S.co S.gen rfl
    (PySem.W.codeRec_of inK hcd) (hbd _ _ _ _ ?_)
  refine wpAny_newFunctionEnv_cells S.kind par fun env he s1 entered => ?_
  subst he
  refine ⟨(e0.mod.nolimit.keeps keep).keeps entered.toInCall.keep, codeAny_func ?_⟩
  -- the body's own context
  have body' := hb cdv A outer s H E ⟨hr.deeper _, hgd, rfl, S.nd, passes_of rfl, L2N.takes_of rfl rfl rfl rfl⟩
  obtain ⟨hlen, Z, φ, S0, ds, R, dl, w0⟩ := hsp
  have I0 := inv_start (CX := L2N.CX P w) (mg := mg) (base := base) (cd := cdv) (qual := qual) (f := f) (E := E) S hr.hd e0 hlen r entered
  have q0 : tDS (cxOf (L2N.CX P w) P w K mg base N qual scope f cdv A outer s H E) (fun c d _ H' => E c d H') g { nx := fun _ H' => Q .non H', rt := Q } (L2.start N vs) H := by
    refine ⟨Z, φ, S0, startD N.length ds, R, slots_start dl, ?_⟩
    unfold semOf at w0
    cases hg : g (startD N.length ds) S0 with
    | nx ρ S1 =>
      rw [hg] at w0
      exact fun σ φ1 H1 R1 E1 _ => w0 .non φ1 H1 R1 E1 (by unfold RDat Dat; rfl)
    | rt d S1 =>
      rw [hg] at w0
      exact w0
    | ex C fs ρ S1 =>
      rw [hg] at w0
      exact fun A1 dx σ φ1 H1 m R1 E1 _ x => w0 A1 dx φ1 H1 m R1 E1 x
    | _ =>
      rw [hg] at w0
      exact w0.elim
  refine wpAny_mono (PSs.run body' [] s1 (L2.start N vs) H _ I0 q0) (fun fl s' hs => ?_) fun _ _ z => z
  have fin : ∀ {σ' : L2.St} {H' : Hp} {v : V} {u : Value}, Inv (cxOf (L2N.CX P w) P w K mg base N qual scope f cdv A outer s H E) [] σ' H' s' → RelV v u →
      Q v H' → CE outer P w H s Q u s' := fun J rv q => ⟨_, _, J.os, J.bare, J.base, J.hok, rv, q⟩
  cases fl with
  | ret u =>
    obtain ⟨v, σ', H', J, rv, q⟩ := hs
    exact fin J rv q
  | next =>
    obtain ⟨σ', H', J, q⟩ := hs
    exact fin (v := .non) J rfl q
  | brk => exact hs.choose_spec.choose_spec.2.elim
  | cont => exact hs.choose_spec.choose_spec.2.elim
end DL

/-! The data layer, part 6: calls. -/
namespace DL
open PySem L2

/-! ### data without objects of the store -/
mutual
def D.pure : D → Bool
  | .oid _ => false
  | .tup ds => pureL ds
  | .lst ds => pureL ds
  | .scr ds => pureL ds
  | .dic ks => pureK ks
  | .ins _ fs => pureF fs
  | .exc _ fs => pureF fs
  | _ => true
def pureL : List D → Bool
  | [] => true
  | d :: ds => d.pure && pureL ds
def pureK : List (Key × D) → Bool
  | [] => true
  | (_, d) :: ds => d.pure && pureK ds
def pureF : List (Str × D) → Bool
  | [] => true
  | (_, d) :: ds => d.pure && pureF ds
end
section
variable {K : PySem.W.Frag} {mg : Str → Option Value} {φ φ' : List Addr} {G : Hp}
mutual
theorem Dat.pure : ∀ {d : D} {v : V}, d.pure = true → Dat K mg φ G d v → Dat K mg φ' G d v
  | .non, _, _, h => h
  | .bl _, _, _, h => h
  | .int _, _, _, h => h
  | .str _, _, _, h => h
  | .ty _, _, _, h => h
  | .tup ds, _, p, h => by
    unfold Dat at h ⊢
    unfold D.pure at p
    obtain ⟨a, vs, rfl, h1, h2⟩ := h
    exact ⟨a, vs, rfl, h1, DatL.pure p h2⟩
  | .lst ds, _, p, h => by
    unfold Dat at h ⊢
    unfold D.pure at p
    obtain ⟨a, vs, rfl, h1, h2⟩ := h
    exact ⟨a, vs, rfl, h1, DatL.pure p h2⟩
  | .scr ds, _, p, h => by
    unfold Dat at h ⊢
    unfold D.pure at p
    obtain ⟨a, vs, rfl, h1, h2⟩ := h
    exact ⟨a, vs, rfl, h1, DatL.pure p h2⟩
  | .cls c, _, _, h => by
    unfold Dat at h ⊢
    exact h
  | .dic ks, _, p, h => by
    unfold Dat at h ⊢
    unfold D.pure at p
    obtain ⟨a, vs, rfl, h1, h2⟩ := h
    exact ⟨a, vs, rfl, h1, DatK.pure p h2⟩
  | .ins C fs, _, p, h => by
    unfold Dat at h ⊢
    unfold D.pure at p
    obtain ⟨a, A, dx, fvs, rfl, h0, h1, h2⟩ := h
    exact ⟨a, A, dx, fvs, rfl, h0, h1, DatF.pure p h2⟩
  | .oid n, _, p, h => by
    unfold D.pure at p
    cases p
  | .exc C fs, _, p, h => by
    unfold Dat at h ⊢
    unfold D.pure at p
    obtain ⟨a, A, dx, rfl, h0, h1, h2⟩ := h
    exact ⟨a, A, dx, rfl, h0, h1, h2.imp id fun ⟨z, b, fvs, q0, q1, q2⟩ => ⟨z, b, fvs, q0, q1, DatF.pure p q2⟩⟩
theorem DatL.pure : ∀ {ds : List D} {vs : List V}, pureL ds = true → DatL K mg φ G ds vs → DatL K mg φ' G ds vs
  | [], _, _, h => by
    unfold DatL at h ⊢
    exact h
  | d :: ds, _, p, h => by
    unfold DatL at h ⊢
    unfold pureL at p
    rw [Bool.and_eq_true] at p
    obtain ⟨v, r, rfl, h1, h2⟩ := h
    exact ⟨v, r, rfl, Dat.pure p.1 h1, DatL.pure p.2 h2⟩
theorem DatK.pure : ∀ {ds : List (Key × D)} {vs : List (Key × V)}, pureK ds = true → DatK K mg φ G ds vs → DatK K mg φ' G ds vs
  | [], _, _, h => by
    unfold DatK at h ⊢
    exact h
  | (k, d) :: ds, _, p, h => by
    unfold DatK at h ⊢
    unfold pureK at p
    rw [Bool.and_eq_true] at p
    obtain ⟨v, r, rfl, h1, h2⟩ := h
    exact ⟨v, r, rfl, Dat.pure p.1 h1, DatK.pure p.2 h2⟩
theorem DatF.pure : ∀ {ds : List (Str × D)} {vs : List (Str × V)}, pureF ds = true → DatF K mg φ G ds vs → DatF K mg φ' G ds vs
  | [], _, _, h => by
    unfold DatF at h ⊢
    exact h
  | (k, d) :: ds, _, p, h => by
    unfold DatF at h ⊢
    unfold pureF at p
    rw [Bool.and_eq_true] at p
    obtain ⟨v, r, rfl, h1, h2⟩ := h
    exact ⟨v, r, rfl, Dat.pure p.1 h1, DatF.pure p.2 h2⟩
end
end
def SO.pure : SO → Bool
  | .lst ds => pureL ds
  | .dic ks => pureK ks
  | .ins _ fs => pureF fs
  | .frz d => d.pure
  | .tbl _ _ => false
  | .dkt _ => false
theorem SOk.pure {K : PySem.W.Frag} {mg : Str → Option Value} {φ φ' : List Addr} {G H : Hp} {a : Addr} : ∀ {o : SO}, o.pure = true → SOk K mg φ G H a o → SOk K mg φ' G H a o
  | .lst ds, p, ⟨vs, h1, h2⟩ => ⟨vs, h1, h2.pure p⟩
  | .dic ks, p, ⟨vs, h1, h2⟩ => ⟨vs, h1, h2.pure p⟩
  | .ins C fs, p, ⟨A, dx, fvs, h0, h1, h2⟩ => ⟨A, dx, fvs, h0, h1, h2.pure p⟩
  | .frz d, p, h => Dat.pure p h
  | .tbl _ _, p, _ => nomatch p
  | .dkt _, p, _ => nomatch p

/-! ### a call with the objects that it is handed, and no others -/
def subArgs (S : Store) : List D → Nat → Option (List D × List Nat)
  | [], _ => some ([], [])
  | .oid k :: ds, n => match S[k]? with
    | some (.frz d) => if d.pure then (subArgs S ds n).map fun q => (d :: q.1, q.2) else none
    | some o => if o.pure then (subArgs S ds (n + 1)).map fun q => (.oid n :: q.1, k :: q.2) else none
    | none => none
  | d :: ds, n => if d.pure then (subArgs S ds n).map fun q => (d :: q.1, q.2) else none
def putBack (S : Store) : List Nat → Store → Store
  | k :: ks, o :: Sc => putBack (S.set k o) ks Sc
  | _, _ => S
def subOf (S : Store) (ks : List Nat) : Store := ks.map fun k => S.getD k (.frz .non)
def callSub (sem : Sem') : Sem' := fun args S => match subArgs S args 0 with
  | some (args', ks) => if ks.Nodup then (match sem args' (subOf S ks) with
    | .ok d Sc => if d.pure && ((Sc.take ks.length).all SO.pure && decide (ks.length ≤ Sc.length)) then .ok d (putBack S ks Sc) else .stuck
    | .ex C fs Sc => if pureF fs && ((Sc.take ks.length).all SO.pure && decide (ks.length ≤ Sc.length)) then .ex C fs (putBack S ks Sc) else .stuck
    | .stuck => .stuck) else .stuck
  | none => .stuck
theorem putBack_length : ∀ (ks : List Nat) (S Sc : Store), (putBack S ks Sc).length = S.length
  | [], _, _ => by simp [putBack]
  | k :: ks, S, [] => rfl
  | k :: ks, S, o :: Sc => by unfold putBack; rw [putBack_length, List.length_set]
theorem putBack_out : ∀ (ks : List Nat) (S Sc : Store) (n : Nat), n ∉ ks → (putBack S ks Sc)[n]? = S[n]?
  | [], _, _, _, _ => by simp [putBack]
  | k :: ks, S, [], _, _ => rfl
  | k :: ks, S, o :: Sc, n, h => by
    simp only [List.mem_cons, not_or] at h
    unfold putBack
    rw [putBack_out ks _ _ n h.2, List.getElem?_set_ne (fun z => h.1 z.symm)]
theorem putBack_in : ∀ (ks : List Nat) (S Sc : Store) (j n : Nat) (o : SO), ks.Nodup → ks[j]? = some n → n < S.length → Sc[j]? = some o → (putBack S ks Sc)[n]? = some o
  | [], _, _, _, _, _, _, h, _, _ => by cases h
  | k :: ks, S, [], _, _, _, _, _, _, h => by cases h
  | k :: ks, S, u :: Sc, 0, n, o, nd, h1, h2, h3 => by
    cases h1
    cases h3
    unfold putBack
    rw [putBack_out ks _ _ _ (List.nodup_cons.mp nd).1, List.getElem?_set_self h2]
  | k :: ks, S, u :: Sc, j + 1, n, o, nd, h1, h2, h3 => by
    unfold putBack
    exact putBack_in ks _ _ j n o (List.nodup_cons.mp nd).2 h1 (by rw [List.length_set]; exact h2) h3
section
variable {K : PySem.W.Frag} {mg : Str → Option Value} {Z φ : List Addr} {S : Store} {H : Hp}
def phiOf (φ : List Addr) (ks : List Nat) : List Addr := ks.map fun k => φ.getD k 0
theorem subArgs_ok (R : Rel K mg Z φ S H) : ∀ (ds : List D) (vs : List V) (n : Nat) (ds' : List D) (ks : List Nat) (pre : List Addr), pre.length = n → subArgs S ds n = some (ds', ks) → DatL K mg φ (gnd Z φ S H) ds vs →
    DatL K mg (pre ++ phiOf φ ks) (gnd Z φ S H) ds' vs ∧ ∀ k ∈ ks, ∃ o, S[k]? = some o ∧ o.pure = true ∧ o.live = true
  | [], vs, n, ds', ks, pre, hp, e, h => by
    cases e
    unfold DatL at h
    subst h
    exact ⟨DatL.nil, fun k hk => by simp at hk⟩
  | d :: ds, vs, n, ds', ks, pre, hp, e, h => by
    obtain ⟨v, r, rfl, h1, h2⟩ := h.uncons
    have plain : ∀ d' : D, d'.pure = true → Dat K mg φ (gnd Z φ S H) d' v → (subArgs S ds n).map (fun q => (d' :: q.1, q.2)) = some (ds', ks) →
        DatL K mg (pre ++ phiOf φ ks) (gnd Z φ S H) ds' (v :: r) ∧ ∀ k ∈ ks, ∃ o, S[k]? = some o ∧ o.pure = true ∧ o.live = true := fun d' p hd q => by
      cases hq : subArgs S ds n with
      | none => rw [hq] at q; cases q
      | some t =>
        rw [hq] at q
        cases q
        obtain ⟨a, b⟩ := subArgs_ok R ds r n t.1 t.2 pre hp hq h2
        exact ⟨.cons (Dat.pure p hd) a, b⟩
    cases d with
    | oid k =>
      unfold subArgs at e
      unfold Dat at h1
      obtain ⟨a, rfl, ha⟩ := h1
      cases hS : S[k]? with
      | none => simp [hS] at e
      | some o =>
        have ok := R.ob k a o ha hS
        have live : o.live = true → (if o.pure then (subArgs S ds (n + 1)).map (fun q => (D.oid n :: q.1, k :: q.2)) else none) = some (ds', ks) →
            DatL K mg (pre ++ phiOf φ ks) (gnd Z φ S H) ds' (.ref a :: r) ∧ ∀ k ∈ ks, ∃ o, S[k]? = some o ∧ o.pure = true ∧ o.live = true := fun hl q => by
          by_cases hp' : o.pure = true
          · rw [if_pos hp'] at q
            cases hq : subArgs S ds (n + 1) with
            | none => rw [hq] at q; cases q
            | some t =>
              rw [hq] at q
              cases q
              obtain ⟨A, B⟩ := subArgs_ok R ds r (n + 1) t.1 t.2 (pre ++ [a]) (by simp [hp]) hq h2
              have ea : φ.getD k 0 = a := by rw [List.getD_eq_getElem?_getD, ha]; rfl
              have ep : pre ++ phiOf φ (k :: t.2) = (pre ++ [a]) ++ phiOf φ t.2 := by
                unfold phiOf
                rw [List.map_cons, ea, List.append_assoc]
                rfl
              rw [ep]
              refine ⟨.cons ?_ A, fun j hj => ?_⟩
              · unfold Dat
                refine ⟨a, rfl, ?_⟩
                rw [List.append_assoc, List.getElem?_append_right (by omega), hp, Nat.sub_self]
                rfl
              · rcases List.mem_cons.mp hj with z | z
                · rw [z]
                  exact ⟨o, hS, hp', hl⟩
                · exact B j z
          · rw [if_neg hp'] at q
            cases q
        rw [hS] at e
        cases o with
        | frz d' =>
          simp only at e
          by_cases p : d'.pure = true
          · rw [if_pos p] at e
            exact plain d' p ok e
          · rw [if_neg p] at e
            cases e
        | _ => exact live rfl e
    | _ =>
      unfold subArgs at e
      split at e
      · rename_i p
        exact plain _ p h1 e
      · cases e

theorem rel_get (R : Rel K mg Z φ S H) {k : Nat} {o : SO} (h : S[k]? = some o) : ∃ a, φ[k]? = some a ∧ φ.getD k 0 = a := by
  have hl := (List.getElem?_eq_some_iff.mp h).1
  refine ⟨φ[k]'(by rw [R.len]; exact hl), List.getElem?_eq_getElem _, ?_⟩
  rw [List.getD_eq_getElem?_getD, List.getElem?_eq_getElem (by rw [R.len]; exact hl)]
  rfl
/-- the hidden ones of a call -/
def hidOf (Z φ : List Addr) (S : Store) (ks : List Nat) : List Addr := Z ++ (liveA φ S).filter fun a => decide (a ∉ phiOf φ ks)
theorem phiOf_get {ks : List Nat} {j k : Nat} (h : ks[j]? = some k) : (phiOf φ ks)[j]? = some (φ.getD k 0) := by
  unfold phiOf
  rw [List.getElem?_map, h]
  rfl
theorem subOf_get {ks : List Nat} {j k : Nat} {o : SO} (h : ks[j]? = some k) (hS : S[k]? = some o) : (subOf S ks)[j]? = some o := by
  unfold subOf
  rw [List.getElem?_map, h, Option.map_some, List.getD_eq_getElem?_getD, hS]
  rfl
theorem sub_mem (R : Rel K mg Z φ S H) {ks : List Nat} (nd : ks.Nodup) (hk : ∀ k ∈ ks, ∃ o, S[k]? = some o ∧ o.pure = true ∧ o.live = true) (a : Addr) : a ∈ hidOf Z φ S ks ++ liveA (phiOf φ ks) (subOf S ks) ↔ a ∈ Z ++ liveA φ S := by
  have live_of : ∀ b, b ∈ phiOf φ ks → b ∈ liveA φ S ∧ b ∈ liveA (phiOf φ ks) (subOf S ks) := fun b hb => by
    obtain ⟨j, hj⟩ := List.getElem?_of_mem hb
    unfold phiOf at hj
    rw [List.getElem?_map] at hj
    cases hq : ks[j]? with
    | none => rw [hq] at hj; cases hj
    | some k =>
      rw [hq] at hj
      cases hj
      obtain ⟨o, h1, h2, h3⟩ := hk k (List.mem_of_getElem? hq)
      obtain ⟨a, q1, q2⟩ := rel_get R h1
      show φ.getD k 0 ∈ liveA φ S ∧ φ.getD k 0 ∈ liveA (phiOf φ ks) (subOf S ks)
      rw [q2]
      refine ⟨mem_liveA q1 h1 h3, ?_⟩
      have := phiOf_get (φ := φ) hq
      rw [q2] at this
      exact mem_liveA this (subOf_get hq h1) h3
  unfold hidOf
  constructor
  · intro h
    rcases List.mem_append.mp h with z | z
    · rcases List.mem_append.mp z with z | z
      · exact List.mem_append_left _ z
      · exact List.mem_append_right _ (List.mem_filter.mp z).1
    · exact List.mem_append_right _ (live_of a (liveA_sub z)).1
  · intro h
    rcases List.mem_append.mp h with z | z
    · exact List.mem_append_left _ (List.mem_append_left _ z)
    · by_cases q : a ∈ phiOf φ ks
      · exact List.mem_append_right _ (live_of a q).2
      · exact List.mem_append_left _ (List.mem_append_right _ (List.mem_filter.mpr ⟨z, decide_eq_true q⟩))
theorem without_congr {l l' : List Addr} (h : ∀ a, a ∈ l ↔ a ∈ l') : without l H = without l' H := by
  funext a
  unfold without
  by_cases q : a ∈ l
  · rw [if_pos q, if_pos ((h a).mp q)]
  · rw [if_neg q, if_neg fun z => q ((h a).mpr z)]
theorem nodup_map_of {α β : Type} {f : α → β} : ∀ {l : List α}, l.Nodup → (∀ x ∈ l, ∀ y ∈ l, f x = f y → x = y) → (l.map f).Nodup
  | [], _, _ => List.nodup_nil
  | a :: l, nd, h => by
    rw [List.nodup_cons] at nd
    rw [List.map_cons, List.nodup_cons]
    refine ⟨fun q => ?_, nodup_map_of nd.2 fun x hx y hy => h x (List.mem_cons_of_mem _ hx) y (List.mem_cons_of_mem _ hy)⟩
    obtain ⟨b, hb, e⟩ := List.mem_map.mp q
    have := h b (List.mem_cons_of_mem _ hb) a List.mem_cons_self e
    rw [this] at hb
    exact nd.1 hb
theorem sub_rel (R : Rel K mg Z φ S H) {ks : List Nat} (nd : ks.Nodup) (hk : ∀ k ∈ ks, ∃ o, S[k]? = some o ∧ o.pure = true ∧ o.live = true) :
    Rel K mg (hidOf Z φ S ks) (phiOf φ ks) (subOf S ks) H ∧ gnd (hidOf Z φ S ks) (phiOf φ ks) (subOf S ks) H = gnd Z φ S H := by
  have eg : gnd (hidOf Z φ S ks) (phiOf φ ks) (subOf S ks) H = gnd Z φ S H := without_congr (sub_mem R nd hk)
  have at_ : ∀ k ∈ ks, ∃ a, φ[k]? = some a ∧ φ.getD k 0 = a := fun k h => by
    obtain ⟨o, h1, _⟩ := hk k h
    exact rel_get R h1
  refine ⟨⟨by unfold phiOf subOf; rw [List.length_map, List.length_map], ?_, fun a ha => ?_, fun a ha => ?_, fun a ha => ?_, fun n a o h1 h2 => ?_⟩, eg⟩
  · unfold phiOf
    refine nodup_map_of nd fun x hx y hy e => ?_
    obtain ⟨a, q1, q2⟩ := at_ x hx
    obtain ⟨b, q3, q4⟩ := at_ y hy
    rw [q2, q4] at e
    rw [e] at q1
    exact nd_ix R.nd q1 q3
  · unfold hidOf
    intro q
    rcases List.mem_append.mp q with z | z
    · unfold phiOf at ha
      obtain ⟨k, h1, h2⟩ := List.mem_map.mp ha
      obtain ⟨b, q1, q2⟩ := at_ k h1
      rw [q2] at h2
      rw [h2] at q1
      exact R.zd a (List.mem_of_getElem? q1) z
    · exact (of_decide_eq_true (List.mem_filter.mp z).2) ha
  · unfold hidOf at ha
    rcases List.mem_append.mp ha with z | z
    · exact R.zh a z
    · exact R.ph a (liveA_sub (List.mem_filter.mp z).1)
  · unfold phiOf at ha
    obtain ⟨k, h1, h2⟩ := List.mem_map.mp ha
    obtain ⟨b, q1, q2⟩ := at_ k h1
    rw [q2] at h2
    rw [h2] at q1
    exact R.ph a (List.mem_of_getElem? q1)
  · rw [eg]
    unfold phiOf at h1
    unfold subOf at h2
    rw [List.getElem?_map] at h1 h2
    cases hq : ks[n]? with
    | none => rw [hq] at h1; cases h1
    | some k =>
      rw [hq] at h1 h2
      cases h1
      cases h2
      obtain ⟨u, e1, e2, e3⟩ := hk k (List.mem_of_getElem? hq)
      obtain ⟨b, q1, q2⟩ := rel_get R e1
      show SOk K mg (phiOf φ ks) (gnd Z φ S H) H (φ.getD k 0) (S.getD k (.frz .non))
      rw [q2, List.getD_eq_getElem?_getD, e1]
      exact (R.ob k b u q1 e1).pure e2
/-- behind the call -/
theorem sub_back (R : Rel K mg Z φ S H) {ks : List Nat} (nd : ks.Nodup) (hk : ∀ k ∈ ks, ∃ o, S[k]? = some o ∧ o.pure = true ∧ o.live = true) {φ' : List Addr} {Sc : Store} {H' : Hp}
    (R' : Rel K mg (hidOf Z φ S ks) φ' Sc H') (E : Evo (hidOf Z φ S ks) (phiOf φ ks) (subOf S ks) H φ' Sc H') (pu : (Sc.take ks.length).all SO.pure = true) (hl : ks.length ≤ Sc.length) :
    Rel K mg Z φ (putBack S ks Sc) H' ∧ Evo Z φ S H φ (putBack S ks Sc) H' ∧ Same (gnd (hidOf Z φ S ks) φ' Sc H') (gnd Z φ (putBack S ks Sc) H') := by
  obtain ⟨Rc, eg⟩ := sub_rel R nd hk
  have lenP : (phiOf φ ks).length = ks.length := by unfold phiOf; rw [List.length_map]
  have phi' : ∀ j k, ks[j]? = some k → φ'[j]? = some (φ.getD k 0) := fun j k h => pre_get E.pre (phiOf_get h)
  -- what lives in the caller's store behind the call
  have liveB : ∀ a, a ∈ liveA φ (putBack S ks Sc) → a ∈ hidOf Z φ S ks ++ liveA φ' Sc := fun a ha => by
    obtain ⟨n, o, h1, h2, h3⟩ := liveA_mem ha
    by_cases q : n ∈ ks
    · obtain ⟨j, hj⟩ := List.getElem?_of_mem q
      have hjl := (List.getElem?_eq_some_iff.mp hj).1
      have hSc : Sc[j]? = some Sc[j] := List.getElem?_eq_getElem (by omega)
      have hn : n < S.length := by
        have := (List.getElem?_eq_some_iff.mp h2).1
        rw [putBack_length] at this
        exact this
      rw [putBack_in ks S Sc j n _ nd hj hn hSc] at h2
      cases h2
      have := phi' j n hj
      rw [List.getD_eq_getElem?_getD, h1] at this
      exact List.mem_append_right _ (mem_liveA this hSc h3)
    · rw [putBack_out ks S Sc n q] at h2
      refine List.mem_append_left _ ?_
      unfold hidOf
      refine List.mem_append_right _ (List.mem_filter.mpr ⟨mem_liveA h1 h2 h3, decide_eq_true fun z => q ?_⟩)
      unfold phiOf at z
      obtain ⟨k, e1, e2⟩ := List.mem_map.mp z
      obtain ⟨u, e3, _⟩ := hk k e1
      obtain ⟨b, q1, q2⟩ := rel_get R e3
      rw [q2] at e2
      rw [e2] at q1
      have := nd_ix R.nd q1 h1
      rw [← this]
      exact e1
  have sub : Same (gnd (hidOf Z φ S ks) φ' Sc H') (gnd Z φ (putBack S ks Sc) H') := fun a o h => by
    obtain ⟨h1, h2⟩ := without_some.mp h
    refine without_some.mpr ⟨fun q => h1 ?_, h2⟩
    rcases List.mem_append.mp q with z | z
    · exact List.mem_append_left _ (List.mem_append_left _ z)
    · exact liveB a z
  have ext : Same (gnd Z φ S H) (gnd Z φ (putBack S ks Sc) H') := by
    rw [← eg]
    exact E.ext.trans sub
  have out : ∀ a o, H a = some o → a ∉ liveA φ S → H' a = some o := fun a o h n => E.out a o h fun q => n (by
    have := (sub_mem R nd hk a).mp (List.mem_append_right _ q)
    rcases List.mem_append.mp this with z | z
    · exact (Rc.zd a (liveA_sub q) (by unfold hidOf; exact List.mem_append_left _ z)).elim
    · exact z)
  have nn : ∀ a, H a ≠ none → H' a ≠ none := fun a h => by
    by_cases q : a ∈ liveA (phiOf φ ks) (subOf S ks)
    · have := liveA_sub q
      obtain ⟨t, ht⟩ := E.pre
      exact R'.ph a (by rw [← ht]; exact List.mem_append_left _ this)
    · obtain ⟨o, ho⟩ := Option.ne_none_iff_exists'.mp h
      rw [E.out a o ho q]
      exact fun z => nomatch z
  refine ⟨⟨by rw [putBack_length, R.len], R.nd, R.zd, fun a h => nn a (R.zh a h), fun a h => nn a (R.ph a h), fun n a o h1 h2 => ?_⟩,
    ⟨List.prefix_refl _, ext, out, fun a ha hn => ?_⟩, sub⟩
  · by_cases q : n ∈ ks
    · obtain ⟨j, hj⟩ := List.getElem?_of_mem q
      have hjl := (List.getElem?_eq_some_iff.mp hj).1
      have hSc : Sc[j]? = some Sc[j] := List.getElem?_eq_getElem (by omega)
      have hn : n < S.length := by
        have := (List.getElem?_eq_some_iff.mp h2).1
        rw [putBack_length] at this
        exact this
      rw [putBack_in ks S Sc j n _ nd hj hn hSc] at h2
      cases h2
      have hp := phi' j n hj
      rw [List.getD_eq_getElem?_getD, h1] at hp
      have pj : Sc[j].pure = true := List.all_eq_true.mp pu _ (by
        rw [List.mem_iff_getElem?]
        exact ⟨j, by rw [List.getElem?_take_of_lt hjl]; exact hSc⟩)
      exact ((R'.ob j a _ hp hSc).pure (φ' := φ) pj).mono (List.prefix_refl _) sub fun _ z => z
    · rw [putBack_out ks S Sc n q] at h2
      have ok := R.ob n a o h1 h2
      cases hlv : o.live with
      | false =>
        cases o with
        | frz d => exact Dat.mono (List.prefix_refl _) ext _ _ ok
        | _ => cases hlv
      | true =>
        refine ok.mono (List.prefix_refl _) ext fun ob hb => E.out a ob hb fun z => ?_
        have z' := liveA_sub z
        unfold phiOf at z'
        obtain ⟨k, e1, e2⟩ := List.mem_map.mp z'
        obtain ⟨u, e3, _⟩ := hk k e1
        obtain ⟨b, q1, q2⟩ := rel_get R e3
        rw [q2] at e2
        rw [e2] at q1
        have := nd_ix R.nd q1 h1
        rw [← this] at q
        exact q e1
  · rcases List.mem_append.mp (liveB a ha) with z | z
    · unfold hidOf at z
      rcases List.mem_append.mp z with z | z
      · exact absurd z (R.zd a (liveA_sub ha))
      · exact (List.mem_filter.mp z).1
    · have := E.lv a z hn
      have := (sub_mem R nd hk a).mp (List.mem_append_right _ this)
      rcases List.mem_append.mp this with z | z
      · exact absurd z (R.zd a (liveA_sub ha))
      · exact z
end

/-- how a call may be reckoned -/
def CallOk (K : PySem.W.Frag) (mg : Str → Option Value) (n : Nat) (sem cs : Sem') : Prop := ∀ Z φ S H ds vs (Q : VK) (E : XK), vs.length = n → Rel K mg Z φ S H → DatL K mg φ (gnd Z φ S H) ds vs → Want K mg (RDat K mg) Z φ S H (cs ds S) Q E → spD K mg n sem vs H Q E
theorem callOk_share {K : PySem.W.Frag} {mg : Str → Option Value} {n : Nat} {sem : Sem'} : CallOk K mg n sem sem := fun Z φ S H ds vs Q E hl R d w => ⟨hl, Z, φ, S, ds, R, d, w⟩
theorem callOk_sub {K : PySem.W.Frag} {mg : Str → Option Value} {n : Nat} {sem : Sem'} : CallOk K mg n sem (callSub sem) := fun Z φ S H ds vs Q E hl R d w => by
  unfold callSub at w
  cases hs : subArgs S ds 0 with
  | none => rw [hs] at w; exact w.elim
  | some t =>
    obtain ⟨ds', ks⟩ := t
    rw [hs] at w
    simp only at w
    by_cases nd : ks.Nodup
    · rw [if_pos nd] at w
      obtain ⟨d', hk⟩ := subArgs_ok R ds vs 0 ds' ks [] rfl hs d
      rw [List.nil_append] at d'
      obtain ⟨Rc, eg⟩ := sub_rel R nd hk
      refine ⟨hl, hidOf Z φ S ks, phiOf φ ks, subOf S ks, ds', Rc, by rw [eg]; exact d', ?_⟩
      cases hr : sem ds' (subOf S ks) with
      | ok r Sc =>
        rw [hr] at w
        simp only at w
        by_cases c : (r.pure && ((Sc.take ks.length).all SO.pure && decide (ks.length ≤ Sc.length))) = true
        · rw [if_pos c] at w
          simp only [Bool.and_eq_true, decide_eq_true_eq] at c
          intro v φ' H' R' E' dv
          obtain ⟨a, b, s⟩ := sub_back R nd hk R' E' c.2.1 c.2.2
          exact w v φ H' a b (Dat.mono (List.prefix_refl _) s _ _ (Dat.pure c.1 dv))
        · rw [if_neg c] at w
          exact w.elim
      | ex C fs Sc =>
        rw [hr] at w
        simp only at w
        by_cases c : (pureF fs && ((Sc.take ks.length).all SO.pure && decide (ks.length ≤ Sc.length))) = true
        · rw [if_pos c] at w
          simp only [Bool.and_eq_true, decide_eq_true_eq] at c
          intro A dx φ' H' m R' E' x
          obtain ⟨a, b, s⟩ := sub_back R nd hk R' E' c.2.1 c.2.2
          refine w A dx φ H' m a b ?_
          rcases x with x | ⟨x0, e, fvs, x1, x2, x3⟩
          · exact .inl x
          · exact .inr ⟨x0, e, fvs, x1, s _ _ x2, DatF.mono (List.prefix_refl _) s _ _ (DatF.pure c.1 x3)⟩
        · rw [if_neg c] at w
          exact w.elim
      | stuck =>
        rw [hr] at w
        exact w.elim
    · rw [if_neg nd] at w
      exact w.elim
end DL

/-! The data layer, part 7: bindings, calls of defs, methods, classes, attributes, raise, the law's end. -/
namespace DL
open PySem L2

/-! ### how arguments come to parameters -/
def src {α : Type} (a : Nat) (us ws ms : List α) : List α := match a with
  | 0 => us
  | 1 => ws
  | _ => ms
def pick {α : Type} (sel : List (Nat × Nat)) (us ws ms : List α) : List α := sel.filterMap fun s => (src s.1 us ws ms)[s.2]?
theorem pick_vals {vs zs ms : List V} {us ws mv : List Value} (h1 : Vals vs us) (h2 : Vals zs ws) (h3 : Vals ms mv) : ∀ {sel : List (Nat × Nat)}, Vals (pick sel vs zs ms) (pick sel us ws mv)
  | [] => .nil
  | (a, i) :: sel => by
    have r := pick_vals h1 h2 h3 (sel := sel)
    have q : Vals (src a vs zs ms) (src a us ws mv) := by
      unfold src
      split
      · exact h1
      · exact h2
      · exact h3
    unfold pick
    rw [List.filterMap_cons, List.filterMap_cons]
    cases hx : (src a vs zs ms)[i]? with
    | none =>
      rw [q.none_of hx]
      exact r
    | some v =>
      obtain ⟨u, e1, e2⟩ := q.get hx
      rw [e1]
      exact .cons e2 r
theorem pick_dat {K : PySem.W.Frag} {mg : Str → Option Value} {φ : List Addr} {G : Hp} {ds es ms : List D} {vs zs mv : List V} (h1 : DatL K mg φ G ds vs) (h2 : DatL K mg φ G es zs) (h3 : DatL K mg φ G ms mv) : ∀ {sel : List (Nat × Nat)}, DatL K mg φ G (pick sel ds es ms) (pick sel vs zs mv)
  | [] => DatL.nil
  | (a, i) :: sel => by
    have r := pick_dat h1 h2 h3 (sel := sel)
    have q : DatL K mg φ G (src a ds es ms) (src a vs zs mv) := by
      unfold src
      split
      · exact h1
      · exact h2
      · exact h3
    unfold pick
    rw [List.filterMap_cons, List.filterMap_cons]
    cases hx : (src a ds es ms)[i]? with
    | none =>
      have e : (src a vs zs mv)[i]? = none := by
        rw [List.getElem?_eq_none_iff] at hx ⊢
        rw [q.length]
        exact hx
      rw [e]
      exact r
    | some v =>
      obtain ⟨u, e1, e2⟩ := q.get hx
      rw [e1]
      exact .cons e2 r
structure KB (K : PySem.W.Frag) (fd : FuncData) (ps : List Str) (n : Nat) (ks : List Str) (gD : List D → List D → List D) : Prop where
  ex : ∃ (g : List Value → List Value → List Value) (gV : List V → List V → List V), KBn K fd ps n ks g gV ∧
    ∀ (K' : PySem.W.Frag), K' = K → ∀ (mg : Str → Option Value) (φ : List Addr) (G : Hp) (ds es : List D) (vs zs : List V), DatL K' mg φ G ds vs → DatL K' mg φ G es zs → DatL K' mg φ G (gD ds es) (gV vs zs)
section
variable {K : PySem.W.Frag} {x qual : Str} {params : Arguments} {body : List Stmt} {scope : Scope} {kws : List (Str × V)} {f : Addr} {fd : FuncData} {ps : List Str}
/-- no defaults are taken -/
theorem kb_all {dvs : List V} (F : FunD K x qual params body scope dvs kws f fd) (hd : dvs = []) (n : Nat) (ks : List Str) (sel : List (Nat × Nat))
    (h : ∀ (kV doc pm : Value) (an : Option Addr) (cdv ct : Value) (us ws : List Value), us.length = n → ws.length = ks.length → bindArgs (PySem.W.fnOf x qual params body scope .none kV doc pm an cdv ct) ⟨us, ks.zip ws⟩ = pure (ps.zip (pick sel us ws []))) :
    KB K fd ps n ks (fun ds es => pick sel ds es []) := by
  obtain ⟨oc, od, dV, kV, doc, pm, an, cdv, ct, osl, rfl, lk, hcd, hD, hK⟩ := F.ex
  rcases hD with ⟨_, rfl⟩ | ⟨e, _⟩
  · exact ⟨fun us ws => pick sel us ws [], fun vs zs => pick sel vs zs [], ⟨fun s us ws X l1 l2 => .of_eq (h kV doc pm an cdv ct us ws l1 l2), fun r1 r2 => pick_vals r1 r2 .nil⟩, fun K' _ mg φ G ds es vs zs h1 h2 => pick_dat h1 h2 DatL.nil⟩
  · exact absurd hd e
/-- some keyword-only defaults are taken: ms -/
theorem kb_dfl (F : FunD K x qual params body scope [] kws f fd) (n : Nat) (ks : List Str) (ms : List (Str × V)) (msD : List D) (sel : List (Nat × Nat)) (hk : kws ≠ []) (hms : ∀ q ∈ ms, q ∈ kws)
    (hD : ∀ (mg : Str → Option Value) (φ : List Addr) (G : Hp), DatL K mg φ G msD (ms.map (·.2)))
    (h : ∀ (D : Addr) (doc pm : Value) (an : Option Addr) (cdv ct : Value) (us mv ws : List Value), us.length = n → mv.length = ms.length → ws.length = ks.length →
      KwChain D ((ms.map (·.1)).zip mv) (bindArgs (PySem.W.fnOf x qual params body scope .none (.ref D) doc pm an cdv ct) ⟨us, ks.zip ws⟩) (ps.zip (pick sel us ws mv))) : KB K fd ps n ks (fun ds es => pick sel ds es msD) := by
  obtain ⟨mv, hb⟩ := F.kbinds0 n ks ms (fun us mv ws => pick sel us ws mv) hk hms (fun a b c => pick_vals a c b) h
  exact ⟨_, _, hb, fun K' eK mg φ G ds es vs zs h1 h2 => by subst eK; exact pick_dat h1 h2 (hD mg φ G)⟩
end

/-! ### calls -/
section
variable {X : Cx} {W : WX} {k k' n np : Nat} {f C : Addr} {fd : FuncData} {ps ks : List Str} {sp : Sp} {sem cs : Sem'} {x m : Str} {p pos apos : Pos} {e o : Expr} {es : List Expr} {kws : List Keyword} {fa fk : FA} {fo : FE} {gD : List D → List D → List D}
theorem run_fnG {pins : List (Addr × Obj)} {σ : L2.St} {H : Hp} {s : Shared} {Q : VK} {us ws : List Value} {bs : List Value} {vs : List V} (F : FnG X.prog X.w X.K X.mg X.base k f fd ps sp) (C : Cn X W k') (hk : k ≤ k') (I : L2.Inv X pins σ H s)
    (hb : BindsTo s fd ⟨us, ks.zip ws⟩ (ps.zip bs)) (r : Vals vs bs) (h : sp vs H Q (WE W σ)) : wpAny (model X.prog X.w) X.A (call (.ref f) us (ks.zip ws)) (EP X pins σ Q) X.xe s := by
  refine wpAny_call (codeAny_mono (F.run X.A X.stack s H _ bs vs Q (WE W σ) (C.room.mono hk) C.gd I.env0 hb r h) fun res s' hq => ?_)
  cases res with
  | error e => exact L2N.passAt C.tk σ pins H s e s' I hq
  | ok fl => cases fl with
    | ret u => exact I.after hq
    | _ => exact hq.elim
def fCall (cs : Sem') (gD : List D → List D → List D) (np nk n : Nat) (fa fk : FA) : FE := fun ρ S => (fa ρ S).bind fun ds S => (fk ρ S).bind fun es S => if ds.length = np ∧ es.length = nk ∧ (gD ds es).length = n then cs (gD ds es) S else .stuck
theorem dkw_nil : DKw X W [] (fun _ S => .ok [] S) := .mk pk_nil (fun Z φ S ρ σ H Q R sl w => w.now R DatL.nil)
theorem dkw_cons {nm : Option Str} {kpos : Pos} {fe : FE} {fr : FA} (ha : DE X W e fe) (hr : DKw X W kws fr) : DKw X W (⟨nm, e, kpos⟩ :: kws) (fCons fe fr) := by
  obtain ⟨t, p, q⟩ := ha.ex
  obtain ⟨u, p', q'⟩ := hr.ex
  refine .mk (pk_cons p p') (fun Z φ S ρ σ H Q R sl w => q Z φ S ρ σ H _ R sl (w.bind fun x S1 v φ1 H1 R1 E1 d w1 => ?_))
  exact q' Z φ1 S1 ρ σ H1 _ R1 (sl.evo E1) (w1.bind fun xs S2 vs φ2 H2 R2 E2 d2 w2 => w2.now R2 (.cons (Dat.evo E2 d) d2))
/-- arguments, then keywords, then what follows -/
theorem args_run {ta tk : TA} (qa : IsA X W ta fa) (qk : IsA X W tk fk) {cont : List D → List D → Store → Res D} {Z φ : List Addr} {S : Store} {ρ : EnvD} {σ : L2.St} {H : Hp} {Q : VK} {P : List V → List V → Hp → Prop}
    (R : Rel X.K X.mg Z φ S H) (sl : Slots X.K X.mg φ (gnd Z φ S H) ρ σ) (w : Want X.K X.mg (RDat X.K X.mg) Z φ S H ((fa ρ S).bind fun ds S => (fk ρ S).bind fun es S => cont ds es S) Q (WE W σ))
    (h : ∀ ds es S2 vs zs φ2 H2, Rel X.K X.mg Z φ2 S2 H2 → Evo Z φ S H φ2 S2 H2 → DatL X.K X.mg φ2 (gnd Z φ2 S2 H2) ds vs → DatL X.K X.mg φ2 (gnd Z φ2 S2 H2) es zs → Want X.K X.mg (RDat X.K X.mg) Z φ2 S2 H2 (cont ds es S2) Q (WE W σ) → P vs zs H2) :
    ta σ H fun vs H1 => tk σ H1 fun zs H2 => P vs zs H2 :=
  qa Z φ S ρ σ H _ R sl (w.bind fun ds S1 vs φ1 H1 R1 E1 d1 w1 => qk Z φ1 S1 ρ σ H1 _ R1 (sl.evo E1) (w1.bind fun es S2 zs φ2 H2 R2 E2 d2 w2 => h ds es S2 vs zs φ2 H2 R2 (E1.trans E2) (DatL.evo E2 d1) d2 w2))
theorem want_if {P : Prop} [Decidable P] {α β : Type} {Rr : List Addr → Hp → α → β → Prop} {Z φ : List Addr} {S : Store} {H : Hp} {r : Res α} {Q : β → Hp → Prop} {E : XK} (w : Want X.K X.mg Rr Z φ S H (if P then r else .stuck) Q E) : P ∧ Want X.K X.mg Rr Z φ S H r Q E := by
  by_cases h : P
  · rw [if_pos h] at w
    exact ⟨h, w⟩
  · rw [if_neg h] at w
    exact w.elim
/-- the callee's wish, from the caller's -/
theorem args_sp {gV : List V → List V → List V} (hcs : CallOk X.K X.mg n sem cs) (hN : ∀ (K' : PySem.W.Frag), K' = X.K → ∀ (mg : Str → Option Value) (φ : List Addr) (G : Hp) (ds es : List D) (vs zs : List V), DatL K' mg φ G ds vs → DatL K' mg φ G es zs → DatL K' mg φ G (gD ds es) (gV vs zs))
    {nk : Nat} {Z φ : List Addr} {S : Store} {H : Hp} {ds es : List D} {vs zs : List V} {Q : VK} {E : XK} (R : Rel X.K X.mg Z φ S H) (d1 : DatL X.K X.mg φ (gnd Z φ S H) ds vs) (d2 : DatL X.K X.mg φ (gnd Z φ S H) es zs)
    (w : Want X.K X.mg (RDat X.K X.mg) Z φ S H (if ds.length = np ∧ es.length = nk ∧ (gD ds es).length = n then cs (gD ds es) S else .stuck) Q E) : vs.length = np ∧ zs.length = nk ∧ spD X.K X.mg n sem (gV vs zs) H Q E := by
  obtain ⟨⟨l1, l2, l3⟩, w3⟩ := want_if w
  have d3 := hN _ rfl _ _ _ _ _ _ _ d1 d2
  exact ⟨by rw [d1.length, l1], by rw [d2.length, l2], hcs Z φ S H _ _ Q E (by rw [d3.length, l3]) R d3 w3⟩
theorem de_call (F : FnG X.prog X.w X.K X.mg X.base k f fd ps (spD X.K X.mg ps.length sem)) (hcs : CallOk X.K X.mg ps.length sem cs) (C : Cn X W k') (hg : Gl X x) (hm : X.mg x = some (.ref f)) (hk : PySem.W.keepIn X.K (.ref f) = true) (hb : KB X.K fd ps np ks gD)
    (ha : DA X W (e :: es) fa) (hkw : DKw X W kws fk) (hle : k ≤ k' := by decide) (hall : (backToKw pos (keywordEach kws X.env)).all (·.1.isSome) = true := by rfl) (hks : (backToKw pos (keywordEach kws X.env)).filterMap (·.1) = ks := by rfl)
    (hdb : (x == ("__debug__" : Str)) = false := by decide) (he : starEach (e :: es) X.env = (false, eval e X.env) :: starEach es X.env := by rfl)
    (hpl : ((backTo pos (starEach (e :: es) X.env)).any (·.1) || (backToKw pos (keywordEach kws X.env)).any (·.1.isNone)) = false := by rfl) :
    DE X W (.Call (.Name x p) (e :: es) kws pos) (fCall cs gD np ks.length ps.length fa fk) := by
  obtain ⟨ta, pa, qa⟩ := ha.ex
  obtain ⟨tk, pk, qk⟩ := hkw.ex
  obtain ⟨g, gV, hB, hN⟩ := hb.ex
  refine .mk (t := fun σ H Q => ta σ H fun vs H1 => tk σ H1 fun zs H2 => vs.length = np ∧ zs.length = ks.length ∧ spD X.K X.mg ps.length sem (gV vs zs) H2 Q (WE W σ)) ⟨fun pins s σ H Q I h => ?_⟩
    (fun Z φ S ρ σ H Q R sl w => args_run qa qk R sl w fun ds es' S2 vs zs φ2 H2 R2 E2 d1 d2 w2 => args_sp hcs hN R2 d1 d2 w2)
  refine wpAny_Call_Name_kw (ld_glob I hg hm ?_ hdb)
  refine PySem.W.callWith_KW (h₀ := X.base) I.ok.mod.kin hk hall (thn (pa.run pos pins s σ H _ I h) fun us s1 ⟨vs, H1, I1, r, q⟩ => ?_) hpl he
  refine thn (pk.run pos pins s1 σ H1 _ I1 q) fun ws s2 ⟨zs, H2, I2, rz, l1, l2, q2⟩ => ⟨I2.kIn, ?_⟩
  rw [hks]
  exact run_fnG F C hle I2 (hB.to s2 us ws I2.kIn (r.length.symm.trans l1) (rz.length.symm.trans l2)) (hB.rel r rz) q2
/-! instances -/
def asI (S : Store) : D → Option (Str × List (Str × D))
  | .ins C fs => some (C, fs)
  | .oid n => match S[n]? with
    | some (.ins C fs) => some (C, fs)
    | some (.frz (.ins C fs)) => some (C, fs)
    | _ => none
  | _ => none
theorem asI_ok {K : PySem.W.Frag} {mg : Str → Option Value} {Z φ : List Addr} {S : Store} {H : Hp} (R : Rel K mg Z φ S H) {d : D} {v : V} {c : Str} {fs : List (Str × D)} (h : Dat K mg φ (gnd Z φ S H) d v) (e : asI S d = some (c, fs)) :
    ∃ a A dx fvs, v = .ref a ∧ mg c = some (.ref A) ∧ H a = some (.ins A dx fvs) ∧ DatF K mg φ (gnd Z φ S H) fs fvs := by
  cases d with
  | ins C gs =>
    cases e
    unfold Dat at h
    obtain ⟨a, A, dx, fvs, rfl, h0, h1, h2⟩ := h
    exact ⟨a, A, dx, fvs, rfl, h0, gnd_sub _ _ h1, h2⟩
  | oid n =>
    unfold Dat at h
    obtain ⟨a, rfl, h1⟩ := h
    cases q : S[n]? with
    | none => simp [asI, q] at e
    | some o =>
      simp only [asI, q] at e
      have ok := R.ob n a o h1 q
      cases o with
      | ins C gs =>
        cases e
        obtain ⟨A, dx, fvs, q0, q1, q2⟩ := ok
        exact ⟨a, A, dx, fvs, rfl, q0, q1, q2⟩
      | frz d =>
        cases d with
        | ins C gs =>
          cases e
          have ok' : Dat K mg φ (gnd Z φ S H) (.ins _ _) (.ref a) := ok
          unfold Dat at ok'
          obtain ⟨b, A, dx, fvs, e1, q0, q1, q2⟩ := ok'
          cases e1
          exact ⟨a, A, dx, fvs, rfl, q0, gnd_sub _ _ q1, q2⟩
        | _ => cases e
      | _ => cases e
  | _ => cases e
theorem datF_lookup {K : PySem.W.Frag} {mg : Str → Option Value} {φ : List Addr} {G : Hp} {m : Str} : ∀ {fs : List (Str × D)} {fvs : List (Str × V)}, DatF K mg φ G fs fvs → (∀ d, fs.lookup m = some d → ∃ v, fvs.lookup m = some v ∧ Dat K mg φ G d v) ∧ (fs.lookup m = none → fvs.lookup m = none)
  | [], _, h => by
    unfold DatF at h
    subst h
    exact ⟨fun d q => (by cases q), fun _ => rfl⟩
  | (k, d) :: fs, _, h => by
    unfold DatF at h
    obtain ⟨v, r, rfl, h1, h2⟩ := h
    obtain ⟨a, b⟩ := datF_lookup (m := m) h2
    rw [List.lookup_cons, List.lookup_cons]
    cases (m == k) with
    | true => exact ⟨fun e q => by cases q; exact ⟨v, rfl, h1⟩, fun q => by cases q⟩
    | false => exact ⟨a, b⟩
/-- what the text has of a class -/
structure ClsI (X : Cx) (c : Str) (C : Addr) : Prop where
  mg : X.mg c = some (.ref C)
  cls : Cls X.K C
/-- o.m(e, .., k = v, ..) -/
def fMeth (cs : Sem') (gD : List D → List D → List D) (c m : Str) (np nk n : Nat) (fo : FE) (fa fk : FA) : FE := fun ρ S => (fo ρ S).bind fun o S => match asI S o with
  | some (c', fs) => if c' = c ∧ (fs.lookup m).isNone then (fa ρ S).bind fun ds S => (fk ρ S).bind fun es S => if (o :: ds).length = np ∧ es.length = nk ∧ (gD (o :: ds) es).length = n then cs (gD (o :: ds) es) S else .stuck else .stuck
  | none => .stuck
theorem meth_at {c : Str} {Z φ : List Addr} {S : Store} {H : Hp} {od : D} {ov : V} {α : Type} {r : Res α} {β : Type} {Rr : List Addr → Hp → α → β → Prop} {Q : β → Hp → Prop} {E : XK} (cl : ClsI X c C) (R : Rel X.K X.mg Z φ S H) (d : Dat X.K X.mg φ (gnd Z φ S H) od ov)
    (w : Want X.K X.mg Rr Z φ S H (match asI S od with | some (c', fs) => if c' = c ∧ (fs.lookup m).isNone then r else .stuck | none => .stuck) Q E) :
    ∃ a dx fvs, ov = .ref a ∧ H a = some (.ins C dx fvs) ∧ fvs.lookup m = none ∧ Want X.K X.mg Rr Z φ S H r Q E := by
  cases hi : asI S od with
  | none => rw [hi] at w; exact w.elim
  | some t =>
    obtain ⟨c', fs⟩ := t
    rw [hi] at w
    obtain ⟨⟨rfl, hl⟩, w1⟩ := want_if w
    obtain ⟨a, A, dx, fvs, rfl, q0, q1, q2⟩ := asI_ok R d hi
    rw [cl.mg] at q0
    cases q0
    exact ⟨a, dx, fvs, rfl, q1, (datF_lookup q2).2 (Option.isNone_iff_eq_none.mp hl), w1⟩
theorem de_meth {pl : Sem Bool} {c : Str} (ho : DE X W o fo) (cl : ClsI X c C) (hm : Meth X.K C m f) (F : FnG X.prog X.w X.K X.mg X.base k f fd ps (spD X.K X.mg ps.length sem)) (hcs : CallOk X.K X.mg ps.length sem cs) (Cc : Cn X W k') (hb : KB X.K fd ps np ks gD)
    (ha : DA X W (e :: es) fa) (hkw : DKw X W kws fk) (hle : k ≤ k' := by decide) (hall : (backToKw pos (keywordEach kws X.env)).all (·.1.isSome) = true := by rfl) (hks : (backToKw pos (keywordEach kws X.env)).filterMap (·.1) = ks := by rfl)
    (he : starEach (e :: es) X.env = (false, eval e X.env) :: starEach es X.env := by rfl) (hpl : ((backTo pos (starEach (e :: es) X.env)).any (·.1) || (backToKw pos (keywordEach kws X.env)).any (·.1.isNone)) = false := by rfl)
    (ht : eval (.Call (.Attribute o m apos) (e :: es) kws pos) X.env = (do
      let ov ← eval o X.env
      standAt apos.atName
      let (f, first) ← holding [ov] (getMethod ov m pl)
      callWith pos f first (backTo pos (starEach (e :: es) X.env)) (backToKw pos (keywordEach kws X.env))) := by rfl) :
    DE X W (.Call (.Attribute o m apos) (e :: es) kws pos) (fMeth cs gD c m np ks.length ps.length fo fa fk) := by
  obtain ⟨to, po, qo⟩ := ho.ex
  obtain ⟨ta, pa, qa⟩ := ha.ex
  obtain ⟨tk, pk, qk⟩ := hkw.ex
  obtain ⟨g, gV, hB, hN⟩ := hb.ex
  refine .mk (t := fun σ H Q => to σ H fun ov H0 => ∃ a dx fvs, ov = .ref a ∧ H0 a = some (.ins C dx fvs) ∧ fvs.lookup m = none ∧ ta σ H0 fun vs H1 => tk σ H1 fun zs H2 => (V.ref a :: vs).length = np ∧ zs.length = ks.length ∧ spD X.K X.mg ps.length sem (gV (.ref a :: vs) zs) H2 Q (WE W σ)) ⟨fun pins s σ H Q I h => ?_⟩
    (fun Z φ S ρ σ H Q R sl w => qo Z φ S ρ σ H _ R sl (w.bind fun od S1 ov φ1 H1 R1 E1 d w1 => ?_))
  · refine PySem.W.methodCall_KW (pl := pl) (thn (po.run pins s σ H _ I h) fun u s1 ⟨x, H1, I1, rx, a, dx, fvs, ex, ea, l, q⟩ => ?_) ht
    subst ex
    obtain rfl : u = Value.ref a := rx
    refine getmeth_ok I1 ea cl.cls hm l ?_
    refine PySem.W.callWith_KW (first := [.ref a]) (h₀ := X.base) I.ok.mod.kin hm.kp hall (thn (pa.run pos pins s1 σ H1 _ I1 q) fun us s2 ⟨vs, H2, I2, r, q2⟩ => ?_) hpl he
    refine thn (pk.run pos pins s2 σ H2 _ I2 q2) fun ws s3 ⟨zs, H3, I3, rz, l1, l2, q3⟩ => ⟨I3.kIn, ?_⟩
    have r1 : Vals (V.ref a :: vs) (Value.ref a :: us) := .cons rfl r
    rw [hks]
    exact run_fnG (us := .ref a :: us) F Cc hle I3 (hB.to s3 _ ws I3.kIn (r1.length.symm.trans l1) (rz.length.symm.trans l2)) (hB.rel r1 rz) q3
  · obtain ⟨a, dx, fvs, rfl, h1, h2, w2⟩ := meth_at cl R1 d w1
    refine ⟨a, dx, fvs, rfl, h1, h2, args_run qa qk R1 (sl.evo E1) w2 fun ds es' S2 vs zs φ2 H2 R2 E2 d1 d2 w3 => ?_⟩
    exact args_sp hcs hN R2 (.cons (Dat.evo E2 d) d1) d2 w3
theorem de_meth0 {pl : Sem Bool} {c : Str} (ho : DE X W o fo) (cl : ClsI X c C) (hm : Meth X.K C m f) (F : FnG X.prog X.w X.K X.mg X.base k f fd ps (spD X.K X.mg ps.length sem)) (hcs : CallOk X.K X.mg ps.length sem cs) (Cc : Cn X W k') (hb : KB X.K fd ps 1 ks gD)
    (hkw : DKw X W kws fk) (hle : k ≤ k' := by decide) (hall : (backToKw pos (keywordEach kws X.env)).all (·.1.isSome) = true := by rfl) (hks : (backToKw pos (keywordEach kws X.env)).filterMap (·.1) = ks := by rfl)
    (hpl : ((backTo pos (starEach [] X.env)).any (·.1) || (backToKw pos (keywordEach kws X.env)).any (·.1.isNone)) = false := by rfl)
    (ht : eval (.Call (.Attribute o m apos) [] kws pos) X.env = (do
      let ov ← eval o X.env
      standAt apos.atName
      let (f, first) ← holding [ov] (getMethod ov m pl)
      callWith pos f first (backTo pos (starEach [] X.env)) (backToKw pos (keywordEach kws X.env))) := by rfl) :
    DE X W (.Call (.Attribute o m apos) [] kws pos) (fMeth cs gD c m 1 ks.length ps.length fo (fun _ S => .ok [] S) fk) := by
  obtain ⟨to, po, qo⟩ := ho.ex
  obtain ⟨tk, pk, qk⟩ := hkw.ex
  obtain ⟨g, gV, hB, hN⟩ := hb.ex
  refine .mk (t := fun σ H Q => to σ H fun ov H0 => ∃ a dx fvs, ov = .ref a ∧ H0 a = some (.ins C dx fvs) ∧ fvs.lookup m = none ∧ tk σ H0 fun zs H2 => zs.length = ks.length ∧ spD X.K X.mg ps.length sem (gV [.ref a] zs) H2 Q (WE W σ)) ⟨fun pins s σ H Q I h => ?_⟩
    (fun Z φ S ρ σ H Q R sl w => qo Z φ S ρ σ H _ R sl (w.bind fun od S1 ov φ1 H1 R1 E1 d w1 => ?_))
  · refine PySem.W.methodCall_KW (pl := pl) (thn (po.run pins s σ H _ I h) fun u s1 ⟨x, H1, I1, rx, a, dx, fvs, ex, ea, l, q⟩ => ?_) ht
    subst ex
    obtain rfl : u = Value.ref a := rx
    refine getmeth_ok I1 ea cl.cls hm l ?_
    refine PySem.W.callWith_KW0 (first := [.ref a]) (h₀ := X.base) I.ok.mod.kin hm.kp hall ?_ hpl
    refine thn (pk.run pos pins s1 σ H1 _ I1 q) fun ws s3 ⟨zs, H3, I3, rz, l2, q3⟩ => ⟨I3.kIn, ?_⟩
    have r1 : Vals [V.ref a] [Value.ref a] := .cons rfl .nil
    rw [hks]
    exact run_fnG (us := [.ref a]) F Cc hle I3 (hB.to s3 _ ws I3.kIn rfl (rz.length.symm.trans l2)) (hB.rel r1 rz) q3
  · obtain ⟨a, dx, fvs, rfl, h1, h2, w2⟩ := meth_at cl R1 d w1
    refine ⟨a, dx, fvs, rfl, h1, h2, qk Z φ1 S1 ρ σ H1 _ R1 (sl.evo E1) (Want.bind (k := fun es S => if [od].length = 1 ∧ es.length = ks.length ∧ (gD [od] es).length = ps.length then cs (gD [od] es) S else .stuck) w2 fun es S2 zs φ2 H2 R2 E2 d2 w3 => ?_)⟩
    exact (args_sp hcs hN R2 (.cons (Dat.evo E2 d) DatL.nil) d2 w3).2
/-- o.f -/
def fFld (cs : List Str) (f : Str) (fo : FE) : FE := fun ρ S => (fo ρ S).bind fun o S => match asI S o with
  | some (c, fs) => if c ∈ cs then (match fs.lookup f with
    | some d => .ok d S
    | none => .stuck) else .stuck
  | none => .stuck
theorem de_fld {fn : Str} {cs : List Str} (ho : DE X W o fo) (hc : ∀ c ∈ cs, ∃ C, ClsI X c C ∧ NoAttr X.K C fn) (hb : attributeBase o fn X.env (eval o X.env) = eval o X.env := by rfl) : DE X W (.Attribute o fn pos) (fFld cs fn fo) := by
  obtain ⟨to, po, qo⟩ := ho.ex
  refine .mk (pe_fld po hb) (fun Z φ S ρ σ H Q R sl w => qo Z φ S ρ σ H _ R sl (w.bind fun od S1 ov φ1 H1 R1 E1 d w1 => ?_))
  cases hi : asI S1 od with
  | none => rw [hi] at w1; exact w1.elim
  | some t =>
    obtain ⟨c, fs⟩ := t
    rw [hi] at w1
    obtain ⟨hm, w2⟩ := want_if w1
    obtain ⟨a, A, dx, fvs, rfl, q0, q1, q2⟩ := asI_ok R1 d hi
    obtain ⟨C, cl, na⟩ := hc c hm
    rw [cl.mg] at q0
    cases q0
    cases hl : fs.lookup fn with
    | none => rw [hl] at w2; exact w2.elim
    | some e =>
      rw [hl] at w2
      obtain ⟨v, h1, h2⟩ := (datF_lookup q2).1 e hl
      exact ⟨a, A, dx, fvs, v, rfl, q1, cl.cls, na, h1, w2.now R1 h2⟩
/-- o.f = e -/
def putFD (f : Str) (d : D) : List (Str × D) → List (Str × D)
  | [] => [(f, d)]
  | (g, e) :: r => if g = f then (g, d) :: r else (g, e) :: putFD f d r
theorem datF_length {K : PySem.W.Frag} {mg : Str → Option Value} {φ : List Addr} {G : Hp} : ∀ {fs : List (Str × D)} {fvs : List (Str × V)}, DatF K mg φ G fs fvs → fvs.length = fs.length
  | [], _, h => by
    unfold DatF at h
    subst h
    rfl
  | (k, d) :: fs, _, h => by
    unfold DatF at h
    obtain ⟨v, r, rfl, _, h2⟩ := h
    rw [List.length_cons, List.length_cons, datF_length h2]
theorem datF_put {K : PySem.W.Frag} {mg : Str → Option Value} {φ : List Addr} {G : Hp} {f : Str} {d : D} {v : V} (hd : Dat K mg φ G d v) : ∀ {fs : List (Str × D)} {fvs : List (Str × V)}, DatF K mg φ G fs fvs → DatF K mg φ G (putFD f d fs) (putF f v fvs)
  | [], _, h => by
    unfold DatF at h
    subst h
    show DatF K mg φ G [(f, d)] [(f, v)]
    unfold DatF
    exact ⟨v, [], rfl, hd, by unfold DatF; rfl⟩
  | (g, e) :: fs, _, h => by
    unfold DatF at h
    obtain ⟨u, r, rfl, h1, h2⟩ := h
    have eq : putF f v ((g, u) :: r) = if g = f then (g, v) :: r else (g, u) :: putF f v r := by rw [putF]
    rw [eq]
    unfold putFD
    by_cases hg : g = f
    · rw [if_pos hg, if_pos hg]
      unfold DatF
      exact ⟨v, r, rfl, hd, h2⟩
    · rw [if_neg hg, if_neg hg]
      unfold DatF
      exact ⟨u, _, rfl, h1, datF_put hd h2⟩
def gFld (cs : List Str) (f : Str) (fo fe : FE) : FS := fun ρ S => (fe ρ S).into ρ fun d S => (fo ρ S).into ρ fun o S => match o with
  | .oid n => (match S[n]? with
    | some (.ins c fs) => if c ∈ cs ∧ fs.length < 1000 then .nx ρ (S.set n (.ins c (putFD f d fs))) else .stuck
    | _ => .stuck)
  | _ => .stuck
theorem wantS_if {P : Prop} [Decidable P] {Z φ : List Addr} {S : Store} {H : Hp} {r : Out} {Dd : Ends} (w : WantS X W Z φ S H (if P then r else .stuck) Dd) : P ∧ WantS X W Z φ S H r Dd := by
  by_cases h : P
  · rw [if_pos h] at w
    exact ⟨h, w⟩
  · rw [if_neg h] at w
    exact w.elim
theorem ds_fld {fn : Str} {cs : List Str} {value : Expr} {fe : FE} {pos' : Pos} (ho : DE X W o fo) (hv : DE X W value fe) (hc : ∀ c ∈ cs, ∃ C, ClsI X c C ∧ NoAttr X.K C fn) (hs : swapsWith value (some (.Attribute o fn pos')) pos.line X.env = pure false := by rfl) :
    DS X W (.Assign [.Attribute o fn pos'] value pos) (gFld cs fn fo fe) := by
  obtain ⟨to, po, qo⟩ := ho.ex
  obtain ⟨tv, pv, qv⟩ := hv.ex
  refine .mk (ps_fld po pv hs) fun Z φ S ρ σ H Dd R sl w => qv Z φ S ρ σ H _ R sl (w.into sl fun d S1 v φ1 H1 R1 E1 dd w1 => qo Z φ1 S1 ρ σ H1 _ R1 (sl.evo E1) (w1.into (sl.evo E1) fun od S2 ov φ2 H2 R2 E2 d2 w2 => ?_))
  cases od with
  | oid n =>
    simp only at w2
    unfold RDat Dat at d2
    obtain ⟨a, rfl, ha⟩ := d2
    cases hS : S2[n]? with
    | none => rw [hS] at w2; exact w2.elim
    | some so =>
      rw [hS] at w2
      cases so with
      | ins c fs =>
        obtain ⟨⟨hm, hlt⟩, w3⟩ := wantS_if w2
        obtain ⟨A, dx, fvs, q0, q1, q2⟩ := R2.ob n a _ ha hS
        obtain ⟨C, cl, na⟩ := hc c hm
        rw [cl.mg] at q0
        cases q0
        refine ⟨a, A, dx, fvs, rfl, q1, cl.cls, na, by rw [datF_length q2]; exact hlt, ?_⟩
        obtain ⟨R3, E3⟩ := R2.mutate (u := .ins c (putFD fn d fs)) (ho := .ins A dx (putF fn v fvs)) ha hS rfl rfl ⟨A, dx, _, cl.mg, upd_same, datF_put (Dat.evo E2 dd) q2⟩
        exact w3 σ φ2 _ R3 E3 (((sl.evo E1).evo E2).evo E3)
      | _ => exact w2.elim
  | _ => exact w2.elim
end
end DL

/-! The data layer, part 8: classes made, raise, what is frozen, dicts, lists. -/
namespace DL
open PySem L2

section
variable {X : Cx} {W : WX} {k k' n np : Nat} {f C : Addr} {fd : FuncData} {ps ks : List Str} {sp : Sp} {sem cs : Sem'} {x m : Str} {p pos apos : Pos} {e o : Expr} {es : List Expr} {kws : List Keyword} {fa fk : FA} {fo fe : FE} {gD : List D → List D → List D}
theorem guards_make {A : Around} (h : A.guards = some []) (C : Addr) (us : List Value) (kw : List (Str × Value)) : (A.under (.builtin "type.__call__" ⟨.ref C :: us, kw⟩)).guards = some [] := by
  have e : (Code.builtin "type.__call__" ⟨.ref C :: us, kw⟩).guards = [] := rfl
  show pushGuards (Code.builtin "type.__call__" ⟨.ref C :: us, kw⟩).guards A.guards = some []
  rw [e]
  exact h
theorem run_makeG {pins : List (Addr × Obj)} {σ : L2.St} {H : Hp} {s : Shared} {Q : VK} {us ws : List Value} {vs zs : List V} {g : List Value → List Value → List Value} {gV : List V → List V → List V} (M : Mk X.K C f) (F : FnG X.prog X.w X.K X.mg X.base k f fd ps sp) (Cc : Cn X W k') (hk : k + 1 ≤ k')
    (hb : KBn X.K fd ps (np + 1) ks g gV) (I : L2.Inv X pins σ H s) (r : Vals vs us) (rz : Vals zs ws) (l1 : vs.length = np) (l2 : zs.length = ks.length)
    (h : ∀ x dx, H x = none → H dx = none → dx ≠ x → sp (gV (.ref x :: vs) zs) (upd (upd H dx (.own x)) x (.ins C dx [])) (fun v H2 => v = .non ∧ Q (.ref x) H2) (WE W σ)) :
    wpAny (model X.prog X.w) X.A (call (.ref C) us (ks.zip ws)) (EP X pins σ Q) X.xe s := by
  have hq := h (s.heap.objs.size + 1) s.heap.objs.size (I.hok.fresh (Nat.le_succ _)) (I.hok.fresh (Nat.le_refl _)) (Nat.ne_of_lt (Nat.lt_succ_self _))
  have J := Inv.made (C := C) I
  have r1 : Vals (V.ref (s.heap.objs.size + 1) :: vs) (Value.ref (s.heap.objs.size + 1) :: us) := .cons rfl r
  have rr := hb.rel r1 rz
  have ln : (Value.ref (s.heap.objs.size + 1) :: us).length = np + 1 := by rw [List.length_cons, ← r.length, l1]
  refine wpAny_call (make_map (f := f) I.kIn M.makes M.init (beq_iff_eq.mp M.fn) (codeAny_mono
    (F.run _ X.stack _ _ _ _ _ _ (WE W σ) ((Cc.room.mono hk).make C us (ks.zip ws)) (guards_make Cc.gd C us (ks.zip ws)) (J.env0.make C us (ks.zip ws)) (hb.to _ _ ws J.kIn ln (rz.length.symm.trans l2)) rr hq) fun res s' hq' => ?_))
  cases res with
  | error e => exact L2N.passAt Cc.tk σ pins _ _ e s' J hq'
  | ok fl => cases fl with
    | ret u =>
      obtain ⟨v, H', I3, rv, ev, q3⟩ := J.after hq'
      subst ev
      exact ⟨rv, V.ref (s.heap.objs.size + 1), H', I3, rfl, q3⟩
    | _ => exact hq'.elim
/-- a new instance in the store -/
def makeO (sem : Sem') (gD : List D → List D → List D) (c : Str) (n : Nat) (ds es : List D) (S : Store) : Res D :=
  if (gD (.oid S.length :: ds) es).length = n then (sem (gD (.oid S.length :: ds) es) (S ++ [.ins c []])).bind fun d S' => if d.isNon then .ok (.oid S.length) S' else .stuck else .stuck
abbrev MakeT := List D → List D → Store → Res D
def MakeOk (X : Cx) (c : Str) (n : Nat) (sem : Sem') (gD : List D → List D → List D) (mk : MakeT) : Prop := ∀ (C : Addr) (gV : List V → List V → List V) Z φ S H ds es vs zs (Q : VK) (E : XK), X.mg c = some (.ref C) →
  (∀ (K' : PySem.W.Frag), K' = X.K → ∀ (mg : Str → Option Value) (φ : List Addr) (G : Hp) (ds es : List D) (vs zs : List V), DatL K' mg φ G ds vs → DatL K' mg φ G es zs → DatL K' mg φ G (gD ds es) (gV vs zs)) → Rel X.K X.mg Z φ S H →
  DatL X.K X.mg φ (gnd Z φ S H) ds vs → DatL X.K X.mg φ (gnd Z φ S H) es zs → Want X.K X.mg (RDat X.K X.mg) Z φ S H (mk ds es S) Q E →
  ∀ x dx, H x = none → H dx = none → dx ≠ x → spD X.K X.mg n sem (gV (.ref x :: vs) zs) (upd (upd H dx (.own x)) x (.ins C dx [])) (fun v H2 => v = .non ∧ Q (.ref x) H2) E
theorem made_same {H : Hp} {x dx C : Addr} (hx : H x = none) (hd : H dx = none) : Same H (upd (upd H dx (.own x)) x (.ins C dx [])) := fun a o h => by
  rw [upd_ne (ne_of_none h hx), upd_ne (ne_of_none h hd)]
  exact h
theorem makeO_ok {c : Str} : MakeOk X c n sem gD (makeO sem gD c n) := fun C gV Z φ S H ds es vs zs Q E hm hN R d1 d2 w x dx hx hd hne => by
  unfold makeO at w
  obtain ⟨hl, w1⟩ := want_if w
  have sm := made_same (C := C) hx hd
  have lv : liveA (φ ++ [x]) (S ++ [.ins c []]) = liveA φ S ++ [x] := by rw [liveA_snoc R.len]; rfl
  obtain ⟨R1, E1⟩ := R.newOid (so := .ins c []) sm hx (by rw [upd_same]; exact fun z => nomatch z) rfl ⟨C, dx, [], hm, upd_same, by unfold DatF; rfl⟩
  have dx1 : Dat X.K X.mg (φ ++ [x]) (gnd Z (φ ++ [x]) (S ++ [.ins c []]) (upd (upd H dx (.own x)) x (.ins C dx []))) (.oid S.length) (.ref x) := by
    unfold Dat
    exact ⟨x, rfl, by rw [List.getElem?_append_right (by rw [R.len]; exact Nat.le_refl _), ← R.len, Nat.sub_self]; rfl⟩
  have dd := hN X.K rfl X.mg _ _ _ _ _ _ (.cons dx1 (DatL.evo E1 d1)) (DatL.evo E1 d2)
  refine ⟨by rw [dd.length, hl], Z, φ ++ [x], S ++ [.ins c []], _, R1, dd, ?_⟩
  cases hr : sem (gD (.oid S.length :: ds) es) (S ++ [.ins c []]) with
  | ok d S' =>
    rw [hr] at w1
    simp only [Res.bind_ok] at w1
    obtain ⟨hn, w2⟩ := want_if w1
    intro v φ' H' R' E' dv
    have hv := isNon_V dv
    rw [hn] at hv
    refine ⟨of_decide_eq_true hv, w2 _ φ' H' R' (E1.trans E') (Dat.evo E' dx1)⟩
  | ex C' fs S' =>
    rw [hr] at w1
    exact fun A dx' φ' H' m R' E' z => w1 A dx' φ' H' m R' (E1.trans E') z
  | stuck =>
    rw [hr] at w1
    exact w1.elim
def fMake (mk : MakeT) (np nk : Nat) (fa fk : FA) : FE := fun ρ S => (fa ρ S).bind fun ds S => (fk ρ S).bind fun es S => if ds.length = np ∧ es.length = nk then mk ds es S else .stuck
theorem de_make {c : Str} {mk : MakeT} (M : Mk X.K C f) (F : FnG X.prog X.w X.K X.mg X.base k f fd ps (spD X.K X.mg ps.length sem)) (hmk : MakeOk X c ps.length sem gD mk) (Cc : Cn X W k') (hg : Gl X c) (hm : X.mg c = some (.ref C)) (hb : KB X.K fd ps (np + 1) ks gD)
    (ha : DA X W (e :: es) fa) (hkw : DKw X W kws fk) (hle : k + 1 ≤ k' := by decide) (hall : (backToKw pos (keywordEach kws X.env)).all (·.1.isSome) = true := by rfl) (hks : (backToKw pos (keywordEach kws X.env)).filterMap (·.1) = ks := by rfl)
    (hdb : (c == ("__debug__" : Str)) = false := by decide) (he : starEach (e :: es) X.env = (false, eval e X.env) :: starEach es X.env := by rfl)
    (hpl : ((backTo pos (starEach (e :: es) X.env)).any (·.1) || (backToKw pos (keywordEach kws X.env)).any (·.1.isNone)) = false := by rfl) :
    DE X W (.Call (.Name c p) (e :: es) kws pos) (fMake mk np ks.length fa fk) := by
  obtain ⟨ta, pa, qa⟩ := ha.ex
  obtain ⟨tk, pk, qk⟩ := hkw.ex
  obtain ⟨g, gV, hB, hN⟩ := hb.ex
  refine .mk (t := fun σ H Q => ta σ H fun vs H1 => tk σ H1 fun zs H2 => vs.length = np ∧ zs.length = ks.length ∧ ∀ x dx, H2 x = none → H2 dx = none → dx ≠ x → spD X.K X.mg ps.length sem (gV (.ref x :: vs) zs) (upd (upd H2 dx (.own x)) x (.ins C dx [])) (fun v H2 => v = .non ∧ Q (.ref x) H2) (WE W σ)) ⟨fun pins s σ H Q I h => ?_⟩
    (fun Z φ S ρ σ H Q R sl w => args_run qa qk R sl w fun ds es' S2 vs zs φ2 H2 R2 E2 d1 d2 w2 => ?_)
  · refine wpAny_Call_Name_kw (ld_glob I hg hm ?_ hdb)
    refine PySem.W.callWith_KW (h₀ := X.base) I.ok.mod.kin M.kp hall (thn (pa.run pos pins s σ H _ I h) fun us s1 ⟨vs, H1, I1, r, q⟩ => ?_) hpl he
    refine thn (pk.run pos pins s1 σ H1 _ I1 q) fun ws s2 ⟨zs, H2, I2, rz, l1, l2, q2⟩ => ⟨I2.kIn, ?_⟩
    rw [hks]
    exact run_makeG M F Cc hle hB I2 r rz l1 l2 q2
  · obtain ⟨⟨l1, l2⟩, w3⟩ := want_if w2
    exact ⟨by rw [d1.length, l1], by rw [d2.length, l2], fun x dx hx hd hne => hmk C gV Z φ2 S2 H2 ds es' vs zs Q _ hm hN R2 d1 d2 w3 x dx hx hd hne⟩

/-! ### freezing -/
def fFrz (f : FE) : FE := fun ρ S => (f ρ S).bind fun d S => match d with
  | .oid n => (match S[n]? with
    | some (.lst ds) => .ok (.lst ds) (S.set n (.frz (.lst ds)))
    | some (.dic ks) => .ok (.dic ks) (S.set n (.frz (.dic ks)))
    | some (.ins c fs) => .ok (.ins c fs) (S.set n (.frz (.ins c fs)))
    | some (.frz d) => .ok d S
    | some (.tbl _ _) => .stuck
    | some (.dkt _) => .stuck
    | none => .stuck)
  | d => .ok d S
theorem de_frz (h : DE X W e fe) : DE X W e (fFrz fe) := by
  obtain ⟨t, p, q⟩ := h.ex
  refine .mk p (fun Z φ S ρ σ H Q R sl w => q Z φ S ρ σ H _ R sl (w.bind fun d S1 v φ1 H1 R1 E1 dd w1 => ?_))
  cases d with
  | oid n =>
    simp only at w1
    have dd0 := dd
    unfold RDat Dat at dd
    obtain ⟨a, rfl, ha⟩ := dd
    cases hS : S1[n]? with
    | none => rw [hS] at w1; exact w1.elim
    | some so =>
      rw [hS] at w1
      have ok := R1.ob n a so ha hS
      cases so with
      | lst ds =>
        obtain ⟨vs, h1, h2⟩ := ok
        have dn : Dat X.K X.mg φ1 (gnd Z φ1 (S1.set n (.frz (.lst ds))) H1) (.lst ds) (.ref a) := by
          unfold Dat
          exact ⟨a, vs, rfl, gnd_frz R1 ha h1, DatL.mono (List.prefix_refl _) evo_frz _ _ h2⟩
        obtain ⟨R2, E2⟩ := R1.freeze ha dn
        exact w1 _ φ1 H1 R2 E2 dn
      | dic ds =>
        obtain ⟨vs, h1, h2⟩ := ok
        have dn : Dat X.K X.mg φ1 (gnd Z φ1 (S1.set n (.frz (.dic ds))) H1) (.dic ds) (.ref a) := by
          unfold Dat
          exact ⟨a, vs, rfl, gnd_frz R1 ha h1, DatK.mono (List.prefix_refl _) evo_frz _ _ h2⟩
        obtain ⟨R2, E2⟩ := R1.freeze ha dn
        exact w1 _ φ1 H1 R2 E2 dn
      | ins c fs =>
        obtain ⟨A, dx, fvs, h0, h1, h2⟩ := ok
        have dn : Dat X.K X.mg φ1 (gnd Z φ1 (S1.set n (.frz (.ins c fs))) H1) (.ins c fs) (.ref a) := by
          unfold Dat
          exact ⟨a, A, dx, fvs, rfl, h0, gnd_frz R1 ha h1, DatF.mono (List.prefix_refl _) evo_frz _ _ h2⟩
        obtain ⟨R2, E2⟩ := R1.freeze ha dn
        exact w1 _ φ1 H1 R2 E2 dn
      | frz d => exact w1.now R1 ok
      | tbl _ _ => exact w1.elim
      | dkt _ => exact w1.elim
  | _ => exact w1.now R1 dd

/-! ### raise -/
/-- raise X('..'): an own class without an own __init__ -/
theorem ds_raise {bmB : List Value} {B newId initId : String} {msg : Str} {j : Nat} {p2 : Pos} (Cc : Cn X W k) (F : ExcBaseFacts B newId initId bmB) (q : PySem.W.excIn X.K C bmB newId = true) (gC : X.mg x = some (.ref C)) (kC : PySem.W.keepIn X.K (.ref C) = true) (r : Raises X (.ref C)) (hg : Gl X x)
    (hdb : (x == ("__debug__" : Str)) = false := by decide) : DS X W (.Raise (some (.Call (.Name x p) [.Constant (.str msg) j p2] [] apos)) none pos) (fun ρ S => .ex x [] ρ S) :=
  .mk (L2N.ps_raise Cc.calm Cc.tk (L2N.pmk_own F q gC kC r hg hdb)) fun Z φ S ρ σ H Dd R sl w => w C none σ φ H gC R Evo.refl sl (.inl ⟨rfl, rfl⟩)
end
end DL

/-! The data layer, part 9: operators on data, items, stores, built-ins. -/
namespace DL
open PySem L2

section
variable {X : Cx} {W : WX} {k : Nat} {a b c e : Expr} {es : List Expr} {fa fb fc fe : FE} {pos : Pos}
/-! tracked lists -/
def asLt (S : Store) : D → Option (List D)
  | .lst ds => some ds
  | .oid n => match S[n]? with
    | some (.lst ds) => some ds
    | some (.frz (.lst ds)) => some ds
    | _ => none
  | _ => none
theorem asLt_ok {K : PySem.W.Frag} {mg : Str → Option Value} {Z φ : List Addr} {S : Store} {H : Hp} (R : Rel K mg Z φ S H) {d : D} {v : V} {ds : List D} (h : Dat K mg φ (gnd Z φ S H) d v) (e : asLt S d = some ds) : ∃ a vs, v = .ref a ∧ H a = some (.lst vs) ∧ DatL K mg φ (gnd Z φ S H) ds vs := by
  cases d with
  | lst es =>
    cases e
    unfold Dat at h
    obtain ⟨a, vs, rfl, h1, h2⟩ := h
    exact ⟨a, vs, rfl, gnd_sub _ _ h1, h2⟩
  | oid n =>
    unfold Dat at h
    obtain ⟨a, rfl, h1⟩ := h
    cases q : S[n]? with
    | none => simp [asLt, q] at e
    | some o =>
      simp only [asLt, q] at e
      have ok := R.ob n a o h1 q
      cases o with
      | lst es =>
        cases e
        obtain ⟨vs, q1, q2⟩ := ok
        exact ⟨a, vs, rfl, q1, q2⟩
      | frz d =>
        cases d with
        | lst es =>
          cases e
          have ok' : Dat K mg φ (gnd Z φ S H) (.lst _) (.ref a) := ok
          unfold Dat at ok'
          obtain ⟨b, vs, e1, q1, q2⟩ := ok'
          cases e1
          exact ⟨a, vs, rfl, gnd_sub _ _ q1, q2⟩
        | _ => cases e
      | _ => cases e
  | _ => cases e
def D.tupOf : D → Option (List D)
  | .tup ds => some ds
  | _ => none
theorem tupOf_ok {K : PySem.W.Frag} {mg : Str → Option Value} {Z φ : List Addr} {S : Store} {H : Hp} {d : D} {v : V} {ds : List D} (h : Dat K mg φ (gnd Z φ S H) d v) (e : d.tupOf = some ds) : ∃ a vs, v = .ref a ∧ SqT K H a vs ∧ DatL K mg φ (gnd Z φ S H) ds vs := by
  cases d with
  | tup es =>
    cases e
    unfold Dat at h
    obtain ⟨a, vs, rfl, h1, h2⟩ := h
    exact ⟨a, vs, rfl, sqt_mono gnd_sub h1, h2⟩
  | _ => cases e

/-! ### + -/
def gAddI : G2 := gI (fun _ _ => true) fun i j => .int (i + j)
def gAddS : G2 := fun x y S => match x, y with
  | .str s, .str t => if short (s.length + t.length) then .ok (.str (s ++ t)) S else .stuck
  | _, _ => .stuck
def gAddT : G2 := fun x y S => match x, y with
  | .tup xs, .tup ys => if !xs.isEmpty && short (xs.length + ys.length) then .ok (.tup (xs ++ ys)) S else .stuck
  | _, _ => .stuck
def gAddL : G2 := fun x y S => match asLt S x, asLt S y with
  | some xs, some ys => if short (xs.length + ys.length) then .ok (.lst (xs ++ ys)) S else .stuck
  | _, _ => .stuck
def isI (x _ : D) (_ : Store) : Bool := match x with
  | .int _ => true
  | _ => false
def isS (x _ : D) (_ : Store) : Bool := match x with
  | .str _ => true
  | _ => false
def isT (x _ : D) (_ : Store) : Bool := match x with
  | .tup _ => true
  | _ => false
def gAdd : G2 := fun x y S => if isI x y S then gAddI x y S else if isS x y S then gAddS x y S else if isT x y S then gAddT x y S else gAddL x y S
theorem opd_addS : OpD X (fun x y H Q => ∃ i j, x = .str i ∧ y = .str j ∧ i.length + j.length ≤ sizeLine ∧ Q (.str (i ++ j)) H) gAddS := fun Z φ S H x y u v Q E R dx dy w => by
  unfold gAddS at w
  split at w
  · cases dStr dx
    cases dStr dy
    obtain ⟨h, w1⟩ := want_if w
    exact ⟨_, _, rfl, rfl, of_decide_eq_true h, w1.now R (dat_str _)⟩
  · exact w.elim
theorem opd_addT : OpD X (rCatT X.K) gAddT := fun Z φ S H x y u v Q E R dx dy w => by
  unfold gAddT at w
  split at w
  · rename_i xs ys
    obtain ⟨h, w1⟩ := want_if w
    simp only [Bool.and_eq_true, Bool.not_eq_true'] at h
    obtain ⟨p, vs, rfl, h1, h2⟩ := tupOf_ok dx rfl
    obtain ⟨q, us, rfl, h3, h4⟩ := tupOf_ok dy rfl
    refine ⟨p, q, vs, us, rfl, rfl, h1, h3, fun z => ?_, by rw [h2.length, h4.length]; exact of_decide_eq_true h.2, ?_⟩
    · rw [z] at h2
      have := h2.length
      cases xs with
      | nil => cases h.1
      | cons _ _ => cases this
    · by_cases hu : us = []
      · subst hu
        have hy : ys = [] := List.length_eq_zero_iff.mp (h4.length.symm)
        subst hy
        refine ⟨fun _ => ?_, fun z => absurd rfl z⟩
        rw [List.append_nil] at w1
        exact w1.now R dx
      · refine ⟨fun z => absurd z hu, fun _ t ht => ?_⟩
        obtain ⟨r, e, g⟩ := dat_newT R (h2.append h4) ht
        exact w1 _ _ _ r e g
  · exact w.elim
theorem opd_addL : OpD X rCat gAddL := fun Z φ S H x y u v Q E R dx dy w => by
  unfold gAddL at w
  split at w
  · rename_i xs ys e1 e2
    obtain ⟨h, w1⟩ := want_if w
    obtain ⟨p, vs, rfl, h1, h2⟩ := asLt_ok R dx e1
    obtain ⟨q, us, rfl, h3, h4⟩ := asLt_ok R dy e2
    refine ⟨p, q, vs, us, rfl, rfl, h1, h3, by rw [h2.length, h4.length]; exact of_decide_eq_true h, fun t ht => ?_⟩
    obtain ⟨r, e, g⟩ := dat_newL R (h2.append h4) ht
    exact w1 _ _ _ r e g
  · exact w.elim
theorem de_add (ha : DE X W a fa) (hb : DE X W b fb) : DE X W (.BinOp a .Add b pos) (fBin gAdd fa fb) :=
  de_bin (op_add.or (op_add_str.or (op_catT.or op_cat))) (OpD.or isI (opd_I0 fun _ _ _ _ => dat_int _) (OpD.or isS opd_addS (OpD.or isT opd_addT opd_addL))) ha hb

/-! ### == -/
mutual
def toPy : D → Option PyData
  | .non => some .none
  | .bl b => some (.bool b)
  | .int i => some (.int i)
  | .str x => some (.str x)
  | .tup ds => (toPyL ds).map .tuple
  | .lst ds => (toPyL ds).map .list
  | .scr ds => (toPyL ds).map .list
  | _ => none
def toPyL : List D → Option (List PyData)
  | [] => some []
  | d :: ds => (toPy d).bind fun p => (toPyL ds).map fun ps => p :: ps
end
mutual
theorem toPy_ok {K : PySem.W.Frag} {mg : Str → Option Value} {φ : List Addr} {G H : Hp} (e : Same G H) : ∀ (d : D) (v : V) (p : PyData), Dat K mg φ G d v → toPy d = some p → Dp K H v p
  | .non, v, p, h, q => by
    unfold toPy at q
    unfold Dat at h
    cases q
    subst h
    exact .non
  | .bl b, v, p, h, q => by
    unfold toPy at q
    unfold Dat at h
    cases q
    subst h
    exact .bl b
  | .int b, v, p, h, q => by
    unfold toPy at q
    unfold Dat at h
    cases q
    subst h
    exact .int b
  | .str b, v, p, h, q => by
    unfold toPy at q
    unfold Dat at h
    cases q
    subst h
    exact .str b
  | .ty n, v, p, h, q => by unfold toPy at q; cases q
  | .oid n, v, p, h, q => by unfold toPy at q; cases q
  | .dic n, v, p, h, q => by unfold toPy at q; cases q
  | .ins n m, v, p, h, q => by unfold toPy at q; cases q
  | .tup ds, v, p, h, q => by
    unfold toPy at q
    unfold Dat at h
    obtain ⟨a, vs, rfl, h1, h2⟩ := h
    cases r : toPyL ds with
    | none => rw [r] at q; cases q
    | some ps =>
      rw [r] at q
      cases q
      exact .tup (sqt_mono e h1) (toPyL_ok e ds vs ps h2 r)
  | .lst ds, v, p, h, q => by
    unfold toPy at q
    unfold Dat at h
    obtain ⟨a, vs, rfl, h1, h2⟩ := h
    cases r : toPyL ds with
    | none => rw [r] at q; cases q
    | some ps =>
      rw [r] at q
      cases q
      exact .lst (.of (e _ _ h1)) (toPyL_ok e ds vs ps h2 r)
  | .scr ds, v, p, h, q => by
    unfold toPy at q
    unfold Dat at h
    obtain ⟨a, vs, rfl, h1, h2⟩ := h
    cases r : toPyL ds with
    | none => rw [r] at q; cases q
    | some ps =>
      rw [r] at q
      cases q
      exact .lst (Same.seq e h1) (toPyL_ok e ds vs ps h2 r)
theorem toPyL_ok {K : PySem.W.Frag} {mg : Str → Option Value} {φ : List Addr} {G H : Hp} (e : Same G H) : ∀ (ds : List D) (vs : List V) (ps : List PyData), DatL K mg φ G ds vs → toPyL ds = some ps → DpAll K H vs ps
  | [], vs, ps, h, q => by
    unfold toPyL at q
    unfold DatL at h
    cases q
    subst h
    exact .nil
  | d :: ds, vs, ps, h, q => by
    unfold toPyL at q
    unfold DatL at h
    obtain ⟨v, r, rfl, h1, h2⟩ := h
    obtain ⟨p, q1, q2⟩ := Option.bind_eq_some_iff.mp q
    cases rr : toPyL ds with
    | none => rw [rr] at q2; cases q2
    | some ps' =>
      rw [rr] at q2
      cases q2
      exact .cons (toPy_ok e d v p h1 q1) (toPyL_ok e ds r ps' h2 rr)
end
/-- as data, a list of the store by its items -/
def pyOf (S : Store) (d : D) : Option PyData := match d with
  | .oid n => (match asL S (.oid n) with
    | some ds => (toPyL ds).map .list
    | none => match S[n]? with
      | some (.frz d) => toPy d
      | _ => none)
  | d => toPy d
theorem pyOf_ok {Z φ : List Addr} {S : Store} {H : Hp} (R : Rel X.K X.mg Z φ S H) {d : D} {v : V} {p : PyData} (h : Dat X.K X.mg φ (gnd Z φ S H) d v) (q : pyOf S d = some p) : Dp X.K H v p := by
  unfold pyOf at q
  split at q
  · rename_i n
    cases hl : asL S (.oid n) with
    | some ds =>
      rw [hl] at q
      obtain ⟨a, vs, rfl, h1, h2⟩ := asL_ok R h hl
      cases r : toPyL ds with
      | none => simp [r] at q
      | some ps =>
        simp only [r, Option.map_some, Option.some.injEq] at q
        subst q
        exact .lst h1 (toPyL_ok gnd_sub ds vs ps h2 r)
    | none =>
      rw [hl] at q
      simp only at q
      split at q
      · rename_i d hd
        unfold Dat at h
        obtain ⟨a, rfl, ha⟩ := h
        exact toPy_ok gnd_sub d _ p (R.ob n a _ ha hd) q
      · cases q
  · exact toPy_ok gnd_sub d v p h q
def scalD : D → D → Bool
  | .non, .non => true | .non, .int _ => true | .int _, .non => true | .non, .bl _ => true | .bl _, .non => true | .non, .str _ => true | .str _, .non => true
  | .int _, .int _ => true | .bl _, .bl _ => true | .str _, .str _ => true
  | .int _, .str _ => true | .str _, .int _ => true | .bl _, .str _ => true | .str _, .bl _ => true
  | _, _ => false
def eqS : D → D → Bool
  | .non, .non => true
  | .int i, .int j => decide (i = j)
  | .bl i, .bl j => decide (i = j)
  | .str i, .str j => decide (i = j)
  | _, _ => false
def gEqS (neg : Bool) : G2 := fun x y S => if scalD x y then .ok (.bl (if neg then !eqS x y else eqS x y)) S else .stuck
def gEqD (neg : Bool) : G2 := fun x y S => match pyOf S x, pyOf S y with
  | some p, some q => if SeqAt.shaped p && SeqAt.shaped q then .ok (.bl (if neg then !PyData.eqv p q else PyData.eqv p q)) S else .stuck
  | _, _ => .stuck
theorem eqS_ok {φ : List Addr} {G : Hp} {x y : D} {u v : V} (h : scalD x y = true) (dx : Dat X.K X.mg φ G x u) (dy : Dat X.K X.mg φ G y v) : scal u v = true ∧ decide (u = v) = eqS x y := by
  cases x <;> cases y <;> first
    | (cases h; done)
    | (unfold Dat at dx dy; subst dx; subst dy; refine ⟨rfl, ?_⟩; simp [eqS])
theorem opd_eqS : OpD X rEq (gEqS false) := fun Z φ S H x y u v Q E R dx dy w => by
  obtain ⟨h, w1⟩ := want_if w
  obtain ⟨a, b⟩ := eqS_ok h dx dy
  refine ⟨a, ?_⟩
  rw [b]
  exact w1.now R (dat_bl _)
theorem opd_neS : OpD X rNe (gEqS true) := fun Z φ S H x y u v Q E R dx dy w => by
  obtain ⟨h, w1⟩ := want_if w
  obtain ⟨a, b⟩ := eqS_ok h dx dy
  refine ⟨a, ?_⟩
  rw [b]
  exact w1.now R (dat_bl _)
theorem opd_eqD : OpD X (rEqD X.K) (gEqD false) := fun Z φ S H x y u v Q E R dx dy w => by
  unfold gEqD at w
  split at w
  · rename_i p q e1 e2
    obtain ⟨h, w1⟩ := want_if w
    rw [Bool.and_eq_true] at h
    exact ⟨p, q, pyOf_ok R dx e1, pyOf_ok R dy e2, h.1, h.2, w1.now R (dat_bl _)⟩
  · exact w.elim
theorem opd_neD : OpD X (rNeD X.K) (gEqD true) := fun Z φ S H x y u v Q E R dx dy w => by
  unfold gEqD at w
  split at w
  · rename_i p q e1 e2
    obtain ⟨h, w1⟩ := want_if w
    rw [Bool.and_eq_true] at h
    exact ⟨p, q, pyOf_ok R dx e1, pyOf_ok R dy e2, h.1, h.2, w1.now R (dat_bl _)⟩
  · exact w.elim
def pScal (x y : D) (_ : Store) : Bool := scalD x y
def gEq : G2 := fun x y S => if pScal x y S then gEqS false x y S else gEqD false x y S
def gNe : G2 := fun x y S => if pScal x y S then gEqS true x y S else gEqD true x y S
theorem Cn.u64 (C : Cn X W k) : X.A.units + 64 < cLine := C.room.units
theorem Cn.u1 (C : Cn X W k) : X.A.units + 1 < cLine := Nat.lt_of_le_of_lt (by omega) C.u64
theorem opr_eq (C : Cn X W k) : OpR X (compareOp .Eq) (fun x y H Q => rEq x y H Q ∨ rEqD X.K x y H Q) := op_eq.or (op_eqD C.u64)
theorem opr_ne (C : Cn X W k) : OpR X (compareOp .NotEq) (fun x y H Q => rNe x y H Q ∨ rNeD X.K x y H Q) := op_ne.or (op_neD C.u64)
theorem opd_eq : OpD X (fun x y H Q => rEq x y H Q ∨ rEqD X.K x y H Q) gEq := OpD.or pScal opd_eqS opd_eqD
theorem opd_ne : OpD X (fun x y H Q => rNe x y H Q ∨ rNeD X.K x y H Q) gNe := OpD.or pScal opd_neS opd_neD

/-! ### in -/
def D.flat : D → Bool
  | .non => true
  | .bl _ => true
  | .int _ => true
  | .str _ => true
  | _ => false
def eqF : D → D → Bool
  | .non, .non => true
  | .bl a, .bl b => a == b
  | .bl a, .int b => (if a then 1 else 0) == b
  | .int a, .bl b => a == (if b then 1 else 0)
  | .int a, .int b => a == b
  | .str a, .str b => a == b
  | _, _ => false
theorem flat_V {φ : List Addr} {G : Hp} {d : D} {v : V} (h : Dat X.K X.mg φ G d v) (f : d.flat = true) : flatV v = true := by
  cases d <;> first
    | (cases f; done)
    | (unfold Dat at h; subst h; rfl)
theorem eqF_V {φ : List Addr} {G : Hp} {x y : D} {u v : V} (dx : Dat X.K X.mg φ G x u) (dy : Dat X.K X.mg φ G y v) (fx : x.flat = true) (fy : y.flat = true) : eqV u v = eqF x y := by
  cases x <;> cases y <;> first
    | (cases fx; done)
    | (cases fy; done)
    | (unfold Dat at dx dy; subst dx; subst dy; rfl)
theorem all_flat {φ : List Addr} {G : Hp} : ∀ {ds : List D} {vs : List V}, DatL X.K X.mg φ G ds vs → ds.all D.flat = true → vs.all flatV = true
  | [], _, h, _ => by
    unfold DatL at h
    subst h
    rfl
  | d :: ds, _, h, f => by
    obtain ⟨v, r, rfl, h1, h2⟩ := h.uncons
    rw [List.all_cons, Bool.and_eq_true] at f ⊢
    exact ⟨flat_V h1 f.1, all_flat h2 f.2⟩
def inF (x : D) (ds : List D) : Bool := ds.any fun y => eqF y x
theorem inF_V {φ : List Addr} {G : Hp} {x : D} {u : V} (dx : Dat X.K X.mg φ G x u) (fx : x.flat = true) : ∀ {ds : List D} {vs : List V}, DatL X.K X.mg φ G ds vs → ds.all D.flat = true → inV u vs = inF x ds
  | [], _, h, _ => by
    unfold DatL at h
    subst h
    rfl
  | d :: ds, _, h, f => by
    obtain ⟨v, r, rfl, h1, h2⟩ := h.uncons
    rw [List.all_cons, Bool.and_eq_true] at f
    have q := inF_V dx fx h2 f.2
    unfold inV inF at q ⊢
    rw [List.any_cons, List.any_cons, q, eqF_V h1 dx f.1 fx]
def gInQ (neg : Bool) : G2 := fun x y S => match asQ S y with
  | some ds => if x.flat && ds.all D.flat then .ok (.bl (if neg then !inF x ds else inF x ds)) S else .stuck
  | none => .stuck
theorem opd_inQ {neg : Bool} : OpD X (rIn X.K neg) (gInQ neg) := fun Z φ S H x y u v Q E R dx dy w => by
  unfold gInQ at w
  split at w
  · rename_i ds e1
    obtain ⟨h, w1⟩ := want_if w
    rw [Bool.and_eq_true] at h
    obtain ⟨p, vs, rfl, h1, h2⟩ := asQ_ok R dy e1
    refine ⟨p, vs, rfl, h1, flat_V dx h.1, all_flat h2 h.2, ?_⟩
    rw [inF_V dx h.1 h2 h.2]
    exact w1.now R (dat_bl _)
  · exact w.elim
/-! dicts -/
def asD (S : Store) : D → Option (List (Key × D))
  | .dic ks => some ks
  | .oid n => match S[n]? with
    | some (.dic ks) => some ks
    | some (.frz (.dic ks)) => some ks
    | _ => none
  | _ => none
theorem asD_ok {K : PySem.W.Frag} {mg : Str → Option Value} {Z φ : List Addr} {S : Store} {H : Hp} (R : Rel K mg Z φ S H) {d : D} {v : V} {ks : List (Key × D)} (h : Dat K mg φ (gnd Z φ S H) d v) (e : asD S d = some ks) : ∃ a kvs, v = .ref a ∧ H a = some (.dK kvs) ∧ DatK K mg φ (gnd Z φ S H) ks kvs := by
  cases d with
  | dic es =>
    cases e
    unfold Dat at h
    obtain ⟨a, vs, rfl, h1, h2⟩ := h
    exact ⟨a, vs, rfl, gnd_sub _ _ h1, h2⟩
  | oid n =>
    unfold Dat at h
    obtain ⟨a, rfl, h1⟩ := h
    cases q : S[n]? with
    | none => simp [asD, q] at e
    | some o =>
      simp only [asD, q] at e
      have ok := R.ob n a o h1 q
      cases o with
      | dic es =>
        cases e
        obtain ⟨vs, q1, q2⟩ := ok
        exact ⟨a, vs, rfl, q1, q2⟩
      | frz d =>
        cases d with
        | dic es =>
          cases e
          have ok' : Dat K mg φ (gnd Z φ S H) (.dic _) (.ref a) := ok
          unfold Dat at ok'
          obtain ⟨b, vs, e1, q1, q2⟩ := ok'
          cases e1
          exact ⟨a, vs, rfl, gnd_sub _ _ q1, q2⟩
        | _ => cases e
      | _ => cases e
  | _ => cases e
def keyD : D → Option Key
  | .int i => some (.inl i)
  | .str x => some (.inr x)
  | _ => none
theorem keyD_ok {φ : List Addr} {G : Hp} {d : D} {v : V} {k : Key} (h : Dat X.K X.mg φ G d v) (e : keyD d = some k) : v = kV k := by
  cases d with
  | int i => cases e; exact dInt h
  | str i => cases e; exact dStr h
  | _ => cases e
theorem valD_ok {K : PySem.W.Frag} {mg : Str → Option Value} {φ : List Addr} {G : Hp} {k : Key} : ∀ {ks : List (Key × D)} {kvs : List (Key × V)}, DatK K mg φ G ks kvs → (∀ d, valD ks k = some d → ∃ v, valV kvs k = some v ∧ Dat K mg φ G d v) ∧ (valD ks k = none → valV kvs k = none)
  | [], _, h => by
    unfold DatK at h
    subst h
    exact ⟨fun d q => (by cases q), fun _ => rfl⟩
  | (j, d) :: ks, _, h => by
    unfold DatK at h
    obtain ⟨v, r, rfl, h1, h2⟩ := h
    obtain ⟨A, B⟩ := valD_ok (k := k) h2
    unfold valD valV at A B ⊢
    rw [List.find?_cons, List.find?_cons]
    by_cases hj : j = k
    · simp only [hj, decide_true]
      exact ⟨fun e q => (by cases q; exact ⟨v, rfl, h1⟩), fun q => (by cases q)⟩
    · simp only [hj, decide_false]
      exact ⟨A, B⟩
theorem valD_some {K : PySem.W.Frag} {mg : Str → Option Value} {φ : List Addr} {G : Hp} {k : Key} {ks : List (Key × D)} {kvs : List (Key × V)} (h : DatK K mg φ G ks kvs) : (valV kvs k).isSome = (valD ks k).isSome := by
  obtain ⟨A, B⟩ := valD_ok (k := k) h
  cases q : valD ks k with
  | none => rw [B q]; rfl
  | some d =>
    obtain ⟨v, e, _⟩ := A d q
    rw [e]
    rfl
def rInD : R2 := fun y x H Q => ∃ a o, x = .ref a ∧ DGet H a y o ∧ Q (.bl o.isSome) H
def rNotInD : R2 := fun y x H Q => ∃ a o, x = .ref a ∧ DGet H a y o ∧ Q (.bl (!o.isSome)) H
theorem opr_inD (C : Cn X W k) : OpR X (compareOp .In) rInD := fun pins s σ H x y v u Q I rx ry h => by
  obtain ⟨p, o, rfl, g, q⟩ := h
  cases (show u = Value.ref p from ry)
  exact d_in C.u1 I g rx fun s' I' => ⟨.bl o.isSome, H, I', rfl, q⟩
theorem opr_notInD (C : Cn X W k) : OpR X (compareOp .NotIn) rNotInD := fun pins s σ H x y v u Q I rx ry h => by
  obtain ⟨p, o, rfl, g, q⟩ := h
  cases (show u = Value.ref p from ry)
  exact d_notIn C.u1 I g rx fun s' I' => ⟨.bl (!o.isSome), H, I', rfl, q⟩
def gInD (neg : Bool) : G2 := fun x y S => match asD S y, keyD x with
  | some ks, some j => .ok (.bl (if neg then !(valD ks j).isSome else (valD ks j).isSome)) S
  | _, _ => .stuck
theorem opd_inD : OpD X rInD (gInD false) := fun Z φ S H x y u v Q E R dx dy w => by
  unfold gInD at w
  split at w
  · rename_i ks j e1 e2
    obtain ⟨p, kvs, rfl, h1, h2⟩ := asD_ok R dy e1
    refine ⟨p, valV kvs j, rfl, .inl ⟨kvs, j, .inl h1, keyD_ok dx e2, rfl⟩, ?_⟩
    rw [valD_some h2]
    exact w.now R (dat_bl _)
  · exact w.elim
theorem opd_notInD : OpD X rNotInD (gInD true) := fun Z φ S H x y u v Q E R dx dy w => by
  unfold gInD at w
  split at w
  · rename_i ks j e1 e2
    obtain ⟨p, kvs, rfl, h1, h2⟩ := asD_ok R dy e1
    refine ⟨p, valV kvs j, rfl, .inl ⟨kvs, j, .inl h1, keyD_ok dx e2, rfl⟩, ?_⟩
    rw [valD_some h2]
    exact w.now R (dat_bl _)
  · exact w.elim
def pDic (_ y : D) (S : Store) : Bool := (asD S y).isSome
def gIn : G2 := fun x y S => if pDic x y S then gInD false x y S else gInQ false x y S
def gNotIn : G2 := fun x y S => if pDic x y S then gInD true x y S else gInQ true x y S
theorem opr_in (C : Cn X W k) : OpR X (compareOp .In) (fun x y H Q => rInD x y H Q ∨ rIn X.K false x y H Q) := (opr_inD C).or op_in_seq
theorem opr_notIn (C : Cn X W k) : OpR X (compareOp .NotIn) (fun x y H Q => rNotInD x y H Q ∨ rIn X.K true x y H Q) := (opr_notInD C).or op_notIn_seq
theorem opd_in : OpD X (fun x y H Q => rInD x y H Q ∨ rIn X.K false x y H Q) gIn := OpD.or pDic opd_inD opd_inQ
theorem opd_notIn : OpD X (fun x y H Q => rNotInD x y H Q ∨ rIn X.K true x y H Q) gNotIn := OpD.or pDic opd_notInD opd_inQ

/-! ### items -/
def gIxQ : G2 := fun x y S => match asQ S x, y with
  | some ds, .int i => (match atI ds i with
    | some d => .ok d S
    | none => .stuck)
  | _, _ => .stuck
theorem atI_dat {φ : List Addr} {G : Hp} {ds : List D} {vs : List V} (h : DatL X.K X.mg φ G ds vs) {i : Int} {d : D} (e : atI ds i = some d) : ∃ v, atI vs i = some v ∧ Dat X.K X.mg φ G d v := by
  unfold atI at e ⊢
  rw [h.length]
  obtain ⟨j, h1, h2⟩ := Option.bind_eq_some_iff.mp e
  obtain ⟨v, h3, h4⟩ := h.get h2
  exact ⟨v, by rw [h1, Option.bind_some, h3], h4⟩
theorem opd_ixQ : OpD X (fun x y H Q => rIxL X.K x y H Q ∨ rIxT X.K x y H Q) gIxQ := fun Z φ S H x y u v Q E R dx dy w => by
  unfold gIxQ at w
  split at w
  · rename_i ds i e1
    cases dInt dy
    obtain ⟨p, vs, rfl, h1, h2⟩ := asQ_ok R dx e1
    cases q : atI ds i with
    | none => rw [q] at w; exact w.elim
    | some d =>
      rw [q] at w
      obtain ⟨z, h3, h4⟩ := atI_dat h2 q
      rcases h1 with h1 | h1
      · exact .inl ⟨p, vs, i, z, rfl, rfl, h1, h3, w.now R h4⟩
      · exact .inr ⟨p, vs, i, z, rfl, rfl, h1, h3, w.now R h4⟩
  · exact w.elim
def rIxD : R2 := fun x y H Q => ∃ a v, x = .ref a ∧ DGet H a y (some v) ∧ Q v H
theorem ix_dict (C : Cn X W k) : IxR X rIxD := fun value slice pins s σ H x y v u Q I rx ry h hs => by
  obtain ⟨p, z, rfl, g, q⟩ := h
  cases (show v = Value.ref p from rx)
  exact PyProof.Rows.tail_any (dict_typeIs I g) PySem.F.slot_dict_getitem.lookup (d_getItem C.u1 I g ry fun w' s3 I3 rw' => ⟨z, H, I3, rw', q⟩) hs
def gIxD : G2 := fun x y S => match asD S x, keyD y with
  | some ks, some j => (match valD ks j with
    | some d => .ok d S
    | none => .stuck)
  | _, _ => .stuck
theorem opd_ixD : OpD X rIxD gIxD := fun Z φ S H x y u v Q E R dx dy w => by
  unfold gIxD at w
  split at w
  · rename_i ks j e1 e2
    obtain ⟨p, kvs, rfl, h1, h2⟩ := asD_ok R dx e1
    cases q : valD ks j with
    | none => rw [q] at w; exact w.elim
    | some d =>
      rw [q] at w
      obtain ⟨z, h3, h4⟩ := (valD_ok h2).1 d q
      exact ⟨p, z, rfl, .inl ⟨kvs, j, .inl h1, keyD_ok dy e2, h3.symm⟩, w.now R h4⟩
  · exact w.elim
def gIxS : G2 := fun x y S => match x, y with
  | .str z, .int i => if short z.length then (match atI z.cps.toList i with
    | some c => .ok (.str ⟨#[c]⟩) S
    | none => .stuck) else .stuck
  | _, _ => .stuck
theorem opd_ixS : OpD X rIxS gIxS := fun Z φ S H x y u v Q E R dx dy w => by
  unfold gIxS at w
  split at w
  · rename_i z i
    cases dInt dy
    cases dStr dx
    obtain ⟨h, w1⟩ := want_if w
    cases q : atI z.cps.toList i with
    | none => rw [q] at w1; exact w1.elim
    | some c =>
      rw [q] at w1
      exact ⟨z, i, c, rfl, rfl, of_decide_eq_true h, q, w1.now R (dat_str _)⟩
  · exact w.elim
def pDic1 (x _ : D) (S : Store) : Bool := (asD S x).isSome
def gIx : G2 := fun x y S => if pDic1 x y S then gIxD x y S else if isS x y S then gIxS x y S else gIxQ x y S
theorem de_sub1 (C : Cn X W k) (ha : DE X W a fa) (hb : DE X W b fb) (hs : PlainIx b := by intro _ _; rfl) : DE X W (.Subscript a b pos) (fBin gIx fa fb) :=
  de_ix ((ix_dict C).or (ix_str.or (ix_list.or ix_tup))) (OpD.or pDic1 opd_ixD (OpD.or isS opd_ixS opd_ixQ)) ha hb hs
end
end DL

/-! The data layer, part 10: chains of comparisons, calls of built-in functions. -/
namespace DL
open PySem L2

section
variable {X : Cx} {W : WX} {k : Nat} {a b c e : Expr} {es : List Expr} {fa fb fc fe : FE} {pos p : Pos}
/-! ### chains -/
theorem chain_ok {ta tb tc : TE} {r r' : R2} {g g' : G2} (hg : OpD X r g) (hg' : OpD X r' g') (qa : IsE X W ta fa) (qb : IsE X W tb fb) (qc : IsE X W tc fc) : IsE X W (tChain r r' ta tb tc) (fChain g g' fa fb fc) := fun Z φ S ρ σ H Q R sl w =>
  qa Z φ S ρ σ H _ R sl (w.bind fun x S1 u φ1 H1 R1 E1 d1 w1 => qb Z φ1 S1 ρ σ H1 _ R1 (sl.evo E1) (w1.bind fun y S2 v φ2 H2 R2 E2 d2 w2 =>
    hg Z φ2 S2 H2 x y u v _ _ R2 (Dat.evo E2 d1) d2 (w2.bind fun z S3 t φ3 H3 R3 E3 d3 w3 => by
      cases z with
      | bl k =>
        unfold RDat Dat at d3
        refine ⟨k, d3, ?_⟩
        cases k with
        | true => exact iteT (qc Z φ3 S3 ρ σ H3 _ R3 (((sl.evo E1).evo E2).evo E3) (w3.bind fun s S4 q φ4 H4 R4 E4 d4 w4 => hg' Z φ4 S4 H4 y s v q _ _ R4 (Dat.evo E4 (Dat.evo E3 d2)) d4 w4))
        | false => exact iteF (w3.now R3 (dat_bl _))
      | _ => exact w3.elim)))
theorem de_chain {op op' : CmpOp} {r r' : R2} {g g' : G2} (ho : OpR X (compareOp op) r) (ho' : OpR X (compareOp op') r') (hg : OpD X r g) (hg' : OpD X r' g') (ha : DE X W a fa) (hb : DE X W b fb) (hc : DE X W c fc)
    (hm : lastMarks [op, op'] [b, c] = false := by with_unfolding_all rfl) : DE X W (.Compare a [op, op'] [b, c] pos) (fChain g g' fa fb fc) := by
  obtain ⟨ta, pa, qa⟩ := ha.ex
  obtain ⟨tb, pb, qb⟩ := hb.ex
  obtain ⟨tc, pc, qc⟩ := hc.ex
  exact .mk (pe_chain ho ho' pa pb pc hm) (chain_ok hg hg' qa qb qc)
/-! ### calls of what is built in -/
abbrev GC := List D → Store → Res D
def CallD (X : Cx) (r : List V → Hp → VK → Prop) (g : GC) : Prop := ∀ (Z φ : List Addr) (S : Store) (H : Hp) (ds : List D) (vs : List V) (Q : VK) (E : XK), Rel X.K X.mg Z φ S H → DatL X.K X.mg φ (gnd Z φ S H) ds vs → Want X.K X.mg (RDat X.K X.mg) Z φ S H (g ds S) Q E → r vs H Q
def fCB (g : GC) (fa : FA) : FE := fun ρ S => (fa ρ S).bind g
theorem isE_cb {r : List V → Hp → VK → Prop} {g : GC} {t : TA} {fa : FA} (hg : CallD X r g) (q : IsA X W t fa) : IsE X W (tCB r t) (fCB g fa) := fun Z φ S ρ σ H Q R sl w =>
  q Z φ S ρ σ H _ R sl (w.bind fun ds S1 vs φ1 H1 R1 E1 d w1 => hg Z φ1 S1 H1 ds vs Q _ R1 d w1)
theorem de_callB {x : Str} {id : String} {r : List V → Hp → VK → Prop} {g : GC} {fa : FA} (hc : CallR X (.builtin id) r) (hd : CallD X r g) (hg : Gl X x) (hm : X.mg x = none) (hv : bootBuiltins x = some (.builtin id)) (ha : DA X W (e :: es) fa) (hn : x ≠ "__name__" := by decide) (hdb : (x == ("__debug__" : Str)) = false := by decide)
    (he : starEach (e :: es) X.env = (false, eval e X.env) :: starEach es X.env := by rfl) (hpl : (backTo pos (starEach es X.env)).any (·.1) = false := by rfl) : DE X W (.Call (.Name x p) (e :: es) [] pos) (fCB g fa) := by
  obtain ⟨t, p, q⟩ := ha.ex
  exact .mk (pe_callB hc hg hm hv p hn hdb he hpl) (isE_cb hd q)
theorem de_callTy {x : Str} {id : String} {r : List V → Hp → VK → Prop} {g : GC} {fa : FA} (hc : CallR X (.type id) r) (hd : CallD X r g) (hg : Gl X x) (hm : X.mg x = none) (hv : bootBuiltins x = some (.type id)) (ha : DA X W (e :: es) fa) (hn : x ≠ "__name__" := by decide) (hdb : (x == ("__debug__" : Str)) = false := by decide)
    (he : starEach (e :: es) X.env = (false, eval e X.env) :: starEach es X.env := by rfl) (hpl : (backTo pos (starEach es X.env)).any (·.1) = false := by rfl) : DE X W (.Call (.Name x p) (e :: es) [] pos) (fCB g fa) := by
  obtain ⟨t, p, q⟩ := ha.ex
  exact .mk (pe_callTy hc hg hm hv p hn hdb he hpl) (isE_cb hd q)
theorem callR_or {f : Value} {r r' : List V → Hp → VK → Prop} (h : CallR X f r) (h' : CallR X f r') : CallR X f (fun xs H Q => r xs H Q ∨ r' xs H Q) := fun pins s σ H xs us Q I rx q => q.elim (h pins s σ H xs us Q I rx) (h' pins s σ H xs us Q I rx)
theorem callD_or {r r' : List V → Hp → VK → Prop} {g g' : GC} (t : List D → Store → Bool) (h : CallD X r g) (h' : CallD X r' g') : CallD X (fun xs H Q => r xs H Q ∨ r' xs H Q) (fun ds S => if t ds S then g ds S else g' ds S) := fun Z φ S H ds vs Q E R d w => by
  by_cases q : t ds S = true
  · exact .inl (h Z φ S H ds vs Q E R d (by simpa only [q, if_true] using w))
  · exact .inr (h' Z φ S H ds vs Q E R d (by simpa [q] using w))

/-! len -/
def gLenQ : GC := fun ds S => match ds with
  | [d] => match asQ S d with
    | some xs => .ok (.int (xs.length : Nat)) S
    | none => .stuck
  | _ => .stuck
def gLenS : GC := fun ds S => match ds with
  | [.str z] => if short z.length then .ok (.int (z.length : Nat)) S else .stuck
  | _ => .stuck
def gLenD : GC := fun ds S => match ds with
  | [d] => match asD S d with
    | some ks => .ok (.int (ks.length : Nat)) S
    | none => .stuck
  | _ => .stuck
theorem datK_length {K : PySem.W.Frag} {mg : Str → Option Value} {φ : List Addr} {G : Hp} : ∀ {ks : List (Key × D)} {kvs : List (Key × V)}, DatK K mg φ G ks kvs → kvs.length = ks.length
  | [], _, h => by
    unfold DatK at h
    subst h
    rfl
  | (k, d) :: ks, _, h => by
    unfold DatK at h
    obtain ⟨v, r, rfl, _, h2⟩ := h
    rw [List.length_cons, List.length_cons, datK_length h2]
theorem cd_lenQ : CallD X (fun xs H Q => ∃ p ys, xs = [.ref p] ∧ (SqL X.K H p ys ∨ SqT X.K H p ys) ∧ Q (.int ys.length) H) gLenQ := fun Z φ S H ds vs Q E R d w => by
  unfold gLenQ at w
  split at w
  · obtain ⟨v, rfl, h1⟩ := datL1 d
    split at w
    · rename_i xs e1
      obtain ⟨a, us, rfl, h2, h3⟩ := asQ_ok R h1 e1
      refine ⟨a, us, rfl, h2, ?_⟩
      rw [h3.length]
      exact w.now R (dat_int _)
    · exact w.elim
  · exact w.elim
theorem cd_lenS : CallD X (fun xs H Q => ∃ z, xs = [.str z] ∧ z.length ≤ sizeLine ∧ Q (.int z.length) H) gLenS := fun Z φ S H ds vs Q E R d w => by
  unfold gLenS at w
  split at w
  · obtain ⟨v, rfl, h1⟩ := datL1 d
    obtain ⟨h, w1⟩ := want_if w
    cases dStr h1
    exact ⟨_, rfl, of_decide_eq_true h, w1.now R (dat_int _)⟩
  · exact w.elim
theorem cd_lenD : CallD X (fun xs H Q => ∃ a kvs, xs = [V.ref a] ∧ H a = some (.dK kvs) ∧ Q (.int kvs.length) H) gLenD := fun Z φ S H ds vs Q E R d w => by
  unfold gLenD at w
  split at w
  · obtain ⟨v, rfl, h1⟩ := datL1 d
    split at w
    · rename_i xs e1
      obtain ⟨a, us, rfl, h2, h3⟩ := asD_ok R h1 e1
      refine ⟨a, us, rfl, h2, ?_⟩
      rw [datK_length h3]
      exact w.now R (dat_int _)
    · exact w.elim
  · exact w.elim
def isDic1 (ds : List D) (S : Store) : Bool := match ds with
  | [d] => (asD S d).isSome
  | _ => false
def isStr1 (ds : List D) (_ : Store) : Bool := match ds with
  | [.str _] => true
  | _ => false
def gLen : GC := fun ds S => if isDic1 ds S then gLenD ds S else if isStr1 ds S then gLenS ds S else gLenQ ds S
theorem de_len {fa : FA} (hg : Gl X "len") (hm : X.mg "len" = none) (ha : DA X W [e] fa) (he : starEach [e] X.env = (false, eval e X.env) :: starEach [] X.env := by rfl) (hpl : (backTo pos (starEach [] X.env)).any (·.1) = false := by rfl) :
    DE X W (.Call (.Name "len" p) [e] [] pos) (fCB gLen fa) :=
  de_callB (callR_or call_lenD (callR_or call_len_str call_len_seq)) (callD_or isDic1 cd_lenD (callD_or isStr1 cd_lenS cd_lenQ)) hg hm (by rfl) ha (by decide) (by decide) he hpl

/-! abs, max, min -/
def gAbs : GC := fun ds S => match ds with
  | [.int i] => .ok (.int (if i < 0 then -i else i)) S
  | _ => .stuck
theorem de_abs {fa : FA} (hg : Gl X "abs") (hm : X.mg "abs" = none) (ha : DA X W [e] fa) (he : starEach [e] X.env = (false, eval e X.env) :: starEach [] X.env := by rfl) (hpl : (backTo pos (starEach [] X.env)).any (·.1) = false := by rfl) :
    DE X W (.Call (.Name "abs" p) [e] [] pos) (fCB gAbs fa) :=
  de_callB call_abs (fun Z φ S H ds vs Q E R d w => by
    unfold gAbs at w
    split at w
    · obtain ⟨v, rfl, h1⟩ := datL1 d
      cases dInt h1
      exact ⟨_, rfl, w.now R (dat_int _)⟩
    · exact w.elim) hg hm (by rfl) ha (by decide) (by decide) he hpl
def intsOf : List D → Option (List Int)
  | [] => some []
  | .int i :: ds => (intsOf ds).map (i :: ·)
  | _ => none
theorem intsOf_ok {K : PySem.W.Frag} {mg : Str → Option Value} {φ : List Addr} {G : Hp} : ∀ {ds : List D} {vs : List V} {ns : List Int}, DatL K mg φ G ds vs → intsOf ds = some ns → vs = ns.map V.int
  | [], _, _, h, e => by
    cases e
    unfold DatL at h
    exact h
  | d :: ds, _, ns, h, e => by
    obtain ⟨v, r, rfl, h1, h2⟩ := h.uncons
    cases d with
    | int i =>
      unfold intsOf at e
      cases q : intsOf ds with
      | none => rw [q] at e; cases e
      | some ms =>
        rw [q] at e
        cases e
        unfold Dat at h1
        subst h1
        rw [intsOf_ok h2 q]
        rfl
    | _ => cases e
theorem dat_ints {K : PySem.W.Frag} {mg : Str → Option Value} {φ : List Addr} {G : Hp} : ∀ (ns : List Int), DatL K mg φ G (ns.map D.int) (ns.map V.int)
  | [] => DatL.nil
  | n :: ns => .cons (by unfold Dat; rfl) (dat_ints ns)
def seqInts (S : Store) (d : D) : Option (List Int) := (asL S d).bind intsOf
theorem seqInts_ok {Z φ : List Addr} {S : Store} {H : Hp} {d : D} {v : V} {ns : List Int} (R : Rel X.K X.mg Z φ S H) (h : Dat X.K X.mg φ (gnd Z φ S H) d v) (e : seqInts S d = some ns) : ∃ a, v = .ref a ∧ SqL X.K H a (ns.map V.int) := by
  obtain ⟨ds, e1, e2⟩ := Option.bind_eq_some_iff.mp e
  obtain ⟨a, us, rfl, h2, h3⟩ := asL_ok R h e1
  refine ⟨a, rfl, ?_⟩
  rw [← intsOf_ok h3 e2]
  exact h2
def maxI : Int → List Int → Int
  | m, [] => m
  | m, n :: ns => maxI (if n > m then n else m) ns
def minI : Int → List Int → Int
  | m, [] => m
  | m, n :: ns => minI (if n < m then n else m) ns
theorem maxI_spec : ∀ (ns : List Int) (m : Int), maxI m ns ∈ m :: ns ∧ ∀ y ∈ m :: ns, y ≤ maxI m ns
  | [], m => ⟨by simp [maxI], fun y h => by simp at h; simp [maxI, h]⟩
  | n :: ns, m => by
    obtain ⟨a, b⟩ := maxI_spec ns (if n > m then n else m)
    have e : maxI m (n :: ns) = maxI (if n > m then n else m) ns := rfl
    rw [e]
    refine ⟨?_, fun y hy => ?_⟩
    · rcases List.mem_cons.mp a with h | h
      · rw [h]
        split
        · simp
        · simp
      · exact List.mem_cons_of_mem _ (List.mem_cons_of_mem _ h)
    · have top := b _ List.mem_cons_self
      have u1 : m ≤ (if n > m then n else m) := by split <;> omega
      have u2 : n ≤ (if n > m then n else m) := by split <;> omega
      rcases List.mem_cons.mp hy with h | h
      · rw [h]
        exact Int.le_trans u1 top
      · rcases List.mem_cons.mp h with h | h
        · rw [h]
          exact Int.le_trans u2 top
        · exact b y (List.mem_cons_of_mem _ h)
theorem minI_spec : ∀ (ns : List Int) (m : Int), minI m ns ∈ m :: ns ∧ ∀ y ∈ m :: ns, minI m ns ≤ y
  | [], m => ⟨by simp [minI], fun y h => by simp at h; simp [minI, h]⟩
  | n :: ns, m => by
    obtain ⟨a, b⟩ := minI_spec ns (if n < m then n else m)
    have e : minI m (n :: ns) = minI (if n < m then n else m) ns := rfl
    rw [e]
    refine ⟨?_, fun y hy => ?_⟩
    · rcases List.mem_cons.mp a with h | h
      · rw [h]
        split
        · simp
        · simp
      · exact List.mem_cons_of_mem _ (List.mem_cons_of_mem _ h)
    · have top := b _ List.mem_cons_self
      have u1 : (if n < m then n else m) ≤ m := by split <;> omega
      have u2 : (if n < m then n else m) ≤ n := by split <;> omega
      rcases List.mem_cons.mp hy with h | h
      · rw [h]
        exact Int.le_trans top u1
      · rcases List.mem_cons.mp h with h | h
        · rw [h]
          exact Int.le_trans top u2
        · exact b y (List.mem_cons_of_mem _ h)
def gMax2 : GC := fun ds S => match ds with
  | [.int i, .int j] => .ok (.int (if j > i then j else i)) S
  | _ => .stuck
def gMin2 : GC := fun ds S => match ds with
  | [.int i, .int j] => .ok (.int (if j < i then j else i)) S
  | _ => .stuck
def gMaxL : GC := fun ds S => match ds with
  | [d] => match seqInts S d with
    | some (n :: ns) => .ok (.int (maxI n ns)) S
    | _ => .stuck
  | _ => .stuck
def gMinL : GC := fun ds S => match ds with
  | [d] => match seqInts S d with
    | some (n :: ns) => .ok (.int (minI n ns)) S
    | _ => .stuck
  | _ => .stuck
def two (ds : List D) (_ : Store) : Bool := decide (ds.length = 2)
def gMax : GC := fun ds S => if two ds S then gMax2 ds S else gMaxL ds S
def gMin : GC := fun ds S => if two ds S then gMin2 ds S else gMinL ds S
theorem cd_max2 : CallD X (fun xs H Q => ∃ i j, xs = [.int i, .int j] ∧ Q (.int (if j > i then j else i)) H) gMax2 := fun Z φ S H ds vs Q E R d w => by
  unfold gMax2 at w
  split at w
  · obtain ⟨v, u, rfl, h1, h2⟩ := datL2 d
    cases dInt h1
    cases dInt h2
    exact ⟨_, _, rfl, w.now R (dat_int _)⟩
  · exact w.elim
theorem cd_min2 : CallD X (fun xs H Q => ∃ i j, xs = [.int i, .int j] ∧ Q (.int (if j < i then j else i)) H) gMin2 := fun Z φ S H ds vs Q E R d w => by
  unfold gMin2 at w
  split at w
  · obtain ⟨v, u, rfl, h1, h2⟩ := datL2 d
    cases dInt h1
    cases dInt h2
    exact ⟨_, _, rfl, w.now R (dat_int _)⟩
  · exact w.elim
theorem cd_maxL : CallD X (rMax X.K) gMaxL := fun Z φ S H ds vs Q E R d w => by
  unfold gMaxL at w
  split at w
  · obtain ⟨v, rfl, h1⟩ := datL1 d
    split at w
    · rename_i n ns e1
      obtain ⟨a, rfl, h2⟩ := seqInts_ok R h1 e1
      refine ⟨a, n :: ns, rfl, h2, by simp, fun m hm hb => ?_⟩
      obtain ⟨q1, q2⟩ := maxI_spec ns n
      rw [Int.le_antisymm (q2 m hm) (hb _ q1)]
      exact w.now R (dat_int _)
    · exact w.elim
  · exact w.elim
theorem cd_minL : CallD X (rMin X.K) gMinL := fun Z φ S H ds vs Q E R d w => by
  unfold gMinL at w
  split at w
  · obtain ⟨v, rfl, h1⟩ := datL1 d
    split at w
    · rename_i n ns e1
      obtain ⟨a, rfl, h2⟩ := seqInts_ok R h1 e1
      refine ⟨a, n :: ns, rfl, h2, by simp, fun m hm hb => ?_⟩
      obtain ⟨q1, q2⟩ := minI_spec ns n
      rw [Int.le_antisymm (hb _ q1) (q2 m hm)]
      exact w.now R (dat_int _)
    · exact w.elim
  · exact w.elim
theorem de_max (C : Cn X W k) {fa : FA} (hg : Gl X "max") (hm : X.mg "max" = none) (ha : DA X W (e :: es) fa) (he : starEach (e :: es) X.env = (false, eval e X.env) :: starEach es X.env := by rfl) (hpl : (backTo pos (starEach es X.env)).any (·.1) = false := by rfl) :
    DE X W (.Call (.Name "max" p) (e :: es) [] pos) (fCB gMax fa) :=
  de_callB (callR_or (call_max2 C.calm) (cr_max C.calm)) (callD_or two cd_max2 cd_maxL) hg hm (by rfl) ha (by decide) (by decide) he hpl
theorem de_min (C : Cn X W k) {fa : FA} (hg : Gl X "min") (hm : X.mg "min" = none) (ha : DA X W (e :: es) fa) (he : starEach (e :: es) X.env = (false, eval e X.env) :: starEach es X.env := by rfl) (hpl : (backTo pos (starEach es X.env)).any (·.1) = false := by rfl) :
    DE X W (.Call (.Name "min" p) (e :: es) [] pos) (fCB gMin fa) :=
  de_callB (callR_or (call_min2 C.calm) (cr_min C.calm)) (callD_or two cd_min2 cd_minL) hg hm (by rfl) ha (by decide) (by decide) he hpl
/-! sum, sorted -/
def gSorted : GC := fun ds S => match ds with
  | [d] => match seqInts S d with
    | some ns => .ok (.lst ((PySem.W.sortI ns).map D.int)) S
    | _ => .stuck
  | _ => .stuck
theorem cd_sorted : CallD X (rSortedI X.K) gSorted := fun Z φ S H ds vs Q E R d w => by
  unfold gSorted at w
  split at w
  · obtain ⟨v, rfl, h1⟩ := datL1 d
    split at w
    · rename_i ns e1
      obtain ⟨a, rfl, h2⟩ := seqInts_ok R h1 e1
      refine ⟨a, ns, rfl, h2, fun ns' p hp hs hn => ?_⟩
      rw [PySem.W.eq_sortI hp hs]
      obtain ⟨r, e, g⟩ := dat_newL R (dat_ints (PySem.W.sortI ns)) hn
      exact w _ _ _ r e g
    · exact w.elim
  · exact w.elim
theorem de_sorted {fa : FA} (hg : Gl X "sorted") (hm : X.mg "sorted" = none) (ha : DA X W [e] fa) (he : starEach [e] X.env = (false, eval e X.env) :: starEach [] X.env := by rfl) (hpl : (backTo pos (starEach [] X.env)).any (·.1) = false := by rfl) :
    DE X W (.Call (.Name "sorted" p) [e] [] pos) (fCB gSorted fa) := de_callB cr_sortedI cd_sorted hg hm (by rfl) ha (by decide) (by decide) he hpl
/-! all, any -/
def bsOf : List D → Option (List Bool)
  | [] => some []
  | .bl b :: ds => (bsOf ds).map (b :: ·)
  | _ => none
theorem bsOf_ok {K : PySem.W.Frag} {mg : Str → Option Value} {φ : List Addr} {G : Hp} : ∀ {ds : List D} {vs : List V} {ns : List Bool}, DatL K mg φ G ds vs → bsOf ds = some ns → vs = ns.map V.bl
  | [], _, _, h, e => by
    cases e
    unfold DatL at h
    exact h
  | d :: ds, _, ns, h, e => by
    obtain ⟨v, r, rfl, h1, h2⟩ := h.uncons
    cases d with
    | bl i =>
      unfold bsOf at e
      cases q : bsOf ds with
      | none => rw [q] at e; cases e
      | some ms =>
        rw [q] at e
        cases e
        unfold Dat at h1
        subst h1
        rw [bsOf_ok h2 q]
        rfl
    | _ => cases e
def gAllAny (all : Bool) : GC := fun ds S => match ds with
  | [d] => match (asL S d).bind bsOf with
    | some bs => .ok (.bl (if all then bs.all id else bs.any id)) S
    | none => .stuck
  | _ => .stuck
theorem de_all (C : Cn X W k) {fa : FA} (hg : Gl X "all") (hm : X.mg "all" = none) (ha : DA X W [e] fa) (he : starEach [e] X.env = (false, eval e X.env) :: starEach [] X.env := by rfl) (hpl : (backTo pos (starEach [] X.env)).any (·.1) = false := by rfl) :
    DE X W (.Call (.Name "all" p) [e] [] pos) (fCB (gAllAny true) fa) :=
  de_callB (cr_all C.calm) (fun Z φ S H ds vs Q E R d w => by
    unfold gAllAny at w
    split at w
    · obtain ⟨v, rfl, h1⟩ := datL1 d
      split at w
      · rename_i bs e1
        obtain ⟨xs, e1, e2⟩ := Option.bind_eq_some_iff.mp e1
        obtain ⟨a, us, rfl, h2, h3⟩ := asL_ok R h1 e1
        rw [bsOf_ok h3 e2] at h2
        exact ⟨a, bs, rfl, h2, w.now R (dat_bl _)⟩
      · exact w.elim
    · exact w.elim) hg hm (by rfl) ha (by decide) (by decide) he hpl
/-! list, tuple -/
def gToL : GC := fun ds S => match ds with
  | [d] => match asQ S d with
    | some xs => .ok (.lst xs) S
    | none => .stuck
  | _ => .stuck
def keyV : Key → D
  | .inl i => .int i
  | .inr x => .str x
def gKeysL : GC := fun ds S => match ds with
  | [d] => match asD S d with
    | some ks => .ok (.lst (ks.map fun q => keyV q.1)) S
    | none => .stuck
  | _ => .stuck
theorem datK_keys {K : PySem.W.Frag} {mg : Str → Option Value} {φ φ' : List Addr} {G G' : Hp} : ∀ {ks : List (Key × D)} {kvs : List (Key × V)}, DatK K mg φ G ks kvs → DatL K mg φ' G' (ks.map fun q => keyV q.1) (kvs.map fun kv => kV kv.1)
  | [], _, h => by
    unfold DatK at h
    subst h
    exact DatL.nil
  | (k, d) :: ks, _, h => by
    unfold DatK at h
    obtain ⟨v, r, rfl, _, h2⟩ := h
    refine .cons ?_ (datK_keys h2)
    cases k <;> unfold keyV Dat <;> rfl
abbrev rListOf (K : PySem.W.Frag) : List V → Hp → VK → Prop := fun xs H Q => ∃ p ys, xs = [.ref p] ∧ (SqL K H p ys ∨ SqT K H p ys) ∧ ∀ l, H l = none → Q (.ref l) (upd H l (.lst ys))
theorem cd_toL : CallD X (rListOf X.K) gToL := fun Z φ S H ds vs Q E R d w => by
  unfold gToL at w
  split at w
  · obtain ⟨v, rfl, h1⟩ := datL1 d
    split at w
    · rename_i xs e1
      obtain ⟨a, us, rfl, h2, h3⟩ := asQ_ok R h1 e1
      refine ⟨a, us, rfl, h2, fun p hn => ?_⟩
      obtain ⟨r, e, g⟩ := dat_newL R h3 hn
      exact w _ _ _ r e g
    · exact w.elim
  · exact w.elim
theorem cd_keysL : CallD X rListD gKeysL := fun Z φ S H ds vs Q E R d w => by
  unfold gKeysL at w
  split at w
  · obtain ⟨v, rfl, h1⟩ := datL1 d
    split at w
    · rename_i xs e1
      obtain ⟨a, us, rfl, h2, h3⟩ := asD_ok R h1 e1
      refine ⟨a, us, rfl, h2, fun p hn => ?_⟩
      obtain ⟨r, e, g⟩ := dat_newL R (datK_keys h3) hn
      exact w _ _ _ r e g
    · exact w.elim
  · exact w.elim
def gList : GC := fun ds S => if isDic1 ds S then gKeysL ds S else gToL ds S
theorem de_list (C : Cn X W k) {fa : FA} (hg : Gl X "list") (hm : X.mg "list" = none) (ha : DA X W [e] fa) (he : starEach [e] X.env = (false, eval e X.env) :: starEach [] X.env := by rfl) (hpl : (backTo pos (starEach [] X.env)).any (·.1) = false := by rfl) :
    DE X W (.Call (.Name "list" p) [e] [] pos) (fCB gList fa) := de_callTy (callR_or (call_list_dK C.calm) call_list_of) (callD_or isDic1 cd_keysL cd_toL) hg hm (by rfl) ha (by decide) (by decide) he hpl
def gTuple : GC := fun ds S => match ds with
  | [.tup xs] => .ok (.tup xs) S
  | [d] => match asL S d with
    | some xs => .ok (.tup xs) S
    | none => .stuck
  | _ => .stuck
theorem cd_tuple : CallD X (fun xs H Q => ∃ p ys, xs = [.ref p] ∧ ((SqL X.K H p ys ∧ ∀ l, H l = none → Q (.ref l) (upd H l (.tup ys))) ∨ (SqT X.K H p ys ∧ Q (.ref p) H))) gTuple := fun Z φ S H ds vs Q E R d w => by
  unfold gTuple at w
  split at w
  · obtain ⟨v, rfl, h1⟩ := datL1 d
    have h1' := h1
    unfold Dat at h1
    obtain ⟨a, us, rfl, h2, h3⟩ := h1
    exact ⟨a, us, rfl, .inr ⟨sqt_mono gnd_sub h2, w.now R h1'⟩⟩
  · obtain ⟨v, rfl, h1⟩ := datL1 d
    split at w
    · rename_i xs e1
      obtain ⟨a, us, rfl, h2, h3⟩ := asL_ok R h1 e1
      refine ⟨a, us, rfl, .inl ⟨h2, fun p hn => ?_⟩⟩
      obtain ⟨r, e, g⟩ := dat_newT R h3 hn
      exact w _ _ _ r e g
    · exact w.elim
  · exact w.elim
theorem de_tuple {fa : FA} (hg : Gl X "tuple") (hm : X.mg "tuple" = none) (ha : DA X W [e] fa) (he : starEach [e] X.env = (false, eval e X.env) :: starEach [] X.env := by rfl) (hpl : (backTo pos (starEach [] X.env)).any (·.1) = false := by rfl) :
    DE X W (.Call (.Name "tuple" p) [e] [] pos) (fCB gTuple fa) := de_callTy call_tuple_of cd_tuple hg hm (by rfl) ha (by decide) (by decide) he hpl

/-! repr -/
end
end DL

/-! The data layer, part 11: set(xs) of a list of ints, sorted(set(xs)). -/
namespace PySem
open PySem.Spec PyProof.Rows L2
section
variable {P : Program} {w : World} {A : Around} {E : Value → Shared → Prop} {s : Shared}
end
end PySem
namespace DL
open PySem L2
section
variable {X : Cx} {W : WX} {k : Nat} {a b c e : Expr} {es : List Expr} {fa fb fc fe : FE} {pos p p2 q2 : Pos}
end
end DL

/-! The data layer, part 12: list(enumerate(xs)). -/
namespace PySem
open PySem.Spec PySem.Calls PyProof.Rows PySem.W L2
namespace F
end F
section
variable {prog : Program} {w : World} {A : Around} {E : Value → Shared → Prop} {s : Shared}
/-- the state of the enumerate object between two nexts -/
def EnAt (e it : Addr) (i : Nat) (h : Heap) : Prop := (∃ old, IsEnum h e it i old) ∨ ∃ old T f oT, IsEnumHeld h e it i old T f ∧ h.get? T = some oT ∧ T ≠ e ∧ T ≠ it
theorem EnAt.keep {e it : Addr} {i : Nat} {h h' : Heap} {S : Addr} (x : EnAt e it i h) (hS : e ≠ S) (hk : ∀ b o, b ≠ S → h.get? b = some o → h'.get? b = some o) (hl : ∀ o, h.get? S = some o → ∃ o', h'.get? S = some o') : EnAt e it i h' := by
  rcases x with ⟨old, q⟩ | ⟨old, T, f, oT, q, q2, q3, q4⟩
  · exact .inl ⟨old, hk _ _ hS q⟩
  · by_cases hT : T = S
    · subst hT
      obtain ⟨o', ho⟩ := hl _ q2
      exact .inr ⟨old, T, f, o', hk _ _ hS q, ho, q3, q4⟩
    · exact .inr ⟨old, T, f, oT, hk _ _ hS q, hk _ _ hT q2, q3, q4⟩
theorem EnAt.ty {e it : Addr} {i : Nat} (x : EnAt e it i s.heap) : s.TypeIs (.ref e) "enumerate" := by
  rcases x with ⟨old, q⟩ | ⟨old, T, f, oT, q, _⟩ <;> exact ⟨_, q, rfl⟩
theorem EnAt.lt {e it : Addr} {i : Nat} {h : Heap} (x : EnAt e it i h) : e < h.objs.size := by
  rcases x with ⟨old, q⟩ | ⟨old, T, f, oT, q, _⟩ <;> exact Heap.lt_size q
/-- the pairs laid so far -/
structure EnG (items : Array Value) (lo : Addr) (h : Heap) (as : List Addr) : Prop where
  above : ∀ a ∈ as, lo < a
  pair : ∀ (j : Nat) (a : Addr), as[j]? = some a → ∃ x tk, items[j]? = some x ∧ h.get? a = some { cls := .type "tuple", data := .seq #[.int (j : Nat) tk, x] }
end
end PySem

/-! The data layer, part 13: list(enumerate(xs)) on data; a, *b = xs. -/
namespace DL
open PySem L2
section
variable {P : Program} {w : World} {H H' : Hp} {h h' : Heap}
end
/-! the pairs of enumerate -/
section
variable {K : PySem.W.Frag} {mg : Str → Option Value} {Z φ : List Addr} {S : Store}
end
section
variable {X : Cx} {W : WX} {k : Nat} {a b c e : Expr} {es : List Expr} {fa fb fc fe : FE} {pos p p2 q2 : Pos}
def gLEnum : GC := fun ds S => match ds with
  | [d] => match asQ S d with
    | some xs => .ok (.lst (enumD 0 xs)) S
    | none => .stuck
  | _ => .stuck
end
end DL

/-! The data layer, part 14: a, *b = xs; isinstance; methods of what is built in; stores by a subscript. -/
namespace PySem
open PySem.Spec PySem.Calls PyProof.Rows PySem.W L2
section
variable {prog : Program} {w : World} {A : Around} {E : Value → Shared → Prop} {s : Shared}
end
end PySem
namespace DL
open PySem L2
section
variable {X : Cx} {W : WX} {k : Nat} {a b c e o : Expr} {es : List Expr} {fa fb fc fe fo : FE} {pos p p2 q2 apos cpos : Pos}
/-! ### a, *b = xs -/
def gStar (i j : Nat) (fe : FE) : FS := fun ρ S => (fe ρ S).into ρ fun d S => match asL S d with
  | some (x :: xs) => .nx ((ρ.set i (some x)).set j (some (.oid S.length))) (S ++ [.lst xs])
  | _ => .stuck
/-! ### isinstance -/
def tyS (S : Store) : D → Option String
  | .non => some "NoneType"
  | .bl _ => some "bool"
  | .int _ => some "int"
  | .str _ => some "str"
  | .tup _ => some "tuple"
  | .lst _ => some "list"
  | .scr _ => some "list"
  | .dic _ => some "dict"
  | .oid n => match S[n]? with
    | some (.lst _) => some "list"
    | some (.dic _) => some "dict"
    | some (.frz (.lst _)) => some "list"
    | some (.frz (.dic _)) => some "dict"
    | _ => none
  | _ => none
theorem tyx_L {K : PySem.W.Frag} {H : Hp} {a : Addr} {xs : List V} (h : SqL K H a xs) : TyX K H (.ref a) (.type "list") := by
  rcases h with (h | ⟨u, h⟩) | ⟨o, its, n, hk, hc, _⟩
  · exact .base (.lst h)
  · exact .base (.frz h)
  · exact .kList hk hc
theorem tyx_T {K : PySem.W.Frag} {H : Hp} {a : Addr} {xs : List V} (h : SqT K H a xs) : TyX K H (.ref a) (.type "tuple") := by
  rcases h with (h | ⟨u, h⟩) | ⟨o, its, n, hk, hc, _⟩
  · exact .base (.tup h)
  · exact .fTuple h
  · exact .kTuple hk hc
theorem tyS_ok {Z φ : List Addr} {S : Store} {H : Hp} (R : Rel X.K X.mg Z φ S H) {d : D} {v : V} {T : String} (h : Dat X.K X.mg φ (gnd Z φ S H) d v) (e : tyS S d = some T) : TyX X.K H v (.type T) := by
  cases d with
  | non => cases e; unfold Dat at h; subst h; exact .base .non
  | bl b => cases e; unfold Dat at h; subst h; exact .base (.bl b)
  | int b => cases e; unfold Dat at h; subst h; exact .base (.int b)
  | str b => cases e; unfold Dat at h; subst h; exact .base (.str b)
  | tup ds =>
    cases e
    unfold Dat at h
    obtain ⟨a, vs, rfl, h1, _⟩ := h
    exact tyx_T (sqt_mono gnd_sub h1)
  | lst ds =>
    cases e
    obtain ⟨a, vs, rfl, h1, _⟩ := asL_ok R h rfl
    exact tyx_L h1
  | scr ds =>
    cases e
    obtain ⟨a, vs, rfl, h1, _⟩ := asL_ok R h rfl
    exact tyx_L h1
  | dic ds =>
    cases e
    obtain ⟨a, vs, rfl, h1, _⟩ := asD_ok R h rfl
    exact .base (.dK h1)
  | oid n =>
    cases hS : S[n]? with
    | none => simp [tyS, hS] at e
    | some so =>
      have L : ∀ ds, asL S (.oid n) = some ds → TyX X.K H v (.type "list") := fun ds q => by
        obtain ⟨a, vs, rfl, h1, _⟩ := asL_ok R h q
        exact tyx_L h1
      have M : ∀ ds, asD S (.oid n) = some ds → TyX X.K H v (.type "dict") := fun ds q => by
        obtain ⟨a, vs, rfl, h1, _⟩ := asD_ok R h q
        exact .base (.dK h1)
      cases so with
      | lst ds =>
        simp only [tyS, hS, Option.some.injEq] at e
        subst e
        exact L ds (by simp [asL, hS])
      | dic ds =>
        simp only [tyS, hS, Option.some.injEq] at e
        subst e
        exact M ds (by simp [asD, hS])
      | frz d =>
        cases d with
        | lst ds =>
          simp only [tyS, hS, Option.some.injEq] at e
          subst e
          exact L ds (by simp [asL, hS])
        | dic ds =>
          simp only [tyS, hS, Option.some.injEq] at e
          subst e
          exact M ds (by simp [asD, hS])
        | _ => simp [tyS, hS] at e
      | ins _ _ => simp [tyS, hS] at e
      | tbl _ _ => simp [tyS, hS] at e
      | dkt _ => simp [tyS, hS] at e
  | _ => cases e
/-- one built-in class under another -/
def isiT : String → String → Option Bool
  | "NoneType", n => if n ∈ ["bool", "int", "str", "tuple", "list", "dict"] then some false else none
  | "bool", n => if n ∈ ["bool", "int"] then some true else if n ∈ ["str", "tuple", "list", "dict"] then some false else none
  | "int", n => if n = "int" then some true else if n ∈ ["bool", "str", "tuple", "list", "dict"] then some false else none
  | "str", n => if n = "str" then some true else if n ∈ ["bool", "int", "tuple", "list", "dict"] then some false else none
  | "tuple", n => if n = "tuple" then some true else if n ∈ ["bool", "int", "str", "list", "dict"] then some false else none
  | "list", n => if n = "list" then some true else if n ∈ ["bool", "int", "str", "tuple", "dict"] then some false else none
  | "dict", n => if n = "dict" then some true else if n ∈ ["bool", "int", "str", "tuple", "list"] then some false else none
  | _, _ => none
theorem isiT_ok {K : PySem.W.Frag} {T n : String} {b : Bool} (h : isiT T n = some b) : PySem.W.kitOne K (.type T) (.type n) = some b := by
  have all : ∀ T ∈ ["NoneType", "bool", "int", "str", "tuple", "list", "dict"], ∀ n ∈ ["bool", "int", "str", "tuple", "list", "dict"], isiT T n = kitB T n := by decide +kernel
  have hT : T ∈ ["NoneType", "bool", "int", "str", "tuple", "list", "dict"] := by
    unfold isiT at h
    split at h <;> first | (simp; done) | (cases h; done)
  have hn : n ∈ ["bool", "int", "str", "tuple", "list", "dict"] := by
    unfold isiT at h
    split at h
    · split at h
      · rename_i q; exact q
      · cases h
    · split at h
      · rename_i q; simp at q ⊢; rcases q with q | q <;> simp [q]
      · split at h
        · rename_i q; simp at q ⊢; rcases q with q | q | q | q <;> simp [q]
        · cases h
    all_goals first
      | (cases h; done)
      | (split at h
         · rename_i q; simp [q]
         · split at h
           · rename_i q; simp at q ⊢; rcases q with q | q | q | q | q <;> simp [q]
           · cases h)
  exact kit_ty (by rw [← all T hT n hn]; exact h)
def isiA (T : String) : List String → Option Bool
  | [] => some false
  | n :: ns => match isiT T n with
    | some true => some true
    | some false => isiA T ns
    | none => none
theorem isiA_ok {K : PySem.W.Frag} {T : String} : ∀ {ns : List String} {b : Bool}, isiA T ns = some b → PySem.W.kitAny K (.type T) (ns.map Value.type) = some b
  | [], _, h => by cases h; exact kitAny_nil
  | n :: ns, b, h => by
    unfold isiA at h
    split at h
    · rename_i q
      cases h
      exact kitAny_cons (isiT_ok q) (fun z => nomatch z) fun _ => rfl
    · rename_i q
      exact kitAny_cons (isiT_ok q) (fun _ => isiA_ok h) fun z => nomatch z
    · cases h
def rIsiQ (K : PySem.W.Frag) : List V → Hp → VK → Prop := fun xs H Q => ∃ (x : V) (tp : Addr) (cs : List V) (t : Value) (us : List Value) (b : Bool), xs = [x, .ref tp] ∧ SqT K H tp cs ∧ Paired ClsV cs us ∧ TyX K H x t ∧ PySem.W.kitAny K t us = some b ∧ Q (.bl b) H
theorem call_isiQ : CallR X (.builtin "isinstance") (rIsiQ X.K) := fun pins s σ H xs us Q I r h => by
  obtain ⟨x, tp, cs, t, ws, b, rfl, hT, kk, ty, ee, q⟩ := h
  obtain ⟨u1, u2, rfl, r1, r2⟩ := vals2 r
  cases (show u2 = Value.ref tp from r2)
  obtain ⟨P, Zk, pz, hx⟩ := kit_of I r1 ty
  obtain ⟨its, rv, ⟨ob, h1, h2, n, h3⟩, _⟩ := I.tuple hT
  have e3 := ClsV.all kk rv
  subst e3
  obtain ⟨oc, od, dt, sl⟩ := ob
  simp only at h2 h3
  subst h2 h3
  exact PySem.W.kia_tup Zk I.kIn pz h1 ee hx fun tk => ⟨.bl b, H, I.tok tk, rfl, q⟩
def tysOf : List D → Option (List String)
  | [] => some []
  | .ty n :: ds => (tysOf ds).map (n :: ·)
  | _ => none
theorem tysOf_ok {φ : List Addr} {G : Hp} : ∀ {ds : List D} {vs : List V} {ns : List String}, DatL X.K X.mg φ G ds vs → tysOf ds = some ns → Paired ClsV vs (ns.map Value.type)
  | [], _, _, h, e => by
    cases e
    unfold DatL at h
    subst h
    exact .nil
  | d :: ds, _, ns, h, e => by
    obtain ⟨v, r, rfl, h1, h2⟩ := h.uncons
    cases d with
    | ty i =>
      unfold tysOf at e
      cases q : tysOf ds with
      | none => rw [q] at e; cases e
      | some ms =>
        rw [q] at e
        cases e
        unfold Dat at h1
        subst h1
        exact .cons (.ty i) (tysOf_ok h2 q)
    | _ => cases e
def gIsi1 : GC := fun ds S => match ds with
  | [x, .ty n] => match (tyS S x).bind fun T => isiT T n with
    | some b => .ok (.bl b) S
    | none => .stuck
  | _ => .stuck
def gIsiN : GC := fun ds S => match ds with
  | [x, .tup cs] => match (tyS S x).bind fun T => (tysOf cs).bind fun ns => isiA T ns with
    | some b => .ok (.bl b) S
    | none => .stuck
  | _ => .stuck
def isTy2 (ds : List D) (_ : Store) : Bool := match ds with
  | [_, .ty _] => true
  | _ => false
def gIsi : GC := fun ds S => if isTy2 ds S then gIsi1 ds S else gIsiN ds S
theorem cd_isi1 : CallD X (rIsi X.K) gIsi1 := fun Z φ S H ds vs Q E R d w => by
  unfold gIsi1 at w
  split at w
  · obtain ⟨v, u, rfl, h1, h2⟩ := datL2 d
    split at w
    · rename_i b q
      obtain ⟨T, q1, q2⟩ := Option.bind_eq_some_iff.mp q
      unfold Dat at h2
      subst h2
      exact ⟨v, _, _, _, b, rfl, .ty _, tyS_ok R h1 q1, isiT_ok q2, w.now R (dat_bl _)⟩
    · exact w.elim
  · exact w.elim
theorem cd_isiN : CallD X (rIsiQ X.K) gIsiN := fun Z φ S H ds vs Q E R d w => by
  unfold gIsiN at w
  split at w
  · obtain ⟨v, u, rfl, h1, h2⟩ := datL2 d
    split at w
    · rename_i b q
      obtain ⟨T, q1, q2⟩ := Option.bind_eq_some_iff.mp q
      obtain ⟨ns, q3, q4⟩ := Option.bind_eq_some_iff.mp q2
      unfold Dat at h2
      obtain ⟨a, us, rfl, h3, h4⟩ := h2
      exact ⟨v, a, us, _, _, b, rfl, sqt_mono gnd_sub h3, tysOf_ok h4 q3, tyS_ok R h1 q1, isiA_ok q4, w.now R (dat_bl _)⟩
    · exact w.elim
  · exact w.elim
theorem de_isi {fa : FA} (hg : Gl X "isinstance") (hm : X.mg "isinstance" = none) (ha : DA X W [e, b] fa) (he : starEach [e, b] X.env = (false, eval e X.env) :: starEach [b] X.env := by rfl) (hpl : (backTo pos (starEach [b] X.env)).any (·.1) = false := by rfl) :
    DE X W (.Call (.Name "isinstance" p) [e, b] [] pos) (fCB gIsi fa) := de_callB (callR_or call_isi call_isiQ) (callD_or isTy2 cd_isi1 cd_isiN) hg hm (by rfl) ha (by decide) (by decide) he hpl

/-! ### methods of what is built in -/
abbrev GM := D → List D → Store → Res D
def MethD (X : Cx) (r : V → List V → Hp → VK → Prop) (g : GM) : Prop := ∀ (Z φ : List Addr) (S : Store) (H : Hp) (x : D) (u : V) (ds : List D) (vs : List V) (Q : VK) (E : XK), Rel X.K X.mg Z φ S H → Dat X.K X.mg φ (gnd Z φ S H) x u → DatL X.K X.mg φ (gnd Z φ S H) ds vs →
  Want X.K X.mg (RDat X.K X.mg) Z φ S H (g x ds S) Q E → r u vs H Q
def fBM (T : String) (g : GM) (fo : FE) (fa : FA) : FE := fun ρ S => (fo ρ S).bind fun x S => if tyS S x = some T ∧ T ≠ "tuple" then (fa ρ S).bind fun ds S => g x ds S else .stuck
theorem tyV_ok {Z φ : List Addr} {S : Store} {H : Hp} (R : Rel X.K X.mg Z φ S H) {d : D} {v : V} {T : String} (h : Dat X.K X.mg φ (gnd Z φ S H) d v) (e : tyS S d = some T) (ht : T = "list" ∨ T = "dict" ∨ T = "str") : tyV X.K T v H := by
  have L : ∀ ds, asL S d = some ds → tyV X.K "list" v H := fun ds q => by
    obtain ⟨a, vs, rfl, h1, _⟩ := asL_ok R h q
    exact .inl ⟨rfl, vs, h1⟩
  have M : ∀ ds, asD S d = some ds → tyV X.K "dict" v H := fun ds q => by
    obtain ⟨a, vs, rfl, h1, _⟩ := asD_ok R h q
    exact .inr (.inr (.inl ⟨rfl, .inl ⟨vs, h1⟩⟩))
  cases d with
  | str z => cases e; unfold Dat at h; subst h; rfl
  | lst ds => cases e; exact L ds rfl
  | scr ds => cases e; exact L ds rfl
  | dic ds => cases e; exact M ds rfl
  | oid n =>
    cases hS : S[n]? with
    | none => simp [tyS, hS] at e
    | some so =>
      cases so with
      | lst ds =>
        simp only [tyS, hS, Option.some.injEq] at e
        subst e
        exact L ds (by simp [asL, hS])
      | dic ds =>
        simp only [tyS, hS, Option.some.injEq] at e
        subst e
        exact M ds (by simp [asD, hS])
      | frz d =>
        cases d with
        | lst ds =>
          simp only [tyS, hS, Option.some.injEq] at e
          subst e
          exact L ds (by simp [asL, hS])
        | dic ds =>
          simp only [tyS, hS, Option.some.injEq] at e
          subst e
          exact M ds (by simp [asD, hS])
        | _ => simp [tyS, hS] at e
      | ins _ _ => simp [tyS, hS] at e
      | tbl _ _ => simp [tyS, hS] at e
      | dkt _ => simp [tyS, hS] at e
  | non => cases e; simp at ht
  | bl _ => cases e; simp at ht
  | int _ => cases e; simp at ht
  | tup _ => cases e; simp at ht
  | _ => cases e
theorem de_bm {T id : String} {name : Str} {r : V → List V → Hp → VK → Prop} {g : GM} {fa : FA} (pa : PlainAttrs T) (slot : Slot T name id) (hty : typeOf (.builtin id) = pure (.type "method_descriptor")) (hm : MtR X id r) (hd : MethD X r g) (hT : T = "list" ∨ T = "dict" ∨ T = "str") (ho : DE X W o fo) (ha : DA X W (e :: es) fa)
    (hbase : attributeBase o name X.env (eval o X.env) = eval o X.env := by rfl)
    (hfew : ((backTo cpos (starEach (e :: es) X.env)).all (fun x => !x.1) && (backToKw cpos (keywordEach [] X.env)).all (fun x => x.1.isSome) && decide ((e :: es).length + ([] : List Keyword).length + (if ([] : List Keyword).isEmpty then 0 else 1) < 30)) = true := by rfl)
    (hline : (apos.endLine == cpos.line) = true := by rfl) (hs : starEach (e :: es) X.env = (false, eval e X.env) :: starEach es X.env := by rfl) (hplain : (backTo cpos (starEach es X.env)).any (·.1) = false := by rfl) :
    DE X W (.Call (.Attribute o name apos) (e :: es) [] cpos) (fBM T g fo fa) := by
  obtain ⟨to, po, qo⟩ := ho.ex
  obtain ⟨ta, ppa, qa⟩ := ha.ex
  refine .mk (pe_bm pa slot hty hm po ppa hbase hfew hline hs hplain) fun Z φ S ρ σ H Q R sl w => qo Z φ S ρ σ H _ R sl (w.bind fun x S1 u φ1 H1 R1 E1 d w1 => ?_)
  obtain ⟨⟨h1, h2⟩, w2⟩ := want_if w1
  exact ⟨tyV_ok R1 d h1 hT, qa Z φ1 S1 ρ σ H1 _ R1 (sl.evo E1) (w2.bind fun ds S2 vs φ2 H2 R2 E2 d2 w3 => hd Z φ2 S2 H2 x u ds vs Q _ R2 (Dat.evo E2 d) d2 w3)⟩
/-- xs.append(x) -/
def gApp : GM := fun x ds S => match x, ds with
  | .oid n, [d] => (match S[n]? with
    | some (.lst xs) => if xs.length < sizeLine then .ok .non (S.set n (.lst (xs ++ [d]))) else .stuck
    | _ => .stuck)
  | _, _ => .stuck
/-- a list of the store is written -/
theorem want_lst {Z φ : List Addr} {S : Store} {H : Hp} {n : Nat} {u : V} {xs ys : List D} {d : D} {E : XK} {Q : VK} (R : Rel X.K X.mg Z φ S H) (dx : Dat X.K X.mg φ (gnd Z φ S H) (.oid n) u) (hS : S[n]? = some (.lst xs)) :
    ∃ l vs, u = .ref l ∧ H l = some (.lst vs) ∧ DatL X.K X.mg φ (gnd Z φ S H) xs vs ∧ ∀ ws x, DatL X.K X.mg φ (gnd Z φ S H) ys ws → Dat X.K X.mg φ (gnd Z φ S H) d x → Want X.K X.mg (RDat X.K X.mg) Z φ S H (.ok d (S.set n (.lst ys))) Q E → Q x (upd H l (.lst ws)) := by
  unfold Dat at dx
  obtain ⟨a, rfl, ha⟩ := dx
  obtain ⟨vs, h1, h2⟩ := R.ob n a _ ha hS
  refine ⟨a, vs, rfl, h1, h2, fun ws x hw hx w => ?_⟩
  obtain ⟨R3, E3⟩ := R.mutate (u := .lst ys) (ho := .lst ws) ha hS rfl rfl ⟨ws, upd_same, hw⟩
  exact w x φ _ R3 E3 (Dat.evo E3 hx)
theorem md_app : MethD X rAppend gApp := fun Z φ S H x u ds vs Q E R dx d w => by
  unfold gApp at w
  split at w
  · obtain ⟨v, rfl, h1⟩ := datL1 d
    split at w
    · rename_i xs hS
      obtain ⟨hl, w1⟩ := want_if w
      obtain ⟨l, us, rfl, h2, h3, fin⟩ := want_lst (Q := Q) (E := E) R dx hS
      exact ⟨l, us, v, rfl, rfl, h2, by rw [h3.length]; exact hl, fin _ _ (h3.append (.cons h1 DatL.nil)) dat_non w1⟩
    · exact w.elim
  · exact w.elim
theorem de_append {fa : FA} (ho : DE X W o fo) (ha : DA X W [e] fa) (hbase : attributeBase o "append" X.env (eval o X.env) = eval o X.env := by rfl)
    (hfew : ((backTo cpos (starEach [e] X.env)).all (fun x => !x.1) && (backToKw cpos (keywordEach [] X.env)).all (fun x => x.1.isSome) && decide ([e].length + ([] : List Keyword).length + (if ([] : List Keyword).isEmpty then 0 else 1) < 30)) = true := by rfl)
    (hline : (apos.endLine == cpos.line) = true := by rfl) (hs : starEach [e] X.env = (false, eval e X.env) :: starEach [] X.env := by rfl) (hplain : (backTo cpos (starEach [] X.env)).any (·.1) = false := by rfl) :
    DE X W (.Call (.Attribute o "append" apos) [e] [] cpos) (fBM "list" gApp fo fa) := de_bm PySem.F.plainAttrs_list PySem.F.slot_list_append PySem.F.type_list_append mt_append md_app (.inl rfl) ho ha hbase hfew hline hs hplain

/-! ### o[i] = e -/
def putKD (ks : List (Key × D)) (k : Key) (d : D) : List (Key × D) := if (ks.any fun q => decide (q.1 = k)) = true then ks.map (fun q => if q.1 = k then (q.1, d) else q) else ks ++ [(k, d)]
theorem datK_append {K : PySem.W.Frag} {mg : Str → Option Value} {φ : List Addr} {G : Hp} {k : Key} {d : D} {v : V} (hd : Dat K mg φ G d v) : ∀ {ks : List (Key × D)} {kvs : List (Key × V)}, DatK K mg φ G ks kvs → DatK K mg φ G (ks ++ [(k, d)]) (kvs ++ [(k, v)])
  | [], _, h => by
    unfold DatK at h
    subst h
    show DatK K mg φ G [(k, d)] [(k, v)]
    unfold DatK
    exact ⟨v, [], rfl, hd, by unfold DatK; rfl⟩
  | (j, e) :: ks, _, h => by
    unfold DatK at h
    obtain ⟨u, r, rfl, h1, h2⟩ := h
    show DatK K mg φ G ((j, e) :: (ks ++ [(k, d)])) ((j, u) :: (r ++ [(k, v)]))
    unfold DatK
    exact ⟨u, _, rfl, h1, datK_append hd h2⟩
theorem datK_put {K : PySem.W.Frag} {mg : Str → Option Value} {φ : List Addr} {G : Hp} {k : Key} {d : D} {v : V} (hd : Dat K mg φ G d v) {ks : List (Key × D)} {kvs : List (Key × V)} (h : DatK K mg φ G ks kvs) : DatK K mg φ G (putKD ks k d) (putK kvs k v) := by
  have any_eq : ∀ {ks : List (Key × D)} {kvs : List (Key × V)}, DatK K mg φ G ks kvs → (ks.any fun q => decide (q.1 = k)) = (kvs.any fun q => decide (q.1 = k)) := by
    intro ks
    induction ks with
    | nil =>
      intro kvs h
      unfold DatK at h
      subst h
      rfl
    | cons q ks ih =>
      intro kvs h
      obtain ⟨j, e⟩ := q
      unfold DatK at h
      obtain ⟨u, r, rfl, h1, h2⟩ := h
      rw [List.any_cons, List.any_cons, ih h2]
  have map_ok : ∀ {ks : List (Key × D)} {kvs : List (Key × V)}, DatK K mg φ G ks kvs → DatK K mg φ G (ks.map fun q => if q.1 = k then (q.1, d) else q) (kvs.map fun q => if q.1 = k then (q.1, v) else q) := by
    intro ks
    induction ks with
    | nil =>
      intro kvs h
      unfold DatK at h
      subst h
      unfold DatK
      rfl
    | cons q ks ih =>
      intro kvs h
      obtain ⟨j, e⟩ := q
      unfold DatK at h
      obtain ⟨u, r, rfl, h1, h2⟩ := h
      rw [List.map_cons, List.map_cons]
      by_cases hj : j = k
      · simp only [hj, if_true]
        unfold DatK
        exact ⟨v, _, rfl, hd, ih h2⟩
      · simp only [hj, if_false]
        unfold DatK
        exact ⟨u, _, rfl, h1, ih h2⟩
  unfold putKD putK
  rw [any_eq h]
  split
  · exact map_ok h
  · exact datK_append hd h
def rSetX (C : Prop) : TSet := fun o i v H Q => rSetL o i v H Q ∨ rSetD o i v H Q
theorem set_any (C : Cn X W k) : PSet X (rSetX True) := fun pins s σ H o i v ov iv u Q I ro ri rv h => h.elim (set_list pins s σ H o i v ov iv u Q I ro ri rv) (set_dict C.u1 pins s σ H o i v ov iv u Q I ro ri rv)
def storeAt (x y d : D) (S : Store) : Option Store := match x with
  | .oid n => match S[n]? with
    | some (.lst ds) => (match y with
      | .int i => (ixN ds.length i).map fun j => S.set n (.lst (ds.set j d))
      | _ => none)
    | some (.dic ks) => (match keyD y with
      | some q => if ks.length < sizeLine then some (S.set n (.dic (putKD ks q d))) else none
      | none => none)
    | _ => none
  | _ => none
theorem storeAt_ok {Z φ : List Addr} {S S' : Store} {H : Hp} {x y d : D} {o i v : V} {Q : Hp → Prop} (R : Rel X.K X.mg Z φ S H) (dx : Dat X.K X.mg φ (gnd Z φ S H) x o) (dy : Dat X.K X.mg φ (gnd Z φ S H) y i) (dd : Dat X.K X.mg φ (gnd Z φ S H) d v) (e : storeAt x y d S = some S')
    (hQ : ∀ H', Rel X.K X.mg Z φ S' H' → Evo Z φ S H φ S' H' → Q H') : rSetX True o i v H Q := by
  unfold storeAt at e
  split at e
  · rename_i n
    unfold Dat at dx
    obtain ⟨a, rfl, ha⟩ := dx
    split at e
    · rename_i ds hS
      split at e
      · rename_i j
        cases dInt dy
        obtain ⟨q, hq, e⟩ := Option.map_eq_some_iff.mp e
        subst e
        obtain ⟨vs, h1, h2⟩ := R.ob n a _ ha hS
        obtain ⟨R3, E3⟩ := R.mutate (u := .lst (ds.set q d)) (ho := .lst (vs.set q v)) ha hS rfl rfl ⟨_, upd_same, h2.set q dd⟩
        exact .inl ⟨a, vs, j, q, rfl, rfl, h1, by rw [h2.length]; exact hq, hQ _ R3 E3⟩
      · cases e
    · rename_i ks hS
      split at e
      · rename_i q hq
        split at e
        · rename_i hl
          cases e
          obtain ⟨kvs, h1, h2⟩ := R.ob n a _ ha hS
          obtain ⟨R3, E3⟩ := R.mutate (u := .dic (putKD ks q d)) (ho := .dK (putK kvs q v)) ha hS rfl rfl ⟨_, upd_same, datK_put dd h2⟩
          exact .inr ⟨a, _, rfl, .inl ⟨kvs, q, h1, keyD_ok dy hq, by rw [datK_length h2]; exact hl, rfl⟩, hQ _ R3 E3⟩
        · cases e
      · cases e
    · cases e
  · cases e
def gPut (fo fi fe : FE) : FS := fun ρ S => (fe ρ S).into ρ fun d S => (fo ρ S).into ρ fun x S => (fi ρ S).into ρ fun y S => match storeAt x y d S with
  | some S => .nx ρ S
  | none => .stuck
theorem ds_put (C : Cn X W k) {fi : FE} {i : Expr} {tpos : Pos} (ho : DE X W o fo) (hi : DE X W i fi) (he : DE X W e fe)
    (ha : ∀ v, assign (.Subscript o i tpos) X.env v = (do
      let ov ← holding [v] (eval o X.env)
      let iv ← holding [v, ov] (eval i X.env)
      standAt tpos
      holding [v, ov, iv] (setItem ov iv v)
      release [v, ov, iv] []) := by intro _; rfl) (hs : swapsWithSole [.Subscript o i tpos] e pos.line X.env = pure false := by rfl) (hw : swappedStores [.Subscript o i tpos] e X.env = pure none := by rfl)
    (h1 : (assignEach [.Subscript o i tpos] X.env).map (·.2) = [assign (.Subscript o i tpos) X.env] := by rfl) : DS X W (.Assign [.Subscript o i tpos] e pos) (gPut fo fi fe) := by
  obtain ⟨to, po, qo⟩ := ho.ex
  obtain ⟨ti, pi, qi⟩ := hi.ex
  obtain ⟨te, pe, qe⟩ := he.ex
  refine .mk (ps_asg pe (pg_sub po pi (set_any C) ha) hs hw h1) fun Z φ S ρ σ H Dd R sl w => qe Z φ S ρ σ H _ R sl (w.into sl fun d S1 v φ1 H1 R1 E1 dd w1 => ?_)
  refine qo Z φ1 S1 ρ σ H1 _ R1 (sl.evo E1) (w1.into (sl.evo E1) fun x S2 ov φ2 H2 R2 E2 dx w2 => ?_)
  refine qi Z φ2 S2 ρ σ H2 _ R2 ((sl.evo E1).evo E2) (w2.into ((sl.evo E1).evo E2) fun y S3 iv φ3 H3 R3 E3 dy w3 => ?_)
  cases hst : storeAt x y d S3 with
  | none => rw [hst] at w3; exact w3.elim
  | some S4 =>
    rw [hst] at w3
    exact storeAt_ok R3 (Dat.evo E3 dx) dy (Dat.evo E3 (Dat.evo E2 dd)) hst fun H4 R4 E4 => w3 σ φ3 H4 R4 E4 ((((sl.evo E1).evo E2).evo E3).evo E4)
/-- {} -/
def fDict0 : FE := fun _ S => .ok (.oid S.length) (S ++ [.dic []])
theorem de_dict0 : DE X W (.Dict [] [] pos) fDict0 := .mk pe_dnewK fun Z φ S ρ σ H Q R sl w => fun p hp => by
  obtain ⟨r, e⟩ := R.newOid (so := .dic []) (same_upd (o := .dK []) hp) hp (by rw [upd_same]; exact fun z => nomatch z) rfl ⟨[], upd_same, by unfold DatK; rfl⟩
  refine w _ _ _ r e ?_
  unfold RDat Dat
  exact ⟨p, rfl, by rw [List.getElem?_append_right (by rw [R.len]; exact Nat.le_refl _), ← R.len, Nat.sub_self]; rfl⟩
end
end DL

/-! The data layer, part 15: the law's end. -/
namespace DL
open PySem PySem.Spec PyProof.Rows L2

/-- code that is not reached -/
theorem ds_none {X : Cx} {W : WX} {st : Stmt} : DS X W st (fun _ _ => .stuck) := ⟨fun pins s σ H D I ⟨Z, φ, S, ρ, R, sl, w⟩ => w.elim⟩
theorem dss_none {X : Cx} {W : WX} {sts : List Stmt} : DSs X W sts (fun _ _ => .stuck) := ⟨fun pins s σ H D I ⟨Z, φ, S, ρ, R, sl, w⟩ => w.elim⟩
section
variable {X : Cx} {W : WX} {k : Nat}
/-- a comprehension; the block's context is handed in -/
theorem de_lcB (C : Cn X W k) {fin : Fin'} (hf : FinOk fin) {elt tg iter : Expr} {ifs : List Expr} {scope : Scope} {own : List (Str × Nat)} {pos : Pos} {fi : FI} {is : List Nat} {m : FG} {ft : FT} {fe : FE} (hi : DI X W tg iter fi) (ok : BlkOk X.N X.env.scope scope own)
    (hg : ∀ (s : Shared) (H : Hp) (Ca : Addr) (cl : List (Str × Addr)) (fp : List Addr), Cn (X.blk s H scope (compEnvC scope cl Ca X.env) fp) W0 k → DG (X.blk s H scope (compEnvC scope cl Ca X.env) fp) tg is m)
    (ht : ∀ (s : Shared) (H : Hp) (Ca : Addr) (cl : List (Str × Addr)) (fp : List Addr), Cn (X.blk s H scope (compEnvC scope cl Ca X.env) fp) W0 k → DTs (X.blk s H scope (compEnvC scope cl Ca X.env) fp) W0 ifs ft)
    (he : ∀ (s : Shared) (H : Hp) (Ca : Addr) (cl : List (Str × Addr)) (fp : List Addr), Cn (X.blk s H scope (compEnvC scope cl Ca X.env) fp) W0 k → DE (X.blk s H scope (compEnvC scope cl Ca X.env) fp) W0 elt fe)
    (hio : ∀ i ∈ is, i ∈ own.map (·.2) := by decide) (hs : ∀ x, foldedSetIterable iter X.env x = pure x := by intro _; rfl) :
    DE X W (.ListComp elt [⟨tg, iter, ifs, 0⟩] scope pos) (fComp fi m ft fe (own.map (·.2)) fin) :=
  de_lc C hf hi ok (fun s H Ca cl fp => hg s H Ca cl fp C.blk) (fun s H Ca cl fp => ht s H Ca cl fp C.blk) (fun s H Ca cl fp => he s H Ca cl fp C.blk) hio hs
theorem ds_setLcB (C : Cn X W k) {fin : Fin'} (hf : FinOk fin) {i : Nat} {y : Str} {py spos : Pos} {elt tg iter : Expr} {ifs : List Expr} {scope : Scope} {own : List (Str × Nat)} {pos : Pos} {fi : FI} {is : List Nat} {m : FG} {ft : FT} {fe : FE} (hy : X.N[i]? = some y) (hyl : X.env.scope.names.lookup y = some .local)
    (hsw : swapsWith (.ListComp elt [⟨tg, iter, ifs, 0⟩] scope pos) (some (.Name y py)) spos.line X.env = pure true) (hi : DI X W tg iter fi) (ok : BlkOk X.N X.env.scope scope own)
    (hg : ∀ (s : Shared) (H : Hp) (Ca : Addr) (cl : List (Str × Addr)) (fp : List Addr), Cn (X.blk s H scope (compEnvC scope cl Ca X.env) fp) W0 k → DG (X.blk s H scope (compEnvC scope cl Ca X.env) fp) tg is m)
    (ht : ∀ (s : Shared) (H : Hp) (Ca : Addr) (cl : List (Str × Addr)) (fp : List Addr), Cn (X.blk s H scope (compEnvC scope cl Ca X.env) fp) W0 k → DTs (X.blk s H scope (compEnvC scope cl Ca X.env) fp) W0 ifs ft)
    (he : ∀ (s : Shared) (H : Hp) (Ca : Addr) (cl : List (Str × Addr)) (fp : List Addr), Cn (X.blk s H scope (compEnvC scope cl Ca X.env) fp) W0 k → DE (X.blk s H scope (compEnvC scope cl Ca X.env) fp) W0 elt fe)
    (hio : ∀ i ∈ is, i ∈ own.map (·.2) := by decide) (hs : ∀ x, foldedSetIterable iter X.env x = pure x := by intro _; rfl) :
    DS X W (.Assign [.Name y py] (.ListComp elt [⟨tg, iter, ifs, 0⟩] scope pos) spos) (gSet i (fComp fi m ft fe (own.map (·.2)) fin)) :=
  ds_setLc C hf hy hyl hsw hi ok (fun s H Ca cl fp => hg s H Ca cl fp C.blk) (fun s H Ca cl fp => ht s H Ca cl fp C.blk) (fun s H Ca cl fp => he s H Ca cl fp C.blk) hio hs
end
end DL

/-! The data layer, part 16: dict comprehensions, augmented assignment, list.index. -/
namespace DL
open PySem PySem.Spec PyProof.Rows L2
section
variable {X : Cx} {W : WX} {k : Nat}
end
end DL

/-! The data layer, part 17: list.index, name op= e. -/
namespace DL
open PySem PySem.Spec PyProof.Rows L2
section
variable {X : Cx} {W : WX} {k : Nat} {o e : Expr} {fo fe : FE} {pos apos cpos : Pos}
theorem Cn.u65 (C : Cn X W k) : X.A.units + 65 < cLine := by have := C.room.un; omega
/-! ### name op= e -/
def IpD (X : Cx) (t : TIp) (g : G2) : Prop := ∀ (Z φ : List Addr) (S : Store) (H : Hp) (x y : D) (u v : V) (Q : VK) (E : XK), Rel X.K X.mg Z φ S H → Dat X.K X.mg φ (gnd Z φ S H) x u → Dat X.K X.mg φ (gnd Z φ S H) y v →
  Want X.K X.mg (RDat X.K X.mg) Z φ S H (g x y S) Q E → t u v H Q
def gIp (f : Int → Int → Int) : G2 := fun x y S => match x, y with
  | .int i, .int j => .ok (.int (f i j)) S
  | _, _ => .stuck
theorem ipd_int (f : Int → Int → Int) : IpD X (ipI f) (gIp f) := fun Z φ S H x y u v Q E R dx dy w => by
  unfold gIp at w
  split at w
  · cases dInt dx
    cases dInt dy
    exact ⟨_, _, rfl, rfl, w.now R (dat_int _)⟩
  · exact w.elim
def gAug (i : Nat) (fe : FE) (g : G2) : FS := fun ρ S => match ρ[i]? with
  | some (some x) => (fe ρ S).into ρ fun y S => (g x y S).into ρ fun z S => .nx (ρ.set i (some z)) S
  | _ => .stuck
theorem ds_aug (C : Cn X W k) {i : Nat} {x : Str} {op : Operator} {t : TIp} {g : G2} {pos' : Pos} (hi : X.N[i]? = some x) (hx : Loc X.env.scope x) (ho : PIp X op t) (hg : IpD X t g) (he : DE X W e fe)
    (hf : X.fn x = true ∨ X.env.scope.names.lookup x = some .local := by first | exact .inl rfl | exact .inr rfl) : DS X W (.AugAssign (.Name x pos') op e pos) (gAug i fe g) := by
  obtain ⟨te, pe, qe⟩ := he.ex
  refine .mk (ps_aug C.nd hi hx pe ho hf) fun Z φ S ρ σ H Dd R sl w => ?_
  unfold gAug at w
  split at w
  · rename_i d hd
    obtain ⟨v, h1, h2⟩ := sl.2 i d hd
    refine ⟨v, h1, qe Z φ S ρ σ H _ R sl (w.into sl fun y S1 u φ1 H1 R1 E1 dy w1 => ?_)⟩
    exact hg Z φ1 S1 H1 d y v u _ _ R1 (Dat.evo E1 h2) dy (w1.into (sl.evo E1) fun z S2 zv φ2 H2 R2 E2 dz w2 => w2 _ φ2 H2 R2 Evo.refl (((sl.evo E1).evo E2).set dz))
  · exact w.elim
end
end DL

/-! The data layer, part 18: own classes as values, isinstance with them, == by an own __eq__, a head with more facts. -/
namespace DL
open PySem PySem.Spec PyProof.Rows L2
/-- what isinstance(x, C) asks of the text's own class C -/
structure IsiC (K : PySem.W.Frag) (C : Addr) : Prop where
  ha : PySem.W.findIn K (.ref C) "__class__" = some (some (.builtin "object.__class__"))
  hn : PySem.W.specialIn K (.builtin "object.__class__") "__get__" = some (some (.builtin "getset_descriptor.__get__"))
  htk : PySem.W.takesIn K (.builtin "object.__class__") = some true
  hm : PySem.W.mroIn K C (.type "object") = some true
theorem isiB_ok {K : PySem.W.Frag} {c : Str} (h : isiB K c = true) : IsiC K (He.ga K c) := by
  obtain ⟨h1, h⟩ := He.ba h
  obtain ⟨h2, h⟩ := He.ba h
  obtain ⟨h3, h4⟩ := He.ba h
  exact ⟨He.eqO_ok h1, He.eqO_ok h2, of_decide_eq_true h3, of_decide_eq_true h4⟩
section
variable {X : Cx} {W : WX} {k : Nat} {e b : Expr} {pos p : Pos}
/-- an own class as a value -/
theorem de_own {x : Str} {C : Addr} (hg : Gl X x) (hm : X.mg x = some (.ref C)) (hd : (x == ("__debug__" : Str)) = false := by decide) : DE X W (.Name x pos) (fC (.cls x)) :=
  de_c (pe_glob (v := .ref C) hg hm rfl hd) rfl fun _ _ => by unfold Dat; exact ⟨C, rfl, hm⟩
/-- isinstance(x, C) of an instance of C -/
def gIsiC (c : Str) : GC := fun ds S => match ds with
  | [x, .cls c'] => (match asI S x with
    | some (c'', _) => if c'' = c ∧ c' = c then .ok (.bl true) S else .stuck
    | none => .stuck)
  | _ => .stuck
theorem cd_isiC {c : Str} {C : Addr} (cl : ClsI X c C) (i : IsiC X.K C) : CallD X (rIsi X.K) (gIsiC c) := fun Z φ S H ds vs Q E R d w => by
  unfold gIsiC at w
  split at w
  · obtain ⟨v, u, rfl, h1, h2⟩ := datL2 d
    split at w
    · rename_i hi
      obtain ⟨⟨rfl, rfl⟩, w1⟩ := want_if w
      obtain ⟨a, A, dx, fvs, rfl, q0, q1, q2⟩ := asI_ok R h1 hi
      rw [cl.mg] at q0
      cases q0
      unfold Dat at h2
      obtain ⟨A, rfl, q3⟩ := h2
      rw [cl.mg] at q3
      cases q3
      exact ⟨.ref a, .ref C, .ref C, .ref C, true, rfl, .own C, .base (.ins q1 cl.cls i.ha i.hn i.htk i.hm), by unfold PySem.W.kitOne; simp, w1.now R (dat_bl _)⟩
    · exact w.elim
  · exact w.elim
theorem de_isiC {fa : FA} {c : Str} {C : Addr} (hg : Gl X "isinstance") (hm : X.mg "isinstance" = none) (cl : ClsI X c C) (i : IsiC X.K C) (ha : DA X W [e, b] fa) (he : starEach [e, b] X.env = (false, eval e X.env) :: starEach [b] X.env := by rfl) (hpl : (backTo pos (starEach [b] X.env)).any (·.1) = false := by rfl) :
    DE X W (.Call (.Name "isinstance" p) [e, b] [] pos) (fCB (gIsiC c) fa) := de_callB call_isi (cd_isiC cl i) hg hm (by rfl) ha (by decide) (by decide) he hpl

/-! ### == by an own __eq__ that answers True -/
end
/-! ### a head with more facts -/
end DL

/-! The data layer, part 19: freezing to the bottom. -/
namespace DL
open PySem PySem.Spec PyProof.Rows L2
section
variable {K : PySem.W.Frag} {mg : Str → Option Value} {Z φ : List Addr} {H : Hp}
end
section
variable {X : Cx} {W : WX} {k : Nat} {e : Expr} {fe : FE}
end
end DL

/-! The data layer, part 20: name = {k: v for ..}, the name a local that is not captured. -/
namespace DL
open PySem PySem.Spec PyProof.Rows L2
section
variable {X : Cx} {W : WX} {k : Nat}
end
end DL

/-! The data layer, part 21: a comprehension within a comprehension. -/
namespace DL
open PySem PySem.Spec PyProof.Rows L2
section
variable {X : Cx} {W : WX} {k : Nat}
end
end DL

/-! The data layer, part 22: list.pop, list(range(..)), zip, slices. -/
namespace DL
open PySem PySem.Spec PyProof.Rows L2
section
variable {X : Cx} {W : WX} {k : Nat} {o e : Expr} {fo fe : FE} {pos apos cpos p p2 : Pos}
/-! ### xs.pop(i), xs.pop() -/
/-! ### list(range(n)) -/
/-! ### zip -/
def zipD : List D → List D → List D := List.zipWith fun x y => .tup [x, y]
theorem dLst {φ : List Addr} {G : Hp} {ds : List D} {v : V} (h : Dat X.K X.mg φ G (.lst ds) v) : ∃ a vs, v = .ref a ∧ G a = some (.lst vs) ∧ DatL X.K X.mg φ G ds vs := by
  unfold Dat at h
  exact h
theorem gnd_some {Z φ : List Addr} {S : Store} {H : Hp} {a : Addr} {u : HO} (h : gnd Z φ S H a = some u) : H a = some u := (without_some.mp h).2
/-! ### slices -/
def cutD (xs : List D) (lo hi : Option Int) : List D := (xs.drop (HT.sIx xs.length 0 lo)).take (HT.sIx xs.length xs.length hi - HT.sIx xs.length 0 lo)
def gSl (x : D) (lo hi : Option Int) (S : Store) : Res D := match x with
  | .tup xs => if HT.sIx xs.length 0 lo = 0 ∧ HT.sIx xs.length xs.length hi = xs.length then .stuck else .ok (.tup (cutD xs lo hi)) S
  | d => match asL S d with
    | some xs => .ok (.lst (cutD xs lo hi)) S
    | none => .stuck
abbrev FO := EnvD → Store → Res (Option Int)
def fPart (f : FE) : FO := fun ρ S => (f ρ S).bind fun d S => match d with
  | .int i => .ok (some i) S
  | _ => .stuck
def tDO (K : PySem.W.Frag) (mg : Str → Option Value) (W : WX) (f : FO) : TO := fun σ H Q => ∃ Z φ S ρ, Rel K mg Z φ S H ∧ Slots K mg φ (gnd Z φ S H) ρ σ ∧ Want K mg REq Z φ S H (f ρ S) Q (WE W σ)
def DO (X : Cx) (W : WX) (e : Option Expr) (f : FO) : Prop := PO X e (tDO X.K X.mg W f)
theorem do_some (he : DE X W e fe) : DO X W (some e) (fPart fe) := by
  obtain ⟨t, pe, q⟩ := he.ex
  refine ⟨fun pins s σ H Q I h => (po_some pe).run pins s σ H Q I ?_⟩
  obtain ⟨Z, φ, S, ρ, R, sl, w⟩ := h
  refine q Z φ S ρ σ H _ R sl (w.bind fun d S1 v φ1 H1 R1 E1 dd w1 => ?_)
  cases d with
  | int i =>
    cases dInt dd
    exact ⟨i, rfl, w1.now R1 rfl⟩
  | _ => exact w1.elim
def fSl (fx : FE) (fl fh : FO) : FE := fun ρ S => (fx ρ S).bind fun x S => (fl ρ S).bind fun l S => (fh ρ S).bind fun h S => gSl x l h S
theorem cut_dat {φ : List Addr} {G : Hp} {xs : List D} {vs : List V} (h : DatL X.K X.mg φ G xs vs) (lo hi : Option Int) : DatL X.K X.mg φ G (cutD xs lo hi) (cutV vs lo hi) := by
  unfold cutD cutV
  rw [h.length]
  exact (h.drop _).take _
theorem de_slice {lo hi : Option Expr} {fl fh : FO} (hx : DE X W e fe) (hl : DO X W lo fl) (hh : DO X W hi fh) : DE X W (.Subscript e (.Slice lo hi none p2) pos) (fSl fe fl fh) := by
  obtain ⟨t, pe, q⟩ := hx.ex
  refine .mk (pe_slice (sl_tup.or sl_list) pe hl hh) fun Z φ S ρ σ H Q R sl w => q Z φ S ρ σ H _ R sl (w.bind fun x S1 v φ1 H1 R1 E1 d w1 => ?_)
  refine ⟨Z, φ1, S1, ρ, R1, sl.evo E1, w1.bind fun l S2 l' φ2 H2 R2 E2 el w2 => ?_⟩
  cases el
  refine ⟨Z, φ2, S2, ρ, R2, (sl.evo E1).evo E2, w2.bind fun h S3 h' φ3 H3 R3 E3 eh w3 => ?_⟩
  cases eh
  have d3 : Dat X.K X.mg φ3 (gnd Z φ3 S3 H3) x v := Dat.evo E3 (Dat.evo E2 d)
  unfold gSl at w3
  split at w3
  · rename_i xs
    by_cases hc : HT.sIx xs.length 0 l = 0 ∧ HT.sIx xs.length xs.length h = xs.length
    · rw [if_pos hc] at w3
      exact w3.elim
    · rw [if_neg hc] at w3
      unfold Dat at d3
      obtain ⟨a, vs, rfl, q1, q2⟩ := d3
      refine .inl ⟨a, vs, rfl, sqt_mono (fun b u hb => gnd_some hb) q1, by rw [q2.length]; exact hc, fun p hp => ?_⟩
      obtain ⟨r, e, g⟩ := dat_newT R3 (cut_dat q2 l h) hp
      exact w3 _ _ _ r e g
  · split at w3
    · rename_i xs hq
      obtain ⟨a, vs, rfl, q1, q2⟩ := asL_ok R3 d3 hq
      refine .inr ⟨a, vs, rfl, q1, fun p hp => ?_⟩
      obtain ⟨r, e, g⟩ := dat_newL R3 (cut_dat q2 l h) hp
      exact w3 _ _ _ r e g
    · exact w3.elim
end
end DL

/-! The data layer, part 23: dict.get. -/
namespace DL
open PySem PySem.Spec PyProof.Rows L2
section
variable {X : Cx} {W : WX} {k : Nat} {o e f : Expr} {fo fe ff : FE} {pos apos cpos p p2 : Pos}
end
end DL

/-! The data layer, part 24: a, b = e, f and a, b, c = e, f, g, all names locals that are not captured. -/
namespace DL
open PySem PySem.Spec PyProof.Rows L2
section
variable {X : Cx} {W : WX} {k : Nat} {a b c : Expr} {pos : Pos}
end
end DL

/-! The data layer, part 25: () + t. -/
namespace DL
open PySem PySem.Spec PyProof.Rows L2
section
variable {X : Cx} {W : WX} {a b : Expr} {fa fb : FE} {pos : Pos}
end
end DL

/-! The data layer, part 26: len(x) by an own __len__. -/
namespace DL
open PySem PySem.Spec PyProof.Rows L2
section
variable {X : Cx} {W : WX} {k n : Nat} {e : Expr} {pos p : Pos} {C f : Addr} {fd : FuncData} {ps : List Str} {sem : Sem'}
end
end DL

/-! The data layer, part 27: list(zip(xs, ys)). -/
namespace PySem
open PySem.Spec PySem.Calls PyProof.Rows PySem.W L2
namespace F
end F
section
variable {prog : Program} {w : World} {A : Around} {E : Value → Shared → Prop} {s : Shared}
/-- an iterator that lays a new object at each turn -/
structure NewSrc (prog : Program) (w : World) (A : Around) (e : Addr) (wr fp : List Addr) (n : Nat) (PT : Nat → Obj → Prop) (St : Nat → Heap → Prop) : Prop where
  frame : ∀ i h h' S, St i h → S ∉ fp → (∀ b o, b ≠ S → h.get? b = some o → h'.get? b = some o) → (∀ o, h.get? S = some o → ∃ o', h'.get? S = some o') → St i h'
  item : ∀ i (s : Shared) (Q : Option Value → Shared → Prop) (E : Value → Shared → Prop), i < n → St i s.heap →
    (∀ h' tk o, PT i o → St (i + 1) h' → h'.get? s.heap.objs.size = some o → h'.objs.size = s.heap.objs.size + 1 → (∀ b o, b ∉ wr → s.heap.get? b = some o → h'.get? b = some o) → Q (some (.ref s.heap.objs.size)) { s with heap := h', toks := tk }) → wpAny (model prog w) A (pyNext (.ref e)) Q E s
  done : ∀ (s : Shared) (Q : Option Value → Shared → Prop) (E : Value → Shared → Prop), St n s.heap → (∀ h' tk, (∀ b o, b ∉ wr → s.heap.get? b = some o → h'.get? b = some o) → Q none { s with heap := h', toks := tk }) → wpAny (model prog w) A (pyNext (.ref e)) Q E s
  sub : ∀ b ∈ wr, b ∈ fp
/-- the objects laid so far -/
structure NwG (PT : Nat → Obj → Prop) (lo : Addr) (h : Heap) (as : List Addr) : Prop where
  asc : as.Pairwise (· < ·)
  above : ∀ a ∈ as, lo < a
  at_ : ∀ (j : Nat) (a : Addr), as[j]? = some a → ∃ o, PT j o ∧ h.get? a = some o
/-- a zip of two lists, at any turn -/
def ZpAt (z TI TO i1 i2 l1 l2 : Addr) (xs ys : Array Value) (i : Nat) (h : Heap) : Prop := IsPair h TI (.ref i1) (.ref i2) ∧ h.IsListIter i1 l1 i ∧ h.IsListIter i2 l2 i ∧ h.IsList l1 xs ∧ h.IsList l2 ys ∧
  ((IsZip h z TI TO .none ∧ ∃ a b, IsPair h TO a b) ∨ ∃ T f oT, IsZipHeld h z TI TO T f ∧ h.get? T = some oT ∧ T ≠ z ∧ T ≠ i1 ∧ T ≠ i2)
theorem ZpAt.type {z TI TO i1 i2 l1 l2 : Addr} {xs ys : Array Value} {i : Nat} (x : ZpAt z TI TO i1 i2 l1 l2 xs ys i s.heap) : s.TypeIs (.ref z) "zip" := by
  rcases x.2.2.2.2.2 with ⟨hz, _⟩ | ⟨T, f, oT, hz, _⟩ <;> exact ⟨_, hz, rfl⟩
end
end PySem

/-! The data layer, part 28: list(zip(xs, ys)) on data. -/
namespace DL
open PySem PySem.Spec PyProof.Rows L2
section
variable {K : PySem.W.Frag} {mg : Str → Option Value} {Z φ : List Addr} {S : Store}
end
section
variable {X : Cx} {W : WX} {k : Nat} {a b : Expr} {fa : FA} {pos p p2 q2 : Pos}
def gLZip : GC := fun ds S => match ds with
  | [.lst xs, .lst ys] => .ok (.lst (zipD xs ys)) S
  | _ => .stuck
@[simp] theorem e_gLZip (xs ys : List D) (S : Store) : gLZip [.lst xs, .lst ys] S = .ok (.lst (zipD xs ys)) S := rfl
end
end DL

/-! The data layer, part 29: the whole of a tuple as a slice; t[::-1]; int(truth). -/
namespace HT
open PySem PySem.Spec PyProof.Rows
section
variable {prog : Program} {w : World} {A : Around} {E : Value → Shared → Prop} {s : Shared}
end
end HT
namespace L2
open PySem PySem.Spec PyProof.Rows
section
variable {X : Cx}
end
end L2
namespace DL
open PySem PySem.Spec PyProof.Rows L2
section
variable {X : Cx} {W : WX} {k : Nat} {e : Expr} {fe : FE} {pos p p1 p2 p3 : Pos}
def gRevT (x : D) (S : Store) : Res D := match x with
  | .tup xs => .ok (.tup xs.reverse) S
  | _ => .stuck
/-- slices, the whole of a tuple too -/
def gSlW (x : D) (lo hi : Option Int) (S : Store) : Res D := match x with
  | .tup xs => if HT.sIx xs.length 0 lo = 0 ∧ HT.sIx xs.length xs.length hi = xs.length then .ok (.tup xs) S else .ok (.tup (cutD xs lo hi)) S
  | d => match asL S d with
    | some xs => .ok (.lst (cutD xs lo hi)) S
    | none => .stuck
def fSlW (fx : FE) (fl fh : FO) : FE := fun ρ S => (fx ρ S).bind fun x S => (fl ρ S).bind fun l S => (fh ρ S).bind fun h S => gSlW x l h S
/-- int(truth) -/
def gIntB : GC := fun ds S => match ds with
  | [.int i] => .ok (.int i) S
  | [.bl b] => .ok (.int (if b then 1 else 0)) S
  | _ => .stuck
@[simp] theorem e_gRevT (xs : List D) (S : Store) : gRevT (.tup xs) S = .ok (.tup xs.reverse) S := rfl
@[simp] theorem e_fSlW (fx : FE) (fl fh : FO) (ρ : EnvD) (S : Store) : fSlW fx fl fh ρ S = (fx ρ S).bind fun x S => (fl ρ S).bind fun l S => (fh ρ S).bind fun h S => gSlW x l h S := rfl
@[simp] theorem e_gIntB_b (b : Bool) (S : Store) : gIntB [.bl b] S = .ok (.int (if b then 1 else 0)) S := rfl
end
end DL

/-! The data layer, part 30: x in l, deep. -/
namespace DL
open PySem PySem.Spec PyProof.Rows L2
section
variable {X : Cx} {W : WX} {k : Nat}
end
end DL

/-! The data layer, part 31: texts: split, join, startswith, int(text), str(number), f'..', text[lo:hi]. -/
namespace DL
open PySem PySem.Spec PyProof.Rows L2
section
variable {X : Cx} {W : WX} {k : Nat} {o e : Expr} {fo fe : FE} {pos apos cpos p p2 : Pos}
end
end DL

/-! The data layer, part 32: texts, the derivations. -/
namespace DL
open PySem PySem.Spec PyProof.Rows L2
section
variable {X : Cx} {W : WX} {k : Nat} {o e : Expr} {fo fe : FE} {pos apos cpos p p2 : Pos} {fa : FA}
end
end DL

/-! The data layer, part 33: text * number. -/
namespace DL
open PySem PySem.Spec PyProof.Rows L2
section
variable {X : Cx} {W : WX} {a b : Expr} {fa fb : FE} {pos : Pos}
end
end DL

/-! The data layer, part 34: the signs of a text walked over; split as a list that changes. -/
namespace DL
open PySem PySem.Spec PyProof.Rows L2
section
variable {X : Cx} {W : WX} {k : Nat} {o e tg : Expr} {fo fe : FE} {pos apos cpos p p2 : Pos} {fa : FA}
def signs (z : Str) : List D := z.cps.toList.map fun c => .str ⟨#[c]⟩
end
end DL

/-! The data layer, part 35: exceptions caught and kept. -/
namespace DL
open PySem PySem.Spec PyProof.Rows L2

theorem excV_ok {P : Program} {w : World} {H : Hp} {hp : Heap} {a : Addr} {cls : Value} {dd : Option Addr} {ob : Obj} {fs : Array Value} (e : hp.get? a = some ob) (z : L2N.Zn cls dd ob) (d : ob.data = .fields fs) : ObjOk P w H hp a (ExcV cls dd a) :=
  ⟨⟨ob, fs, e, z, d⟩, ⟨ob, e⟩, fun _ _ ⟨o, v, q, r⟩ kp => ⟨o, v, kp o q, r⟩⟩
section
variable {X : Cx} {pins : List (Addr × Obj)} {σ : L2.St} {H : Hp} {s : Shared}
/-- an object that wasn't there at the entry is tracked from now on -/
theorem inv_track {a : Addr} {o : HO} (I : L2.Inv X pins σ H s) (n0 : X.s_0.heap.get? a = none) (na : H a = none) (nl : a ≠ X.env.locals) (nc : ∀ x c, X.env.cells.lookup x = some c → c ≠ a)
    (np : ∀ p ∈ X.pn ++ pins, p.1 ≠ a) (ok : ObjOk X.prog X.w (upd H a o) s.heap a o) : L2.Inv X pins σ (upd H a o) s := by
  have n00 : ∀ b ob, X.s_0.heap.get? b = some ob → b ≠ a := fun b ob e z => by
    rw [z, n0] at e
    cases e
  refine ⟨I.ok, I.os, I.bare, ⟨I.base.keep, I.base.slot, fun b ob e n hx => ?_, I.base.there, fun b xs e => ?_, fun b ob u e => ?_, fun b ps e => ?_⟩, I.loc, I.cell, ?_, fun x c e => ?_, fun p hp => ?_, fun b u e => ?_, I.len⟩
  · rw [upd_ne (n00 b ob e)]
    exact I.base.free b ob e n hx
  · have q := I.base.tups b xs e
    rw [upd_ne (ne_of_none q na)]
    exact q
  · have q := I.base.frzs b ob u e
    rw [upd_ne (ne_of_none q na)]
    exact q
  · obtain ⟨more, q⟩ := I.base.tbls b ps e
    exact ⟨more, by rw [upd_ne (ne_of_none q na)]; exact q⟩
  · rw [upd_ne (fun z => nl z.symm)]
    exact I.free
  · rw [upd_ne (nc x c e)]
    exact I.freeC x c e
  · obtain ⟨q1, q2, q3⟩ := I.pin p hp
    exact ⟨q1, by rw [upd_ne (np p hp)]; exact q2, q3⟩
  · by_cases hb : b = a
    · subst hb
      rw [upd_same] at e
      cases e
      exact ok
    · rw [upd_ne hb] at e
      exact (I.hok b u e).stay (fun c v _ q => q) (fun c q => by rw [upd_ne (ne_of_none q na)]; exact q) fun c xs q => by rw [upd_ne (ne_of_none q na)]; exact q
theorem inv_toSuite (I : L2.Inv X pins σ H s) (a : Addr) : L2.Inv (X.suite a (X.pn ++ pins)) [] σ H s :=
  ⟨I.ok.suite _ _, I.os, I.bare, I.base, I.loc, I.cell, I.free, I.freeC, fun p hp => I.pin p (List.append_nil (X.pn ++ pins) ▸ hp), I.hok, I.len⟩
theorem inv_ofSuite {a : Addr} {pn' : List (Addr × Obj)} (I : L2.Inv (X.suite a (X.pn ++ pins)) pn' σ H s) (ok : X.Ok) : L2.Inv X pins σ H s :=
  ⟨ok, I.os, I.bare, I.base, I.loc, I.cell, I.free, I.freeC, fun p hp => I.pin p (List.mem_append_left _ hp), I.hok, I.len⟩
end
/-! ### try with clauses, each perhaps with a name -/
structure Hd where
  c : Value
  nm : Option Nat
  ts : Addr → Value → Option Addr → TS
def endsAt (nm : Option Nat) (Dd : Ends) : Ends := match nm with
  | none => Dd
  | some i => { nx := fun σ' H' => Dd.nx (σ'.set i none) H', rt := Dd.rt, bk := fun σ' H' => Dd.bk (σ'.set i none) H', ct := fun σ' H' => Dd.ct (σ'.set i none) H' }
def slotAt (nm : Option Nat) (a : Addr) (σ : L2.St) : L2.St := match nm with
  | none => σ
  | some i => σ.set i (some (.ref a))
/-- what the clauses want of what the body raises -/
def wHds (K : PySem.W.Frag) (Wo : WX) (Dd : Ends) : List Hd → WX
  | [] => Wo
  | q :: r => fun cls d σ H => ∃ b, PySem.W.exmOne K cls q.c = some b ∧ (b = true → ∀ a, H a = none → q.ts a cls d (endsAt q.nm Dd) (slotAt q.nm a σ) (upd H a (ExcV cls d a))) ∧ (b = false → wHds K Wo Dd r cls d σ H)
inductive HdsT (X : Cx) : List ExceptHandler → List Hd → Prop
  | nil : HdsT X [] []
  | plain {x : Str} {c : Value} {ts : Addr → Value → Option Addr → TS} {b0 : Stmt} {bs : List Stmt} {np hp : Pos} {hds : List ExceptHandler} {l : List Hd} (hc : Names X x c)
      (hs : ∀ (a : Addr) (cls : Value) (d : Option Addr) (pn : List (Addr × Obj)), PSs (X.suite a pn) (b0 :: bs) (ts a cls d)) (r : HdsT X hds l) : HdsT X (.ExceptHandler (some (.Name x np)) none (b0 :: bs) hp :: hds) (⟨c, none, ts⟩ :: l)
  | named {x n : Str} {i : Nat} {c : Value} {ts : Addr → Value → Option Addr → TS} {b0 : Stmt} {bs : List Stmt} {np hp : Pos} {hds : List ExceptHandler} {l : List Hd} (hc : Names X x c) (hN : X.N.Nodup) (hi : X.N[i]? = some n) (hn : X.env.kindOf n = some .local)
      (hs : ∀ (a : Addr) (cls : Value) (d : Option Addr) (pn : List (Addr × Obj)), PSs (X.suite a pn) (b0 :: bs) (ts a cls d)) (r : HdsT X hds l) : HdsT X (.ExceptHandler (some (.Name x np)) (some n) (b0 :: bs) hp :: hds) (⟨c, some i, ts⟩ :: l)
section
variable {X : Cx} {body : List Stmt} {h0 : ExceptHandler} {hds : List ExceptHandler} {l : List Hd} {pos : Pos} {tb : WX → TS} {Wo : WX}
theorem ps_try_T (stk : X.stack = X.env :: X.outer) (frm : X.env.frame = some X.env.locals) (nex : X.ex = []) (tk : L2N.Takes X Wo)
    (hb : ∀ (Wn : WX) (pn : List (Addr × Obj)) (xe : Value → Shared → Prop), L2N.Takes (X.tr pn xe) Wn → PassesOwn (model X.prog X.w) X.A X.env xe → PSs (X.tr pn xe) body (tb Wn))
    (hh : HdsT X (h0 :: hds) l) : PS X (.Try body (h0 :: hds) [] [] pos) (fun Dd σ H => tb (wHds X.K Wo Dd l) Dd σ H) := by
  refine ⟨fun pins s σ H Dd I h => ?_⟩
  have ok := I.ok
  have frs0 : X.A.frames = some (X.env :: X.outer) := ok.frames.trans (congrArg some stk)
  refine wpAny_Try_except ?_
  refine wpAny_mono ((hb (wHds X.K Wo Dd l) (X.pn ++ pins) (fun err t1 => wpAny (model X.prog X.w) X.A (noteFrame err X.env) (fun _ t2 => wpAny (model X.prog X.w) X.A (setFlight err none) (fun _ t3 =>
    wpAny (model X.prog X.w) X.A (handleBy err X.env (h0 :: hds)) (SP X pins Dd) X.xe t3) X.xe t2) X.xe t1) (fun u s2 caught => ?_) PassesOwn.looking).run [] s σ H Dd (I.toTry _) h) (fun fl s1 hsp => ?_) (fun _ _ z => z)
  · obtain ⟨a, B, sI, pins1, σ1, H1, cls, d, rfl, J0, nb, up, sky, na, os, ag, want⟩ := caught
    have J : L2.Inv X pins σ1 H1 sI := J0.ofTry ok
    rw [show (X.tr (X.pn ++ pins) _).stack = X.env :: X.outer from stk] at sky
    show wpAny (model X.prog X.w) X.A (noteFrame (.ref a) X.env) _ _ _
    refine L2N.Sky.land L2N.Zn.steady frs0 frm sky fun hp3 fly3 up3 => ?_
    have J3 : L2.Inv X pins σ1 H1 { s2 with heap := hp3 } := J.landed nb fly3.1 (up.trans up3) os ag
    have unfr : ∀ {hp : Heap} {ob : Obj} {vs : Array Value}, hp.FunFrames B (X.env :: X.outer) → hp.get? a = some ob → ob.data = .fields vs → a ∉ frs (X.env :: X.outer) := fun {hp ob vs} ff e dd hm => by
      obtain ⟨_, ob', e1, hnf⟩ := ff.mem hm
      rw [e] at e1
      cases e1
      exact hnf _ dd
    obtain ⟨oe3, vs3, at3, z3, dt3⟩ := fly3.there
    have offStack := unfr fly3.2.2.1 at3 dt3
    have offLocals : a ≠ X.env.locals := fun z => offStack (List.mem_filterMap.mpr ⟨X.env, List.mem_cons_self, by rw [frm, z]⟩)
    have newI : sI.heap.get? a = none := by
      cases e : sI.heap.get? a with
      | none => rfl
      | some ob =>
        have q := nb a ob e (by rw [show (X.tr (X.pn ++ pins) _).stack = X.env :: X.outer from stk]; exact offStack)
        rw [fly3.2.1] at q
        cases q
    have new0 : X.s_0.heap.get? a = none := by
      cases e : X.s_0.heap.get? a with
      | none => rfl
      | some ob =>
        obtain ⟨ob', q⟩ := J.base.there a ob e (by rw [nex]; exact fun z => nomatch z)
        rw [newI] at q
        cases q
    have offPins : ∀ p ∈ X.pn ++ pins, p.1 ≠ a := fun p hp z => by
      have q := (J.pin p hp).1
      rw [z, newI] at q
      cases q
    have offCells : ∀ x c, X.env.cells.lookup x = some c → c ≠ a := fun x c e z => by
      obtain ⟨v, ob, q, _⟩ := J.cell x c e
      rw [z, newI] at q
      cases q
    -- the state of a suite
    have begun : ∀ {hp4 : Heap}, HandSPX.FlyingZ B (X.env :: X.outer) a (L2N.Zn cls d) hp4 → sI.heap.UpToSlots hp4 → L2.Inv X pins σ1 (upd H1 a (ExcV cls d a)) { s2 with heap := hp4 } := fun {hp4} fly4 up4 => by
      have J4 : L2.Inv X pins σ1 H1 { s2 with heap := hp4 } := J.landed nb fly4.1 up4 os ag
      obtain ⟨oe4, vs4, at4, z4, dt4⟩ := fly4.there
      exact inv_track J4 new0 na offLocals offCells offPins (excV_ok at4 z4 dt4)
    -- the class that a clause names
    have named : ∀ {x : Str} {c : Value} {np : Pos} {Q E : Value → Shared → Prop}, Names X x c → Q c { s2 with heap := hp3 } → wpAny (model X.prog X.w) (X.A.mark (some (.ref a))) (eval (.Name x np) X.env) Q E { s2 with heap := hp3 } := fun {x c np Q E} hc q => by
      obtain ⟨hg, hdbg, hm | ⟨hm, hv, hnn⟩⟩ := hc
      · exact ld_glob (X := X.suite a (X.pn ++ pins)) (inv_toSuite J3 a) hg hm q hdbg
      · exact ld_blt (X := X.suite a (X.pn ++ pins)) (inv_toSuite J3 a) hg hm hv q hnn hdbg
    have TY : PySem.W.Looks (model X.prog X.w) hp3 (typeOf (.ref a)) cls := fun A' Q E t kp q => wpAny_typeOf_ref (kp _ _ at3) (by rw [z3.1]; exact q)
    have go : ∀ {hs' : List ExceptHandler} {l' : List Hd}, HdsT X hs' l' → wHds X.K Wo Dd l' cls d σ1 H1 →
        wpAny (model X.prog X.w) X.A (handleBy (.ref a) X.env hs') (SP X pins Dd) X.xe { s2 with heap := hp3 } := by
      intro hs' l' ht
      induction ht with
      | nil =>
        intro want
        refine wpAny_handleBy_nil ?_
        obtain ⟨_, _, _, ob, vs, T, oT, ts', q1, _, q2, q3, _⟩ := id fly3
        unfold PySem.passOn
        refine wpAny_bind (wpAny_field q1 q2 q3 ?_)
        rw [if_neg (show ¬ ((Value.ref T == Value.none) = true) from by simp)]
        have thrown : wpAny (model X.prog X.w) X.A (setFlight (.ref a) X.env.frame) (fun _ t => wpAny (model X.prog X.w) X.A (throw (.ref a) : Sem Flow) (SP X pins Dd) X.xe t) X.xe { s2 with heap := hp3 } := by
          rw [frm]
          refine HandSPX.setFlight_upZ fly3 fun hp4 held up4 => wpAny_throw (tk _ _ ?_)
          exact ⟨a, B, sI, pins, σ1, H1, cls, d, rfl, J, nb, (up.trans up3).trans up4, .inr (.inr (by rw [stk]; exact held)), na, os, ag, want⟩
        first
          | exact wpAny_bind thrown
          | exact wpAny_bind (wpAny_pure (wpAny_bind thrown))
      | @plain x c ts b0 bs np hpos hs2 l2 hc hsu _ ih =>
        rintro ⟨b, hb1, yes, no⟩
        refine wpAny_handleBy_cons (codeAny_handlers_test (named hc ((PySem.W.exm_one (M := model X.prog X.w) J3.kIn TY hb1).here ?_))) (by intro q; cases q)
        cases b with
        | false =>
          show wpAny _ X.A (handleBy (.ref a) X.env hs2) _ _ _
          exact ih (no rfl)
        | true =>
          refine codeAny_handlers_suite (HandSPX.lands_againZ fly3 fun hp4 fly4 up4 => ?_)
          refine wpAny_mono ((hsu a cls d (X.pn ++ pins)).run [] _ _ _ _ (inv_toSuite (begun fly4 ((up.trans up3).trans up4)) a) (yes rfl a na)) (fun fl s6 hsp => ?_) (fun _ _ z => False.elim z)
          cases fl with
          | next =>
            obtain ⟨σ6, H6, S6, q6⟩ := hsp
            exact ⟨_, _, inv_ofSuite S6 ok, q6⟩
          | brk =>
            obtain ⟨σ6, H6, S6, q6⟩ := hsp
            exact ⟨_, _, inv_ofSuite S6 ok, q6⟩
          | cont =>
            obtain ⟨σ6, H6, S6, q6⟩ := hsp
            exact ⟨_, _, inv_ofSuite S6 ok, q6⟩
          | ret u =>
            obtain ⟨v6, σ6, H6, S6, r6, q6⟩ := hsp
            exact ⟨_, _, _, inv_ofSuite S6 ok, r6, q6⟩
      | @named x n i c ts b0 bs np hpos hs2 l2 hc hN hi hln hsu _ ih =>
        rintro ⟨b, hb1, yes, no⟩
        refine wpAny_handleBy_cons (codeAny_handlers_test (named hc ((PySem.W.exm_one (M := model X.prog X.w) J3.kIn TY hb1).here ?_))) (by intro q; cases q)
        cases b with
        | false =>
          show wpAny _ X.A (handleBy (.ref a) X.env hs2) _ _ _
          exact ih (no rfl)
        | true =>
          refine codeAny_handlers_suite_as (HandSPX.lands_againZ fly3 fun hp4 fly4 up4 => ?_)
          refine store_ok (X := X.suite a (X.pn ++ pins)) (v := .ref a) (inv_toSuite (begun fly4 ((up.trans up3).trans up4)) a) hN hi (show Loc X.env.scope n from .inl hln) rfl (fun s5 S5 => ?_) (.inr hln)
          refine wpAny_mono ((hsu a cls d (X.pn ++ pins)).run [] s5 _ _ _ S5 (yes rfl a na)) (fun fl s6 hsp => ?_) (fun _ _ z => False.elim z)
          have behind : ∀ {σ6 : L2.St} {H6 : Hp} {Q : Shared → Prop}, L2.Inv (X.suite a (X.pn ++ pins)) [] σ6 H6 s6 → (∀ s7, L2.Inv X pins (σ6.set i none) H6 s7 → Q s7) →
              wpAny (model X.prog X.w) X.A (do bindName X.env n .none; unbindBehindTheSuite X.env n hpos) (fun _ s7 => Q s7) X.xe s6 := fun {σ6 H6 Q} S6 hq => gone_ok (inv_ofSuite S6 ok) hN hi hln hq
          cases fl with
          | next =>
            obtain ⟨σ6, H6, S6, q6⟩ := hsp
            exact behind S6 fun s7 J7 => ⟨_, _, J7, q6⟩
          | brk =>
            obtain ⟨σ6, H6, S6, q6⟩ := hsp
            exact behind S6 fun s7 J7 => ⟨_, _, J7, q6⟩
          | cont =>
            obtain ⟨σ6, H6, S6, q6⟩ := hsp
            exact behind S6 fun s7 J7 => ⟨_, _, J7, q6⟩
          | ret u =>
            obtain ⟨v6, σ6, H6, S6, r6, q6⟩ := hsp
            exact behind S6 fun s7 J7 => ⟨_, _, _, J7, r6, q6⟩
    exact go hh want
  · cases fl with
    | next =>
      obtain ⟨σ2, H2, J2, q⟩ := hsp
      exact wpAny_execs_nil ⟨σ2, H2, J2.ofTry ok, q⟩
    | brk =>
      obtain ⟨σ2, H2, J2, q⟩ := hsp
      exact ⟨σ2, H2, J2.ofTry ok, q⟩
    | cont =>
      obtain ⟨σ2, H2, J2, q⟩ := hsp
      exact ⟨σ2, H2, J2.ofTry ok, q⟩
    | ret u =>
      obtain ⟨v, σ2, H2, J2, r, q⟩ := hsp
      exact ⟨v, σ2, H2, J2.ofTry ok, r, q⟩
end
end DL

/-! The data layer, part 36: try, isinstance of exceptions, raise. -/
namespace DL
open PySem PySem.Spec PyProof.Rows L2

/-! ### mirrors -/
structure HM where
  c : List (Str × Bool)
  nm : Option Nat
  g : FS
def Out.undo (i : Nat) : Out → Out
  | .nx ρ S => .nx (ρ.set i none) S
  | .bk ρ S => .bk (ρ.set i none) S
  | .ct ρ S => .ct (ρ.set i none) S
  | .ex _ _ _ _ => .stuck
  | o => o
def Out.calm : Out → Out
  | .ex _ _ _ _ => .stuck
  | o => o
def hdM : List HM → Str → List (Str × D) → EnvD → Store → Out
  | [], C, fs, ρ, S => .ex C fs ρ S
  | q :: r, C, fs, ρ, S => match q.c.lookup C with
    | some true => (match q.nm with
      | none => (q.g ρ S).calm
      | some i => (q.g (ρ.set i (some (.exc C fs))) S).undo i)
    | some false => hdM r C fs ρ S
    | none => .stuck
def gTry (gb : FS) (hs : List HM) : FS := fun ρ S => match gb ρ S with
  | .ex C fs ρ' S' => hdM hs C fs ρ' S'
  | o => o
section
variable {X : Cx} {W : WX} {k : Nat} {pos : Pos}
theorem slots_unset {K : PySem.W.Frag} {mg : Str → Option Value} {φ : List Addr} {G : Hp} {ρ : EnvD} {σ : L2.St} (i : Nat) (h : Slots K mg φ G ρ σ) : Slots K mg φ G (ρ.set i none) (σ.set i none) := by
  refine ⟨by rw [List.length_set, List.length_set]; exact h.1, fun j d e => ?_⟩
  by_cases hj : j = i
  · subst hj
    by_cases hl : j < ρ.length
    · rw [List.getElem?_set_self hl] at e
      cases e
    · rw [List.getElem?_eq_none (by rw [List.length_set]; omega)] at e
      cases e
  · rw [List.getElem?_set_ne (fun z => hj z.symm)] at e ⊢
    exact h.2 j d e
/-- clauses and their mirrors -/
inductive HdsD (X : Cx) : List ExceptHandler → List HM → List Hd → Prop
  | nil : HdsD X [] [] []
  | plain {x : Str} {c : Value} {t : List (Str × Bool)} {g : FS} {b0 : Stmt} {bs : List Stmt} {np hp : Pos} {hds : List ExceptHandler} {ms : List HM} {l : List Hd} (hc : Names X x c) (ht : ∀ C b A, t.lookup C = some b → X.mg C = some (.ref A) → PySem.W.exmOne X.K (.ref A) c = some b)
      (hs : ∀ (a : Addr) (pn : List (Addr × Obj)), DSs (X.suite a pn) W0 (b0 :: bs) g) (r : HdsD X hds ms l) : HdsD X (.ExceptHandler (some (.Name x np)) none (b0 :: bs) hp :: hds) (⟨t, none, g⟩ :: ms) (⟨c, none, fun _ _ _ => tDS X W0 g⟩ :: l)
  | named {x n : Str} {i : Nat} {c : Value} {t : List (Str × Bool)} {g : FS} {b0 : Stmt} {bs : List Stmt} {np hp : Pos} {hds : List ExceptHandler} {ms : List HM} {l : List Hd} (hc : Names X x c) (hN : X.N.Nodup) (hi : X.N[i]? = some n) (hn : X.env.kindOf n = some .local)
      (ht : ∀ C b A, t.lookup C = some b → X.mg C = some (.ref A) → PySem.W.exmOne X.K (.ref A) c = some b)
      (hs : ∀ (a : Addr) (pn : List (Addr × Obj)), DSs (X.suite a pn) W0 (b0 :: bs) g) (r : HdsD X hds ms l) : HdsD X (.ExceptHandler (some (.Name x np)) (some n) (b0 :: bs) hp :: hds) (⟨t, some i, g⟩ :: ms) (⟨c, some i, fun _ _ _ => tDS X W0 g⟩ :: l)
theorem HdsD.toT : ∀ {hds : List ExceptHandler} {ms : List HM} {l : List Hd}, HdsD X hds ms l → HdsT X hds l
  | _, _, _, .nil => .nil
  | _, _, _, .plain hc _ hs r => .plain hc (fun a _ _ pn => hs a pn) r.toT
  | _, _, _, .named hc hN hi hn _ hs r => .named hc hN hi hn (fun a _ _ pn => hs a pn) r.toT
theorem HdsD.want {Dd : Ends} {Z φ : List Addr} {S : Store} {H : Hp} {ρ : EnvD} {σ : L2.St} {C : Str} {fs : List (Str × D)} {A : Addr} {dx : Option Addr} (hA : X.mg C = some (.ref A)) (R : Rel X.K X.mg Z φ S H) (sl : Slots X.K X.mg φ (gnd Z φ S H) ρ σ) (xd : ExD X.K X.mg φ (gnd Z φ S H) fs dx) :
    ∀ {hds : List ExceptHandler} {ms : List HM} {l : List Hd}, HdsD X hds ms l → WantS X W Z φ S H (hdM ms C fs ρ S) Dd → wHds X.K W Dd l (.ref A) dx σ H
  | _, _, _, .nil, w => w A dx σ φ H hA R Evo.refl sl xd
  | _, _, _, .plain (c := c) (t := t) (g := g) hc ht hs r, w => by
    unfold hdM at w
    cases e : t.lookup C with
    | none => simp only [e] at w; exact w.elim
    | some b =>
      simp only [e] at w
      refine ⟨b, ht C b A e hA, fun hb a na => ?_, fun hb => ?_⟩
      · subst hb
        obtain ⟨R1, E1, _⟩ := R.fresh (o := ExcV (.ref A) dx a) na
        refine ⟨Z, φ, S, ρ, R1, sl.evo E1, ?_⟩
        have w1 : WantS X W Z φ S (upd H a (ExcV (.ref A) dx a)) (g ρ S).calm Dd := WantS.go E1 w
        revert w1
        cases g ρ S <;> intro w1
        · exact w1
        · exact w1
        · exact w1
        · exact w1
        · exact w1.elim
        · exact w1
      · subst hb
        exact r.want hA R sl xd w
  | _, _, _, .named (c := c) (t := t) (g := g) (i := i) hc hN hi hn ht hs r, w => by
    unfold hdM at w
    cases e : t.lookup C with
    | none => simp only [e] at w; exact w.elim
    | some b =>
      simp only [e] at w
      refine ⟨b, ht C b A e hA, fun hb a na => ?_, fun hb => ?_⟩
      · subst hb
        obtain ⟨R1, E1, at1⟩ := R.fresh (o := ExcV (.ref A) dx a) na
        have da : Dat X.K X.mg φ (gnd Z φ S (upd H a (ExcV (.ref A) dx a))) (.exc C fs) (.ref a) := by
          unfold Dat
          refine ⟨a, A, dx, rfl, hA, at1, xd.imp id fun ⟨z, b, fvs, q0, q1, q2⟩ => ⟨z, b, fvs, q0, E1.ext _ _ q1, DatF.mono (List.prefix_refl _) E1.ext _ _ q2⟩⟩
        refine ⟨Z, φ, S, ρ.set i (some (.exc C fs)), R1, (sl.evo E1).set da, ?_⟩
        have w1 : WantS X W Z φ S (upd H a (ExcV (.ref A) dx a)) ((g (ρ.set i (some (.exc C fs))) S).undo i) Dd := WantS.go E1 w
        revert w1
        cases g (ρ.set i (some (.exc C fs))) S <;> intro w1
        · exact fun σ' φ' H' r1 e1 d => w1 (σ'.set i none) φ' H' r1 e1 (slots_unset i d)
        · exact w1
        · exact fun σ' φ' H' r1 e1 d => w1 (σ'.set i none) φ' H' r1 e1 (slots_unset i d)
        · exact fun σ' φ' H' r1 e1 d => w1 (σ'.set i none) φ' H' r1 e1 (slots_unset i d)
        · exact w1.elim
        · exact w1
      · subst hb
        exact r.want hA R sl xd w
theorem isS_try {gb : FS} {hds : List ExceptHandler} {ms : List HM} {l : List Hd} (hh : HdsD X hds ms l) : IsS X W (fun Dd σ H => tDS X (wHds X.K W Dd l) gb Dd σ H) (gTry gb ms) := fun Z φ S ρ σ H Dd R sl w => by
  refine ⟨Z, φ, S, ρ, R, sl, ?_⟩
  unfold gTry at w
  cases e : gb ρ S with
  | ex C fs ρ1 S1 =>
    rw [e] at w
    exact fun A dx σ1 φ1 H1 m R1 E1 sl1 xd => hh.want m R1 sl1 xd (WantS.go E1 w)
  | nx ρ1 S1 => rw [e] at w; exact w
  | rt d S1 => rw [e] at w; exact w
  | bk ρ1 S1 => rw [e] at w; exact w
  | ct ρ1 S1 => rw [e] at w; exact w
  | stuck => rw [e] at w; exact w
theorem ds_try (C : Cn X W k) (stk : X.stack = X.env :: X.outer) (frm : X.env.frame = some X.env.locals) (nex : X.ex = []) {body : List Stmt} {h0 : ExceptHandler} {hds : List ExceptHandler} {gb : FS} {ms : List HM} {l : List Hd}
    (hb : ∀ (Wn : WX) (pn : List (Addr × Obj)) (xe : Value → Shared → Prop), Cn (X.tr pn xe) Wn k → DSs (X.tr pn xe) Wn body gb) (hh : HdsD X (h0 :: hds) ms l) : DS X W (.Try body (h0 :: hds) [] [] pos) (gTry gb ms) :=
  .mk (ps_try_T (tb := fun Wn => tDS X Wn gb) stk frm nex C.tk (fun Wn pn xe tk po => hb Wn pn xe ⟨C.room, C.gd, C.calm, C.nd, po, tk⟩) hh.toT) (isS_try hh)
/-- name = value, within a suite -/
theorem ds_setS {e : Expr} {fe : FE} (nd : X.N.Nodup) {i : Nat} {x : Str} {pos' : Pos} (hi : X.N[i]? = some x) (hx : Loc X.env.scope x) (he : DE X W e fe) (hs : swapsWith e (some (.Name x pos')) pos.line X.env = pure false := by rfl)
    (hf : X.fn x = true ∨ X.env.scope.names.lookup x = some .local := by first | exact .inl rfl | exact .inr rfl | assumption) : DS X W (.Assign [.Name x pos'] e pos) (gSet i fe) :=
  ds_setP (fun t p => ps_set nd hi hx p hs hf) he
end

/-! ### isinstance of an exception -/
/-- isinstance(e, c) of exceptions of the text's own classes without a dict -/
def rIsX (K : PySem.W.Frag) : List V → Hp → VK → Prop := fun xs H Q => ∃ (a A : Addr) (c : V) (cv : Value) (b : Bool), xs = [.ref a, c] ∧ H a = some (ExcV (.ref A) none a) ∧ (∀ u, RelV c u → u = cv) ∧ ExcC K A ∧ PySem.W.kitOne K (.ref A) cv = some b ∧ Q (.bl b) H
theorem call_isX {X : Cx} : CallR X (.builtin "isinstance") (rIsX X.K) := by
  intro pins s σ H xs us Q I rel h
  obtain ⟨a, A, c, cv, b, rfl, ha, hcv, EC, e, q⟩ := h
  cases rel with
  | cons r1 rest =>
    cases rest with
    | cons r2 rest =>
      cases rest
      cases r1
      cases hcv _ r2
      obtain ⟨⟨ob, vs, q1, q2, q3⟩, _, _⟩ := I.hok a _ ha
      have J : PySem.W.InstAt s.heap a ob A none := by
        obtain ⟨oc, od, oda, osl⟩ := ob
        obtain ⟨z1, z2, _⟩ := q2
        dsimp only at z1 z2 q3
        subst z1 z2 q3
        exact ⟨q1, rfl, rfl, trivial⟩
      exact PySem.W.kia_one (PySem.W.handS_kitx_exc EC.hg EC.hk EC.hs EC.hd EC.ha EC.hn EC.ht EC.hm) I.kIn J e (fun z => nomatch z) fun tk => ⟨.bl b, H, I.kept (t' := tk) fun _ _ z => z, rfl, q⟩
section
variable {X : Cx} {W : WX} {k : Nat} {e b : Expr} {pos p : Pos}
/-- the second one: an own class, or a built-in one -/
def isArg : D → D → Bool
  | .cls c, .cls c' => decide (c = c')
  | .ty n, .ty m => decide (n = m)
  | _, _ => false
def gIsX (t : List (Str × Bool)) (c : D) : GC := fun ds S => match ds with
  | [.exc C [], c'] => if isArg c c' then (match t.lookup C with
    | some b => .ok (.bl b) S
    | none => .stuck) else .stuck
  | _ => .stuck
theorem cd_isX {t : List (Str × Bool)} {c : D} {cv : Value} (hc : (∃ x A, c = .cls x ∧ X.mg x = some (.ref A) ∧ cv = .ref A) ∨ ∃ n, c = .ty n ∧ cv = .type n) (ht : ∀ C b A, t.lookup C = some b → X.mg C = some (.ref A) → ExcC X.K A ∧ PySem.W.kitOne X.K (.ref A) cv = some b) :
    CallD X (rIsX X.K) (gIsX t c) := fun Z φ S H ds vs Q E R d w => by
  unfold gIsX at w
  split at w
  · rename_i C c'
    obtain ⟨v, u, rfl, h1, h2⟩ := datL2 d
    obtain ⟨hi, w1⟩ := want_if w
    cases e : t.lookup C with
    | none => simp only [e] at w1; exact w1.elim
    | some b =>
      simp only [e] at w1
      unfold Dat at h1
      obtain ⟨a, A, dx, rfl, hA, ha, hx⟩ := h1
      have ex : dx = none := hx.elim (·.2) fun z => absurd rfl z.1
      subst ex
      obtain ⟨h3, h4⟩ := ht C b A e hA
      refine ⟨a, A, u, cv, b, rfl, gnd_sub _ _ ha, fun w' hw' => ?_, h3, h4, w1.now R (dat_bl _)⟩
      rcases hc with ⟨x, A', rfl, hm, rfl⟩ | ⟨n, rfl, rfl⟩
      · cases c' <;> simp only [isArg, Bool.false_eq_true, decide_eq_true_eq] at hi
        subst hi
        unfold Dat at h2
        obtain ⟨A2, rfl, q⟩ := h2
        rw [hm] at q
        cases q
        exact hw'
      · cases c' <;> simp only [isArg, Bool.false_eq_true, decide_eq_true_eq] at hi
        subst hi
        unfold Dat at h2
        subst h2
        exact hw'
  · exact w.elim
end
end DL

/-! The data layer, part 37: a lambda without parameters handed to a def that calls it once. -/
namespace DL
open PySem PySem.Spec PyProof.Rows L2

/-! ### the lambda is made -/
theorem upd_comm {H : Hp} {a b : Addr} {o u : HO} (h : a ≠ b) : upd (upd H a o) b u = upd (upd H b u) a o := by
  funext c
  unfold upd
  by_cases h1 : c = b
  · rw [if_pos h1, if_pos h1, if_neg (fun z => h (z.symm.trans h1))]
  · rw [if_neg h1, if_neg h1]
section
variable {X : Cx} {W : WX} {pins : List (Addr × Obj)} {σ : L2.St} {H : Hp} {s : Shared} {Z φ : List Addr} {S : Store}
theorem set_self {α : Type} : ∀ {l : List α} {i : Nat} {a : α}, l[i]? = some a → l.set i a = l
  | [], _, _, h => by cases h
  | b :: l, 0, a, h => by cases h; rfl
  | b :: l, i + 1, a, h => by rw [List.set_cons_succ, set_self (l := l) h]
/-- one more row of a table, with the code object that it tells of -/
theorem rel_row (R : Rel X.K X.mg Z φ S H) {p : He.Defn} {q : Str} {j : Nat} {a c : Addr} {ps more : Array Value} (hS : S[j]? = some (.tbl p q)) (hφ : φ[j]? = some a) (hP : H a = some (.tbl ps)) (hc : H c = none) (hT : TriplesOk (ps ++ more).toList)
    (hm : ∀ (pos : Pos) (cv : Value), codeAmong pos (ps ++ more).toList = some cv → codeAmong pos ps.toList = some cv ∨ cv = .ref c) :
    Rel X.K X.mg Z φ S (upd (upd H a (.tbl (ps ++ more))) c (LamX.CodeO c q)) ∧ Evo Z φ S H φ S (upd (upd H a (.tbl (ps ++ more))) c (LamX.CodeO c q)) ∧ gnd Z φ S (upd (upd H a (.tbl (ps ++ more))) c (LamX.CodeO c q)) c = some (LamX.CodeO c q) := by
  obtain ⟨R1, E1, at1⟩ := R.fresh (o := LamX.CodeO c q) hc
  have ne : a ≠ c := ne_of_none hP hc
  obtain ⟨ea, ps', e1, e2, e3⟩ := R.ob j a _ hφ hS
  rw [hP] at e1
  cases e1
  have ok : SOk X.K X.mg φ (gnd Z φ S (upd H c (LamX.CodeO c q))) (upd (upd H c (LamX.CodeO c q)) a (.tbl (ps ++ more))) a (.tbl p q) := by
    refine ⟨ea, _, upd_same, hT, fun pos cv hcv => ?_⟩
    rcases hm pos cv hcv with z | z
    · obtain ⟨c0, q1, q2⟩ := e3 pos cv z
      exact ⟨c0, q1, E1.ext _ _ q2⟩
    · exact ⟨c, z, at1⟩
  obtain ⟨R2, E2⟩ := R1.mutate (u := .tbl p q) (ho := .tbl (ps ++ more)) hφ hS rfl rfl ok
  have eg := gnd_mut (Z := Z) (H := upd H c (LamX.CodeO c q)) (ho := .tbl (ps ++ more)) hφ hS (u := .tbl p q) rfl rfl
  rw [set_self hS, ← upd_comm ne] at R2 E2 eg
  exact ⟨R2, E1.trans E2, by rw [eg]; exact at1⟩
theorem lam_makeD {p : He.Defn} {j : Nat} {params : Arguments} {body : Expr} {scope : Scope} {pos : Pos} {E Q : Value → Shared → Prop} (I : L2.Inv X pins σ H s) (R : Rel X.K X.mg Z φ S H) (hS : S[j]? = some (.tbl p (X.env.qual ++ "<lambda>")))
    (hcode : X.env.code = .ref (He.cT X.K p).1) (TB : LamX.TabB X.base X.mg (He.cT X.K p).1 (He.cT X.K p).2) (hdef : defaultsOf params X.env = ([], [])) (hfree : ∀ y ∈ scope.names, y.2 = .free → ∃ c, X.env.cells.lookup y.1 = some c)
    (h : ∀ (f c : Addr) (pm ctv : Value) (H1 : Hp) (s1 : Shared), L2.Inv X pins σ H1 s1 → Rel X.K X.mg Z φ S H1 → Evo Z φ S H φ S H1 →
      s1.heap.get? f = some (PySem.W.kla_obj "<lambda>" (X.env.qual ++ "<lambda>") params body scope (cloFrom X.env.cells scope.names []) pm c ctv) → H1 f = none → f ∉ frs X.stack → gnd Z φ S H1 c = some (LamX.CodeO c (X.env.qual ++ "<lambda>")) → Q (.ref f) s1) :
    wpAny (model X.prog X.w) X.A (eval (.Lambda params body scope pos) X.env) Q E s := by
  obtain ⟨a, hφ, _⟩ := rel_get R hS
  obtain ⟨ea, ps, hP, ht, codes⟩ := R.ob j a _ hφ hS
  subst ea
  refine PySem.W.kla_eval hdef ?_
  have atP : s.heap.get? (He.cT X.K p).2 = some { cls := .none, data := .fields ps } := I.hok _ _ hP
  have away : ∀ f, s.heap.objs.size ≤ f → f ∉ frs X.stack := fun f hf z => by
    rcases List.mem_cons.mp (I.stkSub _ z) with e | e
    · have q := I.lt
      rw [← e] at q
      exact absurd (Nat.lt_of_lt_of_le q hf) (Nat.lt_irrefl _)
    · exact I.nofs hf e
  cases hc : codeAmong pos ps.toList with
  | some cv =>
    obtain ⟨c, e, hco⟩ := codes pos cv hc
    subst e
    refine PySem.W.kla_makeFunctionHit (ps := ps) (P := (He.cT X.K p).2) (c := (He.cT X.K p).1) (mg := X.mg) (closure_ok hfree) I.ok.glob (I.mod.glob.keeps I.bk) hcode (TB.code.keeps I.bk) atP ht hc (TB.bm.keeps I.bk) fun ctv hp tk grows old => ?_
    have I1 := I.kept (t' := tk) (h' := hp.push (PySem.W.kla_obj "<lambda>" (X.env.qual ++ "<lambda>") params body scope (cloFrom X.env.cells scope.names []) ((X.mg "__name__").getD .none) c ctv)) fun b o e => Heap.get?_push_of_some _ (grows b o e)
    exact h hp.objs.size c ((X.mg "__name__").getD .none) ctv H _ I1 R Evo.refl (Heap.get?_push_size _ rfl) (I.hok.fresh old) (away _ old) hco
  | none =>
    refine PySem.W.kla_makeFunction (ps := ps) (P := (He.cT X.K p).2) (c := (He.cT X.K p).1) (mg := X.mg) (closure_ok hfree) I.ok.glob (I.mod.glob.keeps I.bk) hcode (TB.code.keeps I.bk) atP ht hc TB.gP (TB.bm.keeps I.bk) fun c ctv hp tk grows fresh below record table => ?_
    obtain ⟨c2, oc, vs, t, e2, hoc, hd, hv⟩ := record
    cases e2
    have old : s.heap.objs.size ≤ hp.objs.size := Nat.le_trans fresh (Nat.le_of_lt below)
    have nc : H c = none := I.hok.fresh fresh
    have I1 := LamX.inv_table (t' := tk) (more := #[rawInt pos.line, rawInt pos.col, .ref c]) (h' := hp.push (PySem.W.kla_obj "<lambda>" (X.env.qual ++ "<lambda>") params body scope (cloFrom X.env.cells scope.names []) ((X.mg "__name__").getD .none) c ctv)) I hP
      (fun b o hb e => Heap.get?_push_of_some _ (grows b o hb e)) (Heap.get?_push_of_some _ table) fresh ⟨oc, vs, t, Heap.get?_push_of_some _ hoc, hd, hv⟩
    have el : (ps ++ #[rawInt pos.line, rawInt pos.col, .ref c]).toList = ps.toList ++ [rawInt pos.line, rawInt pos.col, .ref c] := by simp
    obtain ⟨R1, E1, at1⟩ := rel_row (more := #[rawInt pos.line, rawInt pos.col, .ref c]) R hS hφ hP nc (by rw [el]; exact PySem.TriplesOk_snoc _ _ _ _ ht) fun pos' cv hcv => LamX.among_app _ ht (by rw [← el]; exact hcv)
    refine h hp.objs.size c ((X.mg "__name__").getD .none) ctv _ _ I1 R1 E1 (Heap.get?_push_size _ rfl) ?_ (away _ old) at1
    have n1 : hp.objs.size ≠ c := Nat.ne_of_gt below
    have n2 : hp.objs.size ≠ (He.cT X.K p).2 := Nat.ne_of_gt (Nat.lt_of_lt_of_le (Heap.lt_size atP) old)
    rw [upd_ne n1, upd_ne n2]
    exact I.hok.fresh old
end

/-! ### the context of a lambda's body; exceptions in the air have no context -/
theorem inv_xe {X : Cx} {pins : List (Addr × Obj)} {σ : L2.St} {H : Hp} {s : Shared} {xe : Value → Shared → Prop} (J : L2.Inv X pins σ H s) : L2.Inv { X with xe := xe } pins σ H s :=
  ⟨⟨J.ok.mod, J.ok.kind, J.ok.glob, J.ok.blt, J.ok.above, J.ok.inj, J.ok.has, J.ok.cab, J.ok.hd, J.ok.frames, J.ok.stk, J.ok.exf, J.ok.bs, J.ok.bsz, J.ok.noex, J.ok.exfs, J.ok.funs, J.ok.frf⟩, J.os, J.bare, J.base, J.loc, J.cell, J.free, J.freeC, J.pin, J.hok, J.len⟩
def lamCxN (X : Cx) (A : Around) (outer : List Env) (s : Shared) (H : Hp) (E : XK) (scope : Scope) (f c' : Addr) : Cx :=
  { LamX.lamCx X A outer s H E scope f c' with xe := fun e s' => wpAny (model X.prog X.w) (A.deeper (LamX.lamEnv X scope s.heap.objs.size f c')) (leaving (LamX.lamEnv X scope s.heap.objs.size f c') e) (fun _ s'' => L2N.CX X.prog X.w outer H s E e s'') (fun e' s'' => L2N.CX X.prog X.w outer H s E e' s'') s' }

/-! ### the lambda is called -/
section
variable {X : Cx} {pins : List (Addr × Obj)} {σ : L2.St} {H : Hp} {s : Shared}
/-- x(), in the def that was handed the lambda; what is raised is wished for at that def's slots -/
theorem pe_actD {CXg : CXT} {Eg : XK} {Ng : List Str} {qg : Str} {sg : Scope} {g f c : Addr} {cdg pm ctv : Value} {params : Arguments} {body : Expr} {scope : Scope} {k i : Nat} {a : Str} {pn : List (Addr × Obj)} {xe : Value → Shared → Prop} {Wt : WX} {tb : XK → TE} {p1 p2 : Pos}
    (I : L2.Inv X pins σ H s) (L : LamX.LamS X.env.scope scope) (hf : s.heap.get? f = some (PySem.W.kla_obj "<lambda>" (X.env.qual ++ "<lambda>") params body scope (cloFrom X.env.cells scope.names []) pm c ctv)) (hfn : H f = none) (hfr : f ∉ frs X.stack)
    (hbind : bindArgs (PySem.W.kla_fn "<lambda>" (X.env.qual ++ "<lambda>") params body scope (cloFrom X.env.cells scope.names []) pm (.ref c) ctv) ⟨[], []⟩ = pure [])
    (tk : L2N.Takes ((cxOf CXg X.prog X.w X.K X.mg X.base Ng qg sg g cdg X.A X.stack s H Eg).tr pn xe) Wt) (hr : Room (k + 1) (X.A.deeper (envOfC qg sg s.heap.objs.size g cdg)))
    (hbody : ∀ (A : Around) (outer : List Env) (t : Shared) (Ht : Hp) (E : XK), Room k (A.deeper (LamX.lamEnv X scope t.heap.objs.size f c)) → A.guards = X.A.guards → PE (lamCxN X A outer t Ht E scope f c) body (tb E))
    (hN : Ng[i]? = some a) (hv : Vis sg a) (hd : (a == ("__debug__" : Str)) = false := by decide) (hcd : (a == ("__classdict__" : Str)) = false := by decide) :
    PE ((cxOf CXg X.prog X.w X.K X.mg X.base Ng qg sg g cdg X.A X.stack s H Eg).tr pn xe) (.Call (.Name a p1) [] [] p2)
      (fun σ1 H1 Q => σ1[i]? = some (some (.ref f)) ∧ H1 c = some (LamX.CodeO c (X.env.qual ++ "<lambda>")) ∧ tb (fun cls d H2 => Wt cls d σ1 H2) σ H1 Q) := by
  refine ⟨fun pins1 t1 σ1 H1 Q I1 ⟨slot, code, rd⟩ => ?_⟩
  refine wpAny_Call_Name_kw (thn ((pe_var (pos := p1) (i := i) hN hv hd hcd).run pins1 t1 σ1 H1 (fun v H2 => v = .ref f ∧ H2 = H1) I1 ⟨.ref f, slot, rfl, rfl⟩) fun u t2 ⟨v, H2, I2, rel, same⟩ => ?_)
  obtain ⟨e1, e2⟩ := same
  subst e1
  rw [e2] at I2
  obtain rfl : u = Value.ref f := rel
  have thunk : t2.heap.get? f = some (PySem.W.kla_obj "<lambda>" (X.env.qual ++ "<lambda>") params body scope (cloFrom X.env.cells scope.names []) pm c ctv) := I2.base.keep f _ hf hfn hfr (fun z => nomatch (show f ∈ ([] : List Addr) from z))
  refine PySem.W.callWith_F0 ⟨_, _, _, _, thunk⟩ ?_
  have kept : Un (frs X.stack) [] H H1 s.heap t2.heap := I2.base
  obtain ⟨⟨oc, vs, t, q1, q2, q3⟩, _, _⟩ := I2.hok c _ code
  have room := hr
  refine wpAny_call (codeAny_mono (R := CR (L2N.CX X.prog X.w) (envOfC qg sg s.heap.objs.size g cdg :: X.stack) X.prog X.w H1 t2 Q (fun cls d H2 => Wt cls d σ1 H2)) ?_ fun res t3 hq => ?_)
  · refine PySem.W.kla_callFunE room.depth thunk rfl L.co L.gen rfl ⟨c, oc, vs, t, rfl, q1, q2, q3⟩ ?_
    rw [show bindArgs (PySem.W.kla_fn "<lambda>" (X.env.qual ++ "<lambda>") params body scope (cloFrom X.env.cells scope.names []) pm (.ref c) ctv) ⟨([] : List Value) ++ [], []⟩ = pure [] from hbind]
    refine wpAny_pure (wpAny_newFunctionEnv (fun y hy => (L.own y hy).2) (fun y hy => absurd hy (by simp)) (fun hp names sub => ⟨I2.nolimit.fresh _ sub, ?_⟩) L.kind)
    show codeAny _ _ (.expr body (LamX.lamEnv X scope t2.heap.objs.size f c)) _ _
    have grows : ∀ b o, t2.heap.get? b = some o → hp.get? b = some o := fun b o e => sub.extBut b o (Nat.ne_of_lt (Heap.lt_size e)) (Heap.get?_push_of_some _ e)
    have J := inv_xe (xe := fun e s' => wpAny (model X.prog X.w) ((X.A.deeper (envOfC qg sg s.heap.objs.size g cdg)).deeper (LamX.lamEnv X scope t2.heap.objs.size f c)) (leaving (LamX.lamEnv X scope t2.heap.objs.size f c) e) (fun _ s'' => L2N.CX X.prog X.w (envOfC qg sg s.heap.objs.size g cdg :: X.stack) H1 t2 (fun cls d H2 => Wt cls d σ1 H2) e s'') (fun e' s'' => L2N.CX X.prog X.w (envOfC qg sg s.heap.objs.size g cdg :: X.stack) H1 t2 (fun cls d H2 => Wt cls d σ1 H2) e' s'') s') <| LamX.lam_start2 (A := X.A.deeper (envOfC qg sg s.heap.objs.size g cdg)) (outer := envOfC qg sg s.heap.objs.size g cdg :: X.stack) (E := fun cls d H2 => Wt cls d σ1 H2) (f := f) (c' := c) (tk := t2.toks + ([] : List (Str × Value)).length) I L I2.env0 room.hd kept names grows
    refine PySem.W.kla_codeExpr (wpAny_mono ((hbody _ _ t2 H1 _ (room.deeper _) rfl).run [] _ _ H1 Q J rd) (fun v t3 hq => ?_) fun _ _ z => z)
    obtain ⟨w', H3, J3, rv, q⟩ := hq
    exact ⟨w', H3, J3.os, J3.bare, J3.base, J3.hok, rv, q⟩
  · cases res with
    | error e => exact tk e t3 (L2N.XE.of_call I2 (fun _ _ _ z => z) hq)
    | ok fl =>
      cases fl with
      | ret u => exact I2.after hq
      | next => exact hq.elim
      | brk => exact hq.elim
      | cont => exact hq.elim
end

/-! ### the def that calls it -/
/-- the def's statements, th what the lambda answers -/
def TsD (Y : Cx) (W : WX) (f c : Addr) (q : Str) (tl : XK → Hp → VK → Prop) (sts : List Stmt) (m : (Store → Res D) → FS) : Prop :=
  ∃ t : TS, PSs Y sts t ∧ ∀ (th : Store → Res D) (Z φ : List Addr) (S : Store) (ρ : EnvD) (σ : L2.St) (H : Hp) (Dd : Ends), Rel Y.K Y.mg Z φ S H → Slots Y.K Y.mg φ (gnd Z φ S H) ρ σ → σ[0]? = some (some (.ref f)) → H c = some (LamX.CodeO c q) →
    (∀ (Q : VK) (E : XK), Want Y.K Y.mg (RDat Y.K Y.mg) Z φ S H (th S) Q E → tl E H Q) → WantS Y W Z φ S H (m th ρ S) Dd → t Dd σ H
/-- the lambda's call in the def -/
def Act (Y : Cx) (f c : Addr) (q : Str) (tl : XK → Hp → VK → Prop) (a : Str) : Prop := ∀ (Wt : WX) (pn : List (Addr × Obj)) (xe : Value → Shared → Prop) (p1 p2 : Pos), L2N.Takes (Y.tr pn xe) Wt →
  PE (Y.tr pn xe) (.Call (.Name a p1) [] [] p2) (fun σ1 H1 Q => σ1[0]? = some (some (.ref f)) ∧ H1 c = some (LamX.CodeO c q) ∧ tl (fun cls d H2 => Wt cls d σ1 H2) H1 Q)
section
variable {Y : Cx} {W : WX} {k : Nat} {f c : Addr} {q : Str} {tl : XK → Hp → VK → Prop} {a : Str} {sts : List Stmt} {m : (Store → Res D) → FS} {pos : Pos}
/-- name = constant -/
theorem ts_const (C : Cn Y W k) {i : Nat} {x : Str} {e : Expr} {v : V} {d : D} {pos' : Pos} (hi0 : (i == 0) = false) (hi : Y.N[i]? = some x) (hx : Loc Y.env.scope x) (he : PE Y e (L2.tC v)) (hd : ∀ φ G, Dat Y.K Y.mg φ G d v) (r : TsD Y W f c q tl sts m)
    (hs : swapsWith e (some (.Name x pos')) pos.line Y.env = pure false := by rfl) (hf : Y.fn x = true ∨ Y.env.scope.names.lookup x = some .local := by first | exact .inl rfl | exact .inr rfl | assumption) :
    TsD Y W f c q tl (.Assign [.Name x pos'] e pos :: sts) (fun th => gSeq (gSet i (fC d)) (m th)) := by
  obtain ⟨t, pt, qt⟩ := r
  refine ⟨_, pss_cons (ps_set C.nd hi hx he hs hf) pt, fun th Z φ S ρ σ H Dd R sl h0 hc hth w => ?_⟩
  refine qt th Z φ S (ρ.set i (some d)) (σ.set i (some v)) H Dd R (sl.set (hd _ _)) ?_ hc hth w
  rw [List.getElem?_set_ne (fun z => by rw [z] at hi0; cases hi0)]
  exact h0
/-- the try; what follows it -/
theorem ts_try (C : Cn Y W k) (stk : Y.stack = Y.env :: Y.outer) (frm : Y.env.frame = some Y.env.locals) (nex : Y.ex = []) {body : List Stmt} {h0 : ExceptHandler} {hds : List ExceptHandler} {gb : (Store → Res D) → FS} {ms : List HM} {l : List Hd} {g : FS} {tb : WX → TS}
    (hb : ∀ (Wn : WX) (pn : List (Addr × Obj)) (xe : Value → Shared → Prop), L2N.Takes (Y.tr pn xe) Wn → PSs (Y.tr pn xe) body (tb Wn))
    (hi : ∀ (Wn : WX) (th : Store → Res D) (Z φ : List Addr) (S : Store) (ρ : EnvD) (σ : L2.St) (H : Hp) (Dd : Ends), Rel Y.K Y.mg Z φ S H → Slots Y.K Y.mg φ (gnd Z φ S H) ρ σ → σ[0]? = some (some (.ref f)) → H c = some (LamX.CodeO c q) →
      (∀ (Q : VK) (E : XK), Want Y.K Y.mg (RDat Y.K Y.mg) Z φ S H (th S) Q E → tl E H Q) → WantS Y Wn Z φ S H (gb th ρ S) Dd → tb Wn Dd σ H)
    (hh : HdsD Y (h0 :: hds) ms l) (r : DSs Y W sts g) : TsD Y W f c q tl (.Try body (h0 :: hds) [] [] pos :: sts) (fun th => gSeq (gTry (gb th) ms) g) := by
  refine ⟨_, pss_cons (ps_try_T stk frm nex C.tk (fun Wn pn xe tk _ => hb Wn pn xe tk) hh.toT) r, fun th Z φ S ρ σ H Dd R sl hs hc hth w => ?_⟩
  have w0 : WantS Y W Z φ S H (gTry (gb th) ms ρ S) { Dd with nx := tDS Y W g Dd } := by
    have w1 : WantS Y W Z φ S H ((gTry (gb th) ms ρ S).seq g) Dd := w
    cases e : gTry (gb th) ms ρ S with
    | nx ρ1 S1 =>
      rw [e] at w1
      exact fun σ1 φ1 H1 R1 E1 sl1 => ⟨Z, φ1, S1, ρ1, R1, sl1, WantS.go E1 w1⟩
    | rt d S1 => rw [e] at w1; exact w1
    | bk ρ1 S1 => rw [e] at w1; exact w1
    | ct ρ1 S1 => rw [e] at w1; exact w1
    | ex C fs ρ1 S1 => rw [e] at w1; exact w1
    | stuck => rw [e] at w1; exact w1
  refine hi _ th Z φ S ρ σ H _ R sl hs hc hth ?_
  unfold gTry at w0
  cases e : gb th ρ S with
  | ex C fs ρ1 S1 =>
    rw [e] at w0
    exact fun A dx σ1 φ1 H1 m R1 E1 sl1 xd => hh.want m R1 sl1 xd (WantS.go E1 w0)
  | nx ρ1 S1 => rw [e] at w0; exact w0
  | rt d S1 => rw [e] at w0; exact w0
  | bk ρ1 S1 => rw [e] at w0; exact w0
  | ct ρ1 S1 => rw [e] at w0; exact w0
  | stuck => rw [e] at w0; exact w0
/-- name = a() -/
def gActSet (i : Nat) (th : Store → Res D) : FS := fun ρ S => (th S).into ρ fun d S => .nx (ρ.set i (some d)) S
theorem ts_trySet (act : Act Y f c q tl a) (C : Cn Y W k) (stk : Y.stack = Y.env :: Y.outer) (frm : Y.env.frame = some Y.env.locals) (nex : Y.ex = []) {i : Nat} {x : Str} {p1 p2 pa pb : Pos} {h0 : ExceptHandler} {hds : List ExceptHandler} {ms : List HM} {l : List Hd} {g : FS}
    (hi : Y.N[i]? = some x) (hx : Loc Y.env.scope x) (hh : HdsD Y (h0 :: hds) ms l) (r : DSs Y W sts g) (hs : swapsWith (.Call (.Name a p1) [] [] p2) (some (.Name x pa)) pb.line Y.env = pure false := by rfl)
    (hf : Y.fn x = true ∨ Y.env.scope.names.lookup x = some .local := by first | exact .inl rfl | exact .inr rfl | assumption) :
    TsD Y W f c q tl (.Try [.Assign [.Name x pa] (.Call (.Name a p1) [] [] p2) pb] (h0 :: hds) [] [] pos :: sts) (fun th => gSeq (gTry (gActSet i th) ms) g) :=
  ts_try C stk frm nex (fun Wn pn xe tk => pss_one (ps_set (X := Y.tr pn xe) C.nd hi hx (act Wn pn xe p1 p2 tk) hs hf))
    (fun Wn th Z φ S ρ σ H Dd R sl h0 hc hth w => ⟨h0, hc, hth _ _ (WantS.into (W := Wn) sl w fun d S1 v φ1 H1 R1 E1 dd w1 => w1 _ φ1 H1 R1 Evo.refl ((sl.evo E1).set dd))⟩) hh r
end

/-! ### its promise -/
structure FnT (P : Program) (w : World) (K : PySem.W.Frag) (mg : Str → Option Value) (base : Heap) (k : Nat) (x : Str) (sg : Scope) (g : Addr) (fd : FuncData) (a : Str) (Ng : List Str) (m : (Store → Res D) → FS) : Prop where
  slot : Ng[0]? = some a
  vis : Vis sg a
  run : ∀ (A : Around) (outer : List Env) (s : Shared) (H : Hp) (f c : Addr) (q : Str) (tl : XK → Hp → VK → Prop) (Q : VK) (E : XK) (th : Store → Res D) (Z φ : List Addr) (S : Store), Room (k + 1) A → A.guards = some [] → Env0 P w K mg base A outer s H →
    (∀ cdv : Value, Room k (A.deeper (envOfC x sg s.heap.objs.size g cdv)) → Act (cxOf (L2N.CX P w) P w K mg base Ng x sg g cdv A outer s H E) f c q tl a) → H c = some (LamX.CodeO c q) → Rel K mg Z φ S H →
    (∀ (Q : VK) (E : XK), Want K mg (RDat K mg) Z φ S H (th S) Q E → tl E H Q) → Want K mg (RDat K mg) Z φ S H (m th (List.replicate Ng.length none) S).res Q E →
    codeAny (model P w) A (.call (.ref g) ⟨[.ref f], []⟩) (CR (L2N.CX P w) outer P w H s Q E) s
theorem slots_none {K : PySem.W.Frag} {mg : Str → Option Value} {φ : List Addr} {G : Hp} {σ : L2.St} : Slots K mg φ G (List.replicate σ.length none) σ :=
  ⟨List.length_replicate, fun i d e => by
    have h := (List.getElem?_eq_some_iff.mp e)
    obtain ⟨h1, h2⟩ := h
    rw [List.getElem_replicate] at h2
    cases h2⟩
theorem fnT {P : Program} {w : World} {K : PySem.W.Frag} {mg : Str → Option Value} {base : Heap} {x : Str} {params : Arguments} {body : List Stmt} {scope : Scope} {kws : List (Str × V)} {g : Addr} {fd : FuncData} {Ng : List Str} {a : Str} {k : Nat} {m : (Store → Res D) → FS}
    (F : FunD K x x params body scope [] kws g fd) (Sc : FnScope Ng [a] scope) (hslot : Ng[0]? = some a) (hvis : Vis scope a) (hbd : ∀ (s : Shared) (u : Value), BindsTo s fd ⟨[u], []⟩ [(a, u)])
    (hb : ∀ (cdv : Value) (A : Around) (outer : List Env) (s : Shared) (H : Hp) (E : XK) (f c : Addr) (q : Str) (tl : XK → Hp → VK → Prop), Cn (cxOf (L2N.CX P w) P w K mg base Ng x scope g cdv A outer s H E) (fun c d _ H' => E c d H') k →
      Act (cxOf (L2N.CX P w) P w K mg base Ng x scope g cdv A outer s H E) f c q tl a → TsD (cxOf (L2N.CX P w) P w K mg base Ng x scope g cdv A outer s H E) (fun c d _ H' => E c d H') f c q tl body m) : FnT P w K mg base k x scope g fd a Ng m := by
  obtain ⟨oc, od, dV, kV, doc, pm, an, cdv, ct, osl, rfl, lk, hcd, _, _⟩ := F.ex
  refine ⟨hslot, hvis, fun A outer s H f c q tl Q E th Z φ S hr hgd e0 act hc R hth want => ?_⟩
  refine LamX.run_ofS (N := Ng) (ps := [a]) (us := [.ref f]) (vs := [.ref f]) lk hcd Sc hr e0 (hbd s (.ref f)) (.cons rfl .nil) rfl fun hr' => ?_
  obtain ⟨t, pt, qt⟩ := hb cdv A outer s H E f c q tl ⟨hr', hgd, rfl, Sc.nd, passes_of rfl, L2N.takes_of rfl rfl rfl rfl⟩ (act cdv hr')
  refine ⟨t, pt, ?_⟩
  have len : (L2.start Ng [V.ref f]).length = Ng.length := by
    unfold L2.start
    have h1 : 0 < Ng.length := (List.getElem?_eq_some_iff.mp hslot).1
    simp [List.length_append, List.length_replicate]
    omega
  have sl : Slots K mg φ (gnd Z φ S H) (List.replicate Ng.length none) (L2.start Ng [V.ref f]) := by
    rw [← len]
    exact slots_none
  refine qt th Z φ S (List.replicate Ng.length none) (L2.start Ng [.ref f]) H _ R sl (by unfold L2.start; rfl) hc hth ?_
  cases e : m th (List.replicate Ng.length none) S with
  | nx ρ S1 =>
    rw [e] at want
    exact fun σ φ1 H1 R1 E1 _ => want .non φ1 H1 R1 E1 (by unfold RDat Dat; rfl)
  | rt d S1 =>
    rw [e] at want
    exact want
  | ex C fs ρ S1 =>
    rw [e] at want
    exact fun A1 dx σ φ1 H1 m1 R1 E1 _ xd => want A1 dx φ1 H1 m1 R1 E1 xd
  | bk ρ S1 => rw [e] at want; exact want.elim
  | ct ρ S1 => rw [e] at want; exact want.elim
  | stuck => rw [e] at want; exact want.elim
/-- fnG, the def's own code object told -/
theorem fnGx {P : Program} {w : World} {K : PySem.W.Frag} {mg : Str → Option Value} {base : Heap} {x qual : Str} {params : Arguments} {body : List Stmt} {scope : Scope} {dvs : List V} {kws : List (Str × V)} {f : Addr} {fd : FuncData} {N ps : List Str} {k : Nat} {g : FS}
    (F : FunD K x qual params body scope dvs kws f fd) (S : FnScope N ps scope)
    (hb : ∀ (cdv : Value) (A : Around) (outer : List Env) (s : Shared) (H : Hp) (E : XK), (∃ oc od dV kV doc pm an ct osl, K.lookup f = some ⟨oc, od, .func (PySem.W.fnOf x qual params body scope dV kV doc pm an cdv ct), osl⟩ ∧ PySem.W.codeIn K cdv qual = true) → Cn (cxOf (L2N.CX P w) P w K mg base N qual scope f cdv A outer s H E) (fun c d _ H' => E c d H') k →
      DSs (cxOf (L2N.CX P w) P w K mg base N qual scope f cdv A outer s H E) (fun c d _ H' => E c d H') body g) : FnG P w K mg base (k + 1) f fd ps (spD K mg ps.length (semOf N.length g)) := by
  obtain ⟨oc, od, dV, kV, doc, pm, an, cdv, ct, osl, rfl, lk, hcd, _, _⟩ := F.ex
  refine ⟨fun vs H Q E h => h.1, fun A outer s H args us vs Q E hr hgd e0 hbd r hsp => ?_⟩
  have hl : us.length = ps.length := r.length.symm.trans hsp.1
  have keep : ∀ b o, base.get? b = some o → s.heap.get? b = some o := fun b o e => (e0.bs b o e).1
  have inK : K.In s.heap := e0.mod.kin.keeps keep
  have par : ∀ y ∈ ps.zip us, scope.names.lookup y.1 = some .local ∨
      (scope.names.lookup y.1 = some .cell ∧ ((cellsFrom (s.heap.objs.size + 1) scope.names []).lookup y.1).isSome = true) := by
    rintro ⟨n, v⟩ hy
    exact (S.par n (List.of_mem_zip hy).1).imp id fun q => ⟨q, PySem.W.cellsFrom_some _ _ _ (.inl q)⟩
  refine codeAny_call_function hr.depth (inK _ _ lk) rfl S.co S.gen rfl
    (PySem.W.codeRec_of inK hcd) (hbd _ _ _ _ ?_)
  refine wpAny_newFunctionEnv_cells S.kind par fun env he s1 entered => ?_
  subst he
  refine ⟨(e0.mod.nolimit.keeps keep).keeps entered.toInCall.keep, codeAny_func ?_⟩
  -- the body's own context
  have body' := hb cdv A outer s H E ⟨oc, od, dV, kV, doc, pm, an, ct, osl, lk, hcd⟩ ⟨hr.deeper _, hgd, rfl, S.nd, passes_of rfl, L2N.takes_of rfl rfl rfl rfl⟩
  obtain ⟨hlen, Z, φ, S0, ds, R, dl, w0⟩ := hsp
  have I0 := inv_start (CX := L2N.CX P w) (mg := mg) (base := base) (cd := cdv) (qual := qual) (f := f) (E := E) S hr.hd e0 hlen r entered
  have q0 : tDS (cxOf (L2N.CX P w) P w K mg base N qual scope f cdv A outer s H E) (fun c d _ H' => E c d H') g { nx := fun _ H' => Q .non H', rt := Q } (L2.start N vs) H := by
    refine ⟨Z, φ, S0, startD N.length ds, R, slots_start dl, ?_⟩
    unfold semOf at w0
    cases hg : g (startD N.length ds) S0 with
    | nx ρ S1 =>
      rw [hg] at w0
      exact fun σ φ1 H1 R1 E1 _ => w0 .non φ1 H1 R1 E1 (by unfold RDat Dat; rfl)
    | rt d S1 =>
      rw [hg] at w0
      exact w0
    | ex C fs ρ S1 =>
      rw [hg] at w0
      exact fun A1 dx σ φ1 H1 m R1 E1 _ x => w0 A1 dx φ1 H1 m R1 E1 x
    | _ =>
      rw [hg] at w0
      exact w0.elim
  refine wpAny_mono (PSs.run body' [] s1 (L2.start N vs) H _ I0 q0) (fun fl s' hs => ?_) fun _ _ z => z
  have fin : ∀ {σ' : L2.St} {H' : Hp} {v : V} {u : Value}, Inv (cxOf (L2N.CX P w) P w K mg base N qual scope f cdv A outer s H E) [] σ' H' s' → RelV v u →
      Q v H' → CE outer P w H s Q u s' := fun J rv q => ⟨_, _, J.os, J.bare, J.base, J.hok, rv, q⟩
  cases fl with
  | ret u =>
    obtain ⟨v, σ', H', J, rv, q⟩ := hs
    exact fin J rv q
  | next =>
    obtain ⟨σ', H', J, q⟩ := hs
    exact fin (v := .non) J rfl q
  | brk => exact hs.choose_spec.choose_spec.2.elim
  | cont => exact hs.choose_spec.choose_spec.2.elim
/-- a def whose body makes lambdas: its code object is known -/
theorem fnGc {P : Program} {w : World} {K : PySem.W.Frag} {mg : Str → Option Value} {base : Heap} {x qual : Str} {params : Arguments} {body : List Stmt} {scope : Scope} {dvs : List V} {kws : List (Str × V)} {at_ : He.Defn} {fd : FuncData} {N ps : List Str} {k : Nat} {g : FS}
    (F : FunD K x qual params body scope dvs kws (He.fAd K at_) fd) (Sc : FnScope N ps scope)
    (hb : ∀ (cdv : Value) (A : Around) (outer : List Env) (s : Shared) (H : Hp) (E : XK), cdv = .ref (He.cT K at_).1 → Cn (cxOf (L2N.CX P w) P w K mg base N qual scope (He.fAd K at_) cdv A outer s H E) (fun c d _ H' => E c d H') k →
      DSs (cxOf (L2N.CX P w) P w K mg base N qual scope (He.fAd K at_) cdv A outer s H E) (fun c d _ H' => E c d H') body g) : FnG P w K mg base (k + 1) (He.fAd K at_) fd ps (spD K mg ps.length (semOf N.length g)) := by
  refine fnGx F Sc fun cdv A outer s H E hl C => hb cdv A outer s H E ?_ C
  obtain ⟨oc, od, dV, kV, doc, pm, an, ct, osl, lk, hcd⟩ := hl
  obtain ⟨c0, ec⟩ := He.codeIn_ref hcd
  rw [ec]
  exact congrArg Value.ref (He.codeOf_eq lk ec).symm

/-! ### the caller -/
def isTab (p : He.Defn) (q : Str) : SO → Bool
  | .tbl p' q' => decide (p' = p) && decide (q' = q)
  | _ => false
theorem tab_at {p : He.Defn} {q : Str} : ∀ {S : Store}, S.any (isTab p q) = true → ∃ j : Nat, S[j]? = some (SO.tbl p q)
  | [], h => by cases h
  | o :: S, h => by
    rw [List.any_cons, Bool.or_eq_true] at h
    rcases h with h | h
    · cases o with
      | tbl p' q' =>
        unfold isTab at h
        rw [Bool.and_eq_true, decide_eq_true_eq, decide_eq_true_eq] at h
        exact ⟨0, by rw [h.1, h.2]; rfl⟩
      | _ => cases h
    · obtain ⟨j, e⟩ := tab_at h
      exact ⟨j + 1, e⟩
/-- x(lambda: body) -/
def fTold (p : He.Defn) (q : Str) (n : Nat) (m : (Store → Res D) → FS) (fb : FE) : FE := fun ρ S => if S.any (isTab p q) = true then (m (fun S => fb ρ S) (List.replicate n none) S).res else .stuck
section
variable {X : Cx} {W : WX} {k k' : Nat}
theorem de_told {x a : Str} {g : Addr} {fd : FuncData} {sg : Scope} {Ng : List Str} {m : (Store → Res D) → FS} {at_ : He.Defn} {q : Str} {params : Arguments} {body : Expr} {scope : Scope} {fb : FE} {p lpos pos : Pos} (F : FnT X.prog X.w X.K X.mg X.base k x sg g fd a Ng m) (C : Cn X W k') (hg : Gl X x) (hm : X.mg x = some (.ref g))
    (hkp : PySem.W.keepIn X.K (.ref g) = true) (hq : X.env.qual ++ "<lambda>" = q) (hcode : X.env.code = .ref (He.cT X.K at_).1) (TB : LamX.TabB X.base X.mg (He.cT X.K at_).1 (He.cT X.K at_).2) (L : LamX.LamS X.env.scope scope) (hdef : defaultsOf params X.env = ([], []))
    (hbind : ∀ (q : Str) (cl : List (Str × Addr)) (pm cv ctv : Value), bindArgs (PySem.W.kla_fn "<lambda>" q params body scope cl pm cv ctv) ⟨[], []⟩ = pure []) {j : Nat} (hj : k = j + 1) (hle : k + 1 ≤ k')
    (hbody : ∀ (A : Around) (outer : List Env) (t : Shared) (H : Hp) (E : XK) (f c : Addr), Cn (lamCxN X A outer t H E scope f c) (fun c d _ H' => E c d H') j → DE (lamCxN X A outer t H E scope f c) (fun c d _ H' => E c d H') body fb)
    (hdb : (x == ("__debug__" : Str)) = false := by decide) (hd : (a == ("__debug__" : Str)) = false := by decide) (hcd : (a == ("__classdict__" : Str)) = false := by decide) :
    DE X W (.Call (.Name x p) [.Lambda params body scope lpos] [] pos) (fTold at_ q Ng.length m fb) := by
  refine ⟨fun pins s σ H Q I ⟨Z, φ, S, ρ, R, sl, w⟩ => ?_⟩
  unfold fTold at w
  obtain ⟨ht, w1⟩ := want_if w
  obtain ⟨j', hS⟩ := tab_at ht
  subst hq
  refine wpAny_Call_Name_kw (ld_glob I hg hm ?_ hdb)
  refine PySem.W.callWith_K (h₀ := X.base) I.ok.mod.kin hkp ?_ (by rfl) (by rfl)
  show wpAny _ _ (spliced ((false, eval (.Lambda params body scope lpos) X.env) :: backTo pos (starEach [] X.env))) _ _ s
  refine Calls.spliced_cons (lam_makeD I R hS hcode TB hdef (L.has I.ok) fun f c pm ctv H1 s1 I1 R1 E1 hf hfn hfr hc => ?_)
  refine Calls.spliced_nil ⟨I1.kIn, ?_⟩
  have sl1 := sl.evo E1
  have room : Room (k + 1) X.A := C.room.mono hle
  refine wpAny_call (codeAny_mono (F.run X.A X.stack s1 H1 f c _ (fun E H' Q' => tD X.K X.mg (fun cls d _ H2 => E cls d H2) fb σ H' Q') Q (WE W σ) (fun S => fb ρ S) Z φ S room C.gd I1.env0 (fun cdv hr Wt pn xe p1 p2 tk => ?_) (gnd_sub _ _ hc) R1
    (fun Q' E' w' => ⟨Z, φ, S, ρ, R1, sl1, w'⟩) (w1.go E1)) fun res s2 hq2 => ?_)
  · subst hj
    exact pe_actD (tb := fun E => tD X.K X.mg (fun cls d _ H2 => E cls d H2) fb) (Ng := Ng) (sg := sg) (i := 0) (k := j) I1 L hf hfn hfr (hbind _ _ _ _ _) tk hr (fun A outer t Ht E hr2 hgd => hbody A outer t Ht E f c ⟨hr2, hgd.trans C.gd, rfl, C.nd, passes_of rfl, L2N.takes_of rfl rfl rfl rfl⟩) F.slot F.vis hd hcd
  · cases res with
    | error e => exact L2N.passAt C.tk σ pins H1 s1 e s2 I1 hq2
    | ok fl =>
      cases fl with
      | ret u => exact I1.after hq2
      | next => exact hq2.elim
      | brk => exact hq2.elim
      | cont => exact hq2.elim
end
end DL

/-! The data layer, part 38: the law's end where defs make lambdas. -/
namespace DL
open PySem PySem.Spec PyProof.Rows L2

def tabS (tq : List (He.Defn × Str)) : Store := tq.map fun p => .tbl p.1 p.2
theorem tabA_mem {K : PySem.W.Frag} {tq : List (He.Defn × Str)} {b : Addr} (h : b ∈ tabA K tq) : ∃ p ∈ tq, (He.cT K p.1).2 = b := List.mem_map.mp h
theorem rel_tabs {K : PySem.W.Frag} {mg : Str → Option Value} {H : Hp} {tq : List (He.Defn × Str)} (nd : (tabA K tq).Nodup) (hH : ∀ b ∈ tabA K tq, H b = some (.tbl #[])) : Rel K mg [] (tabA K tq) (tabS tq) H := by
  refine ⟨by simp [tabA, tabS], nd, (fun _ _ z => (nomatch z)), (fun _ z => (nomatch z)), fun b hb => ?_, fun n b o h1 h2 => ?_⟩
  · rw [hH b hb]
    exact fun z => nomatch z
  · have hb := List.mem_of_getElem? h1
    unfold tabA at h1
    unfold tabS at h2
    rw [List.getElem?_map] at h1 h2
    cases e : tq[n]? with
    | none => rw [e] at h1; cases h1
    | some p =>
      rw [e] at h1 h2
      cases h1
      cases h2
      exact ⟨rfl, #[], hH _ hb, trivial, fun pos cv z => by simp [codeAmong] at z⟩
theorem live_tabs {K : PySem.W.Frag} : ∀ tq : List (He.Defn × Str), liveA (tabA K tq) (tabS tq) = tabA K tq
  | [] => rfl
  | p :: r => by
    show liveA ((He.cT K p.1).2 :: tabA K r) (.tbl p.1 p.2 :: tabS r) = _
    unfold liveA
    rw [if_pos (show (SO.tbl p.1 p.2).live = true from rfl), live_tabs r]
    rfl
/-- the law's call, from its mirror; tq: the defs that make lambdas, and what these are called -/
theorem law_runsT {P : Program} {w : World} {K : PySem.W.Frag} {mg mb : Str → Option Value} {k : Nat} {fa a : Addr} {fd : FuncData} {x : Str} {sem : Sem'} {s1 : Shared} {vs : List Value} {ns : List Int} {tq : List (He.Defn × Str)}
    (kin : K.In s1.heap) (hns : s1.heap.Ns mainGlobals mg) (hb : s1.heap.Ns builtinsNs mb) (hbb : ∀ x : Str, x ≠ "__name__" → mb x = bootBuiltins x) (hlim : s1.heap.NoLimit) (gens : s1.gens = #[])
    (tabs : ∀ p ∈ tq, s1.heap.get? (He.cT K p.1).2 = some { cls := .none, data := .fields #[] }) (out : ∀ p ∈ tq, K.lookup (He.cT K p.1).2 = none) (heads : ∀ p ∈ tq, PySem.W.CodeHd s1.heap (He.cT K p.1).1 (He.cT K p.1).2) (nd : (tabA K tq).Nodup)
    (hbm : ∃ (bm : Addr) (ob : Obj), mg "__builtins__" = some (.ref bm) ∧ bm ≠ builtinsNs ∧ s1.heap.get? bm = some ob ∧ ob.cls = .type "module" ∧ ob.dict = some builtinsNs ∧ ob.data = .plain)
    (ha : s1.heap.get? a = some { cls := .type "list", data := .seq vs.toArray }) (hi : IntsAre vs ns) (hl : ns.length ≤ sizeLine) (room : Room k callerA)
    (F : ∀ base : Heap, K.In base → base.Ns mainGlobals mg → (∀ p ∈ tq, LamX.TabB base mg (He.cT K p.1).1 (He.cT K p.1).2) → FnG P w K mg base k fa fd [x] (spD K mg 1 sem)) (hbind : ∀ (s : Shared) (u : Value), BindsTo s fd ⟨[u], []⟩ [(x, u)])
    (good : ∃ S, sem [.scr (ns.map D.int)] (tabS tq) = .ok (.bl true) S) :
    codeAny (model P w) callerA (.call (.ref fa) ⟨[.ref a], []⟩) (fun r s' => r = .ok (.ret (.bool true)) ∧ OldK s1.heap s'.heap ∧ s'.os = s1.os ∧ AllBare s'.gens) s1 := by
  have rv := vals_ints hi
  have empty : ∀ b ∈ tabA K tq, s1.heap.get? b = some { cls := .none, data := .fields #[] } := fun b hb => by
    obtain ⟨p, hp, e⟩ := tabA_mem hb
    rw [← e]
    exact tabs p hp
  have notTab : a ∉ tabA K tq := fun z => by
    have q := empty a z
    rw [ha] at q
    exact nomatch (show Data.seq vs.toArray _ = Data.fields #[] from congrArg Obj.data (Option.some.inj q))
  have inTab : ∀ p ∈ tq, (He.cT K p.1).2 ∈ tabA K tq := fun p hp => List.mem_map.mpr ⟨p, hp, rfl⟩
  have spq : ∀ H : Hp, (∀ b ∈ tabA K tq, H b = some (.tbl #[])) → SqL K H a (ns.map V.int) → spD K mg 1 sem [.ref a] H (fun v _ => v = .bl true) fun _ _ _ => False := fun H hT hq => by
    refine ⟨rfl, [], tabA K tq, tabS tq, [.scr (ns.map D.int)], rel_tabs nd hT, .cons ?_ DatL.nil, ?_⟩
    · unfold Dat
      refine ⟨a, _, rfl, ?_, dat_ints ns⟩
      have keep : ∀ o, H a = some o → gnd [] (tabA K tq) (tabS tq) H a = some o := fun o e => without_some.mpr ⟨by rw [live_tabs, List.nil_append]; exact notTab, e⟩
      exact hq.imp (fun r => r.imp (keep _) fun ⟨ob, q⟩ => ⟨ob, keep _ q⟩) id
    · obtain ⟨S, e⟩ := good
      rw [e]
      intro v φ' H' _ _ d
      unfold RDat Dat at d
      exact d
  -- what may be tracked: the script, the tables
  have main : ∀ H : Hp, (∀ b ∈ tabA K tq, H b = some (.tbl #[])) → (∀ b, H b = none ∨ b ∈ tabA K tq ∨ ∃ ob xs, H b = some (.frz ob (.lst xs))) → SqL K H a (ns.map V.int) → HOk P w H s1.heap → (∀ b, H b ≠ none → b = a ∨ b ∈ tabA K tq) → (H a ≠ none → K.lookup a = none) →
      codeAny (model P w) callerA (.call (.ref fa) ⟨[.ref a], []⟩) (fun r s' => r = .ok (.ret (.bool true)) ∧ OldK s1.heap s'.heap ∧ s'.os = s1.os ∧ AllBare s'.gens) s1 := by
    intro H hT only hq hok alone free
    have plain : ∀ {b : Addr} {o : Obj}, s1.heap.get? b = some o → (∀ l n, o.data ≠ .seq l n) → o.data ≠ .fields #[] → H b = none := fun {b o} e n1 n2 => by
      cases q : H b with
      | none => rfl
      | some u =>
        rcases alone b (by rw [q]; exact fun z => nomatch z) with z | z
        · subst z
          rw [ha] at e
          cases e
          exact absurd rfl (n1 _ _)
        · rw [empty b z] at e
          cases e
          exact absurd rfl n2
    have dic : ∀ {b : Addr} {o : Obj} {es : Array DictEntry} {ep : Nat}, s1.heap.get? b = some o → o.data = .dict es ep → H b = none := fun {b o es ep} e d =>
      plain e (fun l n z => nomatch d.symm.trans z) fun z => nomatch d.symm.trans z
    have ns2 : ∀ {b : Addr} {m : Str → Option Value}, s1.heap.Ns b m → (hidT s1.heap H).Ns b m := fun {b m} ⟨o, es, ep, e, d, r⟩ => ⟨o, es, ep, hidT_get e (dic e d), d, r⟩
    have kin2 : K.In (hidT s1.heap H) := fun b o e => hidT_get (kin b o e) (by
      cases q : H b with
      | none => rfl
      | some u =>
        rcases alone b (by rw [q]; exact fun z => nomatch z) with z | z
        · subst z
          rw [free (by rw [q]; exact fun z => nomatch z)] at e
          cases e
        · obtain ⟨p, hp, ep⟩ := tabA_mem z
          rw [← ep, out p hp] at e
          cases e)
    obtain ⟨mc, c1, c2⟩ := hlim
    have TB : ∀ p ∈ tq, LamX.TabB (hidT s1.heap H) mg (He.cT K p.1).1 (He.cT K p.1).2 := fun p hp => by
      refine ⟨?_, ?_, fun z => ?_⟩
      · obtain ⟨o, us, v1, v2, v3, v4, v5, v6, v7, q0, q9, q1, q2, q3⟩ := heads p hp
        refine ⟨o, us, v1, v2, v3, v4, v5, v6, v7, hidT_get q0 (plain q0 (fun l n z => nomatch q1.symm.trans z) fun z => ?_), q9, q1, q2, q3⟩
        have z2 : us = #[] := Data.fields.inj (q1.symm.trans z)
        rw [z2] at q2
        cases q2
      · obtain ⟨bm, ob, b1, b2, b3, b4, b5, b6⟩ := hbm
        refine ⟨bm, ob, b1, b2, fun z => ?_, fun z => ?_, hidT_get b3 (plain b3 (fun l n z => nomatch b6.symm.trans z) fun z => nomatch b6.symm.trans z), b4, b5, b6⟩
        · obtain ⟨o, es, ep, e, d, _⟩ := hns
          rw [z, e] at b3
          cases b3
          exact nomatch d.symm.trans b6
        · rw [z, tabs p hp] at b3
          cases b3
          exact nomatch b6
      · obtain ⟨o, es, ep, e, d, _⟩ := hns
        rw [z, tabs p hp] at e
        cases e
        exact nomatch d
    have env0 : Env0 P w K mg (hidT s1.heap H) callerA [] s1 H := ⟨rfl, ⟨kin2, ns2 hns, ⟨mb, ns2 hb, hbb⟩, ⟨mc, ns2 c1, c2⟩⟩, fun b o e => of_hidT e, Nat.le_of_eq (hidT_size _ _), trivial, fun b z => absurd (show b ∈ ([] : List Addr) from z) (by simp), hok, .of_eq gens⟩
    refine codeAny_mono ((F _ kin2 (ns2 hns) TB).run callerA [] s1 H ⟨[.ref a], []⟩ [.ref a] [.ref a] _ _ room rfl env0 (hbind s1 (.ref a)) (.cons rfl .nil) (spq H hT hq)) fun r s' h => ?_
    match r, h with
    | .error e, ⟨_, _, _, _, _, _, _, _, _, _, _, _, z⟩ => exact z.elim
    | .ok (.ret u), ⟨v, H', os, bare, un, hok', rr, q⟩ =>
      cases (show v = .bl true from q)
      obtain rfl : u = Value.bool true := rr
      have stays : ∀ b o, b ∉ tabA K tq → s1.heap.get? b = some o → s'.heap.get? b = some o := fun b o nb e => by
        rcases only b with z | z | ⟨ob, xs, z⟩
        · exact un.keep b o e z (fun y => absurd (show b ∈ ([] : List Addr) from y) (by simp)) (by simp)
        · exact absurd z nb
        · obtain ⟨e1, _⟩ := hok b _ z
          obtain ⟨e2, _⟩ := hok' b _ (un.frzs b ob _ z)
          rw [e] at e1
          cases e1
          exact e2
      have longer : ∀ b ∈ tabA K tq, ∃ rows : Array Value, s'.heap.get? b = some { cls := .none, data := .fields rows } := fun b hb => by
        obtain ⟨rows, z⟩ := un.tbls b #[] (hT b hb)
        exact ⟨_, hok' b _ z⟩
      refine ⟨rfl, ⟨fun b o e => ?_, fun b o e => ?_⟩, os, bare⟩
      · by_cases q : b ∈ tabA K tq
        · obtain ⟨p, hp, ep⟩ := tabA_mem q
          obtain ⟨rows, hm⟩ := longer b q
          subst ep
          rw [tabs p hp] at e
          cases e
          exact .inr (.inl ⟨((heads p hp).tab (tabs p hp)).isCodeTable, rfl, #[], rows, rfl, by rw [Array.empty_append]; exact hm⟩)
        · exact .inl (stays b o q e)
      · by_cases q : b ∈ tabA K tq
        · exact ⟨_, (longer b q).choose_spec⟩
        · exact ⟨o, stays b o q e⟩
  cases kl : K.lookup a with
  | some o =>
    have e := kin a o kl
    rw [ha] at e
    cases e
    have at_ : ∀ b, b ∈ tabA K tq → (fun b => if b ∈ tabA K tq then some (HO.tbl #[]) else none : Hp) b = some (.tbl #[]) := fun b hb => if_pos hb
    have no_ : ∀ b, b ∉ tabA K tq → (fun b => if b ∈ tabA K tq then some (HO.tbl #[]) else none : Hp) b = none := fun b hb => if_neg hb
    refine main (fun b => if b ∈ tabA K tq then some (.tbl #[]) else none) at_ (fun b => ?_) (.inr ⟨_, vs.toArray, _, kl, rfl, rfl, rfl, by rw [List.size_toArray, hi.length]; exact hl, by simpa using rv⟩) (fun b u z => ?_) (fun b z => ?_) fun z => absurd (no_ a notTab) z
    · by_cases q : b ∈ tabA K tq
      · exact .inr (.inl q)
      · exact .inl (no_ b q)
    · by_cases q : b ∈ tabA K tq
      · cases (at_ b q).symm.trans z
        exact empty b q
      · cases (no_ b q).symm.trans z
    · by_cases q : b ∈ tabA K tq
      · exact .inr q
      · exact absurd (no_ b q) z
  | none =>
    have at_a : (fun b => if b = a then some (HO.frz { cls := .type "list", data := .seq vs.toArray } (.lst (ns.map V.int))) else if b ∈ tabA K tq then some (.tbl #[]) else none : Hp) a = some (HO.frz { cls := .type "list", data := .seq vs.toArray } (.lst (ns.map V.int))) := if_pos rfl
    have at_ : ∀ b, b ∈ tabA K tq → (fun b => if b = a then some (HO.frz { cls := .type "list", data := .seq vs.toArray } (.lst (ns.map V.int))) else if b ∈ tabA K tq then some (.tbl #[]) else none : Hp) b = some (.tbl #[]) := fun b hb => (if_neg (show ¬ b = a from fun z => notTab (by rw [← z]; exact hb))).trans (if_pos hb)
    have no_ : ∀ b, b ≠ a → b ∉ tabA K tq → (fun b => if b = a then some (HO.frz { cls := .type "list", data := .seq vs.toArray } (.lst (ns.map V.int))) else if b ∈ tabA K tq then some (.tbl #[]) else none : Hp) b = none := fun b hb hb2 => (if_neg hb).trans (if_neg hb2)
    refine main (fun b => if b = a then some (.frz { cls := .type "list", data := .seq vs.toArray } (.lst (ns.map V.int))) else if b ∈ tabA K tq then some (.tbl #[]) else none) at_ (fun b => ?_) (.inl (.inr ⟨_, at_a⟩)) (fun b u z => ?_) (fun b z => ?_) fun _ => kl
    · by_cases q : b = a
      · exact .inr (.inr ⟨_, _, if_pos q⟩)
      · by_cases q2 : b ∈ tabA K tq
        · exact .inr (.inl q2)
        · exact .inl (no_ b q q2)
    · by_cases q : b = a
      · subst q
        cases at_a.symm.trans z
        exact ⟨ha, by rw [List.length_map]; exact hl, vs, _, rv, ha⟩
      · by_cases q2 : b ∈ tabA K tq
        · cases (at_ b q2).symm.trans z
          exact empty b q2
        · cases (no_ b q q2).symm.trans z
    · by_cases q : b = a
      · exact .inl q
      · by_cases q2 : b ∈ tabA K tq
        · exact .inr q2
        · exact absurd (no_ b q q2) z
/-- a law over a head by facts -/
theorem walk_ofGT {l : PySem.W.OpenLaw} {n k : Nat} {q : Program} {loose : List Str} {XP : (Str → Option Value) → Heap → Prop} {YP : World → Heap → Prop} {d : DefRec} {x : Str} {sem : Sem'} {tq : List (He.Defn × Str)}
    (hn : l.most = some n) (hn2 : n ≤ sizeLine) (hdf : d.params.defaults = []) (room : Room k callerA) (good : ∀ ns : List Int, ns.length ≤ n → ∃ S, sem [.scr (ns.map D.int)] (tabS tq) = .ok (.bl true) S)
    (F : ∀ (w : World) (mg : Str → Option Value) (fa : Addr) (h : Heap), YP w h → h.Ns mainGlobals mg → mg d.name = some (.ref fa) →
      ∃ (K : PySem.W.Frag) (fd : FuncData), K.In h ∧ (∀ p ∈ tq, h.get? (He.cT K p.1).2 = some { cls := .none, data := .fields #[] }) ∧ (∀ p ∈ tq, K.lookup (He.cT K p.1).2 = none) ∧ (∀ p ∈ tq, PySem.W.codeHdIn K (He.cT K p.1).1 (He.cT K p.1).2 = true) ∧ (tabA K tq).Nodup ∧
        (∀ (s : Shared) (u : Value), BindsTo s fd ⟨[u], []⟩ [(x, u)]) ∧
        ∀ base : Heap, K.In base → base.Ns mainGlobals mg → (∀ p ∈ tq, LamX.TabB base mg (He.cT K p.1).1 (He.cT K p.1).2) → FnG l.prog w K mg base k fa fd [x] (spD K mg 1 sem)) :
    PySem.W.WalkO q loose XP YP l.row.toRowW d [] (fun f vs => PySem.call f vs) := by
  refine Att.attach_call hn hdf fun w s0 s1 mg mb fa o pm cd doc a vs ns G Y ho hd hcd hmg hob hints hlen gens => ?_
  obtain ⟨K, fd, kin, t1, t2, t3, t4, hb, hF⟩ := F w mg fa _ Y G.T.g hmg
  exact law_runsT kin G.T.g G.T.b G.T.builtins G.T.nolimit gens t1 t2 (fun p hp => PySem.W.codeHd_of_K kin (t3 p hp)) t4 G.T.bmain hob hints (Nat.le_trans hlen hn2) room hF hb (good ns hlen)

/-! ### the head -/
/-! ### facts of exception classes -/
/-- an own class over ValueError without an own __init__: what raise asks -/
structure RaiC (K : PySem.W.Frag) (C : Addr) : Prop where
  ex : PySem.W.excIn K C bmV "ValueError.__new__" = true
  kp : PySem.W.keepIn K (.ref C) = true
  sb : PySem.W.subIn K (.ref C) (.type "BaseException") = some true
  ty : PySem.W.typeIn K (.ref C) = some (.type "type")
theorem raiB_ok {K : PySem.W.Frag} {c : Str} (h : raiB K c = true) : RaiC K (He.ga K c) := by
  obtain ⟨h1, h⟩ := He.ba h
  obtain ⟨h2, h⟩ := He.ba h
  obtain ⟨h3, h4⟩ := He.ba h
  exact ⟨h1, h2, of_decide_eq_true h3, eq_of_beq h4⟩
theorem ds_raiseC {X : Cx} {W : WX} {k : Nat} {x : Str} {C : Addr} {msg : Str} {j : Nat} {p p2 apos pos : Pos} (Cc : Cn X W k) (q : RaiC X.K C) (gC : X.mg x = some (.ref C)) (hg : Gl X x) (hdb : (x == ("__debug__" : Str)) = false := by decide) :
    DS X W (.Raise (some (.Call (.Name x p) [.Constant (.str msg) j p2] [] apos)) none pos) (fun ρ S => .ex x [] ρ S) :=
  ds_raise Cc PySem.F.excBase_ValueError q.ex gC q.kp (raises_own q.sb q.ty) hg hdb
theorem iseB_ok {K : PySem.W.Frag} {c : Str} (h : iseB K c = true) : ExcC K (He.ga K c) := by
  obtain ⟨h1, h⟩ := He.ba h
  obtain ⟨h2, h⟩ := He.ba h
  obtain ⟨h3, h⟩ := He.ba h
  obtain ⟨h4, h⟩ := He.ba h
  obtain ⟨h5, h⟩ := He.ba h
  obtain ⟨h6, h⟩ := He.ba h
  obtain ⟨h7, h8⟩ := He.ba h
  exact ⟨He.eqO_ok h1, He.eqO_ok h2, of_decide_eq_true h3, h4, He.eqO_ok h5, He.eqO_ok h6, of_decide_eq_true h7, of_decide_eq_true h8⟩
theorem lookup_mem' {α : Type} {x : Str} {b : α} : ∀ {t : List (Str × α)}, t.lookup x = some b → (x, b) ∈ t
  | [], h => by cases h
  | (y, c) :: r, h => by
    rw [List.lookup_cons] at h
    cases e : x == y with
    | true =>
      rw [e] at h
      cases h
      rw [eq_of_beq e]
      exact List.mem_cons_self
    | false =>
      rw [e] at h
      exact List.mem_cons_of_mem _ (lookup_mem' h)
theorem exmT_ok {K : PySem.W.Frag} {mg : Str → Option Value} {c : Value} {t : List (Str × Bool)} (h : exmT K c t = true) (hg : ∀ q ∈ t, mg q.1 = some (.ref (He.ga K q.1))) : ∀ C b A, t.lookup C = some b → mg C = some (.ref A) → PySem.W.exmOne K (.ref A) c = some b := fun C b A e hA => by
  have m := lookup_mem' e
  have q := hg _ m
  rw [hA] at q
  cases q
  exact of_decide_eq_true (List.all_eq_true.mp h _ m)
theorem kitT_ok {K : PySem.W.Frag} {mg : Str → Option Value} {c : Value} {t : List (Str × Bool)} (h : kitT K c t = true) (hg : ∀ q ∈ t, mg q.1 = some (.ref (He.ga K q.1))) (hc : ∀ q ∈ t, ExcC K (He.ga K q.1)) : ∀ C b A, t.lookup C = some b → mg C = some (.ref A) → ExcC K A ∧ PySem.W.kitOne K (.ref A) c = some b := fun C b A e hA => by
  have m := lookup_mem' e
  have q := hg _ m
  rw [hA] at q
  cases q
  exact ⟨hc _ m, of_decide_eq_true (List.all_eq_true.mp h _ m)⟩
section
variable {X : Cx} {W : WX} {k : Nat} {e b : Expr} {pos p : Pos} {fa : FA}
/-- isinstance(e, ValueError) -/
theorem de_isXT {n : String} {t : List (Str × Bool)} (hg : Gl X "isinstance") (hm : X.mg "isinstance" = none) (ht : ∀ C b A', t.lookup C = some b → X.mg C = some (.ref A') → ExcC X.K A' ∧ PySem.W.kitOne X.K (.ref A') (.type n) = some b) (ha : DA X W [e, b] fa)
    (he : starEach [e, b] X.env = (false, eval e X.env) :: starEach [b] X.env := by rfl) (hpl : (backTo pos (starEach [b] X.env)).any (·.1) = false := by rfl) : DE X W (.Call (.Name "isinstance" p) [e, b] [] pos) (fCB (gIsX t (.ty n)) fa) :=
  de_callB call_isX (cd_isX (.inr ⟨n, rfl, rfl⟩) ht) hg hm (by rfl) ha (by decide) (by decide) he hpl
end
end DL

/-! The data layer, part 39: // with a great divisor. -/
namespace DL
open PySem L2
section
variable {X : Cx} {W : WX} {a b : Expr} {fa fb : FE} {pos : Pos}
end
end DL

/-! The data layer, part 40: for k in f(..), where f gives a new dict. -/
namespace DL
open PySem PySem.Spec PyProof.Rows L2
/-- the keys of a dict, locked from now on -/
theorem pi_keysL {X : Cx} {tg e : Expr} {td : TE} (he : PE X e td) : PI X tg e (fun σ H R => td σ H fun x H1 => ∃ d kvs, x = .ref d ∧ H1 d = some (.dK kvs) ∧ ∀ o, R (Itk d o kvs) (upd H1 d (.frz o (.dK kvs)))) := by
  refine ⟨fun pins s σ H R I h => thn (he.run pins s σ H _ I h) fun u s1 ⟨x, H1, I1, rx, d, kvs, ex, hd, q⟩ => ?_⟩
  subst ex
  obtain rfl : u = Value.ref d := rx
  obtain ⟨o, I2⟩ := I1.lock hd trivial
  obtain ⟨hs, hgd, hx, es, ep, vs, hdt, hsz, kv, hm⟩ := I2.frzK upd_same
  refine iter_keys hs hgd hx hdt (pi_one (tk := s1.toks) I2 _ (turn_keys _ hdt) ⟨_, Heap.get?_push_size _ rfl, rfl, ?_⟩ (q o))
  rw [hsz] <;> rfl
theorem dat_key {K : PySem.W.Frag} {mg : Str → Option Value} {φ : List Addr} {G : Hp} (k : Key) : Dat K mg φ G (keyV k) (kV k) := by
  cases k <;> (unfold keyV Dat; rfl)
section
variable {X : Cx} {W : WX} {k k' np : Nat} {f : Addr} {fd : FuncData} {ps ks : List Str} {sem : Sem'} {x : Str} {p pos : Pos} {e : Expr} {es : List Expr} {kws : List Keyword} {fa fk : FA} {gD : List D → List D → List D} {tg : Expr}
end
end DL

/-! The data layer, part 41: dict displays with entries, as objects. -/
namespace DL
open PySem PySem.Spec PyProof.Rows L2
abbrev FP := EnvD → Store → Res (List (D × D))
abbrev RPr (K : PySem.W.Frag) (mg : Str → Option Value) : List Addr → Hp → List (D × D) → List (V × V) → Prop := fun φ G ds vs => DatL K mg φ G (ds.map (·.1)) (vs.map (·.1)) ∧ DatL K mg φ G (ds.map (·.2)) (vs.map (·.2))
def DPs (X : Cx) (W : WX) (pos : Pos) (keys : List (Option Expr)) (values : List Expr) (fp : FP) : Prop := ∃ trs, PPs X pos keys values trs ∧ keys.all (·.isSome) = true ∧ keys.length = values.length ∧
  ∀ Z φ S ρ σ H (Q : List (V × V) → Hp → Prop), Rel X.K X.mg Z φ S H → Slots X.K X.mg φ (gnd Z φ S H) ρ σ → Want X.K X.mg (RPr X.K X.mg) Z φ S H (fp ρ S) Q (WE W σ) → tPairs trs σ H Q
def fPs0 : FP := fun _ S => .ok [] S
def fPs (fk fv : FE) (fr : FP) : FP := fun ρ S => (fk ρ S).bind fun x S => (fv ρ S).bind fun y S => (fr ρ S).bind fun ps S => .ok ((x, y) :: ps) S
section
variable {X : Cx} {W : WX} {pos : Pos}
theorem dps_nil : DPs X W pos [] [] fPs0 := ⟨[], pps_nil, rfl, rfl, fun Z φ S ρ σ H Q R sl w => w.now R ⟨DatL.nil, DatL.nil⟩⟩
theorem dps_cons {k v : Expr} {ks : List (Option Expr)} {vs : List Expr} {fk fv : FE} {fr : FP} (hk : DE X W k fk) (hv : DE X W v fv) (hr : DPs X W pos ks vs fr) : DPs X W pos (some k :: ks) (v :: vs) (fPs fk fv fr) := by
  obtain ⟨tk, pk, qk⟩ := hk.ex
  obtain ⟨tv, pv, qv⟩ := hv.ex
  obtain ⟨trs, pr, ha, hl, qr⟩ := hr
  refine ⟨_, pps_cons pk pv pr, by simp [ha], by simp [hl], fun Z φ S ρ σ H Q R sl w => qk Z φ S ρ σ H _ R sl (w.bind fun x S1 u φ1 H1 R1 E1 dx w1 => ?_)⟩
  refine qv Z φ1 S1 ρ σ H1 _ R1 (sl.evo E1) (w1.bind fun y S2 u2 φ2 H2 R2 E2 dy w2 => ?_)
  refine qr Z φ2 S2 ρ σ H2 _ R2 ((sl.evo E1).evo E2) (w2.bind fun ps S3 us φ3 H3 R3 E3 dp w3 => ?_)
  exact w3.now R3 ⟨.cons (Dat.evo E3 (Dat.evo E2 dx)) dp.1, .cons (Dat.evo E3 dy) dp.2⟩
def keysK : List (D × D) → Option (List (Key × D))
  | [] => some []
  | (x, y) :: r => match keyD x, keysK r with
    | some k, some ks => some ((k, y) :: ks)
    | _, _ => none
def mergeD (ks more : List (Key × D)) : List (Key × D) := more.foldl (fun acc kv => putKD acc kv.1 kv.2) ks
theorem datK_merge {K : PySem.W.Frag} {mg : Str → Option Value} {φ : List Addr} {G : Hp} : ∀ {more : List (Key × D)} {mvs : List (Key × V)} {ks : List (Key × D)} {kvs : List (Key × V)}, DatK K mg φ G more mvs → DatK K mg φ G ks kvs → DatK K mg φ G (mergeD ks more) (mergeK kvs mvs)
  | [], _, ks, kvs, h, h0 => by
    unfold DatK at h
    subst h
    exact h0
  | (k, d) :: r, mvs, ks, kvs, h, h0 => by
    unfold DatK at h
    obtain ⟨v, ms, rfl, hd, hr⟩ := h
    have := datK_merge hr (datK_put (k := k) hd h0)
    exact this
theorem keysK_ok {φ : List Addr} {G : Hp} : ∀ {ps : List (D × D)} {us : List (V × V)} {kds : List (Key × D)}, RPr X.K X.mg φ G ps us → keysK ps = some kds → ∃ kvs : List (Key × V), us = kvs.map (fun kv => (kV kv.1, kv.2)) ∧ DatK X.K X.mg φ G kds kvs ∧ kvs.length = kds.length
  | [], us, kds, h, e => by
    cases e
    obtain ⟨h1, _⟩ := h
    have := DatL.length h1
    cases us with
    | nil => exact ⟨[], rfl, by unfold DatK; rfl, rfl⟩
    | cons _ _ => simp at this
  | (x, y) :: r, us, kds, h, e => by
    obtain ⟨h1, h2⟩ := h
    cases us with
    | nil => have := DatL.length h1; simp at this
    | cons u us =>
      obtain ⟨u1, u2⟩ := u
      unfold keysK at e
      split at e
      · rename_i k ks hk hks
        cases e
        simp only [List.map_cons] at h1 h2
        unfold DatL at h1 h2
        obtain ⟨_, _, e1, d1, r1⟩ := h1
        obtain ⟨_, _, e2, d2, r2⟩ := h2
        cases e1
        cases e2
        obtain ⟨kvs, rfl, dk, hl⟩ := keysK_ok ⟨r1, r2⟩ hks
        refine ⟨(k, u2) :: kvs, by rw [List.map_cons, keyD_ok d1 hk], ?_, by simp [hl]⟩
        unfold DatK
        exact ⟨_, _, rfl, d2, dk⟩
      · cases e
def dispAt (n : Nat) (ps : List (D × D)) (S : Store) : Res D := match keysK ps, S[n]? with
  | some kds, some (.dic []) => if kds.length ≤ 15 then .ok (.oid n) (S.set n (.dic (mergeD [] kds))) else .stuck
  | _, _ => .stuck
/-- {k: v, ..}, an object -/
def fDisp (fp : FP) : FE := fun ρ S => (fp ρ (S ++ [.dic []])).bind fun ps S' => dispAt S.length ps S'
theorem de_disp {keys : List (Option Expr)} {values : List Expr} {fp : FP} (h : DPs X W pos keys values fp) (h0 : keys ≠ [] := by intro h; cases h) (h15 : keys.length ≤ 15 := by decide) : DE X W (.Dict keys values pos) (fDisp fp) := by
  obtain ⟨trs, p, ha, hl, q⟩ := h
  refine .mk (pe_disp p ha hl h0 h15) fun Z φ S ρ σ H Q R sl w => fun a hp => ?_
  obtain ⟨R0, E0⟩ := R.newOid (so := .dic []) (same_upd (o := .dK []) hp) hp (by rw [upd_same]; exact fun z => nomatch z) rfl ⟨[], upd_same, by unfold DatK; rfl⟩
  refine q Z _ _ ρ σ _ _ R0 (sl.evo E0) ((w.go E0).bind fun ps S2 us φ2 H2 R2 E2 dp w2 => ?_)
  have h1 : (φ ++ [a])[S.length]? = some a := by rw [List.getElem?_append_right (by rw [R.len]; exact Nat.le_refl _), ← R.len, Nat.sub_self]; rfl
  have hφ : φ2[S.length]? = some a := by
    obtain ⟨t, rfl⟩ := E2.pre
    rw [List.getElem?_append_left (List.getElem?_eq_some_iff.mp h1).1]
    exact h1
  unfold dispAt at w2
  split at w2
  · rename_i kds hk hS
    by_cases hc : kds.length ≤ 15
    · rw [if_pos hc] at w2
      obtain ⟨kvs, rfl, dk, hlen⟩ := keysK_ok dp hk
      obtain ⟨k0, h3, h4⟩ := R2.ob S.length a _ hφ hS
      unfold DatK at h4
      subst h4
      refine ⟨h3, kvs, rfl, by rw [hlen]; exact hc, ?_⟩
      obtain ⟨R3, E3⟩ := R2.mutate (u := .dic (mergeD [] kds)) (ho := .dK (mergeK [] kvs)) hφ hS rfl rfl ⟨_, upd_same, datK_merge dk (by unfold DatK; rfl)⟩
      refine w2 _ _ _ R3 E3 ?_
      unfold RDat Dat
      exact ⟨a, rfl, hφ⟩
    · rw [if_neg hc] at w2
      exact w2.elim
  · exact w2.elim
end
end DL

/-! The data layer, part 42: the least of a list of pairs of numbers. -/
namespace PySem.W
open PySem PySem.SeqAt PyProof.Rows
section
variable {prog : Program} {w : World} {A : Around} {E : Value → Shared → Prop} {s : Shared}
end
end PySem.W
namespace DL
open PySem PySem.Spec PySem.W PySem.SeqAt PyProof.Rows L2
section
variable {X : Cx} {W : WX} {k : Nat} {pos : Pos}
end
end DL

/-! The data layer, part 43: d.get(None, x); dict(a list of pairs). -/
namespace DL
open PySem PySem.Spec PyProof.Rows L2
section
variable {X : Cx} {W : WX} {k : Nat} {o e f : Expr} {fo fe ff : FE} {p pos apos cpos : Pos} {td ty tx : TE}
/-! ### dict(pairs) -/
end
end DL

/-! The data layer, part 44: list * number, d[k] //= n, C.m(self, ..), constants that are tuples of texts. -/
namespace DL
open PySem PySem.Spec PyProof.Rows L2
/-! ### list * number -/
section
variable {X : Cx} {W : WX} {a b : Expr} {fa fb : FE} {pos : Pos}
theorem DatL.rep {K : PySem.W.Frag} {mg : Str → Option Value} {φ : List Addr} {G : Hp} {ds : List D} {vs : List V} (h : DatL K mg φ G ds vs) : ∀ n : Nat, DatL K mg φ G (List.replicate n ds).flatten (List.replicate n vs).flatten
  | 0 => DatL.nil
  | n + 1 => by
    rw [List.replicate_succ, List.replicate_succ, List.flatten_cons, List.flatten_cons]
    exact h.append (DatL.rep h n)
def repD (xs : List D) (k : Int) : List D := (List.replicate k.toNat xs).flatten
def gRepO : G2 := fun x y S => match asLt S x, y with
  | some xs, .int k => if -1000 ≤ k ∧ k ≤ 1000 ∧ xs.length ≤ 1000 then .ok (.oid S.length) (S ++ [.lst (repD xs k)]) else .stuck
  | _, _ => .stuck
def gRepL : G2 := fun x y S => match asLt S x, y with
  | some xs, .int k => if -1000 ≤ k ∧ k ≤ 1000 ∧ xs.length ≤ 1000 then .ok (.lst (repD xs k)) S else .stuck
  | _, _ => .stuck
theorem rep_bound {n : Nat} {k : Int} (h2 : k ≤ 1000) (h3 : n ≤ 1000) : n * k.toNat ≤ sizeLine := by
  have hs : sizeLine = 16777216 := sizeLine_eq
  have h4 : n * k.toNat ≤ 1000 * 1000 := Nat.mul_le_mul h3 (by omega)
  omega
theorem opd_repO : OpD X rRep gRepO := fun Z φ S H x y u v Q E R dx dy w => by
  unfold gRepO at w
  split at w
  · rename_i xs k e1
    obtain ⟨⟨h1, h2, h3⟩, w1⟩ := want_if w
    cases dInt dy
    obtain ⟨p, vs, rfl, q1, q2⟩ := asLt_ok R dx e1
    refine ⟨p, k, vs, rfl, rfl, q1, by omega, by omega, rep_bound h2 (by rw [q2.length]; exact h3), fun t ht => ?_⟩
    obtain ⟨r, e, g⟩ := dat_newO R (q2.rep k.toNat) ht
    exact w1 _ _ _ r e g
  · exact w.elim
theorem opd_repL : OpD X rRep gRepL := fun Z φ S H x y u v Q E R dx dy w => by
  unfold gRepL at w
  split at w
  · rename_i xs k e1
    obtain ⟨⟨h1, h2, h3⟩, w1⟩ := want_if w
    cases dInt dy
    obtain ⟨p, vs, rfl, q1, q2⟩ := asLt_ok R dx e1
    refine ⟨p, k, vs, rfl, rfl, q1, by omega, by omega, rep_bound h2 (by rw [q2.length]; exact h3), fun t ht => ?_⟩
    obtain ⟨r, e, g⟩ := dat_newL R (q2.rep k.toNat) ht
    exact w1 _ _ _ r e g
  · exact w.elim
theorem de_repO (ha : DE X W a fa) (hb : DE X W b fb) : DE X W (.BinOp a .Mult b pos) (fBin gRepO fa fb) := de_bin op_rep opd_repO ha hb
theorem de_repL (ha : DE X W a fa) (hb : DE X W b fb) : DE X W (.BinOp a .Mult b pos) (fBin gRepL fa fb) := de_bin op_rep opd_repL ha hb
end
/-! ### d[k] op= n -/
section
variable {X : Cx} {W : WX} {k : Nat} {o i e : Expr} {fo fi fe : FE} {pos tpos : Pos}
end
end DL

/-! The data layer, part 45: C.m(self, ..), constants that are tuples of texts. -/
namespace DL
open PySem PySem.Spec PyProof.Rows L2
/-! ### a def of a class, called by the class's name -/
structure CCl (K : PySem.W.Frag) (C : Addr) (m : Str) (f : Addr) : Prop where
  rd : ClX.CRead K C (.type "type")
  cv : ClX.CVal K C (.type "type") m (.ref f) (.ref f)
  kp : PySem.W.keepIn K (.ref f) = true
theorem cclB_ok {K : PySem.W.Frag} {x m : Str} (h : cclB K x m = true) : CCl K (He.ga K x) m (He.fAd K (x, some m)) := by
  obtain ⟨h1, h2⟩ := He.ba h
  obtain ⟨h2, h3⟩ := He.ba h2
  obtain ⟨h3, h4⟩ := He.ba h3
  refine ⟨⟨h1, He.eqO_ok h2⟩, ⟨?_, rfl⟩, h4⟩
  show _ = some (PySem.W.CFound.val (.ref (He.ma K (He.ga K x) m)))
  split at h3
  · rename_i a e
    rw [e, of_decide_eq_true h3]
  · cases h3
section
variable {X : Cx} {W : WX} {k k' np : Nat} {f C : Addr} {fd : FuncData} {ps ks : List Str} {sem cs : Sem'} {x m : Str} {p pos apos : Pos} {e : Expr} {es : List Expr} {kws : List Keyword} {fa fk : FA} {gD : List D → List D → List D}
theorem de_ccall {pl : Sem Bool} (F : FnG X.prog X.w X.K X.mg X.base k f fd ps (spD X.K X.mg ps.length sem)) (hcs : CallOk X.K X.mg ps.length sem cs) (Cc : Cn X W k') (hg : Gl X x) (hm : X.mg x = some (.ref C)) (c : CCl X.K C m f) (hb : KB X.K fd ps np ks gD)
    (ha : DA X W (e :: es) fa) (hkw : DKw X W kws fk) (hle : k ≤ k' := by decide) (hall : (backToKw pos (keywordEach kws X.env)).all (·.1.isSome) = true := by rfl) (hks : (backToKw pos (keywordEach kws X.env)).filterMap (·.1) = ks := by rfl)
    (hdb : (x == ("__debug__" : Str)) = false := by decide) (he : starEach (e :: es) X.env = (false, eval e X.env) :: starEach es X.env := by rfl)
    (hpl : ((backTo pos (starEach (e :: es) X.env)).any (·.1) || (backToKw pos (keywordEach kws X.env)).any (·.1.isNone)) = false := by rfl)
    (ht : eval (.Call (.Attribute (.Name x p) m apos) (e :: es) kws pos) X.env = (do
      let ov ← eval (.Name x p) X.env
      standAt apos.atName
      let (f, first) ← holding [ov] (getMethod ov m pl)
      callWith pos f first (backTo pos (starEach (e :: es) X.env)) (backToKw pos (keywordEach kws X.env))) := by rfl) :
    DE X W (.Call (.Attribute (.Name x p) m apos) (e :: es) kws pos) (fCall cs gD np ks.length ps.length fa fk) := by
  obtain ⟨ta, pa, qa⟩ := ha.ex
  obtain ⟨tk, pk, qk⟩ := hkw.ex
  obtain ⟨g, gV, hB, hN⟩ := hb.ex
  refine .mk (t := fun σ H Q => ta σ H fun vs H1 => tk σ H1 fun zs H2 => vs.length = np ∧ zs.length = ks.length ∧ spD X.K X.mg ps.length sem (gV vs zs) H2 Q (WE W σ)) ⟨fun pins s σ H Q I h => ?_⟩
    (fun Z φ S ρ σ H Q R sl w => args_run qa qk R sl w fun ds es' S2 vs zs φ2 H2 R2 E2 d1 d2 w2 => args_sp hcs hN R2 d1 d2 w2)
  refine PySem.W.methodCall_KW (pl := pl) (ld_glob I hg hm ?_ hdb) ht
  refine PySem.W.method_cls I.kIn c.rd.ga (ClX.getcval_ok I c.rd c.cv fun s1 I1 => ?_)
  refine PySem.W.callWith_KW (first := []) (h₀ := X.base) I.ok.mod.kin c.kp hall (thn (pa.run pos pins s1 σ H _ I1 h) fun us s2 ⟨vs, H1, I2, r, q⟩ => ?_) hpl he
  refine thn (pk.run pos pins s2 σ H1 _ I2 q) fun ws s3 ⟨zs, H2, I3, rz, l1, l2, q2⟩ => ⟨I3.kIn, ?_⟩
  rw [hks]
  exact run_fnG F Cc hle I3 (hB.to s3 us ws I3.kIn (r.length.symm.trans l1) (rz.length.symm.trans l2)) (hB.rel r rz) q2
end
/-! ### a module's tuple of texts -/
theorem strsB_ok : ∀ {us : List Value} {zs : List Str}, strsB us zs = true → Vals (zs.map V.str) us
  | [], [], _ => .nil
  | .str y t :: r, z :: s, h => by
    obtain ⟨h1, h2⟩ := He.ba (show (decide (y = z) && strsB r s) = true from h)
    have e : y = z := of_decide_eq_true h1
    subst e
    exact .cons ⟨t, rfl⟩ (strsB_ok h2)
def TupC (K : PySem.W.Frag) (a : Addr) (zs : List Str) : Prop := ∀ G : Hp, SqT K G a (zs.map V.str)
theorem tupB_ok {K : PySem.W.Frag} {x : Str} {zs : List Str} (h : tupB K x zs = true) : TupC K (He.ga K x) zs := by
  intro G
  unfold tupB at h
  split at h
  · rename_i c od its n sl e
    obtain ⟨h1, h2⟩ := He.ba h
    obtain ⟨h2, h3⟩ := He.ba h2
    have hs : sizeLine = 16777216 := sizeLine_eq
    have h4 : its.size ≤ 1000 := of_decide_eq_true h2
    exact .inr ⟨_, its, n, e, by rw [of_decide_eq_true h1], rfl, by omega, strsB_ok h3⟩
  · cases h
section
variable {X : Cx} {W : WX} {pos : Pos}
theorem datL_strs {K : PySem.W.Frag} {mg : Str → Option Value} {φ : List Addr} {G : Hp} : ∀ zs : List Str, DatL K mg φ G (zs.map D.str) (zs.map V.str)
  | [] => DatL.nil
  | z :: zs => .cons (by unfold Dat; rfl) (datL_strs zs)
theorem de_globT {x : Str} {a : Addr} {zs : List Str} (hg : Gl X x) (hm : X.mg x = some (.ref a)) (ht : TupC X.K a zs) (hd : (x == ("__debug__" : Str)) = false := by decide) : DE X W (.Name x pos) (fC (.tup (zs.map D.str))) :=
  de_c (pe_glob (v := .ref a) hg hm rfl hd) rfl fun φ G => by
    unfold Dat
    exact ⟨a, _, rfl, ht G, datL_strs zs⟩
end
end DL

/-! The data layer, part 46: list.count. -/
namespace DL
open PySem PySem.Spec PyProof.Rows L2
section
variable {X : Cx} {W : WX} {k : Nat} {o e : Expr} {fo fe : FE} {pos apos cpos : Pos}
end
end DL

/-! The data layer, part 47: len({x for x in xs}) of a list of ints. -/
namespace DL
open PySem PySem.Spec PyProof.Rows L2
section
variable {prog : Program} {w : World} {A : Around} {E : Value → Shared → Prop} {env : Env} {s : Shared}
end
end DL

/-! The data layer, part 48: len({x for x in xs}), as a mirror. -/
namespace DL
open PySem PySem.Spec PyProof.Rows L2
section
variable {X : Cx} {W : WX} {k : Nat} {iter : Expr} {ta : TE} {fi : FE} {y : Str} {p pa pe cpos pos : Pos} {scope : Scope}
end
end DL

/-! The data layer, part 49: a head's facts with the statics in sight. -/
namespace DL
open PySem PySem.Spec PyProof.Rows L2
end DL

/-! The data layer, part 50: list.extend with a list. -/
namespace DL
open PySem PySem.Spec PyProof.Rows L2
section
variable {X : Cx} {W : WX} {k : Nat} {o e : Expr} {fo fe : FE} {pos apos cpos : Pos}
/-- xs.extend(ys) -/
def gExt : GM := fun x ds S => match x, ds with
  | .oid n, [.lst ys] => (match S[n]? with
    | some (.lst xs) => if xs.length + ys.length ≤ sizeLine then .ok .non (S.set n (.lst (xs ++ ys))) else .stuck
    | _ => .stuck)
  | _, _ => .stuck
theorem md_ext : MethD X rExtend gExt := fun Z φ S H x u ds vs Q E R dx d w => by
  unfold gExt at w
  split at w
  · obtain ⟨v, rfl, h1⟩ := datL1 d
    split at w
    · rename_i xs hS
      obtain ⟨hl, w1⟩ := want_if w
      obtain ⟨l, us, rfl, h2, h3, fin⟩ := want_lst (Q := Q) (E := E) R dx hS
      obtain ⟨b, zs, rfl, h4, h5⟩ := dLst h1
      exact ⟨l, b, us, zs, rfl, rfl, h2, gnd_some h4, by rw [h3.length, h5.length]; exact hl, fin _ _ (h3.append h5) dat_non w1⟩
    · exact w.elim
  · exact w.elim
theorem de_extend {fa : FA} (ho : DE X W o fo) (ha : DA X W [e] fa) (hbase : attributeBase o "extend" X.env (eval o X.env) = eval o X.env := by rfl)
    (hfew : ((backTo cpos (starEach [e] X.env)).all (fun x => !x.1) && (backToKw cpos (keywordEach [] X.env)).all (fun x => x.1.isSome) && decide ([e].length + ([] : List Keyword).length + (if ([] : List Keyword).isEmpty then 0 else 1) < 30)) = true := by rfl)
    (hline : (apos.endLine == cpos.line) = true := by rfl) (hs : starEach [e] X.env = (false, eval e X.env) :: starEach [] X.env := by rfl) (hplain : (backTo cpos (starEach [] X.env)).any (·.1) = false := by rfl) :
    DE X W (.Call (.Attribute o "extend" apos) [e] [] cpos) (fBM "list" gExt fo fa) := de_bm PySem.F.plainAttrs_list PySem.F.slot_list_extend PySem.F.type_list_extend mt_extend md_ext (.inl rfl) ho ha hbase hfew hline hs hplain
end
end DL

/-! The data layer, part 51: != by an own __eq__. -/
namespace DL
open PySem PySem.Spec PyProof.Rows L2
/-- what != asks of a class that has no __ne__ of its own -/
structure NeC (K : PySem.W.Frag) (C : Addr) : Prop where
  hn : PySem.W.findIn K (.ref C) "__ne__" = some (some (.builtin "object.__ne__"))
  hm : PySem.W.mroIn K C (.type "object") = some true
section
variable {prog : Program} {w : World} {A : Around} {E : Value → Shared → Prop} {s : Shared} {K : PySem.W.Frag} {x y C L f : Addr} {h₀ : Heap} {m : Str → Option Value} {ox oy : Obj} {od od' : Option Obj}
end
section
variable {X : Cx} {W : WX} {k : Nat}
end
end DL

/-! The data layer, part 52: what the module's names reach, told by a number's bits (no list is searched). -/
namespace DL
open PySem PySem.Spec PyProof.Rows L2
end DL

/-! The data layer, part 53: a, b = a list or a tuple. -/
namespace DL
open PySem L2
def mSeqT (n : Nat) (ms : List D → EnvD → Store → Option EnvD) : FG := fun d ρ S => match asQ S d with
  | some ds => if ds.length = n then ms ds ρ S else none
  | none => none
@[simp] theorem e_mSeqT (n : Nat) (ms : List D → EnvD → Store → Option EnvD) (ds : List D) (d : D) (ρ : EnvD) (S : Store) (h : asQ S d = some ds) : mSeqT n ms d ρ S = if ds.length = n then ms ds ρ S else none := by
  unfold mSeqT
  rw [h]
end DL

/-! The data layer, part 54: zip of two tuples, and of a list that may change with a list. -/
namespace DL
open PySem L2
def zipA : List D → Store → Res ItD := fun ds S => match ds with
  | [.lst xs, .lst ys] => .ok ⟨zipD xs ys, none⟩ S
  | [.tup xs, .tup ys] => .ok ⟨zipD xs ys, none⟩ S
  | [.oid n, .lst ys] => (match asL S (.oid n) with
    | some xs => .ok ⟨zipD xs ys, some (.oid n, xs)⟩ S
    | none => .stuck)
  | _ => .stuck
def fZipA (fa : FA) : FI := fun ρ S => (fa ρ S).bind zipA
section
variable {X : Cx} {W : WX} {k : Nat} {pos p : Pos}
@[simp] theorem e_fZipA (fa : FA) (ρ : EnvD) (S : Store) : fZipA fa ρ S = (fa ρ S).bind zipA := rfl
end
end DL

/-! The data layer, part 55: x is True, x is not True; sorted of a tuple of numbers. -/
namespace DL
open PySem PySem.Spec PyProof.Rows L2
/-! ### is a truth -/
section
variable {X : Cx}
def isBl : D → Bool → Bool
  | .bl c, b => c == b
  | _, _ => false
def gIsBl : G2 := fun x y S => match y with
  | .bl b => .ok (.bl (isBl x b)) S
  | _ => .stuck
def gNotBl : G2 := fun x y S => match y with
  | .bl b => .ok (.bl (!isBl x b)) S
  | _ => .stuck
@[simp] theorem e_gIsBl (b c : Bool) (S : Store) : gIsBl (.bl c) (.bl b) S = .ok (.bl (c == b)) S := rfl
@[simp] theorem e_gNotBl (b c : Bool) (S : Store) : gNotBl (.bl c) (.bl b) S = .ok (.bl (!(c == b))) S := rfl
/-! ### sorted of a tuple -/
end
end DL
namespace SrtO
open PySem PyProof.Rows Srt
section
variable {prog : Program} {w : World} {A : Around} {E : Value → Shared → Prop} {s : Shared}
end
end SrtO
namespace DL
open PySem PySem.Spec PyProof.Rows L2
section
variable {X : Cx} {W : WX} {k : Nat} {e : Expr} {pos p : Pos}
end
end DL

/-! The data layer, part 56: xs[::-1] of a list. -/
namespace DL
open PySem PySem.Spec PyProof.Rows L2
section
variable {X : Cx} {W : WX} {k : Nat} {e : Expr} {fe : FE} {pos p p1 p2 p3 : Pos}
def gRevL (x : D) (S : Store) : Res D := match asL S x with
  | some xs => .ok (.lst xs.reverse) S
  | none => .stuck
@[simp] theorem e_gRevL (xs : List D) (S : Store) : gRevL (.lst xs) S = .ok (.lst xs.reverse) S := rfl
end
end DL

/-! The data layer, part 57: tuple * number, nought and one too. -/
namespace L2
open PySem PySem.Spec PyProof.Rows
section
variable {X : Cx}
end
end L2
namespace DL
open PySem PySem.Spec PyProof.Rows L2
section
variable {X : Cx} {W : WX} {a b : Expr} {fa fb : FE} {pos : Pos}
end
end DL

/-! The data layer, part 58: isinstance(x, P) of an instance of a class under P. -/
namespace DL
open PySem PySem.Spec PyProof.Rows L2
structure IsuC (K : PySem.W.Frag) (C P : Addr) : Prop where
  isi : IsiC K C
  one : PySem.W.kitOne K (.ref C) (.ref P) = some true
section
variable {X : Cx} {W : WX} {k : Nat} {e b : Expr} {pos p : Pos}
end
end DL

/-! The data layer, part 59: tables of the top (dicts with text keys that stand in the written part): in, not in, t[k]. -/
namespace DL
open PySem PySem.Spec PyProof.Rows L2
def dVal (K : PySem.W.Frag) : D → V
  | .str x => .str x
  | .int i => .int i
  | .bl b => .bl b
  | .cls c => .ref (He.ga K c)
  | _ => .non
/-- what stands at a: a table -/
structure TabC (K : PySem.W.Frag) (mg : Str → Option Value) (w : World) (a : Addr) (tab : List (Str × D)) : Prop where
  kd : ∃ es n, KDict K w a es n
  at_ : ∀ z d, tab.lookup z = some d → ∃ u, PySem.W.nsIn K a z = some (some u) ∧ RelV (dVal K d) u ∧ ∀ (φ : List Addr) (G : Hp), Dat K mg φ G d (dVal K d)
  out : ∀ z, tab.lookup z = none → PySem.W.nsIn K a z = some none
section
variable {X : Cx} {W : WX} {a b : Expr} {fa fb : FE} {pos : Pos}
theorem TabC.ns {K : PySem.W.Frag} {mg : Str → Option Value} {w : World} {A : Addr} {tab : List (Str × D)} (T : TabC K mg w A tab) (z : Str) : ∃ r, PySem.W.nsIn K A z = some r ∧ r.isSome = (tab.lookup z).isSome := by
  cases h : tab.lookup z with
  | none => exact ⟨none, T.out z h, rfl⟩
  | some d =>
    obtain ⟨u, e, _⟩ := T.at_ z d h
    exact ⟨some u, e, rfl⟩
end
end DL

/-! The data layer, part 60: a head's hook with tables of the top. -/
namespace DL
open PySem PySem.Spec PyProof.Rows L2
end DL

/-! The data layer, part 61: o.f, o.g = a, b. -/
namespace L2
open PySem PySem.Spec PyProof.Rows
section
variable {X : Cx}
def gAtt (K : PySem.W.Frag) (to : TE) (f : Str) : TG := fun v σ H Q => to σ H fun o H1 => ∃ a C dx fs, o = .ref a ∧ H1 a = some (.ins C dx fs) ∧ Cls K C ∧ NoAttr K C f ∧ fs.length < 1000 ∧ Q σ (upd H1 a (.ins C dx (putF f v fs)))
theorem pg_att {o : Expr} {f : Str} {pos : Pos} {to : TE} (ho : PE X o to) : PG X (.Attribute o f pos) (gAtt X.K to f) := by
  refine ⟨fun pins s σ H v u Q I r h => ?_⟩
  rw [assign_Attribute]
  refine wpAny_bind (wpAny_holding (thn (ho.run pins s σ H _ I h) fun ov s1 ⟨x, H1, I1, r1, a, C, dx, fs, ex, ea, c, n, l, q⟩ => ?_))
  subst ex
  obtain rfl : ov = Value.ref a := r1
  refine wpAny_bind (wpAny_standAt (wpAny_bind (wpAny_holding (setattr_ok I1 ea c n l r fun s3 I3 => ?_))))
  exact wpAny_release ⟨σ, _, I3, q⟩
end
end L2
namespace DL
open PySem PySem.Spec PyProof.Rows L2
def stFld (cs : List Str) (f : Str) (o d : D) (S : Store) : Option Store := match o with
  | .oid n => (match S[n]? with
    | some (.ins c fs) => if c ∈ cs ∧ fs.length < 1000 then some (S.set n (.ins c (putFD f d fs))) else none
    | _ => none)
  | _ => none
section
variable {X : Cx} {W : WX} {pos : Pos}
theorem stFld_ok {Z φ : List Addr} {S S' : Store} {H : Hp} {cs : List Str} {fn : Str} {o d : D} {ov v : V} {Q : Hp → Prop} (hc : ∀ c ∈ cs, ∃ C, ClsI X c C ∧ NoAttr X.K C fn) (R : Rel X.K X.mg Z φ S H) (d2 : Dat X.K X.mg φ (gnd Z φ S H) o ov) (dd : Dat X.K X.mg φ (gnd Z φ S H) d v) (e : stFld cs fn o d S = some S')
    (hQ : ∀ H', Rel X.K X.mg Z φ S' H' → Evo Z φ S H φ S' H' → Q H') : ∃ a C dx fs, ov = .ref a ∧ H a = some (.ins C dx fs) ∧ Cls X.K C ∧ NoAttr X.K C fn ∧ fs.length < 1000 ∧ Q (upd H a (.ins C dx (putF fn v fs))) := by
  unfold stFld at e
  split at e
  · rename_i n
    unfold Dat at d2
    obtain ⟨a, rfl, ha⟩ := d2
    split at e
    · rename_i c fs hS
      split at e
      · rename_i hm
        cases e
        obtain ⟨hm, hlt⟩ := hm
        obtain ⟨A, dx, fvs, q0, q1, q2⟩ := R.ob n a _ ha hS
        obtain ⟨C, cl, na⟩ := hc c hm
        rw [cl.mg] at q0
        cases q0
        refine ⟨a, A, dx, fvs, rfl, q1, cl.cls, na, by rw [datF_length q2]; exact hlt, ?_⟩
        obtain ⟨R3, E3⟩ := R.mutate (u := .ins c (putFD fn d fs)) (ho := .ins A dx (putF fn v fvs)) ha hS rfl rfl ⟨A, dx, _, cl.mg, upd_same, datF_put dd q2⟩
        exact hQ _ R3 E3
      · cases e
    · cases e
  · cases e
end
end DL

/-! The data layer, part 62: xs[::2], xs[1::2] of a list. -/
namespace L2
open PySem PySem.Spec PyProof.Rows
section
variable {X : Cx}
end
end L2
namespace DL
open PySem PySem.Spec PyProof.Rows L2
section
variable {X : Cx} {W : WX} {e : Expr} {fe : FE} {pos p1 p3 : Pos}
end
end DL

/-! The data layer, part 63: zip of a list and a text. -/
namespace L2
open PySem PySem.Spec PyProof.Rows
section
variable {prog : Program} {w : World} {A : Around}
end
end L2
namespace DL
open PySem PySem.Spec PyProof.Rows L2
def signsD (x : Str) : List D := x.cps.toList.map fun c => D.str ⟨#[c]⟩
def zipS : List D → Store → Res ItD := fun ds S => match ds with
  | [d, .str x] => (match asL S d with
    | some xs => .ok ⟨zipD xs (signsD x), some (d, xs)⟩ S
    | none => .stuck)
  | _ => .stuck
def fZipS (fa : FA) : FI := fun ρ S => (fa ρ S).bind zipS
section
variable {X : Cx} {W : WX} {k : Nat} {pos p : Pos}
@[simp] theorem e_fZipS (fa : FA) (ρ : EnvD) (S : Store) : fZipS fa ρ S = (fa ρ S).bind zipS := rfl
end
end DL

/-! The data layer, part 64: t.get(k) of tables of the top; a call of a name that holds one of several defs; xs[i] op= e; o.f op= e. -/
namespace DL
open PySem PySem.Spec PyProof.Rows L2
section
variable {X : Cx} {W : WX} {k k' : Nat} {o e f : Expr} {fo fe ff : FE} {apos cpos pos : Pos}
/-! ### a name that holds one of several defs -/
inductive DspT (X : Cx) (sel : List (Nat × Nat)) (np k' : Nat) : List (Str × Sem') → Prop
  | nil : DspT X sel np k' []
  | cons {c : Str} {sem : Sem'} {l : List (Str × Sem')} {k : Nat} {f : Addr} {fd : FuncData} {ps : List Str} (F : FnG X.prog X.w X.K X.mg X.base k f fd ps (spD X.K X.mg ps.length sem)) (hm : X.mg c = some (.ref f)) (hk : PySem.W.keepIn X.K (.ref f) = true)
      (hb : KB X.K fd ps np [] (fun ds es => pick sel ds es [])) (r : DspT X sel np k' l) (hle : k ≤ k' := by decide) (hl : ps.length = np := by rfl) : DspT X sel np k' ((c, sem) :: l)
theorem DspT.get {sel : List (Nat × Nat)} {np : Nat} {l : List (Str × Sem')} {c : Str} {sem : Sem'} {f : Addr} (h : DspT X sel np k' l) (e : l.lookup c = some sem) (hm : X.mg c = some (.ref f)) :
    ∃ (k : Nat) (fd : FuncData) (ps : List Str), FnG X.prog X.w X.K X.mg X.base k f fd ps (spD X.K X.mg ps.length sem) ∧ k ≤ k' ∧ PySem.W.keepIn X.K (.ref f) = true ∧ ps.length = np ∧ KB X.K fd ps np [] (fun ds es => pick sel ds es []) := by
  induction h with
  | nil => cases e
  | @cons c' sem' l k f' fd ps F hm' hk hb r hle hl ih =>
    rw [List.lookup_cons] at e
    by_cases q : (c == c') = true
    · rw [q] at e
      cases e
      obtain rfl : c = c' := beq_iff_eq.mp q
      rw [hm] at hm'
      cases hm'
      exact ⟨k, fd, ps, F, hle, hk, hl, hb⟩
    · have q : (c == c') = false := by simpa using q
      rw [q] at e
      exact ih e
/-! ### xs[i] op= e, o.f op= e -/
end
end DL

/-! The data layer, part 65: a, *b = t, of a tuple. -/
namespace PySem
open PySem.Spec PySem.Calls PyProof.Rows PySem.W L2
section
variable {prog : Program} {w : World} {A : Around} {E : Value → Shared → Prop} {s : Shared}
end
end PySem
namespace DL
open PySem L2
section
variable {X : Cx} {W : WX} {k : Nat} {e : Expr} {fe : FE} {pos : Pos}
end
end DL

/-! The data layer, part 66: a head's hook with tables of the top, where defs make lambdas. -/
namespace DL
open PySem PySem.Spec PyProof.Rows L2
end DL

/-! The data layer, part 67: {None: .., "x": ..}.get(e, f): a display of constants asked at once. -/
namespace DL
open PySem PySem.Spec PyProof.Rows L2
def lfV : Leaf → V
  | .none => .non
  | .num i => .int i
  | .text x => .str x
def mergeL (kvs more : List (Leaf × V)) : List (Leaf × V) := more.foldl (fun acc kv => putK acc kv.1 kv.2) kvs
theorem KV.mergeL : ∀ {more : List (Leaf × V)} {rs : List (Leaf × Value)} {kvs : List (Leaf × V)} {vs : List (Leaf × Value)}, KV more rs → KV kvs vs → KV (DL.mergeL kvs more) (merged vs rs) := by
  intro more rs kvs vs r
  unfold KV at r
  induction r generalizing kvs vs with
  | nil => intro q; exact q
  | @cons p q ps qs h t ih =>
    intro r0
    have e : KV (putK kvs p.1 p.2) (stored vs q.1 q.2) := by
      have := r0.put p.1 h.2
      rw [← h.1]; exact this
    exact ih e
section
variable {X : Cx} {W : WX} {pos apos cpos : Pos} {keys : List (Option Expr)} {values : List Expr} {kvs : List (Leaf × V)} {e f : Expr} {fe ff : FE} {k : Nat}
/-! ### constants -/
def cnV : D → Option V
  | .int i => some (.int i)
  | .str x => some (.str x)
  | _ => none
def lookL (tab : List (Leaf × D)) (j : Leaf) : Option D := (tab.find? fun q => decide (q.1 = j)).map (·.2)
/-- the values of a table of constants -/
inductive CnT : List (Leaf × D) → List (Leaf × V) → Prop
  | nil : CnT [] []
  | cons {j : Leaf} {d : D} {v : V} {r : List (Leaf × D)} {s : List (Leaf × V)} (h : cnV d = some v) (t : CnT r s) : CnT ((j, d) :: r) ((j, v) :: s)
theorem CnT.look {tab : List (Leaf × D)} {l : List (Leaf × V)} (h : CnT tab l) (j : Leaf) : (lookL tab j = none ∧ valV l j = none) ∨ ∃ d v, lookL tab j = some d ∧ valV l j = some v ∧ cnV d = some v := by
  induction h with
  | nil => exact .inl ⟨rfl, rfl⟩
  | @cons i d v r s h t ih =>
    by_cases e : i = j
    · exact .inr ⟨d, v, by simp [lookL, List.find?_cons, e], by simp [valV, List.find?_cons, e], h⟩
    · rcases ih with ⟨a, b⟩ | ⟨d', v', a, b, c⟩
      · exact .inl ⟨by simpa [lookL, List.find?_cons, e] using a, by simpa [valV, List.find?_cons, e] using b⟩
      · exact .inr ⟨d', v', by simpa [lookL, List.find?_cons, e] using a, by simpa [valV, List.find?_cons, e] using b, c⟩
/-- the display's text: keys and values as the table has them -/
structure CDs (X : Cx) (pos : Pos) (keys : List (Option Expr)) (values : List Expr) (tab : List (Leaf × D)) : Prop where
  ex : ∃ kvs : List (Leaf × V), CnT tab kvs ∧ PPs X pos keys values (kvs.map fun kv => (tC (lfV kv.1), tC kv.2))
end
end DL

/-! The data layer, part 68: d["x"] += n. -/
namespace DL
open PySem PySem.Spec PyProof.Rows L2
end DL

/-! The data layer, part 69: within an except suite: iterators' ends, all(..). -/
namespace DL
open PySem PySem.Spec PyProof.Rows L2
/-! ### an iterator's end while an exception is handled -/
section
variable {prog : Program} {w : World} {A : Around} {E : Value → Shared → Prop} {s : Shared}
end
/-! ### where an exception is handled -/
/-- the handled exception's object p stands in every state, out of the reach of what is tracked -/
structure HotK (X : Cx) (p : Addr × Obj) : Prop where
  hot : L2H.Hot1 X.A p
  pin : ∀ {pins : List (Addr × Obj)} {σ : L2.St} {H : Hp} {s : Shared}, L2.Inv X pins σ H s → L2H.PinOk X.stack H s p
section
variable {X : Cx} {p : Addr × Obj} {pins : List (Addr × Obj)} {σ : L2.St} {H : Hp} {s : Shared}
theorem HotK.at (h : HotK X p) (J : L2.Inv X pins σ H s) : HotX.HotAt X.A p.1 s.heap := by
  obtain ⟨a, vs, b, c⟩ := h.hot
  exact ⟨a, p.2, vs, (h.pin J).get, b, c⟩
theorem HotK.of_pin (h : L2H.Hot1 X.A p) (hp : p ∈ X.pn) : HotK X p := ⟨h, fun J => by
  obtain ⟨a, b, c, d, e⟩ := J.pin p (List.mem_append_left _ hp)
  exact ⟨a, b, fun z => (List.mem_cons.mp (J.stkSub p.1 z)).elim c d, e⟩⟩
theorem HotK.blk (h : HotK X p) (J : L2.Inv X pins σ H s) {scope : Scope} {ce : Env} {fp : List Addr} (hf : p.1 ∉ fp) : HotK (X.blk s H scope ce fp) p := by
  have P := h.pin J
  refine ⟨h.hot, fun {pins' σ' H' s'} K => ⟨?_, ?_, P.nofs, P.nocell⟩⟩
  · exact K.base.keep p.1 p.2 P.get P.free P.nofs hf
  · exact K.base.free p.1 p.2 P.get P.free hf
end
end DL

/-! The data layer, part 70: loops and list comprehensions within an except suite. -/
namespace DL
open PySem PySem.Spec PyProof.Rows L2
/-- an iterator's turns while an exception is handled -/
structure TurnQ (P : Program) (w : World) (K : PySem.W.Frag) (tg : Expr) (J : It) (fp : List Addr) (it : Addr) (tn : Nat → Heap → Prop) : Prop where
  obj : ∀ i h, tn i h → ∀ b ∈ fp, ∃ o, h.get? b = some o ∧ ∀ v, o.data ≠ .cell v
  keep : ∀ i h h', tn i h → (∀ b ∈ fp, ∀ o, h.get? b = some o → h'.get? b = some o) → tn i h'
  item : ∀ (X : Cx), X.prog = P → X.w = w → X.K = K → ∀ (i : Nat) (pins : List (Addr × Obj)) (s : Shared) (σ : L2.St) (H : Hp) (E : Value → Shared → Prop), L2.Inv X pins σ H s → (∀ b ∈ fp, FpOk X pins H b) → tn i s.heap → J.go i H →
    wpAny (model P w) X.A (pyNext (.ref it)) (fun r t => ∃ u, r = some u ∧
      wpAny (model P w) X.A (letOwnedTupleGo tg (.ref it) u) (fun _ t' => ∃ x H', L2.Inv X pins σ H' t' ∧ RelV x u ∧ J.yld i H x H' ∧ tn (i + 1) t'.heap ∧ ∀ b ∈ fp, H' b = none) E t) E s
  done : ∀ (X : Cx), X.prog = P → X.w = w → X.K = K → ∀ (x1 : Addr), x1 ∉ fp → ∀ (i : Nat) (pins : List (Addr × Obj)) (s : Shared) (σ : L2.St) (H : Hp) (E : Value → Shared → Prop), HotX.HotAt X.A x1 s.heap → L2.Inv X pins σ H s → (∀ b ∈ fp, FpOk X pins H b) → tn i s.heap → J.stop i H →
    wpAny (model P w) X.A (pyNext (.ref it)) (fun r t => r = none ∧ L2.Inv X pins σ H t) E s
  self : ∀ (A : Around) (i : Nat) (s : Shared) (Q : Value → Shared → Prop) (E : Value → Shared → Prop), tn i s.heap → Q (.ref it) s → wpAny (model P w) A (pyIter (.ref it)) Q E s
section
variable {P : Program} {w : World} {K : PySem.W.Frag} {tg : Expr}
end
/-- an iterator has come, apart from p -/
def PIEQ (X : Cx) (pins : List (Addr × Obj)) (σ : L2.St) (tg : Expr) (p : Addr × Obj) (R : It → Hp → Prop) (itv : Value) (t : Shared) : Prop :=
  ∃ (it : Addr) (fp : List Addr) (tn : Nat → Heap → Prop) (J : It) (H' : Hp), itv = .ref it ∧ L2.Inv X pins σ H' t ∧ TurnQ X.prog X.w X.K tg J fp it tn ∧ tn 0 t.heap ∧ (∀ b ∈ fp, FpOk X pins H' b) ∧ p.1 ∉ fp ∧ R J H'
structure PIQ (X : Cx) (p : Addr × Obj) (tg iter : Expr) (wi : TI) : Prop where
  run : ∀ (pins : List (Addr × Obj)) (s : Shared) (σ : L2.St) (H : Hp) (R : It → Hp → Prop), L2.Inv X pins σ H s → wi σ H R →
    wpAny (model X.prog X.w) X.A (eval iter X.env) (fun v t => wpAny (model X.prog X.w) X.A (pyIter v) (PIEQ X pins σ tg p R) X.xe t) X.xe s
section
variable {X : Cx} {p : Addr × Obj} {tg : Expr}
theorem PIQ.weak {iter : Expr} {t t' : TI} (h : PIQ X p tg iter t) (i : ∀ σ H R, t' σ H R → t σ H R) : PIQ X p tg iter t' := ⟨fun pins s σ H R I q => h.run pins s σ H R I (i _ _ _ q)⟩
theorem PIQ.or {iter : Expr} {t t' : TI} (h : PIQ X p tg iter t) (h' : PIQ X p tg iter t') : PIQ X p tg iter (fun σ H R => t σ H R ∨ t' σ H R) := ⟨fun pins s σ H R I q => q.elim (h.run pins s σ H R I) (h'.run pins s σ H R I)⟩
end
end DL

/-! The data layer, part 71: within an except suite: the rules that ask what is under way around the code; calls; try with such suites. -/
namespace DL
open PySem PySem.Spec PyProof.Rows L2
/-- what is known of a context in which an exception is handled -/
structure CnQ (X : Cx) (W : WX) (k : Nat) : Prop where
  room : L2H.RoomH k X.A
  gd : X.A.guards = some []
  hot : ∃ p, HotK X p
  nd : X.N.Nodup
  po : PassesOwn (model X.prog X.w) X.A X.env X.xe
  tk : L2N.Takes X W
/-- a def's promise where an exception is handled -/
structure FnGQ (P : Program) (w : World) (K : PySem.W.Frag) (mg : Str → Option Value) (base : Heap) (k : Nat) (f : Addr) (fd : FuncData) (ps : List Str) (sp : Sp) : Prop where
  len : ∀ vs H Q E, sp vs H Q E → vs.length = ps.length
  run : ∀ (A : Around) (outer : List Env) (s : Shared) (H : Hp) (args : Args) (us : List Value) (vs : List V) (Q : VK) (E : XK) (p : Addr × Obj), L2H.RoomH k A → A.guards = some [] → L2H.Hot1 A p → L2H.PinOk outer H s p → Env0 P w K mg base A outer s H →
    BindsTo s fd args (ps.zip us) → Vals vs us → sp vs H Q E → codeAny (model P w) A (.call (.ref f) args) (CR (L2N.CX P w) outer P w H s Q E) s
section
variable {X : Cx} {W : WX} {k k' n np : Nat} {f C : Addr} {fd : FuncData} {ps ks : List Str} {sp : Sp} {sem cs : Sem'} {x m : Str} {p pos apos : Pos} {e o : Expr} {es : List Expr} {kws : List Keyword} {fa fk : FA} {fo fe : FE} {g : FS} {gD : List D → List D → List D}
/-! ### what is walked -/
end
end DL

/-! The data layer, part 72: within an except suite: loops; try whose suites hold calls. -/
namespace DL
open PySem PySem.Spec PyProof.Rows L2
section
variable {X : Cx} {W : WX} {k : Nat} {g : FS} {pos : Pos}
end
/-! ### clauses without names, whose suites know the handled exception -/
structure HdQ where
  c : Value
  ts : TS
def wHdsQ (K : PySem.W.Frag) (Wo : WX) (Dd : Ends) : List HdQ → WX
  | [] => Wo
  | q :: r => fun cls d σ H => ∃ b, PySem.W.exmOne K cls q.c = some b ∧ (b = true → q.ts Dd σ H) ∧ (b = false → wHdsQ K Wo Dd r cls d σ H)
inductive HdsQ (X : Cx) : List ExceptHandler → List HdQ → Prop
  | nil : HdsQ X [] []
  | plain {x : Str} {c : Value} {ts : TS} {b0 : Stmt} {bs : List Stmt} {np hp : Pos} {hds : List ExceptHandler} {l : List HdQ} (hc : Names X x c)
      (hs : ∀ (a : Addr) (ob : Obj) (pn : List (Addr × Obj)), L2H.Hot1 (X.suite a ((a, ob) :: pn)).A (a, ob) → PSs (X.suite a ((a, ob) :: pn)) (b0 :: bs) ts) (r : HdsQ X hds l) : HdsQ X (.ExceptHandler (some (.Name x np)) none (b0 :: bs) hp :: hds) (⟨c, ts⟩ :: l)
section
variable {X : Cx} {body : List Stmt} {h0 : ExceptHandler} {hds : List ExceptHandler} {l : List HdQ} {pos : Pos} {tb : WX → TS} {Wo : WX}
end
section
variable {X : Cx} {W : WX} {k : Nat} {pos : Pos}
/-- such clauses and their mirrors -/
inductive HdsDQ (X : Cx) (k : Nat) : List ExceptHandler → List HM → List HdQ → Prop
  | nil : HdsDQ X k [] [] []
  | plain {x : Str} {c : Value} {t : List (Str × Bool)} {g : FS} {b0 : Stmt} {bs : List Stmt} {np hp : Pos} {hds : List ExceptHandler} {ms : List HM} {l : List HdQ} (hc : Names X x c) (ht : ∀ C b A, t.lookup C = some b → X.mg C = some (.ref A) → PySem.W.exmOne X.K (.ref A) c = some b)
      (hs : ∀ (a : Addr) (pn : List (Addr × Obj)), CnQ (X.suite a pn) W0 k → DSs (X.suite a pn) W0 (b0 :: bs) g) (r : HdsDQ X k hds ms l) : HdsDQ X k (.ExceptHandler (some (.Name x np)) none (b0 :: bs) hp :: hds) (⟨t, none, g⟩ :: ms) (⟨c, tDS X W0 g⟩ :: l)
theorem Cn.hot (C : Cn X W k) {a : Addr} {ob : Obj} {pn : List (Addr × Obj)} (h : L2H.Hot1 (X.suite a ((a, ob) :: pn)).A (a, ob)) : CnQ (X.suite a ((a, ob) :: pn)) W0 k :=
  ⟨⟨C.room.dp, C.room.un⟩, C.gd, ⟨_, HotK.of_pin h List.mem_cons_self⟩, C.nd, PassesOwn.never, takes0N⟩
theorem HdsDQ.toT (C : Cn X W k) : ∀ {hds : List ExceptHandler} {ms : List HM} {l : List HdQ}, HdsDQ X k hds ms l → HdsQ X hds l
  | _, _, _, .nil => .nil
  | _, _, _, .plain hc _ hs r => .plain hc (fun a ob pn h => hs a ((a, ob) :: pn) (C.hot h)) (r.toT C)
theorem HdsDQ.want {Dd : Ends} {Z φ : List Addr} {S : Store} {H : Hp} {ρ : EnvD} {σ : L2.St} {Cl : Str} {fs : List (Str × D)} {A : Addr} {dx : Option Addr} (hA : X.mg Cl = some (.ref A)) (R : Rel X.K X.mg Z φ S H) (sl : Slots X.K X.mg φ (gnd Z φ S H) ρ σ) (xd : ExD X.K X.mg φ (gnd Z φ S H) fs dx) :
    ∀ {hds : List ExceptHandler} {ms : List HM} {l : List HdQ}, HdsDQ X k hds ms l → WantS X W Z φ S H (hdM ms Cl fs ρ S) Dd → wHdsQ X.K W Dd l (.ref A) dx σ H
  | _, _, _, .nil, w => w A dx σ φ H hA R Evo.refl sl xd
  | _, _, _, .plain (c := c) (t := t) (g := g) hc ht hs r, w => by
    unfold hdM at w
    cases e : t.lookup Cl with
    | none => simp only [e] at w; exact w.elim
    | some b =>
      simp only [e] at w
      refine ⟨b, ht Cl b A e hA, fun hb => ?_, fun hb => ?_⟩
      · subst hb
        refine ⟨Z, φ, S, ρ, R, sl, ?_⟩
        have w1 : WantS X W Z φ S H (g ρ S).calm Dd := w
        revert w1
        cases g ρ S <;> intro w1
        · exact w1
        · exact w1
        · exact w1
        · exact w1
        · exact w1.elim
        · exact w1
      · subst hb
        exact r.want hA R sl xd w
end
end DL

/-! The data layer, part 73: a sum of lists that is changed later. -/
namespace DL
open PySem PySem.Spec PyProof.Rows L2
section
variable {X : Cx} {W : WX} {a b : Expr} {fa fb : FE} {pos : Pos}
end
end DL

/-! The data layer, part 74: list.clear. -/
namespace DL
open PySem PySem.Spec PyProof.Rows L2
section
variable {X : Cx} {W : WX} {o : Expr} {fo : FE} {pos apos cpos : Pos}
end
end DL

/-! The data layer, part 75: a loop over the zip of two lists that are objects. -/
namespace DL
open PySem PySem.Spec PyProof.Rows L2
section
variable {X : Cx} {W : WX} {k : Nat} {g : FS} {pos p : Pos}
end
end DL

/-! The data layer, part 76: dicts whose keys are tuples of whole numbers and truths. -/
namespace DL
open PySem PySem.Spec PyProof.Rows L2
section
variable {X : Cx} {W : WX} {k0 : Nat} {pins : List (Addr × Obj)} {σ : L2.St} {H : Hp} {s : Shared}
/-! ### the layer -/
variable {φ : List Addr} {G : Hp} {Z : List Addr} {S : Store}
end
end DL

/-! The data layer, part 77: list(range(a, b)). -/
namespace DL
open PySem PySem.Spec PyProof.Rows L2
section
variable {X : Cx} {W : WX} {k : Nat} {a b : Expr} {fa fb : FE} {p p2 pos cpos : Pos}
end
end DL

/-! The data layer, part 78: own exceptions whose own __init__ keeps its arguments; e.f of a caught one. -/
namespace DL
open PySem PySem.Spec PyProof.Rows L2
/-! ### the class -/
/-- C keeps its arguments as fs; B, over it, has no __init__ of its own -/
structure XiC (K : PySem.W.Frag) (C B fI : Addr) (fs : List Str) : Prop where
  oc : OexC K C
  rd : ClX.CRead K B (.type "type")
  iv : PySem.W.findCls K (.ref B) (.type "type") "__init__" = some (.val (.builtin "ValueError.__init__"))
  no : ∀ f ∈ fs, PySem.W.findIn K (.ref C) f = some none
  ini : PySem.W.findIn K (.ref C) "__init__" = some (some (.ref fI))
  tI : PySem.W.typeIn K (.ref fI) = some (.type "function")
  xf : XfC K C
/-! ### its __init__ -/
section
variable {X : Cx} {e : Expr} {es : List Expr} {ta : TA} {x : Str} {B : Addr} {p p1 p2 pos : Pos}
end
/-! ### raise C(e, ..) -/
section
variable {X : Cx} {W : WX} {k k' : Nat} {C B fI : Addr} {fs ps : List Str} {fd : FuncData} {x : Str} {e : Expr} {es : List Expr} {fa : FA} {p pos pos' : Pos}
end
/-! ### e.f of a caught one -/
section
variable {X : Cx} {W : WX} {o : Expr} {fo : FE} {f : Str} {pos : Pos} {cs : List Str}
end
end DL

/-! The data layer, part 79: deep `not in`. -/
namespace DL
open PySem PySem.Spec PyProof.Rows L2
section
variable {X : Cx}
end
end DL

/-! The data layer, part 80: dict.update with a dict. -/
namespace DL
open PySem PySem.Spec PyProof.Rows L2
section
variable {X : Cx} {W : WX} {o e : Expr} {fo : FE} {pos apos cpos : Pos}
def rUpd : V → List V → Hp → VK → Prop := fun x vs H Q => ∃ (a b : Addr) (kvs more : List (Key × V)), x = .ref a ∧ vs = [.ref b] ∧ a ≠ b ∧ H a = some (.dK kvs) ∧ H b = some (.dK more) ∧ kvs.length + more.length ≤ sizeLine ∧ Q .non (upd H a (.dK (mergeK kvs more)))
theorem mt_upd : MtM X "dict.update" rUpd := by
  intro pins s σ H x xs v us Q I rx rv h
  obtain ⟨a, b, kvs, more, rfl, rfl, ne, e1, e2, hz, q⟩ := h
  cases rx
  obtain ⟨u, rfl, ru⟩ := Vals.one rv
  cases ru
  obtain ⟨z, hd, vs, rel, dd⟩ := dk_of I.hok e1
  obtain ⟨z2, hd2, ws, rel2, dd2⟩ := dk_of I.hok e2
  refine call_meetsIn PySem.F.slot_dict_update dd.typeIs PySem.F.entry_dict_update (PySem.F.args_dict_update_2 _ _) (meets_dict_update (mixKind X.prog X.w) a b ne hd2) ⟨vs, ws, dd, dd2, by rw [← rel.length, ← rel2.length]; exact hz, fun h' dd' _ hs => ?_⟩
  have he : ∃ q, h'.get? a = some q := let ⟨q, _, _, hq, _⟩ := dd'; ⟨q, hq⟩
  have rm : KV (mergeK kvs more) (merged vs ws) := KV.merge rel2 rel
  have hl : (mergeK kvs more).length ≤ sizeLine := by
    rw [rm.length]
    have := merged_length_le vs ws
    rw [← rel.length, ← rel2.length] at this
    omega
  exact ⟨.non, _, d_write (t' := s.toks) I (by rw [e1]; exact True.intro) hs he (dk_new hl hd rm dd'), rfl, q⟩
/-- d.update(e) -/
def gUpd : GM := fun x ds S => match x, ds with
  | .oid n, [.oid m] => (match S[n]?, S[m]? with
    | some (.dic ks), some (.dic ms) => if n ≠ m ∧ ks.length + ms.length ≤ sizeLine then .ok .non (S.set n (.dic (mergeD ks ms))) else .stuck
    | _, _ => .stuck)
  | _, _ => .stuck
theorem md_upd : MethD X rUpd gUpd := fun Z φ S H x u ds vs Q E R dx d w => by
  unfold gUpd at w
  split at w
  · rename_i n m
    obtain ⟨v, rfl, h1⟩ := datL1 d
    split at w
    · rename_i ks ms hS hM
      obtain ⟨⟨ne, hl⟩, w1⟩ := want_if w
      unfold Dat at dx h1
      obtain ⟨a, rfl, ha⟩ := dx
      obtain ⟨b, rfl, hb⟩ := h1
      obtain ⟨kvs, k1, k2⟩ := R.ob n a _ ha hS
      obtain ⟨mvs, m1, m2⟩ := R.ob m b _ hb hM
      have hab : a ≠ b := fun z => by
        subst z
        have la := (List.getElem?_eq_some_iff.mp ha).1
        exact ne ((List.getElem?_inj la R.nd).mp (ha.trans hb.symm))
      obtain ⟨R3, E3⟩ := R.mutate (u := .dic (mergeD ks ms)) (ho := .dK (mergeK kvs mvs)) ha hS rfl rfl ⟨_, upd_same, datK_merge m2 k2⟩
      refine ⟨a, b, kvs, mvs, rfl, rfl, hab, k1, m1, by rw [datK_length k2, datK_length m2]; exact hl, ?_⟩
      exact w1 _ φ _ R3 E3 dat_non
    · exact w.elim
  · exact w.elim
theorem de_update {fa : FA} (ho : DE X W o fo) (ha : DA X W [e] fa) (hbase : attributeBase o "update" X.env (eval o X.env) = eval o X.env := by rfl)
    (hfew : ((backTo cpos (starEach [e] X.env)).all (fun x => !x.1) && (backToKw cpos (keywordEach [] X.env)).all (fun x => x.1.isSome) && decide ([e].length + ([] : List Keyword).length + (if ([] : List Keyword).isEmpty then 0 else 1) < 30)) = true := by rfl)
    (hline : (apos.endLine == cpos.line) = true := by rfl) (hs : starEach [e] X.env = (false, eval e X.env) :: starEach [] X.env := by rfl) (hplain : (backTo cpos (starEach [] X.env)).any (·.1) = false := by rfl) :
    DE X W (.Call (.Attribute o "update" apos) [e] [] cpos) (fBM "dict" gUpd fo fa) := de_bm PySem.F.plainAttrs_dict PySem.F.slot_dict_update PySem.F.type_dict_update mt_upd md_upd (.inr (.inl rfl)) ho ha hbase hfew hline hs hplain
end
end DL

/-! The data layer, part 81: isinstance of own exceptions that have fields. -/
namespace DL
open PySem PySem.Spec PyProof.Rows L2
section
variable {X : Cx} {W : WX} {k : Nat} {e b : Expr} {pos p : Pos}
end
end DL

/-! The data layer, part 82: a head's run told in two parts (half of the defs' facts each): less memory a theorem. -/
namespace DL
open PySem PySem.Spec PyProof.Rows L2
end DL

/-! The data layer, part 83: list.insert. -/
namespace DL
open PySem PySem.Spec PyProof.Rows L2
section
variable {X : Cx} {W : WX} {o e : Expr} {es : List Expr} {fo : FE} {fa : FA} {pos apos cpos : Pos}
end
end DL

/-! The data layer, part 84: an instance made by keywords alone. -/
namespace DL
open PySem PySem.Spec PyProof.Rows L2
section
variable {X : Cx} {W : WX} {k k' : Nat} {ks ps : List Str} {kws : List Keyword} {fk : FA} {gD : List D → List D → List D} {sem : Sem'} {fd : FuncData} {f C : Addr} {pos p : Pos}
theorem de_make0 {c : Str} {mk : MakeT} (M : Mk X.K C f) (F : FnG X.prog X.w X.K X.mg X.base k f fd ps (spD X.K X.mg ps.length sem)) (hmk : MakeOk X c ps.length sem gD mk) (Cc : Cn X W k') (hg : Gl X c) (hm : X.mg c = some (.ref C)) (hb : KB X.K fd ps (0 + 1) ks gD)
    (hkw : DKw X W kws fk) (hle : k + 1 ≤ k' := by decide) (hall : (backToKw pos (keywordEach kws X.env)).all (·.1.isSome) = true := by rfl) (hks : (backToKw pos (keywordEach kws X.env)).filterMap (·.1) = ks := by rfl)
    (hdb : (c == ("__debug__" : Str)) = false := by decide)
    (hpl : ((backTo pos (starEach [] X.env)).any (·.1) || (backToKw pos (keywordEach kws X.env)).any (·.1.isNone)) = false := by rfl) :
    DE X W (.Call (.Name c p) [] kws pos) (fMake mk 0 ks.length (fun _ S => .ok [] S) fk) := by
  obtain ⟨tk, pk, qk⟩ := hkw.ex
  obtain ⟨g, gV, hB, hN⟩ := hb.ex
  refine .mk (t := fun σ H Q => tk σ H fun zs H2 => zs.length = ks.length ∧ ∀ x dx, H2 x = none → H2 dx = none → dx ≠ x → spD X.K X.mg ps.length sem (gV (.ref x :: []) zs) (upd (upd H2 dx (.own x)) x (.ins C dx [])) (fun v H2 => v = .non ∧ Q (.ref x) H2) (WE W σ)) ⟨fun pins s σ H Q I h => ?_⟩
    (fun Z φ S ρ σ H Q R sl w => ?_)
  · refine wpAny_Call_Name_kw (ld_glob I hg hm ?_ hdb)
    refine PySem.W.callWith_KW0 (first := []) (h₀ := X.base) I.ok.mod.kin M.kp hall ?_ hpl
    refine thn (pk.run pos pins s σ H _ I h) fun ws s2 ⟨zs, H2, I2, rz, l2, q2⟩ => ⟨I2.kIn, ?_⟩
    rw [hks]
    exact run_makeG (vs := []) M F Cc hle hB I2 .nil rz rfl l2 q2
  · have w : Want X.K X.mg (RDat X.K X.mg) Z φ S H ((fk ρ S).bind fun es S => if ([] : List D).length = 0 ∧ es.length = ks.length then mk [] es S else .stuck) Q (WE W σ) := w
    refine qk Z φ S ρ σ H _ R sl (w.bind fun es S2 zs φ2 H2 R2 E2 d2 w2 => ?_)
    obtain ⟨⟨l1, l2⟩, w3⟩ := want_if w2
    exact ⟨by rw [d2.length, l2], fun x dx hx hd hne => hmk C gV Z φ2 S2 H2 [] es [] zs Q _ hm hN R2 DatL.nil d2 w3 x dx hx hd hne⟩
end
end DL

/-! The data layer, part 85: dict(d), sorted(d) of texts, d.pop(k). -/
namespace DL
open PySem PySem.Spec PyProof.Rows L2
section
variable {X : Cx} {W : WX} {k : Nat} {e o : Expr} {fo fe : FE} {p pos apos cpos : Pos}
/-! ### dict(d) -/
/-! ### sorted(d), d's keys texts -/
theorem datK_fst {K : PySem.W.Frag} {mg : Str → Option Value} {φ : List Addr} {G : Hp} : ∀ {ks : List (Key × D)} {kvs : List (Key × V)}, DatK K mg φ G ks kvs → kvs.map (·.1) = ks.map (·.1)
  | [], _, h => by
    unfold DatK at h
    subst h
    rfl
  | (k, d) :: ks, _, h => by
    unfold DatK at h
    obtain ⟨v, r, rfl, _, h2⟩ := h
    rw [List.map_cons, List.map_cons, datK_fst h2]
/-! ### d.pop(k) -/
end
end DL

/-! The data layer, part 86: o.f = p.g = e; o.f, p.g, q.h = a, b, c. -/
namespace DL
open PySem PySem.Spec PyProof.Rows L2
section
variable {X : Cx} {W : WX} {pos : Pos}
/-- o.f = p.g = value -/
def gFldC (cs : List Str) (f g : Str) (fo fp fe : FE) : FS := fun ρ S => (fe ρ S).into ρ fun d S => (fo ρ S).into ρ fun o1 S => match stFld cs f o1 d S with
    | some S => (fp ρ S).into ρ fun o2 S => (match stFld cs g o2 d S with
      | some S => .nx ρ S
      | none => .stuck)
    | none => .stuck
theorem ds_fldC {o p : Expr} {f g : Str} {cs : List Str} {value : Expr} {fo fp fe : FE} {p1 p2 : Pos} (ho : DE X W o fo) (hp : DE X W p fp) (hv : DE X W value fe)
    (hc : ∀ c ∈ cs, ∃ C, ClsI X c C ∧ NoAttr X.K C f) (hc2 : ∀ c ∈ cs, ∃ C, ClsI X c C ∧ NoAttr X.K C g)
    (ha : (assignEach [.Attribute o f p1, .Attribute p g p2] X.env).map (·.2) = [assign (.Attribute o f p1) X.env, assign (.Attribute p g p2) X.env] := by rfl) (hw : swappedStores [.Attribute o f p1, .Attribute p g p2] value X.env = pure none := by rfl) :
    DS X W (.Assign [.Attribute o f p1, .Attribute p g p2] value pos) (gFldC cs f g fo fp fe) := by
  obtain ⟨to, po, qo⟩ := ho.ex
  obtain ⟨tp, pp, qp⟩ := hp.ex
  obtain ⟨tv, pv, qv⟩ := hv.ex
  refine .mk (ps_asg2 pv (pg_att po) (pg_att pp) ha hw) fun Z φ S ρ σ H Dd R sl w => qv Z φ S ρ σ H _ R sl (w.into sl fun d S1 v φ1 H1 R1 E1 dd w1 => ?_)
  refine qo Z φ1 S1 ρ σ H1 _ R1 (sl.evo E1) (w1.into (sl.evo E1) fun o1 S2 ov φ2 H2 R2 E2 d2' w2 => ?_)
  cases q1 : stFld cs f o1 d S2 with
  | none => rw [q1] at w2; exact w2.elim
  | some S3 =>
    rw [q1] at w2
    simp only at w2
    refine stFld_ok (Q := fun H3 => gAtt X.K tp g v σ H3 Dd.nx) hc R2 d2' (Dat.evo E2 dd) q1 fun H3 R3 E3 => ?_
    refine qp Z φ2 S3 ρ σ H3 _ R3 (((sl.evo E1).evo E2).evo E3) ((w2.go E3).into (((sl.evo E1).evo E2).evo E3) fun o2 S4 ov2 φ3 H4 R4 E4 d3' w3 => ?_)
    cases q2 : stFld cs g o2 d S4 with
    | none => rw [q2] at w3; exact w3.elim
    | some S5 =>
      rw [q2] at w3
      simp only at w3
      exact stFld_ok (Q := fun H5 => Dd.nx σ H5) hc2 R4 d3' (Dat.evo E4 (Dat.evo E3 (Dat.evo E2 dd))) q2 fun H5 R5 E5 => w3 σ φ3 H5 R5 E5 (((((sl.evo E1).evo E2).evo E3).evo E4).evo E5)
end
end DL

/-! The data layer, part 87: {k: v for k, v in d.items() if k != x}. -/
namespace L2
open PySem PySem.Spec PyProof.Rows
section
variable {X : Cx}
/-- a dict, locked behind its evaluation -/
def tLk (X : Cx) (td : TE) : TE := fun σ H Q => td σ H fun x H1 => ∃ d kvs, x = .ref d ∧ H1 d = some (.dK kvs) ∧ ((kvs.map (·.1)).Nodup → kvs.length ≤ sizeLine → ∀ o, (∀ o' u', X.H_0 d ≠ some (.frz o' u')) → Q x (upd H1 d (.frz o (.dK kvs))))
theorem pe_lockV {e : Expr} {td : TE} (he : PE X e td) : PE X e (tLk X td) := by
  refine ⟨fun pins s σ H Q I h => thn (he.run pins s σ H _ I h) fun v s1 ⟨x, H1, I1, rx, d, kvs, ex, hd, q⟩ => ?_⟩
  obtain ⟨o, I2⟩ := I1.lock hd trivial
  obtain ⟨z, _, vs, rel, dd⟩ := dk_rd I1.hok (.inl hd)
  obtain ⟨_, _, _, _, _, _, _, _, hn⟩ := id dd
  exact ⟨x, _, I2, rx, q (by rw [rel.keys]; exact hn) z o (I1.nofrz hd trivial)⟩
theorem wipe_set {σ : St} {i : Nat} {x : Option V} : ∀ {vs : List Nat}, i ∈ vs → wipe (σ.set i x) vs = wipe σ vs
  | [], h => by cases h
  | v :: vs, h => by
    unfold wipe
    by_cases hv : i ∈ vs
    · rw [wipe_set hv]
    · have e : i = v := (List.mem_cons.mp h).resolve_right hv
      subst e
      have gen : ∀ vs : List Nat, i ∉ vs → wipe (σ.set i x) vs = (wipe σ vs).set i x := by
        intro vs
        induction vs with
        | nil => intro _; rfl
        | cons u us ih =>
          intro h
          unfold wipe
          rw [ih fun z => h (List.mem_cons_of_mem _ z), List.set_comm _ _ (fun z => h (by rw [z]; exact List.mem_cons_self))]
      rw [gen vs hv, List.set_set]
theorem wipe_wipe (σ : St) : ∀ vs : List Nat, wipe (wipe σ vs) vs = wipe σ vs := fun vs => by
  apply List.ext_getElem?
  intro i
  by_cases h : i ∈ vs
  · have key : ∀ τ : St, ∀ us : List Nat, i ∈ us → τ.length = σ.length → (wipe τ us)[i]? = if i < σ.length then some none else none := by
      intro τ us
      induction us with
      | nil => intro h; cases h
      | cons u us ih =>
        intro h hl
        unfold wipe
        by_cases hu : u = i
        · subst hu
          rw [List.getElem?_set]
          simp only [wipe_length, hl, if_true]
        · rw [List.getElem?_set_ne hu]
          exact ih ((List.mem_cons.mp h).resolve_left fun z => hu z.symm) hl
    rw [key _ vs h (wipe_length σ vs), key σ vs h rfl]
  · rw [wipe_out h]
end
end L2
namespace DL
open PySem PySem.Spec PyProof.Rows L2
section
variable {X : Cx} {W : WX} {k : Nat}
end
end DL

/-! The data layer, part 88: texts compared; sorted(d) as an object; a keyword's default that is the empty tuple. -/
namespace DL
open PySem PySem.Spec PyProof.Rows L2
section
variable {X : Cx} {W : WX} {k : Nat} {e : Expr} {p pos : Pos}
end
/-! ### a keyword's default that is the empty tuple -/
/-! ### bool(x) -/
section
variable {X : Cx} {W : WX} {k : Nat} {e : Expr} {p pos : Pos}
end
end DL

/-! The data layer, part 89: len(x) by an own __len__, x an object of the store. -/
namespace DL
open PySem PySem.Spec PyProof.Rows L2
section
variable {X : Cx} {W : WX} {k n : Nat} {e : Expr} {pos p : Pos} {C f : Addr} {fd : FuncData} {ps : List Str} {sem : Sem'}
end
end DL

/-! The data layer, part 90: calls, the lengths as numbers of their own. -/
namespace DL
open PySem PySem.Spec PyProof.Rows L2
section
variable {X : Cx} {W : WX} {k k' np : Nat} {f C : Addr} {fd : FuncData} {ps ks : List Str} {sem cs : Sem'} {x m : Str} {p pos apos : Pos} {o e : Expr} {es : List Expr} {kws : List Keyword} {fo : FE} {fa fk : FA} {gD : List D → List D → List D}
theorem de_callL {nk nn : Nat} (F : FnG X.prog X.w X.K X.mg X.base k f fd ps (spD X.K X.mg ps.length sem)) (hcs : CallOk X.K X.mg ps.length sem cs) (C : Cn X W k') (hg : Gl X x) (hm : X.mg x = some (.ref f)) (hk : PySem.W.keepIn X.K (.ref f) = true) (hb : KB X.K fd ps np ks gD)
    (ha : DA X W (e :: es) fa) (hkw : DKw X W kws fk) (hle : k ≤ k' := by decide) (hall : (backToKw pos (keywordEach kws X.env)).all (·.1.isSome) = true := by rfl) (hks : (backToKw pos (keywordEach kws X.env)).filterMap (·.1) = ks := by rfl)
    (hdb : (x == ("__debug__" : Str)) = false := by decide) (he : starEach (e :: es) X.env = (false, eval e X.env) :: starEach es X.env := by rfl)
    (hpl : ((backTo pos (starEach (e :: es) X.env)).any (·.1) || (backToKw pos (keywordEach kws X.env)).any (·.1.isNone)) = false := by rfl) (hnk : ks.length = nk := by rfl) (hnn : ps.length = nn := by rfl) :
    DE X W (.Call (.Name x p) (e :: es) kws pos) (fCall cs gD np nk nn fa fk) := by
  subst hnk
  subst hnn
  exact de_call F hcs C hg hm hk hb ha hkw hle hall hks hdb he hpl
theorem de_methL {nk nn : Nat} {pl : Sem Bool} {c : Str} (ho : DE X W o fo) (cl : ClsI X c C) (hm : Meth X.K C m f) (F : FnG X.prog X.w X.K X.mg X.base k f fd ps (spD X.K X.mg ps.length sem)) (hcs : CallOk X.K X.mg ps.length sem cs) (Cc : Cn X W k') (hb : KB X.K fd ps np ks gD)
    (ha : DA X W (e :: es) fa) (hkw : DKw X W kws fk) (hle : k ≤ k' := by decide) (hall : (backToKw pos (keywordEach kws X.env)).all (·.1.isSome) = true := by rfl) (hks : (backToKw pos (keywordEach kws X.env)).filterMap (·.1) = ks := by rfl)
    (he : starEach (e :: es) X.env = (false, eval e X.env) :: starEach es X.env := by rfl) (hpl : ((backTo pos (starEach (e :: es) X.env)).any (·.1) || (backToKw pos (keywordEach kws X.env)).any (·.1.isNone)) = false := by rfl)
    (ht : eval (.Call (.Attribute o m apos) (e :: es) kws pos) X.env = (do
      let ov ← eval o X.env
      standAt apos.atName
      let (f, first) ← holding [ov] (getMethod ov m pl)
      callWith pos f first (backTo pos (starEach (e :: es) X.env)) (backToKw pos (keywordEach kws X.env))) := by rfl) (hnk : ks.length = nk := by rfl) (hnn : ps.length = nn := by rfl) :
    DE X W (.Call (.Attribute o m apos) (e :: es) kws pos) (fMeth cs gD c m np nk nn fo fa fk) := by
  subst hnk
  subst hnn
  exact de_meth ho cl hm F hcs Cc hb ha hkw hle hall hks he hpl ht
theorem de_meth0L {nk nn : Nat} {pl : Sem Bool} {c : Str} (ho : DE X W o fo) (cl : ClsI X c C) (hm : Meth X.K C m f) (F : FnG X.prog X.w X.K X.mg X.base k f fd ps (spD X.K X.mg ps.length sem)) (hcs : CallOk X.K X.mg ps.length sem cs) (Cc : Cn X W k') (hb : KB X.K fd ps 1 ks gD)
    (hkw : DKw X W kws fk) (hle : k ≤ k' := by decide) (hall : (backToKw pos (keywordEach kws X.env)).all (·.1.isSome) = true := by rfl) (hks : (backToKw pos (keywordEach kws X.env)).filterMap (·.1) = ks := by rfl)
    (hpl : ((backTo pos (starEach [] X.env)).any (·.1) || (backToKw pos (keywordEach kws X.env)).any (·.1.isNone)) = false := by rfl)
    (ht : eval (.Call (.Attribute o m apos) [] kws pos) X.env = (do
      let ov ← eval o X.env
      standAt apos.atName
      let (f, first) ← holding [ov] (getMethod ov m pl)
      callWith pos f first (backTo pos (starEach [] X.env)) (backToKw pos (keywordEach kws X.env))) := by rfl) (hnk : ks.length = nk := by rfl) (hnn : ps.length = nn := by rfl) :
    DE X W (.Call (.Attribute o m apos) [] kws pos) (fMeth cs gD c m 1 nk nn fo (fun _ S => .ok [] S) fk) := by
  subst hnk
  subst hnn
  exact de_meth0 ho cl hm F hcs Cc hb hkw hle hall hks hpl ht
theorem de_ccallL {nk nn : Nat} {pl : Sem Bool} (F : FnG X.prog X.w X.K X.mg X.base k f fd ps (spD X.K X.mg ps.length sem)) (hcs : CallOk X.K X.mg ps.length sem cs) (Cc : Cn X W k') (hg : Gl X x) (hm : X.mg x = some (.ref C)) (c : CCl X.K C m f) (hb : KB X.K fd ps np ks gD)
    (ha : DA X W (e :: es) fa) (hkw : DKw X W kws fk) (hle : k ≤ k' := by decide) (hall : (backToKw pos (keywordEach kws X.env)).all (·.1.isSome) = true := by rfl) (hks : (backToKw pos (keywordEach kws X.env)).filterMap (·.1) = ks := by rfl)
    (hdb : (x == ("__debug__" : Str)) = false := by decide) (he : starEach (e :: es) X.env = (false, eval e X.env) :: starEach es X.env := by rfl)
    (hpl : ((backTo pos (starEach (e :: es) X.env)).any (·.1) || (backToKw pos (keywordEach kws X.env)).any (·.1.isNone)) = false := by rfl)
    (ht : eval (.Call (.Attribute (.Name x p) m apos) (e :: es) kws pos) X.env = (do
      let ov ← eval (.Name x p) X.env
      standAt apos.atName
      let (f, first) ← holding [ov] (getMethod ov m pl)
      callWith pos f first (backTo pos (starEach (e :: es) X.env)) (backToKw pos (keywordEach kws X.env))) := by rfl) (hnk : ks.length = nk := by rfl) (hnn : ps.length = nn := by rfl) :
    DE X W (.Call (.Attribute (.Name x p) m apos) (e :: es) kws pos) (fCall cs gD np nk nn fa fk) := by
  subst hnk
  subst hnn
  exact de_ccall F hcs Cc hg hm c hb ha hkw hle hall hks hdb he hpl ht
theorem de_makeL {nk : Nat} {c : Str} {mk : MakeT} (M : Mk X.K C f) (F : FnG X.prog X.w X.K X.mg X.base k f fd ps (spD X.K X.mg ps.length sem)) (hmk : MakeOk X c ps.length sem gD mk) (Cc : Cn X W k') (hg : Gl X c) (hm : X.mg c = some (.ref C)) (hb : KB X.K fd ps (np + 1) ks gD)
    (ha : DA X W (e :: es) fa) (hkw : DKw X W kws fk) (hle : k + 1 ≤ k' := by decide) (hall : (backToKw pos (keywordEach kws X.env)).all (·.1.isSome) = true := by rfl) (hks : (backToKw pos (keywordEach kws X.env)).filterMap (·.1) = ks := by rfl)
    (hdb : (c == ("__debug__" : Str)) = false := by decide) (he : starEach (e :: es) X.env = (false, eval e X.env) :: starEach es X.env := by rfl)
    (hpl : ((backTo pos (starEach (e :: es) X.env)).any (·.1) || (backToKw pos (keywordEach kws X.env)).any (·.1.isNone)) = false := by rfl) (hnk : ks.length = nk := by rfl) :
    DE X W (.Call (.Name c p) (e :: es) kws pos) (fMake mk np nk fa fk) := by
  subst hnk
  exact de_make M F hmk Cc hg hm hb ha hkw hle hall hks hdb he hpl
theorem de_make0L {nk : Nat} {c : Str} {mk : MakeT} (M : Mk X.K C f) (F : FnG X.prog X.w X.K X.mg X.base k f fd ps (spD X.K X.mg ps.length sem)) (hmk : MakeOk X c ps.length sem gD mk) (Cc : Cn X W k') (hg : Gl X c) (hm : X.mg c = some (.ref C)) (hb : KB X.K fd ps (0 + 1) ks gD)
    (hkw : DKw X W kws fk) (hle : k + 1 ≤ k' := by decide) (hall : (backToKw pos (keywordEach kws X.env)).all (·.1.isSome) = true := by rfl) (hks : (backToKw pos (keywordEach kws X.env)).filterMap (·.1) = ks := by rfl)
    (hdb : (c == ("__debug__" : Str)) = false := by decide)
    (hpl : ((backTo pos (starEach [] X.env)).any (·.1) || (backToKw pos (keywordEach kws X.env)).any (·.1.isNone)) = false := by rfl) (hnk : ks.length = nk := by rfl) :
    DE X W (.Call (.Name c p) [] kws pos) (fMake mk 0 nk (fun _ S => .ok [] S) fk) := by
  subst hnk
  exact de_make0 M F hmk Cc hg hm hb hkw hle hall hks hdb hpl
end
end DL

/-! The data layer, part 91: sorted(a list of texts). -/
namespace DL
open PySem PySem.Spec PyProof.Rows L2
section
variable {X : Cx} {W : WX} {k : Nat} {e : Expr} {pos p : Pos}
end
end DL

/-! The data layer, part 92: [e for x in d.values() if t], d an object of the store; test and element read x alone. -/
namespace DL
open PySem PySem.Spec PyProof.Rows L2
section
variable {X : Cx} {W : WX} {k : Nat}
end
end DL

/-! The data layer, part 93: for k in f(..), where f gives a dict, all objects are handed to it. -/
namespace DL
open PySem PySem.Spec PyProof.Rows L2
theorem Rel.junk {K : PySem.W.Frag} {mg : Str → Option Value} {Z φ : List Addr} {S : Store} {H : Hp} (R : Rel K mg Z φ S H) {n : Nat} {a : Addr} {o : SO} (h1 : φ[n]? = some a) (h2 : S[n]? = some o) (l1 : o.live = true) (u : HO) :
    Rel K mg Z φ (S.set n (.frz (.oid n))) (upd H a u) ∧ Evo Z φ S H φ (S.set n (.frz (.oid n))) (upd H a u) ∧ gnd Z φ (S.set n (.frz (.oid n))) (upd H a u) a = some u := by
  have la : a ∈ liveA φ S := mem_liveA h1 h2 l1
  have some_of : ∀ b, H b ≠ none → upd H a u b ≠ none := fun b h => by
    by_cases hb : b = a
    · subst hb
      rw [upd_same]
      exact fun z => nomatch z
    · rw [upd_ne hb]
      exact h
  have ext : Same (gnd Z φ S H) (gnd Z φ (S.set n (.frz (.oid n))) (upd H a u)) := fun b o h => by
    obtain ⟨q1, q2⟩ := without_some.mp h
    have hb : b ≠ a := fun z => q1 (by rw [z]; exact List.mem_append_right _ la)
    refine without_some.mpr ⟨fun q => q1 ?_, by rw [upd_ne hb]; exact q2⟩
    rcases List.mem_append.mp q with z | z
    · exact List.mem_append_left _ z
    · exact List.mem_append_right _ (liveA_set_sub rfl z)
  refine ⟨⟨by rw [List.length_set, R.len], R.nd, R.zd, fun b h => some_of b (R.zh b h), fun b h => some_of b (R.ph b h), fun m b w q1 q2 => ?_⟩, ⟨List.prefix_refl _, ext, fun b w h hn => ?_, fun b h _ => liveA_set_sub rfl h⟩,
    without_some.mpr ⟨fun q => (List.mem_append.mp q).elim (R.zd a (List.mem_of_getElem? h1)) (live_set_not R.nd h1 rfl), upd_same⟩⟩
  · by_cases hm : m = n
    · subst hm
      rw [h1] at q1
      cases q1
      have hl := (List.getElem?_eq_some_iff.mp q2).1
      rw [List.getElem?_set_self (by rw [List.length_set] at hl; exact hl)] at q2
      cases q2
      exact ⟨a, rfl, h1⟩
    · rw [List.getElem?_set_ne (fun z => hm z.symm)] at q2
      refine (R.ob m b w q1 q2).mono (List.prefix_refl _) ext fun ob hb => ?_
      rw [upd_ne]
      · exact hb
      · intro z
        subst z
        exact hm (nd_ix R.nd q1 h1)
  · rw [upd_ne]
    · exact h
    · intro z
      subst z
      exact hn la
section
variable {X : Cx} {W : WX} {k k' np : Nat} {f : Addr} {fd : FuncData} {ps ks : List Str} {sem : Sem'} {x : Str} {p pos : Pos} {e : Expr} {es : List Expr} {kws : List Keyword} {fa fk : FA} {gD : List D → List D → List D} {tg : Expr}
end
end DL

/-! The data layer, part 94: str(x) by an own __str__. -/
namespace DL
open PySem PySem.Spec PyProof.Rows L2
section
variable {X : Cx} {W : WX} {k n : Nat} {e : Expr} {pos p : Pos} {C f : Addr} {fd : FuncData} {ps : List Str} {sem : Sem'}
end
end DL

/-! The data layer, part 95: x[i], y[j] = a, b. -/
namespace DL
open PySem PySem.Spec PyProof.Rows L2
section
variable {X : Cx} {W : WX} {k : Nat} {pos : Pos}
end
end DL

/-! The data layer, part 96: dict displays of more than 17 entries: what the machine does. -/
namespace DL96
open PySem PySem.Spec PyProof.Rows L2
section
variable {prog : Program} {w : World} {K : Type} [DecidableEq K] {knd : KeyKind prog w K} {A : Around} {E : Value → Shared → Prop} {s : Shared}
end
end DL96

/-! The data layer, part 96: dict displays of more than 17 entries: the two runs. -/
namespace DL96
open PySem PySem.Spec PyProof.Rows L2
end DL96

/-! The data layer, part 96: dict displays of more than 17 entries, in the heap of kinds. -/
namespace L2
open PySem PySem.Spec PyProof.Rows
def tPutAll (a : Addr) : List (TE × TE) → St → Hp → (Hp → Prop) → Prop
  | [], _, H, Q => Q H
  | (tk, tv) :: r, σ, H, Q => tk σ H fun x H1 => tv σ H1 fun y H2 => ∃ (kvs : List (Key × V)) (k : Key), x = kV k ∧ H2 a = some (.dK kvs) ∧ kvs.length < sizeLine ∧ tPutAll a r σ (upd H2 a (.dK (putK kvs k y))) Q
section
variable {X : Cx} {pos : Pos}
abbrev putBody (d : Addr) : Sem Value × Sem Value → PUnit → Sem (ForInStep PUnit) := fun x _ => match x with
  | (k, v) => (do
    let kv ← k
    let vv ← holding [kv] v
    holding [kv, vv] (dictSet d kv vv)
    pure (ForInStep.yield PUnit.unit))
structure PLs (X : Cx) (pos : Pos) (keys : List (Option Expr)) (values : List Expr) (trs : List (TE × TE)) : Prop where
  run : ∀ (pins : List (Addr × Obj)) (s : Shared) (σ : St) (H : Hp) (Q : Hp → Prop) (d : Addr), Inv X pins σ H s → tPutAll d trs σ H Q →
    wpAny (model X.prog X.w) X.A (forIn (pairTrees keys values X.env pos) PUnit.unit (putBody d)) (fun _ s' => ∃ H', Inv X pins σ H' s' ∧ Q H') X.xe s
end
end L2

/-! The data layer, part 96: dict displays of 18 to 32 entries, as objects (the second run's own dict stays in the store). -/
namespace DL
open PySem PySem.Spec PyProof.Rows L2
section
variable {X : Cx} {W : WX} {pos : Pos}
end
end DL

/-! The data layer, part 97: for k, v in f(..).items(), where f gives a dict, all objects are handed to it. -/
namespace DL
open PySem PySem.Spec PyProof.Rows L2
theorem datK_two {K : PySem.W.Frag} {mg : Str → Option Value} {φ : List Addr} {G : Hp} : ∀ {ks : List (Key × D)} {kvs : List (Key × V)} {i : Nat} {q : Key × D} {k : Key} {v : V}, DatK K mg φ G ks kvs → ks[i]? = some q → kvs[i]? = some (k, v) → k = q.1 ∧ Dat K mg φ G q.2 v
  | [], _, i, _, _, _, _, h, _ => by simp at h
  | (k, d) :: ks, _, 0, _, _, _, h, h1, h2 => by
    unfold DatK at h
    obtain ⟨v, r, rfl, a, _⟩ := h
    cases h1
    cases h2
    exact ⟨rfl, a⟩
  | (k, d) :: ks, _, i + 1, _, _, _, h, h1, h2 => by
    unfold DatK at h
    obtain ⟨v, r, rfl, _, a⟩ := h
    exact datK_two (i := i) a h1 h2
section
variable {X : Cx} {W : WX} {k k' np : Nat} {f : Addr} {fd : FuncData} {ps ks : List Str} {sem : Sem'} {x : Str} {p pos : Pos} {e : Expr} {es : List Expr} {kws : List Keyword} {fa fk : FA} {gD : List D → List D → List D} {tg : Expr}
end
end DL

/-! The data layer, part 98: xs == [], whatever stands in the list. -/
namespace L2
open PySem PySem.Spec PyProof.Rows
end L2
namespace DL
open PySem PySem.Spec PyProof.Rows L2
section
variable {X : Cx}
end
end DL

/-! The data layer, part 99: str(x), x a number or a text. -/
namespace DL
open PySem PySem.Spec PyProof.Rows L2
section
variable {X : Cx} {W : WX} {e : Expr} {p pos : Pos}
end
end DL

/-! The data layer, part 100: zip of a list with a tuple. -/
namespace L2
open PySem PySem.Spec PyProof.Rows
section
variable {prog : Program} {w : World} {A : Around}
end
end L2
namespace DL
open PySem PySem.Spec PyProof.Rows L2
def zipLT : List D → Store → Res ItD := fun ds S => match ds with
  | [.lst xs, .tup ys] => .ok ⟨zipD xs ys, none⟩ S
  | _ => .stuck
def fZipLT (fa : FA) : FI := fun ρ S => (fa ρ S).bind zipLT
section
variable {X : Cx} {W : WX} {k : Nat} {pos p : Pos}
@[simp] theorem e_fZipLT (fa : FA) (ρ : EnvD) (S : Store) : fZipLT fa ρ S = (fa ρ S).bind zipLT := rfl
end
end DL

/-! The data layer, part 101: enumerate of a list or a tuple. -/
namespace L2
open PySem PySem.Spec PyProof.Rows
section
variable {prog : Program} {w : World} {A : Around} {E : Value → Shared → Prop} {s : Shared}
end
end L2
namespace DL
open PySem PySem.Spec PyProof.Rows L2
def enumQ : List D → Store → Res ItD := fun ds S => match ds with
  | [.lst ds] => .ok ⟨enumD 0 ds, none⟩ S
  | [.tup ds] => .ok ⟨enumD 0 ds, none⟩ S
  | [d] => match asL S d with
    | some ds => .ok ⟨enumD 0 ds, some (d, ds)⟩ S
    | none => .stuck
  | _ => .stuck
def fEnumQ (fa : FA) : FI := fun ρ S => (fa ρ S).bind enumQ
section
variable {X : Cx} {W : WX} {k : Nat} {pos p : Pos}
@[simp] theorem e_fEnumQ (fa : FA) (ρ : EnvD) (S : Store) : fEnumQ fa ρ S = (fa ρ S).bind enumQ := rfl
end
end DL

/-! The data layer, part 102: zip of a text with a tuple. -/
namespace L2
open PySem PySem.Spec PyProof.Rows
end L2
namespace DL
open PySem PySem.Spec PyProof.Rows L2
def zipST : List D → Store → Res ItD := fun ds S => match ds with
  | [.str x, .tup ys] => .ok ⟨zipD (signsD x) ys, none⟩ S
  | _ => .stuck
def fZipST (fa : FA) : FI := fun ρ S => (fa ρ S).bind zipST
section
variable {X : Cx} {W : WX} {k : Nat} {pos p : Pos}
@[simp] theorem e_fZipST (fa : FA) (ρ : EnvD) (S : Store) : fZipST fa ρ S = (fa ρ S).bind zipST := rfl
end
end DL

/-! The data layer, part 103: for k in f(), a new dict, f called without arguments. -/
namespace DL
open PySem PySem.Spec PyProof.Rows L2
section
variable {X : Cx} {W : WX} {k k' : Nat} {f : Addr} {fd : FuncData} {ps ks : List Str} {sem : Sem'} {gD : List D → List D → List D} {x : Str} {kws : List Keyword} {fk : FA} {pos p : Pos} {tg : Expr}
end
end DL

/-! The data layer, part 104: d[k] //= a great divisor. -/
namespace DL
open PySem PySem.Spec PyProof.Rows L2
section
variable {X : Cx}
end
end DL

/-! The data layer, part 105: bits: shifts by small numbers, masks, or. -/
namespace DL
open PySem PySem.Spec PyProof.Rows L2
section
variable {X : Cx} {W : WX} {a b : Expr} {fa fb : FE} {pos : Pos}
/-- i >> j -/
def gShr : G2 := gI (fun _ j => decide (0 ≤ j)) fun i j => .int (i / 2 ^ j.toNat)
theorem de_shr (ha : DE X W a fa) (hb : DE X W b fb) : DE X W (.BinOp a .RShift b pos) (fBin gShr fa fb) := de_bin op_shr (opd_I (fun i j h => of_decide_eq_true h) fun _ _ _ _ => dat_int _) ha hb
/-- i << j -/
noncomputable def cShl (i j : Int) : Bool := @decide (0 ≤ j ∧ j ≤ 1000 ∧ i.natAbs < 2 ^ 200) (Classical.propDecidable _)
noncomputable def gShl : G2 := gI cShl fun i j => .int (i * 2 ^ j.toNat)
theorem cshl_ok {i j : Int} (h : cShl i j = true) : CShl i j := by
  have h2 := @of_decide_eq_true _ (Classical.propDecidable _) h
  obtain ⟨h1, h3, h4⟩ := h2
  have := shl_ok (i := i) (j := j.toNat) (n := 200) h4 (by omega)
  rw [Int.toNat_of_nonneg h1] at this
  exact this
theorem de_shl (ha : DE X W a fa) (hb : DE X W b fb) : DE X W (.BinOp a .LShift b pos) (fBin gShl fa fb) := de_bin op_shlW (opd_I (fun i j h => cshl_ok h) fun _ _ _ _ => dat_int _) ha hb
/-- i & 1, i & 3, i & 7 -/
def gAndM : G2 := gI (fun _ j => decide (j = 1 ∨ j = 3 ∨ j = 7)) fun i j => .int (i % (j + 1))
theorem opd_andM : OpD X (fun x y H Q => ∃ (i : Int) (k : Nat), x = .int i ∧ y = .int (2 ^ k - 1) ∧ Q (.int (i % 2 ^ k)) H) gAndM := fun Z φ S H x y u v Q E R dx dy w => by
  obtain ⟨i, j, rfl, rfl, q, w⟩ := gI_inv w
  unfold Dat at dx dy
  have q := of_decide_eq_true q
  have w := w.now R (dat_int _)
  rcases q with rfl | rfl | rfl
  · exact ⟨i, 1, dx, by rw [dy]; rfl, w⟩
  · exact ⟨i, 2, dx, by rw [dy]; rfl, w⟩
  · exact ⟨i, 3, dx, by rw [dy]; rfl, w⟩
theorem de_andM (ha : DE X W a fa) (hb : DE X W b fb) : DE X W (.BinOp a .BitAnd b pos) (fBin gAndM fa fb) := de_bin op_andM opd_andM ha hb
end
end DL

/-! The data layer, part 106: comprehensions with two fors. -/
namespace DL
open PySem PySem.Spec PyProof.Rows L2
open Classical in
noncomputable def comp2F (c : Option (D × List D)) (m : FG) (ft : FT) (fi1 : FI) (m1 : FG) (ft1 : FT) (fe : FE) (own1 : List Nat) : List D → EnvD → Store → Res (List D)
  | [], _, S => if okC c S then .ok [] S else .stuck
  | d :: ds, ρ, S => if okC c S then (match m d ρ S with
    | some ρ1 => (ft ρ1 S).noEx.bind fun b S => if b then (fi1 ρ1 S).noEx.bind fun it S => (compF it.chk m1 ft1 fe it.items (wipeD ρ1 own1) S).bind fun xs S => (comp2F c m ft fi1 m1 ft1 fe own1 ds ρ S).bind fun ys S => .ok (xs ++ ys) S else comp2F c m ft fi1 m1 ft1 fe own1 ds ρ S
    | none => .stuck) else .stuck
noncomputable def fComp2 (fi : FI) (m : FG) (ft : FT) (fi1 : FI) (m1 : FG) (ft1 : FT) (fe : FE) (own own1 : List Nat) (fin : Fin') : FE := fun ρ S => (fi ρ S).bind fun it S => (comp2F it.chk m ft fi1 m1 ft1 fe own1 it.items (wipeD ρ own) S).bind fin
theorem comp_noex {c : Option (D × List D)} {m : FG} {ft : FT} {fe : FE} : ∀ (ds : List D) (ρ : EnvD) (S : Store) C fs S', compF c m ft fe ds ρ S ≠ .ex C fs S' := by
  intro ds
  induction ds with
  | nil =>
    intro ρ S C fs S' z
    unfold compF at z
    split at z <;> cases z
  | cons d ds ih =>
    intro ρ S C fs S' z
    unfold compF at z
    split at z
    · split at z
      · rename_i ρ1 _
        cases h1 : ft ρ1 S with
        | ok b S2 =>
          rw [h1] at z
          simp only [Res.noEx_ok, Res.bind_ok] at z
          cases b with
          | false => exact ih _ _ _ _ _ z
          | true =>
            simp only [if_true] at z
            cases h2 : fe ρ1 S2 with
            | ok y S3 =>
              rw [h2] at z
              simp only [Res.noEx_ok, Res.bind_ok] at z
              cases h3 : compF c m ft fe ds ρ S3 with
              | ex _ _ _ => exact ih _ _ _ _ _ h3
              | _ => rw [h3] at z; cases z
            | _ => rw [h2] at z; cases z
        | _ => rw [h1] at z; cases z
      · cases z
    · cases z
theorem comp2_noex {c : Option (D × List D)} {m : FG} {ft : FT} {fi1 : FI} {m1 : FG} {ft1 : FT} {fe : FE} {own1 : List Nat} : ∀ (ds : List D) (ρ : EnvD) (S : Store) C fs S', comp2F c m ft fi1 m1 ft1 fe own1 ds ρ S ≠ .ex C fs S' := by
  intro ds
  induction ds with
  | nil =>
    intro ρ S C fs S' z
    unfold comp2F at z
    split at z <;> cases z
  | cons d ds ih =>
    intro ρ S C fs S' z
    unfold comp2F at z
    split at z
    · split at z
      · rename_i ρ1 _
        cases h1 : ft ρ1 S with
        | ok b S2 =>
          rw [h1] at z
          simp only [Res.noEx_ok, Res.bind_ok] at z
          cases b with
          | false => exact ih _ _ _ _ _ z
          | true =>
            simp only [if_true] at z
            cases h2 : fi1 ρ1 S2 with
            | ok y S3 =>
              rw [h2] at z
              simp only [Res.noEx_ok, Res.bind_ok] at z
              cases h4 : compF y.chk m1 ft1 fe y.items (wipeD ρ1 own1) S3 with
              | ok xs S4 =>
                rw [h4] at z
                simp only [Res.bind_ok] at z
                cases h3 : comp2F c m ft fi1 m1 ft1 fe own1 ds ρ S4 with
                | ex _ _ _ => exact ih _ _ _ _ _ h3
                | _ => rw [h3] at z; cases z
              | ex _ _ _ => exact comp_noex _ _ _ _ _ _ h4
              | _ => rw [h4] at z; cases z
            | _ => rw [h2] at z; cases z
        | _ => rw [h1] at z; cases z
      · cases z
    · cases z
theorem wipe_wipe (σ : L2.St) (own : List Nat) : wipe (wipe σ own) own = wipe σ own := by
  have ww : ∀ vs : List Nat, (∀ i ∈ vs, i ∈ own) → wipe (wipe σ own) vs = wipe σ own := by
    intro vs
    induction vs with
    | nil => intro _; rfl
    | cons v vs ih =>
      intro hv
      show (wipe (wipe σ own) vs).set v none = wipe σ own
      rw [ih fun i hi => hv i (List.mem_cons_of_mem _ hi)]
      have hv' := hv v List.mem_cons_self
      have gen : ∀ own : List Nat, v ∈ own → (wipe σ own).set v none = wipe σ own := by
        intro own
        induction own with
        | nil => intro h; simp at h
        | cons u us ih2 =>
          intro h
          unfold wipe
          by_cases hu : v = u
          · subst hu
            rw [List.set_set]
          · rw [List.set_comm _ _ (fun z => hu z.symm), ih2 ((List.mem_cons.mp h).resolve_left hu)]
      exact gen own hv'
  exact ww own fun _ h => h
section
variable {X : Cx} {W : WX} {k : Nat}
theorem WantI.noEx {Z φ : List Addr} {S : Store} {H : Hp} {r : Res ItD} {Q : It → Hp → Prop} {E : XK} (hn : r.noEx ≠ .stuck)
    (f : ∀ it S1 J φ1 H1, r = .ok it S1 → Rel X.K X.mg Z φ1 S1 H1 → Evo Z φ S H φ1 S1 H1 → RI X.K X.mg Z φ1 S1 H1 it J → Q J H1) : WantI X.K X.mg Z φ S H r Q E := by
  cases r with
  | ok it S1 => exact fun J φ1 H1 r1 e1 d => f it S1 J φ1 H1 rfl r1 e1 d
  | _ => exact absurd rfl hn
theorem isE_lc2 {fi fi1 : FI} {is is1 : List Nat} {m m1 : FG} {ft ft1 : FT} {fe : FE} {own own1 : List Nat} {fin : Fin'} (hf : FinOk fin) (hio : ∀ i ∈ is, i ∈ own) (hio1 : ∀ i ∈ is1, i ∈ own1) :
    IsE X W (tLc2 (tDI X.K X.mg W fi) (tG X.K X.mg is m) (tDT X.K X.mg W0 ft) (tDI X.K X.mg W0 fi1) (tG X.K X.mg is1 m1) (tDT X.K X.mg W0 ft1) (tD X.K X.mg W0 fe) own own1) (fComp2 fi m ft fi1 m1 ft1 fe own own1 fin) := fun Z φ S ρ σ H Q R sl w => by
  have wi : WantI X.K X.mg Z φ S H (fi ρ S) (fun J H1 => ∀ D, H1 D = none → ∃ W : Nat → Nat → Hp → Prop, (∃ m, W 0 m (upd H1 D (.lst []))) ∧ ∀ i mm H, W i mm H →
      (J.stop i H ∧ Q (.ref D) H) ∨ (J.go i H ∧ ∃ Nx : Hp → Prop, (∀ H', Nx H' → ∃ m', m' < mm ∧ W (i + 1) m' H') ∧ ∀ x H', J.yld i H x H' → tG X.K X.mg is m x (wipe σ own) H' fun σ2 H2 => wipe σ2 own = wipe σ own ∧ tDT X.K X.mg W0 ft σ2 H2 fun b H3 =>
        if b = true then tDI X.K X.mg W0 fi1 σ2 H3 fun J1 H4 => ∃ W1 : Nat → Nat → Hp → Prop, (∃ m, W1 0 m H4) ∧ ∀ j k H, W1 j k H →
          (J1.stop j H ∧ Nx H) ∨ (J1.go j H ∧ ∃ Nx1 : Hp → Prop, (∀ H', Nx1 H' → ∃ k', k' < k ∧ W1 (j + 1) k' H') ∧ ∀ x H', J1.yld j H x H' → tG X.K X.mg is1 m1 x (wipe σ2 own1) H' fun σ3 H5 => wipe σ3 own1 = wipe σ2 own1 ∧ tDT X.K X.mg W0 ft1 σ3 H5 fun b H6 =>
            if b = true then tD X.K X.mg W0 fe σ3 H6 fun y H7 => ∃ acc, H7 D = some (.lst acc) ∧ acc.length < sizeLine ∧ Nx1 (upd H7 D (.lst (acc ++ [y]))) else Nx1 H6)
        else Nx H3)) (WE W σ) := by
    have aux : ∀ it S1 J φ1 H1, Rel X.K X.mg Z φ1 S1 H1 → Evo Z φ S H φ1 S1 H1 → RI X.K X.mg Z φ1 S1 H1 it J → Want X.K X.mg (RDat X.K X.mg) Z φ1 S1 H1 ((comp2F it.chk m ft fi1 m1 ft1 fe own1 it.items (wipeD ρ own) S1).bind fin) Q (WE W σ) →
        ∀ D, H1 D = none → ∃ W : Nat → Nat → Hp → Prop, (∃ m, W 0 m (upd H1 D (.lst []))) ∧ ∀ i mm H, W i mm H →
      (J.stop i H ∧ Q (.ref D) H) ∨ (J.go i H ∧ ∃ Nx : Hp → Prop, (∀ H', Nx H' → ∃ m', m' < mm ∧ W (i + 1) m' H') ∧ ∀ x H', J.yld i H x H' → tG X.K X.mg is m x (wipe σ own) H' fun σ2 H2 => wipe σ2 own = wipe σ own ∧ tDT X.K X.mg W0 ft σ2 H2 fun b H3 =>
        if b = true then tDI X.K X.mg W0 fi1 σ2 H3 fun J1 H4 => ∃ W1 : Nat → Nat → Hp → Prop, (∃ m, W1 0 m H4) ∧ ∀ j k H, W1 j k H →
          (J1.stop j H ∧ Nx H) ∨ (J1.go j H ∧ ∃ Nx1 : Hp → Prop, (∀ H', Nx1 H' → ∃ k', k' < k ∧ W1 (j + 1) k' H') ∧ ∀ x H', J1.yld j H x H' → tG X.K X.mg is1 m1 x (wipe σ2 own1) H' fun σ3 H5 => wipe σ3 own1 = wipe σ2 own1 ∧ tDT X.K X.mg W0 ft1 σ3 H5 fun b H6 =>
            if b = true then tD X.K X.mg W0 fe σ3 H6 fun y H7 => ∃ acc, H7 D = some (.lst acc) ∧ acc.length < sizeLine ∧ Nx1 (upd H7 D (.lst (acc ++ [y]))) else Nx1 H6)
        else Nx H3) := by
      intro it S1 J φ1 H1 R1 E1 rj w1 p hp
      have pZ : p ∉ Z := fun q => R1.zh p q hp
      let Inv' : Nat → Hp → Prop := fun i H' => ∃ φ' S' acc vs, Rel X.K X.mg (p :: Z) φ' S' H' ∧ Evo Z φ1 S1 H1 φ' S' H' ∧ H' p = some (.lst vs) ∧ DatL X.K X.mg φ' (gnd (p :: Z) φ' S' H') acc vs ∧
        Want X.K X.mg (RDat X.K X.mg) Z φ1 S1 H1 ((comp2F it.chk m ft fi1 m1 ft1 fe own1 (it.items.drop i) (wipeD ρ own) S').bind fun ys S => fin (acc ++ ys) S) Q (WE W σ)
      refine ⟨fun i n H' => n = it.items.length - i ∧ i ≤ it.items.length ∧ Inv' i H', ⟨_, rfl, Nat.zero_le _, φ1, S1, [], [], R1.hidden hp, ?_, upd_same, DatL.nil, w1⟩, ?_⟩
      · exact (Evo.refl (Z := Z) (φ := φ1) (S := S1) (H := H1)).hidMut hp
      rintro i n H2 ⟨rfl, hle, φ2, S2, acc, vs, R2, E2, hH2, dv, w2⟩
      have slw : Slots X.K X.mg φ2 (gnd (p :: Z) φ2 S2 H2) (wipeD ρ own) (wipe σ own) := by
        refine slots_wipe ⟨sl.1, fun j d q => ?_⟩ own
        obtain ⟨u, h1, h2⟩ := sl.2 j d q
        exact ⟨u, h1, Dat.mono (E1.pre.trans E2.pre) (E1.ext.trans (E2.hideExt hp)) _ _ h2⟩
      by_cases hlt : i < it.items.length
      · obtain ⟨d, hd⟩ : ∃ d, it.items[i]? = some d := ⟨_, List.getElem?_eq_getElem hlt⟩
        have hdr : it.items.drop i = d :: it.items.drop (i + 1) := by
          rw [List.drop_eq_getElem_cons hlt]
          congr 1
          rw [List.getElem?_eq_getElem hlt] at hd
          exact Option.some.inj hd
        rw [hdr] at w2
        unfold comp2F at w2
        by_cases hc : okC it.chk S2
        · rw [if_pos hc] at w2
          have rr := (rj i (p :: Z) φ2 S2 H2 (fun _ h => List.mem_cons_of_mem _ h) R2 E2.pre (E2.hideExt hp) hc).1 d hd
          refine .inr ⟨rr.1, Inv' (i + 1), fun H' hN => ⟨_, by omega, rfl, hlt, hN⟩, fun x H3 y => ?_⟩
          obtain ⟨R3, E3, d3⟩ := rr.2 x H3 y
          cases hm : m d (wipeD ρ own) S2 with
          | none => rw [hm] at w2; exact w2.elim
          | some ρ3 =>
            simp only [hm] at w2
            refine ⟨p :: Z, φ2, S2, wipeD ρ own, d, ρ3, R3, slw.evo E3, d3, hm, fun σ3 sl3 hw => ⟨?_, p :: Z, φ2, S2, ρ3, R3, sl3, ?_⟩⟩
            · rw [hw own hio]
              exact wipe_wipe σ own
            have ev2 : Evo Z φ1 S1 H1 φ2 S2 H3 := E2.hide hp E3
            have stuckT : (ft ρ3 S2).noEx ≠ .stuck := fun z => by
              rw [z] at w2
              exact w2
            refine Want.noEx stuckT fun b S4 b' φ4 H4 hb R4 E4 eb => ?_
            cases eb
            rw [hb] at w2
            simp only [Res.noEx_ok, Res.bind_ok] at w2
            have ev4 := ev2.hide hp E4
            have hp3 : H3 p = some (.lst vs) := E3.out p _ hH2 fun q => R2.zd p (liveA_sub q) List.mem_cons_self
            have hp4 : H4 p = some (.lst vs) := E4.out p _ hp3 fun q => R3.zd p (liveA_sub q) List.mem_cons_self
            have dv4 := DatL.evo E4 (DatL.evo E3 dv)
            cases b with
            | false =>
              exact iteF ⟨φ4, S4, acc, vs, R4, ev4, hp4, dv4, w2⟩
            | true =>
              simp only [if_true] at w2
              refine iteT ⟨p :: Z, φ4, S4, ρ3, R4, sl3.evo E4, ?_⟩
              have stuckI : (fi1 ρ3 S4).noEx ≠ .stuck := fun z => by
                rw [z] at w2
                exact w2
              refine WantI.noEx stuckI fun it1 S5 J1 φ5 H5 hi R5 E5 rj1 => ?_
              rw [hi] at w2
              simp only [Res.noEx_ok, Res.bind_ok] at w2
              have hp5 : H5 p = some (.lst vs) := E5.out p _ hp4 fun q => R4.zd p (liveA_sub q) List.mem_cons_self
              have dv5 := DatL.evo E5 dv4
              have ev5 := ev4.hide hp E5
              have sl5 := (sl3.evo E4).evo E5
              have w3 : Want X.K X.mg (RDat X.K X.mg) Z φ1 S1 H1 ((compF it1.chk m1 ft1 fe (it1.items.drop 0) (wipeD ρ3 own1) S5).bind fun xs S => (comp2F it.chk m ft fi1 m1 ft1 fe own1 (it.items.drop (i + 1)) (wipeD ρ own) S).bind fun ys S => fin ((acc ++ xs) ++ ys) S) Q (WE W σ) := by
                rw [List.drop_zero]
                cases hq : compF it1.chk m1 ft1 fe it1.items (wipeD ρ3 own1) S5 with
                | ok xs S7 =>
                  rw [hq] at w2
                  simp only [Res.bind_ok] at w2 ⊢
                  cases hq2 : comp2F it.chk m ft fi1 m1 ft1 fe own1 (it.items.drop (i + 1)) (wipeD ρ own) S7 with
                  | ok ys S8 =>
                    rw [hq2] at w2
                    simp only [Res.bind_ok] at w2 ⊢
                    rw [List.append_assoc]
                    exact w2
                  | _ => rw [hq2] at w2; exact w2
                | _ => rw [hq] at w2; exact w2
              let Inv1 : Nat → Hp → Prop := fun j H' => ∃ φ' S' acc vs, Rel X.K X.mg (p :: Z) φ' S' H' ∧ Evo Z φ1 S1 H1 φ' S' H' ∧ (φ5 <+: φ') ∧ Same (gnd (p :: Z) φ5 S5 H5) (gnd (p :: Z) φ' S' H') ∧ H' p = some (.lst vs) ∧ DatL X.K X.mg φ' (gnd (p :: Z) φ' S' H') acc vs ∧
                Want X.K X.mg (RDat X.K X.mg) Z φ1 S1 H1 ((compF it1.chk m1 ft1 fe (it1.items.drop j) (wipeD ρ3 own1) S').bind fun xs S => (comp2F it.chk m ft fi1 m1 ft1 fe own1 (it.items.drop (i + 1)) (wipeD ρ own) S).bind fun ys S => fin ((acc ++ xs) ++ ys) S) Q (WE W σ)
              refine ⟨fun j n H' => n = it1.items.length - j ∧ j ≤ it1.items.length ∧ Inv1 j H', ⟨_, rfl, Nat.zero_le _, φ5, S5, acc, vs, R5, ev5, List.prefix_refl _, Same.refl _, hp5, dv5, w3⟩, ?_⟩
              rintro j n H6 ⟨rfl, hle1, φ6, S6, acc6, vs6, R6, E6, pre6, sm6, hH6, dv6, w6⟩
              have slw1 : Slots X.K X.mg φ6 (gnd (p :: Z) φ6 S6 H6) (wipeD ρ3 own1) (wipe σ3 own1) := by
                refine slots_wipe ⟨sl5.1, fun j d q => ?_⟩ own1
                obtain ⟨u, h1, h2⟩ := sl5.2 j d q
                exact ⟨u, h1, Dat.mono pre6 sm6 _ _ h2⟩
              by_cases hlt1 : j < it1.items.length
              · obtain ⟨d1, hd1⟩ : ∃ d, it1.items[j]? = some d := ⟨_, List.getElem?_eq_getElem hlt1⟩
                have hdr1 : it1.items.drop j = d1 :: it1.items.drop (j + 1) := by
                  rw [List.drop_eq_getElem_cons hlt1]
                  congr 1
                  rw [List.getElem?_eq_getElem hlt1] at hd1
                  exact Option.some.inj hd1
                rw [hdr1] at w6
                unfold compF at w6
                by_cases hc1 : okC it1.chk S6
                · rw [if_pos hc1] at w6
                  have rr1 := (rj1 j (p :: Z) φ6 S6 H6 (fun _ h => h) R6 pre6 sm6 hc1).1 d1 hd1
                  refine .inr ⟨rr1.1, Inv1 (j + 1), fun H' hN => ⟨_, by omega, rfl, hlt1, hN⟩, fun x1 H7 y1 => ?_⟩
                  obtain ⟨R7, E7, d7⟩ := rr1.2 x1 H7 y1
                  cases hm1 : m1 d1 (wipeD ρ3 own1) S6 with
                  | none => rw [hm1] at w6; exact w6.elim
                  | some ρ7 =>
                    simp only [hm1] at w6
                    refine ⟨p :: Z, φ6, S6, wipeD ρ3 own1, d1, ρ7, R7, slw1.evo E7, d7, hm1, fun σ7 sl7 hw7 => ⟨?_, p :: Z, φ6, S6, ρ7, R7, sl7, ?_⟩⟩
                    · rw [hw7 own1 hio1]
                      exact wipe_wipe σ3 own1
                    have ev7 : Evo Z φ1 S1 H1 φ6 S6 H7 := E6.hide hp E7
                    have stuckT1 : (ft1 ρ7 S6).noEx ≠ .stuck := fun z => by
                      rw [z] at w6
                      exact w6
                    refine Want.noEx stuckT1 fun b S8 b' φ8 H8 hb8 R8 E8 eb => ?_
                    cases eb
                    rw [hb8] at w6
                    simp only [Res.noEx_ok, Res.bind_ok] at w6
                    have ev8 := ev7.hide hp E8
                    have hp7 : H7 p = some (.lst vs6) := E7.out p _ hH6 fun q => R6.zd p (liveA_sub q) List.mem_cons_self
                    have hp8 : H8 p = some (.lst vs6) := E8.out p _ hp7 fun q => R7.zd p (liveA_sub q) List.mem_cons_self
                    have dv8 := DatL.evo E8 (DatL.evo E7 dv6)
                    have sm8 := sm6.trans (E7.ext.trans E8.ext)
                    have pre8 := pre6.trans (E7.pre.trans E8.pre)
                    cases b with
                    | false =>
                      exact iteF ⟨φ8, S8, acc6, vs6, R8, ev8, pre8, sm8, hp8, dv8, w6⟩
                    | true =>
                      simp only [if_true] at w6
                      refine iteT ⟨p :: Z, φ8, S8, ρ7, R8, sl7.evo E8, ?_⟩
                      have stuckE : (fe ρ7 S8).noEx ≠ .stuck := fun z => by
                        rw [z] at w6
                        exact w6
                      refine Want.noEx stuckE fun yd S9 yv φ9 H9 hy R9 E9 dy => ?_
                      rw [hy] at w6
                      simp only [Res.noEx_ok, Res.bind_ok] at w6
                      have hp9 : H9 p = some (.lst vs6) := E9.out p _ hp8 fun q => R8.zd p (liveA_sub q) List.mem_cons_self
                      have dv9 := DatL.evo E9 dv8
                      obtain ⟨RA, eg⟩ := R9.hidMut (o := .lst (vs6 ++ [yv]))
                      have w9 : Want X.K X.mg (RDat X.K X.mg) Z φ1 S1 H1 ((compF it1.chk m1 ft1 fe (it1.items.drop (j + 1)) (wipeD ρ3 own1) S9).bind fun xs S => (comp2F it.chk m ft fi1 m1 ft1 fe own1 (it.items.drop (i + 1)) (wipeD ρ own) S).bind fun ys S => fin (((acc6 ++ [yd]) ++ xs) ++ ys) S) Q (WE W σ) := by
                        cases hq : compF it1.chk m1 ft1 fe (it1.items.drop (j + 1)) (wipeD ρ3 own1) S9 with
                        | ok xs SA =>
                          rw [hq] at w6
                          simp only [Res.bind_ok] at w6 ⊢
                          have e : (acc6 ++ [yd]) ++ xs = acc6 ++ (yd :: xs) := by simp
                          rw [e]
                          exact w6
                        | _ => rw [hq] at w6; exact w6
                      refine ⟨vs6, hp9, ?_, φ9, S9, acc6 ++ [yd], vs6 ++ [yv], RA, (ev8.hide hp E9).hidMut hp, pre8.trans E9.pre, by rw [eg]; exact sm8.trans E9.ext, upd_same, by rw [eg]; exact dv9.append (.cons dy DatL.nil), w9⟩
                      cases hq : compF it1.chk m1 ft1 fe (it1.items.drop (j + 1)) (wipeD ρ3 own1) S9 with
                      | ok xs SA =>
                        rw [hq] at w9
                        simp only [Res.bind_ok] at w9
                        cases hq2 : comp2F it.chk m ft fi1 m1 ft1 fe own1 (it.items.drop (i + 1)) (wipeD ρ own) SA with
                        | ok ys SB =>
                          rw [hq2] at w9
                          have ns : fin (((acc6 ++ [yd]) ++ xs) ++ ys) SB ≠ .stuck := fun z => by
                            simp only [Res.bind_ok, z] at w9
                            exact w9
                          have hl := hf.1 _ _ ns
                          rw [dv9.length]
                          simp only [List.length_append, List.length_singleton] at hl
                          omega
                        | ex C fs SB => exact absurd hq2 (comp2_noex _ _ _ _ _ _)
                        | stuck =>
                          rw [hq2] at w9
                          exact w9.elim
                      | ex C fs SA => exact absurd hq (comp_noex _ _ _ _ _ _)
                      | stuck =>
                        rw [hq] at w9
                        exact w9.elim
                · rw [if_neg hc1] at w6
                  exact w6.elim
              · have e : j = it1.items.length := by omega
                subst e
                rw [List.drop_length] at w6
                unfold compF at w6
                by_cases hc1 : okC it1.chk S6
                · rw [if_pos hc1] at w6
                  simp only [Res.bind_ok, List.append_nil] at w6
                  exact .inl ⟨(rj1 _ (p :: Z) φ6 S6 H6 (fun _ h => h) R6 pre6 sm6 hc1).2 (Nat.le_refl _), φ6, S6, acc6, vs6, R6, E6, hH6, dv6, w6⟩
                · rw [if_neg hc1] at w6
                  exact w6.elim
        · rw [if_neg hc] at w2
          exact w2.elim
      · have e : i = it.items.length := by omega
        subst e
        rw [List.drop_length] at w2
        unfold comp2F at w2
        by_cases hc : okC it.chk S2
        · rw [if_pos hc] at w2
          simp only [Res.bind_ok, List.append_nil] at w2
          exact .inl ⟨(rj _ (p :: Z) φ2 S2 H2 (fun _ h => List.mem_cons_of_mem _ h) R2 E2.pre (E2.hideExt hp) hc).2 (Nat.le_refl _), hf.2 X.K X.mg Z φ1 φ2 S1 S2 H1 H2 p acc vs Q _ R2 E2 hp pZ hH2 dv w2⟩
        · rw [if_neg hc] at w2
          exact w2.elim
    unfold fComp2 at w
    cases hr : fi ρ S with
    | ok it S1 =>
      rw [hr] at w
      exact fun J φ1 H1 R1 E1 rj => aux it S1 J φ1 H1 R1 E1 rj (w.go E1)
    | ex C fs S1 => rw [hr] at w; exact w
    | stuck => rw [hr] at w; exact w
  exact ⟨Z, φ, S, ρ, R, sl, wi⟩
theorem de_lc2 (C : Cn X W k) {fin : Fin'} (hf : FinOk fin) {elt tg iter tg1 iter1 : Expr} {ifs ifs1 : List Expr} {scope : Scope} {own : List (Str × Nat)} {vs1 : List Nat} {pos : Pos} {fi fi1 : FI} {is is1 : List Nat} {m m1 : FG} {ft ft1 : FT} {fe : FE} (hi : DI X W tg iter fi) (ok : BlkOk X.N X.env.scope scope own)
    (hg : ∀ (s : Shared) (H : Hp) (C : Addr) (cl : List (Str × Addr)) (fp : List Addr), DG (X.blk s H scope (compEnvC scope cl C X.env) fp) tg is m) (ht : ∀ (s : Shared) (H : Hp) (C : Addr) (cl : List (Str × Addr)) (fp : List Addr), DTs (X.blk s H scope (compEnvC scope cl C X.env) fp) W0 ifs ft)
    (hi1 : ∀ (s : Shared) (H : Hp) (C : Addr) (cl : List (Str × Addr)) (fp : List Addr), DI (X.blk s H scope (compEnvC scope cl C X.env) fp) W0 tg1 iter1 fi1)
    (hg1 : ∀ (s : Shared) (H : Hp) (C : Addr) (cl : List (Str × Addr)) (fp : List Addr), DG (X.blk s H scope (compEnvC scope cl C X.env) fp) tg1 is1 m1) (ht1 : ∀ (s : Shared) (H : Hp) (C : Addr) (cl : List (Str × Addr)) (fp : List Addr), DTs (X.blk s H scope (compEnvC scope cl C X.env) fp) W0 ifs1 ft1)
    (he : ∀ (s : Shared) (H : Hp) (C : Addr) (cl : List (Str × Addr)) (fp : List Addr), DE (X.blk s H scope (compEnvC scope cl C X.env) fp) W0 elt fe) (hio : ∀ i ∈ is, i ∈ own.map (·.2) := by decide) (hio1 : ∀ i ∈ is1, i ∈ vs1 := by decide) (hv : ∀ i ∈ vs1, i ∈ own.map (·.2) := by decide)
    (hs : ∀ x, foldedSetIterable iter X.env x = pure x := by intro _; rfl) (hs1 : ∀ env x, foldedSetIterable iter1 env x = pure x := by intro _ _; rfl) :
    DE X W (.ListComp elt [⟨tg, iter, ifs, 0⟩, ⟨tg1, iter1, ifs1, 0⟩] scope pos) (fComp2 fi m ft fi1 m1 ft1 fe (own.map (·.2)) vs1 fin) :=
  .mk (pe_lc2 (g := tG X.K X.mg is m) (tt := tDT X.K X.mg W0 ft) (wi1 := tDI X.K X.mg W0 fi1) (g1 := tG X.K X.mg is1 m1) (tt1 := tDT X.K X.mg W0 ft1) (te := tD X.K X.mg W0 fe) C.calm C.nd hi ok hv hg ht hi1 hg1 ht1 he hs hs1) (isE_lc2 hf hio hio1)
end
end DL

/-! The data layer, part 107: a name and an attribute at once: x, o.f = e, e. -/
namespace DL
open PySem PySem.Spec PyProof.Rows L2
section
variable {X : Cx} {W : WX} {k : Nat}
def gNameFld (i : Nat) (cs : List Str) (g : Str) (fp fe : FE) : FS := fun ρ S => (fe ρ S).into ρ fun d S => match d with
  | .tup [d1, d2] => (fp (ρ.set i (some d1)) S).into (ρ.set i (some d1)) fun o2 S => (match stFld cs g o2 d2 S with
      | some S => .nx (ρ.set i (some d1)) S
      | none => .stuck)
  | _ => .stuck
theorem ds_nameFld (C : Cn X W k) {i : Nat} {y : Str} {p : Expr} {g : Str} {cs : List Str} {value : Expr} {fp fe : FE} {kt : Nat} {py p2 pt pos : Pos} (hi : X.N[i]? = some y) (hyl : Loc X.env.scope y) (hp : DE X W p fp) (hv : DE X W value fe)
    (hc2 : ∀ c ∈ cs, ∃ C, ClsI X c C ∧ NoAttr X.K C g)
    (hf : X.fn y = true ∨ X.env.scope.names.lookup y = some .local := by first | exact .inl rfl | exact .inr rfl | assumption)
    (hs : swapsWithSole [.Tuple [.Name y py, .Attribute p g p2] kt pt] value pos.line X.env = pure false := by rfl) (hw : swappedStores [.Tuple [.Name y py, .Attribute p g p2] kt pt] value X.env = pure none := by rfl)
    (h1 : (assignEach [.Tuple [.Name y py, .Attribute p g p2] kt pt] X.env).map (·.2) = [assign (.Tuple [.Name y py, .Attribute p g p2] kt pt) X.env] := by rfl)
    (hn : (assignEach [.Name y py, .Attribute p g p2] X.env).length = 2 := by rfl) (hst : (assignEach [.Name y py, .Attribute p g p2] X.env).findIdx? (·.1) = none := by rfl)
    (e1 : (assignEach [.Name y py, .Attribute p g p2] X.env).map (·.2) = assign (.Name y py) X.env :: (assignEach [.Attribute p g p2] X.env).map (·.2) := by rfl)
    (e2 : (assignEach [.Attribute p g p2] X.env).map (·.2) = assign (.Attribute p g p2) X.env :: (assignEach [] X.env).map (·.2) := by rfl) :
    DS X W (.Assign [.Tuple [.Name y py, .Attribute p g p2] kt pt] value pos) (gNameFld i cs g fp fe) := by
  obtain ⟨tp, pp, qp⟩ := hp.ex
  obtain ⟨tv, pv, qv⟩ := hv.ex
  refine .mk (ps_asg pv (pg_tup C.calm (pgs_cons (pg_name C.nd hi hyl hf) (pgs_cons (pg_att pp) pgs_nil e2) e1) hn hst) hs hw h1) fun Z φ S ρ σ H Dd R sl w => qv Z φ S ρ σ H _ R sl (w.into sl fun d S1 v φ1 H1 R1 E1 dd w1 => ?_)
  split at w1
  · rename_i d1 d2
    unfold RDat Dat at dd
    obtain ⟨a, vs, rfl, s1, ds⟩ := dd
    obtain ⟨v1, r, rfl, dv1, ds⟩ := ds.uncons
    obtain ⟨v2, r, rfl, dv2, ds⟩ := ds.uncons
    unfold DatL at ds
    subst ds
    refine ⟨a, [v1, v2], rfl, sqt_mono (fun b u hb => gnd_some hb) s1, rfl, v1, [v2], rfl, ?_⟩
    refine ⟨v2, [], rfl, ?_⟩
    have sl1 := (sl.evo E1).set (i := i) dv1
    refine qp Z φ1 S1 _ _ H1 _ R1 sl1 (w1.into sl1 fun o2 S4 ov2 φ3 H4 R4 E4 d3' w3 => ?_)
    cases q2 : stFld cs g o2 d2 S4 with
    | none => rw [q2] at w3; exact w3.elim
    | some S5 =>
      rw [q2] at w3
      simp only at w3
      refine stFld_ok (Q := fun H5 => L2.gNil [] _ H5 Dd.nx) hc2 R4 d3' (Dat.evo E4 dv2) q2 fun H5 R5 E5 => ⟨rfl, ?_⟩
      exact w3 _ φ3 H5 R5 E5 ((sl1.evo E4).evo E5)
  · exact w1.elim
theorem de_lc2B (C : Cn X W k) {fin : Fin'} (hf : FinOk fin) {elt tg iter tg1 iter1 : Expr} {ifs ifs1 : List Expr} {own : List (Str × Nat)} {vs1 : List Nat} {pos : Pos} {fi fi1 : FI} {is is1 : List Nat} {m m1 : FG} {ft ft1 : FT} {fe : FE} {scope : Scope} (hi : DI X W tg iter fi) (ok : BlkOk X.N X.env.scope scope own)
    (hg : ∀ (s : Shared) (H : Hp) (Ca : Addr) (cl : List (Str × Addr)) (fp : List Addr), Cn (X.blk s H scope (compEnvC scope cl Ca X.env) fp) W0 k → DG (X.blk s H scope (compEnvC scope cl Ca X.env) fp) tg is m)
    (ht : ∀ (s : Shared) (H : Hp) (Ca : Addr) (cl : List (Str × Addr)) (fp : List Addr), Cn (X.blk s H scope (compEnvC scope cl Ca X.env) fp) W0 k → DTs (X.blk s H scope (compEnvC scope cl Ca X.env) fp) W0 ifs ft)
    (hi1 : ∀ (s : Shared) (H : Hp) (Ca : Addr) (cl : List (Str × Addr)) (fp : List Addr), Cn (X.blk s H scope (compEnvC scope cl Ca X.env) fp) W0 k → DI (X.blk s H scope (compEnvC scope cl Ca X.env) fp) W0 tg1 iter1 fi1)
    (hg1 : ∀ (s : Shared) (H : Hp) (Ca : Addr) (cl : List (Str × Addr)) (fp : List Addr), Cn (X.blk s H scope (compEnvC scope cl Ca X.env) fp) W0 k → DG (X.blk s H scope (compEnvC scope cl Ca X.env) fp) tg1 is1 m1)
    (ht1 : ∀ (s : Shared) (H : Hp) (Ca : Addr) (cl : List (Str × Addr)) (fp : List Addr), Cn (X.blk s H scope (compEnvC scope cl Ca X.env) fp) W0 k → DTs (X.blk s H scope (compEnvC scope cl Ca X.env) fp) W0 ifs1 ft1)
    (he : ∀ (s : Shared) (H : Hp) (Ca : Addr) (cl : List (Str × Addr)) (fp : List Addr), Cn (X.blk s H scope (compEnvC scope cl Ca X.env) fp) W0 k → DE (X.blk s H scope (compEnvC scope cl Ca X.env) fp) W0 elt fe)
    (hio : ∀ i ∈ is, i ∈ own.map (·.2) := by decide) (hio1 : ∀ i ∈ is1, i ∈ vs1 := by decide) (hv : ∀ i ∈ vs1, i ∈ own.map (·.2) := by decide)
    (hs : ∀ x, foldedSetIterable iter X.env x = pure x := by intro _; rfl) (hs1 : ∀ env x, foldedSetIterable iter1 env x = pure x := by intro _ _; rfl) :
    DE X W (.ListComp elt [⟨tg, iter, ifs, 0⟩, ⟨tg1, iter1, ifs1, 0⟩] scope pos) (fComp2 fi m ft fi1 m1 ft1 fe (own.map (·.2)) vs1 fin) :=
  de_lc2 C hf hi ok (fun s H Ca cl fp => hg s H Ca cl fp C.blk) (fun s H Ca cl fp => ht s H Ca cl fp C.blk) (fun s H Ca cl fp => hi1 s H Ca cl fp C.blk) (fun s H Ca cl fp => hg1 s H Ca cl fp C.blk) (fun s H Ca cl fp => ht1 s H Ca cl fp C.blk) (fun s H Ca cl fp => he s H Ca cl fp C.blk) hio hio1 hv hs hs1
end
end DL

/-! The data layer, part 108: for v in d.values(), d an object that nobody looks at any more. -/
namespace DL
open PySem PySem.Spec PyProof.Rows L2
def valsJ (d : D) (S : Store) : Res ItD := match d with
  | .oid n => (match S[n]? with
    | some (.dic kd) => .ok ⟨kd.map (·.2), none⟩ (S.set n (.frz (.oid n)))
    | _ => .stuck)
  | _ => .stuck
def fValsJ (f : FE) : FI := fun ρ S => (f ρ S).bind valsJ
section
variable {X : Cx} {W : WX} {k : Nat} {tg e : Expr} {fe : FE}
theorem di_valsJ {apos cpos : Pos} (he : DE X W e fe)
    (hbase : attributeBase e "values" X.env (eval e X.env) = eval e X.env := by rfl) (hline : (apos.endLine == cpos.line) = true := by rfl) :
    DI X W tg (.Call (.Attribute e "values" apos) [] [] cpos) (fValsJ fe) := by
  obtain ⟨te, pe, qe⟩ := he.ex
  refine .mk (pi_values (pe_lockV pe) hbase hline) fun Z φ S ρ σ H R R0 sl w => ?_
  unfold fValsJ at w
  refine qe Z φ S ρ σ H _ R0 sl (w.bind fun d S1 v φ1 H1 R1 E1 dd w1 => ?_)
  unfold valsJ at w1
  cases d with
  | oid n =>
    cases hn : S1[n]? with
    | none => simp only [hn] at w1; exact w1.elim
    | some so =>
      cases so with
      | dic kd =>
        simp only [hn] at w1
        unfold RDat Dat at dd
        obtain ⟨a, rfl, ha⟩ := dd
        obtain ⟨kvs, q1, q2⟩ := R1.ob n a _ ha hn
        refine ⟨a, kvs, rfl, q1, fun _ _ o _ => ⟨a, o, kvs, rfl, upd_same, ?_⟩⟩
        obtain ⟨R2, E2, ga⟩ := R1.junk ha hn rfl (.frz o (.dK kvs))
        have q3 : DatK X.K X.mg φ1 (gnd Z φ1 (S1.set n (.frz (.oid n))) (upd H1 a (.frz o (.dK kvs)))) kd kvs := DatK.mono E2.pre E2.ext _ _ q2
        refine w1 _ φ1 _ R2 E2 ?_
        intro i Z' φ' S' H' _ R' hp sm _
        have ha' := gnd_sub _ _ (sm _ _ ga)
        have len : kvs.length = kd.length := datK_length q2
        refine ⟨fun d' hd' => ?_, fun hi => ⟨ha', by simpa [len] using hi⟩⟩
        simp only [List.getElem?_map] at hd'
        cases hk : kd[i]? with
        | none => rw [hk] at hd'; cases hd'
        | some kv =>
          rw [hk] at hd'
          cases hd'
          have lt : i < kvs.length := by
            rw [len]
            exact (List.getElem?_eq_some_iff.mp hk).1
          refine ⟨⟨ha', lt⟩, ?_⟩
          rintro x H'' ⟨rfl, k0, g1⟩
          obtain ⟨_, dv⟩ := datK_two (DatK.mono hp sm _ _ q3) hk g1
          exact ⟨R', Evo.refl, dv⟩
      | _ => simp only [hn] at w1; exact w1.elim
  | _ => exact w1.elim
end
end DL

/-! The data layer, part 109: sorted(d), d's keys whole numbers, fewer than 64; xs != []. -/
namespace DL
open PySem PySem.Spec PyProof.Rows L2
section
variable {X : Cx} {W : WX} {k : Nat} {e : Expr} {fe : FE} {p pos : Pos}
def keyI : Key → Option Int
  | .inl i => some i
  | .inr _ => none
def keysI : List (Key × D) → Option (List Int)
  | [] => some []
  | q :: r => (keyI q.1).bind fun x => (keysI r).map (x :: ·)
theorem keysI_ok : ∀ {ks : List (Key × D)} {xs : List Int}, keysI ks = some xs → ks.map (·.1) = xs.map Sum.inl
  | [], xs, h => by cases h; rfl
  | q :: r, xs, h => by
    obtain ⟨x, h1, h2⟩ := Option.bind_eq_some_iff.mp h
    obtain ⟨ys, h3, rfl⟩ := Option.map_eq_some_iff.mp h2
    have e : q.1 = .inl x := by
      unfold keyI at h1
      split at h1
      · rename_i z e
        cases h1
        exact e
      · cases h1
    rw [List.map_cons, List.map_cons, e, keysI_ok h3]
def gSortDI : GC := fun ds S => match ds with
  | [d] => match (asD S d).bind keysI with
    | some xs => if xs.length < 64 then .ok (.lst ((PySem.W.sortI xs).map D.int)) S else .stuck
    | none => .stuck
  | _ => .stuck
theorem cd_sortDI : CallD X (fun xs H Q => ∃ (a : Addr) (kvs : List (Key × V)) (ks : List Int), xs = [.ref a] ∧ Rd H a (.dK kvs) ∧ kvs.map (·.1) = ks.map Sum.inl ∧ ks.length < 64 ∧
    ∀ (ys : List Int) (p : Addr), ys.Perm ks → ys.Pairwise (· ≤ ·) → H p = none → Q (.ref p) (upd H p (.lst (ys.map V.int)))) gSortDI := fun Z φ S H ds vs Q E R d w => by
  unfold gSortDI at w
  split at w
  · obtain ⟨v, rfl, h1⟩ := datL1 d
    split at w
    · rename_i xs e1
      obtain ⟨ks, e2, e3⟩ := Option.bind_eq_some_iff.mp e1
      obtain ⟨a, kvs, rfl, h2, h3⟩ := asD_ok R h1 e2
      obtain ⟨hl, w1⟩ := want_if w
      refine ⟨a, kvs, xs, rfl, .inl h2, (datK_fst h3).trans (keysI_ok e3), hl, fun ys p hp hs hn => ?_⟩
      rw [PySem.W.eq_sortI hp hs]
      obtain ⟨r, e, g⟩ := dat_newL R (dat_ints (PySem.W.sortI xs)) hn
      exact w1 _ _ _ r e g
    · exact w.elim
  · exact w.elim
theorem de_sortDI (C : Cn X W k) {fa : FA} (hg : Gl X "sorted") (hm : X.mg "sorted" = none) (ha : DA X W [e] fa) (he : starEach [e] X.env = (false, eval e X.env) :: starEach [] X.env := by rfl) (hpl : (backTo pos (starEach [] X.env)).any (·.1) = false := by rfl) :
    DE X W (.Call (.Name "sorted" p) [e] [] pos) (fCB gSortDI fa) := de_callB (call_sortedDI C.calm) cd_sortDI hg hm (by rfl) ha (by decide) (by decide) he hpl
end
end DL

/-! The data layer, part 110: xs * k, a new list of up to ten thousand. -/
namespace DL
open PySem PySem.Spec PyProof.Rows L2
section
variable {X : Cx} {W : WX} {a b : Expr} {fa fb : FE} {pos : Pos}
def gRepW : G2 := fun x y S => match asLt S x, y with
  | some xs, .int k => if -10000 ≤ k ∧ k ≤ 10000 ∧ xs.length ≤ 1000 then .ok (.oid S.length) (S ++ [.lst (repD xs k)]) else .stuck
  | _, _ => .stuck
theorem opd_repW : OpD X rRep gRepW := fun Z φ S H x y u v Q E R dx dy w => by
  unfold gRepW at w
  split at w
  · rename_i xs k e1
    obtain ⟨⟨h1, h2, h3⟩, w1⟩ := want_if w
    cases dInt dy
    obtain ⟨p, vs, rfl, q1, q2⟩ := asLt_ok R dx e1
    have rb : vs.length * k.toNat ≤ sizeLine := by
      have hs : sizeLine = 16777216 := sizeLine_eq
      have h4 : vs.length * k.toNat ≤ 1000 * 10000 := Nat.mul_le_mul (by rw [q2.length]; exact h3) (by omega)
      omega
    refine ⟨p, k, vs, rfl, rfl, q1, by omega, by omega, rb, fun t ht => ?_⟩
    obtain ⟨r, e, g⟩ := dat_newO R (q2.rep k.toNat) ht
    exact w1 _ _ _ r e g
  · exact w.elim
theorem de_repW (ha : DE X W a fa) (hb : DE X W b fb) : DE X W (.BinOp a .Mult b pos) (fBin gRepW fa fb) := de_bin op_rep opd_repW ha hb
end
end DL

/-! The data layer, part 111: x in a tuple, of things of any depth. -/
namespace L2
open PySem PySem.Spec PyProof.Rows
section
variable {X : Cx}
def rInTD (K : PySem.W.Frag) : R2 := fun x y H Q => ∃ d ds, Dp K H x d ∧ Dp K H y (.tuple ds) ∧ SeqAt.shaped d = true ∧ SeqAt.shaped (.tuple ds) = true ∧ Q (.bl (ds.any fun z => PyData.eqv z d)) H
theorem op_inTD (hu : X.A.units + 65 < cLine) : OpR X (compareOp .In) (rInTD X.K) := by
  intro pins s σ H x y v u Q I rx ry h
  obtain ⟨d, ds, hd, he, sd, se, q⟩ := h
  obtain ⟨as, r1⟩ := Dp.reads I d x v hd rx
  obtain ⟨bs, r2⟩ := Dp.reads I (.tuple ds) y u he ry
  exact SeqAt.in_tuple_reads r2 r1 (SeqAt.canLay_of_shaped se) (SeqAt.canLay_of_shaped sd) (room_in_shaped sd hu) ⟨.bl _, H, I, rfl, q⟩
end
end L2
namespace DL
open PySem PySem.Spec PyProof.Rows L2
section
variable {X : Cx}
def gInTD : G2 := fun x y S => match pyOf S x, pyOf S y with
  | some d, some (.tuple es) => if SeqAt.shaped d && SeqAt.shaped (.tuple es) then .ok (.bl (es.any fun z => PyData.eqv z d)) S else .stuck
  | _, _ => .stuck
theorem opd_inTD : OpD X (L2.rInTD X.K) gInTD := fun Z φ S H x y u v Q E R dx dy w => by
  unfold gInTD at w
  split at w
  · rename_i d es e1 e2
    obtain ⟨h, w1⟩ := want_if w
    rw [Bool.and_eq_true] at h
    exact ⟨d, es, pyOf_ok R dx e1, pyOf_ok R dy e2, h.1, h.2, w1.now R (dat_bl _)⟩
  · exact w.elim
end
end DL

/-! The data layer, part 112: for k in d, d an object that nobody looks at any more. -/
namespace DL
open PySem PySem.Spec PyProof.Rows L2
def keysJ (d : D) (S : Store) : Res ItD := match d with
  | .oid n => (match S[n]? with
    | some (.dic kd) => .ok ⟨kd.map (fun q => keyV q.1), none⟩ (S.set n (.frz (.oid n)))
    | _ => .stuck)
  | _ => .stuck
def fKeysJ (f : FE) : FI := fun ρ S => (f ρ S).bind keysJ
section
variable {X : Cx} {W : WX} {k : Nat} {tg e : Expr} {fe : FE}
theorem di_keysJ (he : DE X W e fe) : DI X W tg e (fKeysJ fe) := by
  obtain ⟨te, pe, qe⟩ := he.ex
  refine .mk (pi_keysL pe) fun Z φ S ρ σ H R R0 sl w => ?_
  unfold fKeysJ at w
  refine qe Z φ S ρ σ H _ R0 sl (w.bind fun d S1 v φ1 H1 R1 E1 dd w1 => ?_)
  unfold keysJ at w1
  cases d with
  | oid n =>
    cases hn : S1[n]? with
    | none => simp only [hn] at w1; exact w1.elim
    | some so =>
      cases so with
      | dic kd =>
        simp only [hn] at w1
        unfold RDat Dat at dd
        obtain ⟨a, rfl, ha⟩ := dd
        obtain ⟨kvs, q1, q2⟩ := R1.ob n a _ ha hn
        refine ⟨a, kvs, rfl, q1, fun o => ?_⟩
        obtain ⟨R2, E2, ga⟩ := R1.junk ha hn rfl (.frz o (.dK kvs))
        have q3 : DatK X.K X.mg φ1 (gnd Z φ1 (S1.set n (.frz (.oid n))) (upd H1 a (.frz o (.dK kvs)))) kd kvs := DatK.mono E2.pre E2.ext _ _ q2
        refine w1 _ φ1 _ R2 E2 ?_
        intro i Z' φ' S' H' _ R' hp sm _
        have ha' := gnd_sub _ _ (sm _ _ ga)
        have len : kvs.length = kd.length := datK_length q2
        refine ⟨fun d' hd' => ?_, fun hi => ⟨ha', by simpa [len] using hi⟩⟩
        simp only [List.getElem?_map] at hd'
        cases hk : kd[i]? with
        | none => rw [hk] at hd'; cases hd'
        | some kv =>
          rw [hk] at hd'
          cases hd'
          have lt : i < kvs.length := by
            rw [len]
            exact (List.getElem?_eq_some_iff.mp hk).1
          refine ⟨⟨ha', lt⟩, ?_⟩
          rintro x H'' ⟨rfl, k0, v0, g1, rfl⟩
          obtain ⟨rfl, dv⟩ := datK_two (DatK.mono hp sm _ _ q3) hk g1
          exact ⟨R', Evo.refl, dat_key _⟩
      | _ => simp only [hn] at w1; exact w1.elim
  | _ => exact w1.elim
end
end DL

/-! The data layer, part 113: isinstance(x, T), T a type, x an instance of an own class (then it is none) or a thing whose type is known. -/
namespace DL
open PySem PySem.Spec PyProof.Rows L2
structure IsnC (K : PySem.W.Frag) (C : Addr) (T : String) : Prop where
  isi : IsiC K C
  one : PySem.W.kitOne K (.ref C) (.type T) = some false
theorem isnB_ok {K : PySem.W.Frag} {c : Str} {T : String} (h : isnB K c T = true) : IsnC K (He.ga K c) T := by
  obtain ⟨h1, h2⟩ := He.ba h
  exact ⟨isiB_ok h1, of_decide_eq_true h2⟩
section
variable {X : Cx} {W : WX} {k : Nat} {e b : Expr} {pos p : Pos}
def gIsiN1 (c : Str) (T : String) : GC := fun ds S => match ds with
  | [x, .ty T'] => (match asI S x with
    | some (c'', _) => if c'' = c ∧ T' = T then .ok (.bl false) S else .stuck
    | none => .stuck)
  | _ => .stuck
def isIns (ds : List D) (S : Store) : Bool := match ds with
  | [x, _] => (asI S x).isSome
  | _ => false
def gIsiY (c : Str) (T : String) : GC := fun ds S => if isIns ds S then gIsiN1 c T ds S else gIsi1 ds S
theorem cd_isiN1 {c : Str} {T : String} {C : Addr} (cl : ClsI X c C) (i : IsnC X.K C T) : CallD X (rIsi X.K) (gIsiN1 c T) := fun Z φ S H ds vs Q E R d w => by
  unfold gIsiN1 at w
  split at w
  · obtain ⟨v, u, rfl, h1, h2⟩ := datL2 d
    split at w
    · rename_i hi
      obtain ⟨⟨rfl, rfl⟩, w1⟩ := want_if w
      obtain ⟨a, A, dx, fvs, rfl, q0, q1, q2⟩ := asI_ok R h1 hi
      rw [cl.mg] at q0
      cases q0
      unfold Dat at h2
      subst h2
      exact ⟨.ref a, _, .ref C, _, false, rfl, .ty _, .base (.ins q1 cl.cls i.isi.ha i.isi.hn i.isi.htk i.isi.hm), i.one, w1.now R (dat_bl _)⟩
    · exact w.elim
  · exact w.elim
theorem cd_isiY {c : Str} {T : String} {C : Addr} (cl : ClsI X c C) (i : IsnC X.K C T) : CallD X (rIsi X.K) (gIsiY c T) := fun Z φ S H ds vs Q E R d w => by
  unfold gIsiY at w
  split at w
  · exact cd_isiN1 cl i Z φ S H ds vs Q E R d w
  · exact cd_isi1 Z φ S H ds vs Q E R d w
theorem de_isiY {fa : FA} {c : Str} {T : String} {C : Addr} (hg : Gl X "isinstance") (hm : X.mg "isinstance" = none) (cl : ClsI X c C) (i : IsnC X.K C T) (ha : DA X W [e, b] fa) (he : starEach [e, b] X.env = (false, eval e X.env) :: starEach [b] X.env := by rfl) (hpl : (backTo pos (starEach [b] X.env)).any (·.1) = false := by rfl) :
    DE X W (.Call (.Name "isinstance" p) [e, b] [] pos) (fCB (gIsiY c T) fa) := de_callB call_isi (cd_isiY cl i) hg hm (by rfl) ha (by decide) (by decide) he hpl
end
end DL

namespace K03
open PySem PySem.Spec PyProof.Rows L2 DL
/-! ### _law_state -/
abbrev N_p_law_state : List Str := ["_law_script", "_law_k", "_law_cell", "_law_found", "_law_primes", "_law_prime", "_law_one"]
noncomputable def m_p_law_state : FS := (gSeq (gSet 2 (fIf (toB (fBin gNe (fVar 0) (fLst (fun _ S => .ok [] S)))) (fCB gAbs (fCons (fBin gIx (fVar 0) (fBin gMod (fVar 1) (fCB gLen (fCons (fVar 0) (fun _ S => .ok [] S))))) (fun _ S => .ok [] S))) (fC (.int 0)))) (gSeq (gIf (toB (fBin gGe (fVar 2) (fBin gPow (fC (.int 10)) (fC (.int 18))))) (gRet (fLstO (fCons (fBin gSub (fVar 2) (fBin gPow (fC (.int 10)) (fC (.int 18)))) (fun _ S => .ok [] S)))) gNil) (gSeq (gSet 3 (fC (.int 0))) (gSeq (gSet 4 (fLst (fCons (fC (.int 2147483629)) (fCons (fC (.int 2147483587)) (fCons (fC (.int 2147483579)) (fCons (fC (.int 2147483563)) (fCons (fC (.int 2147483549)) (fCons (fC (.int 2147483543)) (fCons (fC (.int 2147483497)) (fCons (fC (.int 2147483489)) (fun _ S => .ok [] S))))))))))) (gSeq (gFor (fSeq (fBin gAdd (fVar 4) (fLst (fCons (fC (.int 2147483477)) (fCons (fC (.int 2147483423)) (fCons (fC (.int 2147483399)) (fCons (fC (.int 2147483353)) (fCons (fC (.int 2147483323)) (fCons (fC (.int 2147483269)) (fCons (fC (.int 2147483249)) (fun _ S => .ok [] S))))))))))) (mName 5) (gSeq (gSet 6 (fBin gMod (fBin gMul (fBin gPow (fBin gAdd (fBin gAdd (fBin gMod (fVar 2) (fVar 5)) (fBin gMul (fC (.int 7919)) (fVar 1))) (fC (.int 48271))) (fC (.int 2))) (fC (.int 69621))) (fVar 5))) (gSet 3 (fBin gAdd (fBin gMul (fVar 3) (fC (.int 2147483647))) (fBin gMod (fBin gMul (fVar 6) (fBin gAdd (fVar 6) (fBin gDiv (fVar 5) (fC (.int 7))))) (fVar 5)))))) (gRet (fLstO (fCons (fVar 3) (fun _ S => .ok [] S)))))))))
noncomputable def S_p_law_state : Sem' := semOf 7 m_p_law_state
/-! ### _law_next -/
abbrev N_p_law_next : List Str := ["_law_state_here", "_law_most", "_law_found"]
noncomputable def m_p_law_next : FS := (gSeq (gSet 2 (fBin gMod (fBin gIx (fVar 0) (fC (.int 0))) (fVar 1))) (gSeq (gPut (fVar 0) (fC (.int 0)) (fBin gDiv (fBin gIx (fVar 0) (fC (.int 0))) (fVar 1))) (gRet (fVar 2))))
noncomputable def S_p_law_next : Sem' := semOf 3 m_p_law_next
/-! ### _law_pick -/
abbrev N_p_law_pick : List Str := ["_law_state_here", "_law_some"]
noncomputable def m_p_law_pick : FS := (gRet (fBin gIx (fVar 1) (fCall S_p_law_next (fun ds es => pick [(0, 0), (0, 1)] ds es []) 2 0 2 (fCons (fVar 0) (fCons (fCB gLen (fCons (fVar 1) (fun _ S => .ok [] S))) (fun _ S => .ok [] S))) (fun _ S => .ok [] S))))
noncomputable def S_p_law_pick : Sem' := semOf 2 m_p_law_pick
/-! ### _law_near -/
abbrev N_p_law_near : List Str := ["_law_state_here", "_law_least_one", "_law_most_one", "_law_way"]
noncomputable def m_p_law_near : FS := (gSeq (gSet 3 (fCall S_p_law_next (fun ds es => pick [(0, 0), (0, 1)] ds es []) 2 0 2 (fCons (fVar 0) (fCons (fC (.int 9)) (fun _ S => .ok [] S))) (fun _ S => .ok [] S))) (gSeq (gIf (toB (fBin gEq (fVar 3) (fC (.int 8)))) (gRet (fCall S_p_law_pick (fun ds es => pick [(0, 0), (0, 1)] ds es []) 2 0 2 (fCons (fVar 0) (fCons (fLst (fCons (fC .non) (fCons (fC (.bl true)) (fCons (fC (.str "7")) (fCons (fTup (fCons (fC (.int 7)) (fun _ S => .ok [] S))) (fCons (fLst (fun _ S => .ok [] S)) (fCons (fUn gNeg (fC (.int 1))) (fun _ S => .ok [] S)))))))) (fun _ S => .ok [] S))) (fun _ S => .ok [] S))) gNil) (gSeq (gIf (toB (fBin gEq (fVar 3) (fC (.int 7)))) (gRet (fCall S_p_law_pick (fun ds es => pick [(0, 0), (0, 1)] ds es []) 2 0 2 (fCons (fVar 0) (fCons (fLst (fCons (fBin gSub (fVar 1) (fC (.int 1))) (fCons (fBin gAdd (fVar 2) (fC (.int 1))) (fCons (fBin gPow (fC (.int 10)) (fC (.int 9))) (fun _ S => .ok [] S))))) (fun _ S => .ok [] S))) (fun _ S => .ok [] S))) gNil) (gSeq (gIf (toB (fBin gGt (fVar 3) (fC (.int 4)))) (gRet (fBin gIx (fLst (fCons (fVar 1) (fCons (fVar 2) (fun _ S => .ok [] S)))) (fBin gSub (fVar 3) (fC (.int 5))))) gNil) (gRet (fBin gAdd (fVar 1) (fCall S_p_law_next (fun ds es => pick [(0, 0), (0, 1)] ds es []) 2 0 2 (fCons (fVar 0) (fCons (fBin gAdd (fBin gSub (fVar 2) (fVar 1)) (fC (.int 1))) (fun _ S => .ok [] S))) (fun _ S => .ok [] S))))))))
noncomputable def S_p_law_near : Sem' := semOf 4 m_p_law_near
/-! ### _law_got -/
abbrev N_p_law_got : List Str := ["_law_work", "_law_found", "_law_caught", "e"]
noncomputable def m_p_law_got : (Store → Res D) → FS := fun th => (gSeq (gSet 1 (fC .non)) (gSeq (gSet 2 (fC .non)) (gSeq (gTry (gActSet 1 th) (⟨tb_BadGround, some 3, (gSet 2 (fIf (toB (fCB (gIsX tb_ValueError (.ty "ValueError")) (fCons (fVar 3) (fCons (fC (.ty "ValueError")) (fun _ S => .ok [] S))))) (fC (.str "ground")) (fC (.str "other"))))⟩ :: (⟨tb_YardError, none, (gSet 2 (fC (.str "other")))⟩ :: []))) (gRet (fIf (toB (fBin gIs (fVar 2) (fC .non))) (fVar 1) (fVar 2))))))
/-! ### is_whole -/
abbrev N_is_whole : List Str := ["thing", "least", "most"]
noncomputable def m_is_whole : FS := (gRet (fAndV (fCB gIsi (fCons (fVar 0) (fCons (fC (.ty "int")) (fun _ S => .ok [] S)))) (fAndV (fNotV (fCB gIsi (fCons (fVar 0) (fCons (fC (.ty "bool")) (fun _ S => .ok [] S))))) (fChain gLe gLe (fVar 1) (fVar 0) (fVar 2)))))
noncomputable def S_is_whole : Sem' := semOf 3 m_is_whole
/-! ### Ground.init -/
abbrev N_Ground_init : List Str := ["self", "pegs"]
noncomputable def m_Ground_init : FS := (gSeq (gIf (fNotT (toB (fCall (callSub S_is_whole) (fun ds es => pick [(0, 0), (0, 1), (0, 2)] ds es []) 3 0 3 (fCons (fVar 1) (fCons (fC (.int 1)) (fCons (fC (.int (40))) (fun _ S => .ok [] S)))) (fun _ S => .ok [] S)))) (fun ρ S => .ex "BadGround" [] ρ S) gNil) (gSeq (gFld ["Yard"] "stands" (fVar 0) (fBin gRepO (fLst (fCons (fC .non) (fun _ S => .ok [] S))) (fVar 1))) (gFld ["Yard"] "queue" (fVar 0) (fLstO (fun _ S => .ok [] S)))))
noncomputable def S_Ground_init : Sem' := semOf 2 m_Ground_init
/-! ### Floor.init -/
abbrev N_Floor_init : List Str := ["self", "young", "half", "barrier", "most_age"]
noncomputable def m_Floor_init : FS := (gSeq (gFld ["Floor"] "store" (fVar 0) (fBin gRepW (fLst (fCons (fC (.int 0)) (fun _ S => .ok [] S))) (fBin gAdd (fBin gAdd (fC (.int 1)) (fBin gMul (fC (.int 2)) (fVar 1))) (fBin gMul (fC (.int 2)) (fVar 2))))) (gSeq (gFld ["Floor"] "young_places" (fVar 0) (fVar 1)) (gSeq (gFld ["Floor"] "half_places" (fVar 0) (fVar 2)) (gSeq (gFld ["Floor"] "barrier" (fVar 0) (fVar 3)) (gSeq (gFld ["Floor"] "most_age" (fVar 0) (fVar 4)) (gSeq (gFldC ["Floor"] "young_first" "young_top" (fVar 0) (fVar 0) (fC (.int 1))) (gSeq (gFld ["Floor"] "young_spare" (fVar 0) (fBin gAdd (fC (.int 1)) (fVar 1))) (gSeq (gFldC ["Floor"] "old_first" "old_top" (fVar 0) (fVar 0) (fBin gAdd (fC (.int 1)) (fBin gMul (fC (.int 2)) (fVar 1)))) (gSeq (gFldC ["Floor"] "new_first" "new_top" (fVar 0) (fVar 0) (fBin gAdd (fBin gAdd (fC (.int 1)) (fBin gMul (fC (.int 2)) (fVar 1))) (fVar 2))) (gSeq (gFld ["Floor"] "phase" (fVar 0) (fC (.str "rest"))) (gSeq (gFld ["Floor"] "cursor" (fVar 0) (fC (.int 0))) (gSeq (gFld ["Floor"] "greys" (fVar 0) (fLstO (fun _ S => .ok [] S))) (gSeq (gFld ["Floor"] "far_places" (fVar 0) fDict0) (gSeq (gFld ["Floor"] "tie_places" (fVar 0) fDict0) (gSeq (gFld ["Floor"] "last_places" (fVar 0) fDict0) (gSeq (gFld ["Floor"] "serials_made" (fVar 0) (fC (.int 0))) (gFld ["Floor"] "told_news" (fVar 0) (fLstO (fun _ S => .ok [] S)))))))))))))))))))
noncomputable def S_Floor_init : Sem' := semOf 5 m_Floor_init
/-! ### Yard.init -/
abbrev N_Yard_init : List Str := ["self", "pegs", "young", "half", "kind", "ages", "pay", "sizes", "places"]
noncomputable def m_Yard_init : FS := (gSeq (gExpr (fCall S_Ground_init (fun ds es => pick [(0, 0), (0, 1)] ds es []) 2 0 2 (fCons (fVar 0) (fCons (fVar 1) (fun _ S => .ok [] S))) (fun _ S => .ok [] S))) (gSeq (gSet 7 (fComp (fSeq (fTup (fCons (fVar 2) (fCons (fVar 3) (fun _ S => .ok [] S))))) (mName 8) fYes (fCall (callSub S_is_whole) (fun ds es => pick [(0, 0), (0, 1), (0, 2)] ds es []) 3 0 3 (fCons (fVar 8) (fCons (fC (.int (7))) (fCons (fC (.int (400))) (fun _ S => .ok [] S)))) (fun _ S => .ok [] S)) ([("places", 8)].map (·.2)) finL)) (gSeq (gIf (fOrT (fNotT (toB (fCB (gAllAny true) (fCons (fVar 7) (fun _ S => .ok [] S))))) (fOrT (fNotT (toB (fCall (callSub S_is_whole) (fun ds es => pick [(0, 0), (0, 1), (0, 2)] ds es []) 3 0 3 (fCons (fVar 5) (fCons (fC (.int 1)) (fCons (fC (.int 3)) (fun _ S => .ok [] S)))) (fun _ S => .ok [] S)))) (fNotT (toB (fCall (callSub S_is_whole) (fun ds es => pick [(0, 0), (0, 1), (0, 2)] ds es []) 3 0 3 (fCons (fVar 6) (fCons (fC (.int 0)) (fCons (fC (.int (100))) (fun _ S => .ok [] S)))) (fun _ S => .ok [] S)))))) (fun ρ S => .ex "BadGround" [] ρ S) gNil) (gSeq (gIf (fOrT (fNotT (toB (fCB gIsi (fCons (fVar 4) (fCons (fC (.ty "str")) (fun _ S => .ok [] S)))))) (toB (fBin gNotIn (fVar 4) (fTup (fCons (fC (.str "first")) (fCons (fC (.str "last")) (fun _ S => .ok [] S))))))) (fun ρ S => .ex "BadGround" [] ρ S) gNil) (gSeq (gFld ["Yard"] "floor" (fVar 0) (fMake (makeO S_Floor_init (fun ds es => pick [(0, 0), (1, 0), (1, 1), (1, 2), (1, 3)] ds es []) "Floor" 5) 0 4 (fun _ S => .ok [] S) (fCons (fVar 2) (fCons (fVar 3) (fCons (fVar 4) (fCons (fVar 5) (fun _ S => .ok [] S))))))) (gFld ["Yard"] "units_paid" (fVar 0) (fVar 6)))))))
noncomputable def S_Yard_init : Sem' := semOf 9 m_Yard_init
/-! ### _law_made -/
abbrev N_p_law_made : List Str := ["_law_many", "_law_sizes", "_law_sort", "_law_times", "_law_paid", "_law_way"]
noncomputable def m_p_law_made : FS := (gSeq (gIf (toB (fBin gEq (fVar 5) (fC (.int 0)))) (gRet (fMake (makeO S_Yard_init (fun ds es => pick [(0, 0), (0, 1), (1, 0), (1, 1), (1, 2), (1, 3), (1, 4)] ds es []) "Yard" 7) 1 5 (fCons (fVar 0) (fun _ S => .ok [] S)) (fCons (fBin gIx (fVar 1) (fC (.int 0))) (fCons (fBin gIx (fVar 1) (fC (.int 1))) (fCons (fVar 2) (fCons (fVar 3) (fCons (fVar 4) (fun _ S => .ok [] S)))))))) gNil) (gSeq (gIf (toB (fBin gEq (fVar 5) (fC (.int 1)))) (gRet (fMake (makeO S_Yard_init (fun ds es => pick [(0, 0), (0, 1), (1, 4), (1, 3), (1, 2), (1, 1), (1, 0)] ds es []) "Yard" 7) 1 5 (fCons (fVar 0) (fun _ S => .ok [] S)) (fCons (fVar 4) (fCons (fVar 3) (fCons (fVar 2) (fCons (fBin gIx (fVar 1) (fC (.int 1))) (fCons (fBin gIx (fVar 1) (fC (.int 0))) (fun _ S => .ok [] S)))))))) gNil) (gSeq (gIf (toB (fBin gEq (fVar 5) (fC (.int 2)))) (gRet (fMake (makeO S_Yard_init (fun ds es => pick [(0, 0), (0, 1), (2, 0), (1, 1), (1, 0), (2, 1), (2, 2)] ds es [.int 24, .int 2, .int 0]) "Yard" 7) 1 2 (fCons (fVar 0) (fun _ S => .ok [] S)) (fCons (fVar 2) (fCons (fBin gIx (fVar 1) (fC (.int 1))) (fun _ S => .ok [] S))))) gNil) (gSeq (gIf (toB (fBin gEq (fVar 5) (fC (.int 3)))) (gRet (fMake (makeO S_Yard_init (fun ds es => pick [(0, 0), (0, 1), (1, 1), (2, 0), (2, 1), (1, 0), (2, 2)] ds es [.int 96, .str "first", .int 0]) "Yard" 7) 1 2 (fCons (fVar 0) (fun _ S => .ok [] S)) (fCons (fVar 3) (fCons (fBin gIx (fVar 1) (fC (.int 0))) (fun _ S => .ok [] S))))) gNil) (gRet (fMake (makeO S_Yard_init (fun ds es => pick [(0, 0), (0, 1), (2, 0), (2, 1), (2, 2), (2, 3), (2, 4)] ds es [.int 24, .int 96, .str "first", .int 2, .int 0]) "Yard" 7) 1 0 (fCons (fVar 0) (fun _ S => .ok [] S)) (fun _ S => .ok [] S)))))))
noncomputable def S_p_law_made : Sem' := semOf 6 m_p_law_made
/-! ### _law_good -/
abbrev N_p_law_good : List Str := ["_law_thing", "_law_least_one", "_law_most_one"]
noncomputable def m_p_law_good : FS := (gRet (fAndV (fCB gIsi (fCons (fVar 0) (fCons (fC (.ty "int")) (fun _ S => .ok [] S)))) (fAndV (fNotV (fCB gIsi (fCons (fVar 0) (fCons (fC (.ty "bool")) (fun _ S => .ok [] S))))) (fChain gLe gLe (fVar 1) (fVar 0) (fVar 2)))))
noncomputable def S_p_law_good : Sem' := semOf 3 m_p_law_good
/-! ### Ground.pegs -/
abbrev N_Ground_pegs : List Str := ["self"]
noncomputable def m_Ground_pegs : FS := (gRet (fCB gLen (fCons (fFld ["Yard"] "stands" (fVar 0)) (fun _ S => .ok [] S))))
noncomputable def S_Ground_pegs : Sem' := semOf 1 m_Ground_pegs
/-! ### Yard.made -/
abbrev N_Yard_made : List Str := ["self"]
noncomputable def m_Yard_made : FS := (gRet (fFld ["Floor"] "serials_made" (fFld ["Yard"] "floor" (fVar 0))))
noncomputable def S_Yard_made : Sem' := semOf 1 m_Yard_made
/-! ### Yard.news -/
abbrev N_Yard_news : List Str := ["self", "found"]
noncomputable def m_Yard_news : FS := (gSeq (gNameFld 1 ["Floor"] "told_news" (fFld ["Yard"] "floor" (fVar 0)) (fTup (fCons (fFld ["Floor"] "told_news" (fFld ["Yard"] "floor" (fVar 0))) (fCons (fLstO (fun _ S => .ok [] S)) (fun _ S => .ok [] S))))) (gRet (fVar 1)))
noncomputable def S_Yard_news : Sem' := semOf 2 m_Yard_news
/-! ### many_in -/
abbrev N_many_in : List Str := ["word"]
noncomputable def m_many_in : FS := (gRet (fBin gAndM (fBin gShr (fVar 0) (fC (.int 2))) (fC (.int 7))))
noncomputable def S_many_in : Sem' := semOf 1 m_many_in
/-! ### Floor.size -/
abbrev N_Floor_size : List Str := ["self", "place"]
noncomputable def m_Floor_size : FS := (gRet (fBin gAdd (fC (.int 1)) (fCall (callSub S_many_in) (fun ds es => pick [(0, 0)] ds es []) 1 0 1 (fCons (fBin gIx (fFld ["Floor"] "store" (fVar 0)) (fVar 1)) (fun _ S => .ok [] S)) (fun _ S => .ok [] S))))
noncomputable def S_Floor_size : Sem' := semOf 2 m_Floor_size
/-! ### Floor.places -/
abbrev N_Floor_places : List Str := ["self", "first", "top", "found"]
noncomputable def m_Floor_places : FS := (gSeq (gSet 3 (fLstO (fun _ S => .ok [] S))) (gSeq (whileF (toB (fBin gLt (fVar 1) (fVar 2))) (gSeq (gExpr (fBM "list" gApp (fVar 3) (fCons (fVar 1) (fun _ S => .ok [] S)))) (gAug 1 (fMeth S_Floor_size (fun ds es => pick [(0, 0), (0, 1)] ds es []) "Floor" "size" 2 0 2 (fVar 0) (fCons (fVar 1) (fun _ S => .ok [] S)) (fun _ S => .ok [] S)) (gIp fun i j => i + j))) 100000) (gRet (fFrz (fVar 3)))))
noncomputable def S_Floor_places : Sem' := semOf 4 m_Floor_places
/-! ### sort_in -/
abbrev N_sort_in : List Str := ["word"]
noncomputable def m_sort_in : FS := (gRet (fBin gAndM (fVar 0) (fC (.int 3))))
noncomputable def S_sort_in : Sem' := semOf 1 m_sort_in
/-! ### Floor.sort_of -/
abbrev N_Floor_sort_of : List Str := ["self", "place"]
noncomputable def m_Floor_sort_of : FS := (gRet (fCall (callSub S_sort_in) (fun ds es => pick [(0, 0)] ds es []) 1 0 1 (fCons (fBin gIx (fFld ["Floor"] "store" (fVar 0)) (fVar 1)) (fun _ S => .ok [] S)) (fun _ S => .ok [] S)))
noncomputable def S_Floor_sort_of : Sem' := semOf 2 m_Floor_sort_of
/-! ### serial_in -/
abbrev N_serial_in : List Str := ["word"]
noncomputable def m_serial_in : FS := (gRet (fBin gShr (fVar 0) (fC (.int 9))))
noncomputable def S_serial_in : Sem' := semOf 1 m_serial_in
/-! ### Floor.there -/
abbrev N_Floor_there : List Str := ["self", "place"]
noncomputable def m_Floor_there : FS := (gSeq (gIf (toB (fBin gEq (fMeth S_Floor_sort_of (fun ds es => pick [(0, 0), (0, 1)] ds es []) "Floor" "sort_of" 2 0 2 (fVar 0) (fCons (fVar 1) (fun _ S => .ok [] S)) (fun _ S => .ok [] S)) (fC (.int (3))))) (gRet (fCall (callSub S_serial_in) (fun ds es => pick [(0, 0)] ds es []) 1 0 1 (fCons (fBin gIx (fFld ["Floor"] "store" (fVar 0)) (fVar 1)) (fun _ S => .ok [] S)) (fun _ S => .ok [] S))) gNil) (gRet (fVar 1)))
noncomputable def S_Floor_there : Sem' := semOf 2 m_Floor_there
/-! ### Floor.serial_of -/
abbrev N_Floor_serial_of : List Str := ["self", "place"]
noncomputable def m_Floor_serial_of : FS := (gRet (fCall (callSub S_serial_in) (fun ds es => pick [(0, 0)] ds es []) 1 0 1 (fCons (fBin gIx (fFld ["Floor"] "store" (fVar 0)) (fVar 1)) (fun _ S => .ok [] S)) (fun _ S => .ok [] S)))
noncomputable def S_Floor_serial_of : Sem' := semOf 2 m_Floor_serial_of
/-! ### is_place -/
abbrev N_is_place : List Str := ["word"]
noncomputable def m_is_place : FS := (gRet (fAndV (fBin gNe (fVar 0) (fC (.int 0))) (fBin gEq (fBin gAndM (fVar 0) (fC (.int 1))) (fC (.int 0)))))
noncomputable def S_is_place : Sem' := semOf 1 m_is_place
/-! ### value_of -/
abbrev N_value_of : List Str := ["word"]
noncomputable def m_value_of : FS := (gSeq (gIf (toB (fBin gEq (fVar 0) (fC (.int 0)))) (gRet (fC .non)) gNil) (gSeq (gIf (toB (fCall (callSub S_is_place) (fun ds es => pick [(0, 0)] ds es []) 1 0 1 (fCons (fVar 0) (fun _ S => .ok [] S)) (fun _ S => .ok [] S))) (gRet (fTup (fCons (fC (.str "at")) (fCons (fBin gShr (fVar 0) (fC (.int 1))) (fun _ S => .ok [] S))))) gNil) (gRet (fBin gShr (fVar 0) (fC (.int 1))))))
noncomputable def S_value_of : Sem' := semOf 1 m_value_of
/-! ### Floor.words_at -/
abbrev N_Floor_words_at : List Str := ["self", "place"]
noncomputable def m_Floor_words_at : FS := (gRet (fSl (fFld ["Floor"] "store" (fVar 0)) (fPart (fBin gAdd (fVar 1) (fC (.int 1)))) (fPart (fBin gAdd (fVar 1) (fMeth S_Floor_size (fun ds es => pick [(0, 0), (0, 1)] ds es []) "Floor" "size" 2 0 2 (fVar 0) (fCons (fVar 1) (fun _ S => .ok [] S)) (fun _ S => .ok [] S))))))
noncomputable def S_Floor_words_at : Sem' := semOf 2 m_Floor_words_at
/-! ### age_in -/
abbrev N_age_in : List Str := ["word"]
noncomputable def m_age_in : FS := (gRet (fBin gAndM (fBin gShr (fVar 0) (fC (.int 5))) (fC (.int 3))))
noncomputable def S_age_in : Sem' := semOf 1 m_age_in
/-! ### mark_in -/
abbrev N_mark_in : List Str := ["word"]
noncomputable def m_mark_in : FS := (gRet (fBin gAndM (fBin gShr (fVar 0) (fC (.int 7))) (fC (.int 3))))
noncomputable def S_mark_in : Sem' := semOf 1 m_mark_in
/-! ### pictured -/
abbrev N_pictured : List Str := ["floor", "place", "head", "goal", "fields", "word"]
noncomputable def m_pictured : FS := (gSeq (gSet 2 (fBin gIx (fFld ["Floor"] "store" (fVar 0)) (fVar 1))) (gSeq (gIf (toB (fBin gEq (fMeth S_Floor_sort_of (fun ds es => pick [(0, 0), (0, 1)] ds es []) "Floor" "sort_of" 2 0 2 (fVar 0) (fCons (fVar 1) (fun _ S => .ok [] S)) (fun _ S => .ok [] S)) (fC (.int (3))))) (gSeq (gSet 3 (fMeth S_Floor_there (fun ds es => pick [(0, 0), (0, 1)] ds es []) "Floor" "there" 2 0 2 (fVar 0) (fCons (fVar 1) (fun _ S => .ok [] S)) (fun _ S => .ok [] S))) (gRet (fTup (fCons (fVar 1) (fCons (fC (.str "post")) (fCons (fTup (fCons (fTup (fCons (fC (.str "at")) (fCons (fVar 3) (fun _ S => .ok [] S)))) (fun _ S => .ok [] S))) (fCons (fC (.int 0)) (fCons (fC (.int 0)) (fCons (fMeth S_Floor_serial_of (fun ds es => pick [(0, 0), (0, 1)] ds es []) "Floor" "serial_of" 2 0 2 (fVar 0) (fCons (fVar 3) (fun _ S => .ok [] S)) (fun _ S => .ok [] S)) (fun _ S => .ok [] S)))))))))) gNil) (gSeq (gSet 4 (fCB gTuple (fCons (fComp (fSeq (fMeth S_Floor_words_at (fun ds es => pick [(0, 0), (0, 1)] ds es []) "Floor" "words_at" 2 0 2 (fVar 0) (fCons (fVar 1) (fun _ S => .ok [] S)) (fun _ S => .ok [] S))) (mName 5) fYes (fCall (callSub S_value_of) (fun ds es => pick [(0, 0)] ds es []) 1 0 1 (fCons (fVar 5) (fun _ S => .ok [] S)) (fun _ S => .ok [] S)) ([("word", 5)].map (·.2)) finL) (fun _ S => .ok [] S)))) (gRet (fTup (fCons (fVar 1) (fCons (fBin gIx (fC (.tup ((["cell", "last", "tie", "post"] : List Str).map D.str))) (fMeth S_Floor_sort_of (fun ds es => pick [(0, 0), (0, 1)] ds es []) "Floor" "sort_of" 2 0 2 (fVar 0) (fCons (fVar 1) (fun _ S => .ok [] S)) (fun _ S => .ok [] S))) (fCons (fVar 4) (fCons (fCall (callSub S_age_in) (fun ds es => pick [(0, 0)] ds es []) 1 0 1 (fCons (fVar 2) (fun _ S => .ok [] S)) (fun _ S => .ok [] S)) (fCons (fCall (callSub S_mark_in) (fun ds es => pick [(0, 0)] ds es []) 1 0 1 (fCons (fVar 2) (fun _ S => .ok [] S)) (fun _ S => .ok [] S)) (fCons (fMeth S_Floor_serial_of (fun ds es => pick [(0, 0), (0, 1)] ds es []) "Floor" "serial_of" 2 0 2 (fVar 0) (fCons (fVar 1) (fun _ S => .ok [] S)) (fun _ S => .ok [] S)) (fun _ S => .ok [] S))))))))))))
noncomputable def S_pictured : Sem' := semOf 6 m_pictured
/-! ### Yard.picture -/
abbrev N_Yard_picture : List Str := ["self", "floor", "parts", "found", "places", "first", "top", "end", "place"]
noncomputable def m_Yard_picture : FS := (gSeq (gSet 1 (fFld ["Yard"] "floor" (fVar 0))) (gSeq (gSet 2 (fDisp (fPs (fC (.str "young")) (fTup (fCons (fFld ["Floor"] "young_first" (fVar 1)) (fCons (fFld ["Floor"] "young_top" (fVar 1)) (fCons (fBin gAdd (fFld ["Floor"] "young_first" (fVar 1)) (fFld ["Floor"] "young_places" (fVar 1))) (fun _ S => .ok [] S))))) (fPs (fC (.str "old")) (fTup (fCons (fFld ["Floor"] "old_first" (fVar 1)) (fCons (fFld ["Floor"] "old_top" (fVar 1)) (fCons (fBin gAdd (fFld ["Floor"] "old_first" (fVar 1)) (fFld ["Floor"] "half_places" (fVar 1))) (fun _ S => .ok [] S))))) (fPs (fC (.str "new")) (fTup (fCons (fFld ["Floor"] "new_first" (fVar 1)) (fCons (fFld ["Floor"] "new_top" (fVar 1)) (fCons (fBin gAdd (fFld ["Floor"] "new_first" (fVar 1)) (fFld ["Floor"] "half_places" (fVar 1))) (fun _ S => .ok [] S))))) fPs0))))) (gSeq (gSet 3 (fDisp (fPs (fC (.str "kind")) (fFld ["Floor"] "barrier" (fVar 1)) (fPs (fC (.str "phase")) (fFld ["Floor"] "phase" (fVar 1)) (fPs (fC (.str "ages")) (fFld ["Floor"] "most_age" (fVar 1)) (fPs (fC (.str "next")) (fFld ["Floor"] "cursor" (fVar 1)) fPs0)))))) (gSeq (gExpr (fBM "dict" gUpd (fVar 3) (fCons (fVar 2) (fun _ S => .ok [] S)))) (gSeq (gSet 4 (fCB gSorted (fCons (fComp2 (fValsJ (fVar 2)) (mTup 3 (mCons (mName 5) (mCons (mName 6) (mCons (mName 7) (fun ds ρ _ => match ds with | [] => some ρ | _ => none))))) fYes (fSeq (fMeth S_Floor_places (fun ds es => pick [(0, 0), (0, 1), (0, 2)] ds es []) "Floor" "places" 3 0 3 (fVar 1) (fCons (fVar 5) (fCons (fVar 6) (fun _ S => .ok [] S))) (fun _ S => .ok [] S))) (mName 8) fYes (fVar 8) ([("first", 5), ("top", 6), ("end", 7), ("place", 8)].map (·.2)) [8] finL) (fun _ S => .ok [] S)))) (gSeq (gPut (fVar 3) (fC (.str "cells")) (fComp (fSeq (fVar 4)) (mName 8) fYes (fCall (callSub S_pictured) (fun ds es => pick [(0, 0), (0, 1)] ds es []) 2 0 2 (fCons (fVar 1) (fCons (fVar 8) (fun _ S => .ok [] S))) (fun _ S => .ok [] S)) ([("place", 8)].map (·.2)) finL)) (gSeq (gPut (fVar 3) (fC (.str "pegs")) (fCB gList (fCons (fFld ["Yard"] "stands" (fVar 0)) (fun _ S => .ok [] S)))) (gSeq (gPut (fVar 3) (fC (.str "due")) (fCB gList (fCons (fFld ["Yard"] "queue" (fVar 0)) (fun _ S => .ok [] S)))) (gSeq (gPut (fVar 3) (fC (.str "far")) (fCB gSortDI (fCons (fFld ["Floor"] "far_places" (fVar 1)) (fun _ S => .ok [] S)))) (gSeq (gPut (fVar 3) (fC (.str "ties")) (fCB gSortDI (fCons (fFld ["Floor"] "tie_places" (fVar 1)) (fun _ S => .ok [] S)))) (gSeq (gPut (fVar 3) (fC (.str "lasts")) (fCB gSortDI (fCons (fFld ["Floor"] "last_places" (fVar 1)) (fun _ S => .ok [] S)))) (gRet (fFrz (fVar 3))))))))))))))
noncomputable def S_Yard_picture : Sem' := semOf 9 m_Yard_picture
/-! ### word_of -/
abbrev N_word_of : List Str := ["value"]
noncomputable def m_word_of : FS := (gSeq (gIf (toB (fBin gIs (fVar 0) (fC .non))) (gRet (fC (.int 0))) gNil) (gSeq (gIf (toB (fCB gIsi (fCons (fVar 0) (fCons (fC (.ty "tuple")) (fun _ S => .ok [] S))))) (gRet (fBin gShl (fBin gIx (fVar 0) (fC (.int 1))) (fC (.int 1)))) gNil) (gRet (fBin gAdd (fBin gShl (fVar 0) (fC (.int 1))) (fC (.int 1))))))
noncomputable def S_word_of : Sem' := semOf 1 m_word_of
/-! ### Floor.there_word -/
abbrev N_Floor_there_word : List Str := ["self", "word"]
noncomputable def m_Floor_there_word : FS := (gSeq (gIf (fNotT (toB (fCall (callSub S_is_place) (fun ds es => pick [(0, 0)] ds es []) 1 0 1 (fCons (fVar 1) (fun _ S => .ok [] S)) (fun _ S => .ok [] S)))) (gRet (fVar 1)) gNil) (gRet (fBin gShl (fMeth S_Floor_there (fun ds es => pick [(0, 0), (0, 1)] ds es []) "Floor" "there" 2 0 2 (fVar 0) (fCons (fBin gShr (fVar 1) (fC (.int 1))) (fun _ S => .ok [] S)) (fun _ S => .ok [] S)) (fC (.int 1)))))
noncomputable def S_Floor_there_word : Sem' := semOf 2 m_Floor_there_word
/-! ### Yard.seen_places@o -/
abbrev N_Yard_seen_places_o : List Str := ["self", "numbers", "waiting", "later", "word", "place", "value"]
noncomputable def m_Yard_seen_places_o : FS := (gSeq (gSet 1 fDict0) (gSeq (gSet 2 (fComp (fSeq (fBin gAdd (fFld ["Yard"] "stands" (fVar 0)) (fFld ["Yard"] "queue" (fVar 0)))) (mName 6) fYes (fCall (callSub S_word_of) (fun ds es => pick [(0, 0)] ds es []) 1 0 1 (fCons (fVar 6) (fun _ S => .ok [] S)) (fun _ S => .ok [] S)) ([("value", 6)].map (·.2)) finL)) (gSeq (whileF (toB (fBin gNe (fVar 2) (fLst (fun _ S => .ok [] S)))) (gSeq (gSet 3 (fLstO (fun _ S => .ok [] S))) (gSeq (gFor (fSeq (fVar 2)) (mName 4) (gSeq (gSet 5 (fBin gShr (fMeth S_Floor_there_word (fun ds es => pick [(0, 0), (0, 1)] ds es []) "Floor" "there_word" 2 0 2 (fFld ["Yard"] "floor" (fVar 0)) (fCons (fVar 4) (fun _ S => .ok [] S)) (fun _ S => .ok [] S)) (fC (.int 1)))) (gIf (fAndT (toB (fCall (callSub S_is_place) (fun ds es => pick [(0, 0)] ds es []) 1 0 1 (fCons (fVar 4) (fun _ S => .ok [] S)) (fun _ S => .ok [] S))) (toB (fBin gNotIn (fVar 5) (fVar 1)))) (gSeq (gPut (fVar 1) (fVar 5) (fCB gLen (fCons (fVar 1) (fun _ S => .ok [] S)))) (gExpr (fBM "list" gExt (fVar 3) (fCons (fMeth S_Floor_words_at (fun ds es => pick [(0, 0), (0, 1)] ds es []) "Floor" "words_at" 2 0 2 (fFld ["Yard"] "floor" (fVar 0)) (fCons (fVar 5) (fun _ S => .ok [] S)) (fun _ S => .ok [] S)) (fun _ S => .ok [] S))))) gNil))) (gSet 2 (fVar 3)))) 100000) (gRet (fVar 1)))))
noncomputable def S_Yard_seen_places_o : Sem' := semOf 7 m_Yard_seen_places_o
/-! ### Yard.serials -/
abbrev N_Yard_serials : List Str := ["self", "place"]
noncomputable def m_Yard_serials : FS := (gRet (fComp (fKeysJ (fMeth S_Yard_seen_places_o (fun ds es => pick [(0, 0)] ds es []) "Yard" "seen_places" 1 0 1 (fVar 0) (fun _ S => .ok [] S) (fun _ S => .ok [] S))) (mName 1) fYes (fMeth S_Floor_serial_of (fun ds es => pick [(0, 0), (0, 1)] ds es []) "Floor" "serial_of" 2 0 2 (fFld ["Yard"] "floor" (fVar 0)) (fCons (fVar 1) (fun _ S => .ok [] S)) (fun _ S => .ok [] S)) ([("place", 1)].map (·.2)) finL))
noncomputable def S_Yard_serials : Sem' := semOf 2 m_Yard_serials
/-! ### Yard.step -/
abbrev N_Yard_step : List Str := ["self", "units", "unit"]
noncomputable def m_Yard_step : FS := (gSeq (gIf (fNotT (toB (fCall (callSub S_is_whole) (fun ds es => pick [(0, 0), (0, 1), (0, 2)] ds es []) 3 0 3 (fCons (fVar 1) (fCons (fC (.int 0)) (fCons (fC (.int (1000))) (fun _ S => .ok [] S)))) (fun _ S => .ok [] S)))) (fun ρ S => .ex "BadNumber" [] ρ S) gNil) (gSeq (gFor (fRng1 (fCons (fVar 1) (fun _ S => .ok [] S))) (mName 2) (gIf (toB (fBin gIn (fFld ["Floor"] "phase" (fFld ["Yard"] "floor" (fVar 0))) (fTup (fCons (fC (.str "mark")) (fCons (fC (.str "back")) (fun _ S => .ok [] S)))))) (fun _ _ => .stuck) (gIf (toB (fBin gEq (fFld ["Floor"] "phase" (fFld ["Yard"] "floor" (fVar 0))) (fC (.str "move")))) (fun _ _ => .stuck) (gIf (toB (fBin gEq (fFld ["Floor"] "phase" (fFld ["Yard"] "floor" (fVar 0))) (fC (.str "mend")))) (fun _ _ => .stuck) gNil)))) (gRet (fFld ["Floor"] "phase" (fFld ["Yard"] "floor" (fVar 0))))))
noncomputable def S_Yard_step : Sem' := semOf 3 m_Yard_step
/-! ### Ground.sure_pegs -/
abbrev N_Ground_sure_pegs : List Str := ["self", "some", "p"]
noncomputable def m_Ground_sure_pegs : FS := (gIf (fNotT (toB (fCB (gAllAny true) (fCons (fComp (fSeq (fVar 1)) (mName 2) fYes (fCall (callSub S_is_whole) (fun ds es => pick [(0, 0), (0, 1), (0, 2)] ds es []) 3 0 3 (fCons (fVar 2) (fCons (fC (.int 0)) (fCons (fBin gSub (fCB gLen (fCons (fFld ["Yard"] "stands" (fVar 0)) (fun _ S => .ok [] S))) (fC (.int 1))) (fun _ S => .ok [] S)))) (fun _ S => .ok [] S)) ([("p", 2)].map (·.2)) finL) (fun _ S => .ok [] S))))) (fun _ _ => .stuck) gNil)
noncomputable def S_Ground_sure_pegs : Sem' := semOf 3 m_Ground_sure_pegs
/-! ### Yard.goal -/
abbrev N_Yard_goal : List Str := ["self", "value"]
noncomputable def m_Yard_goal : FS := (gRet (fCall (callSub S_value_of) (fun ds es => pick [(0, 0)] ds es []) 1 0 1 (fCons (fMeth S_Floor_there_word (fun ds es => pick [(0, 0), (0, 1)] ds es []) "Floor" "there_word" 2 0 2 (fFld ["Yard"] "floor" (fVar 0)) (fCons (fCall (callSub S_word_of) (fun ds es => pick [(0, 0)] ds es []) 1 0 1 (fCons (fVar 1) (fun _ S => .ok [] S)) (fun _ S => .ok [] S)) (fun _ S => .ok [] S)) (fun _ S => .ok [] S)) (fun _ S => .ok [] S)) (fun _ S => .ok [] S)))
noncomputable def S_Yard_goal : Sem' := semOf 2 m_Yard_goal
/-! ### led_to_webs -/
abbrev N_led_to_webs : List Str := ["value"]
noncomputable def m_led_to_webs : FS := (gRet (fIf (toB (fCB gIsi (fCons (fVar 0) (fCons (fC (.ty "tuple")) (fun _ S => .ok [] S))))) (fBin gIx (fVar 0) (fC (.int 1))) (fC .non)))
noncomputable def S_led_to_webs : Sem' := semOf 1 m_led_to_webs
/-! ### Yard.sort_at -/
abbrev N_Yard_sort_at : List Str := ["self", "value"]
noncomputable def m_Yard_sort_at : FS := (gRet (fBin gIx (fC (.tup ((["cell", "last", "tie", "post"] : List Str).map D.str))) (fMeth S_Floor_sort_of (fun ds es => pick [(0, 0), (0, 1)] ds es []) "Floor" "sort_of" 2 0 2 (fFld ["Yard"] "floor" (fVar 0)) (fCons (fBin gIx (fMeth S_Yard_goal (fun ds es => pick [(0, 0), (0, 1)] ds es []) "Yard" "goal" 2 0 2 (fVar 0) (fCons (fVar 1) (fun _ S => .ok [] S)) (fun _ S => .ok [] S)) (fC (.int 1))) (fun _ S => .ok [] S)) (fun _ S => .ok [] S))))
noncomputable def S_Yard_sort_at : Sem' := semOf 2 m_Yard_sort_at
/-! ### Ground.what -/
abbrev N_Ground_what : List Str := ["self", "p", "value"]
noncomputable def m_Ground_what : FS := (gSeq (gExpr (fMeth S_Ground_sure_pegs (fun ds es => pick [(0, 0), (0, 1)] ds es []) "Yard" "sure_pegs" 2 0 2 (fVar 0) (fCons (fLst (fCons (fVar 1) (fun _ S => .ok [] S))) (fun _ S => .ok [] S)) (fun _ S => .ok [] S))) (gSeq (gSet 2 (fMeth S_Yard_goal (fun ds es => pick [(0, 0), (0, 1)] ds es []) "Yard" "goal" 2 0 2 (fVar 0) (fCons (fBin gIx (fFld ["Yard"] "stands" (fVar 0)) (fVar 1)) (fun _ S => .ok [] S)) (fun _ S => .ok [] S))) (gSeq (gIf (toB (fBin gIs (fCall (callSub S_led_to_webs) (fun ds es => pick [(0, 0)] ds es []) 1 0 1 (fCons (fVar 2) (fun _ S => .ok [] S)) (fun _ S => .ok [] S)) (fC .non))) (gRet (fVar 2)) gNil) (gRet (fIf (toB (fBin gEq (fMeth S_Yard_sort_at (fun ds es => pick [(0, 0), (0, 1)] ds es []) "Yard" "sort_at" 2 0 2 (fVar 0) (fCons (fVar 2) (fun _ S => .ok [] S)) (fun _ S => .ok [] S)) (fC (.str "tie")))) (fC (.str "tie")) (fC (.str "cell")))))))
noncomputable def S_Ground_what : Sem' := semOf 3 m_Ground_what
/-! ### _law_steps_right -/
abbrev N_p_law_steps_right : List Str := ["_law_found", "_law_count", "_law_caught"]
noncomputable def m_p_law_steps_right : FS := (gSeq (gFor (fSeq (fLst (fCons (fUn gNeg (fC (.int 1))) (fCons (fC (.int 1001)) (fCons (fC .non) (fCons (fC (.bl true)) (fCons (fC (.str "1")) (fCons (fTup (fCons (fC (.int 1)) (fun _ S => .ok [] S))) (fCons (fBin gPow (fC (.int 10)) (fC (.int 9))) (fun _ S => .ok [] S)))))))))) (mName 1) (gSeq (gSet 2 (fC (.str "none"))) (gSeq (gTry (gExpr (fMeth S_Yard_step (fun ds es => pick [(0, 0), (1, 0)] ds es []) "Yard" "step" 1 1 2 (fVar 0) (fun _ S => .ok [] S) (fCons (fVar 1) (fun _ S => .ok [] S)))) (⟨tb_BadNumber, none, (gSet 2 (fC (.str "number")))⟩ :: (⟨tb_YardError, none, (gSet 2 (fC (.str "other")))⟩ :: []))) (gIf (toB (fBin gNe (fVar 2) (fC (.str "number")))) (gRet (fC (.bl false))) gNil)))) (gRet (fBin gEq (fLst (fCons (fMeth S_Yard_step (fun ds es => pick [(0, 0), (1, 0)] ds es []) "Yard" "step" 1 1 2 (fVar 0) (fun _ S => .ok [] S) (fCons (fC (.int 0)) (fun _ S => .ok [] S))) (fCons (fMeth S_Yard_step (fun ds es => pick [(0, 0), (1, 0)] ds es []) "Yard" "step" 1 1 2 (fVar 0) (fun _ S => .ok [] S) (fCons (fC (.int 1000)) (fun _ S => .ok [] S))) (fun _ S => .ok [] S)))) (fLst (fCons (fC (.str "rest")) (fCons (fC (.str "rest")) (fun _ S => .ok [] S)))))))
noncomputable def S_p_law_steps_right : Sem' := semOf 3 m_p_law_steps_right
/-! ### _law_new_right -/
abbrev N_p_law_new_right : List Str := ["_law_found", "_law_many", "_law_sizes", "_law_sort", "_law_times", "_law_seen", "_law_part", "_law_size", "_law_first", "_law_top", "_law_end", "_law_rest", "_law_p"]
noncomputable def m_p_law_new_right : FS := (gSeq (gIf (fOrT (fNotT (toB (fCB (gIsiC "Yard") (fCons (fVar 0) (fCons (fC (.cls "Yard")) (fun _ S => .ok [] S)))))) (fOrT (toB (fBin gNe (fMeth S_Ground_pegs (fun ds es => pick [(0, 0)] ds es []) "Yard" "pegs" 1 0 1 (fVar 0) (fun _ S => .ok [] S) (fun _ S => .ok [] S)) (fVar 1))) (fOrT (toB (fBin gNe (fMeth S_Yard_made (fun ds es => pick [(0, 0)] ds es []) "Yard" "made" 1 0 1 (fVar 0) (fun _ S => .ok [] S) (fun _ S => .ok [] S)) (fC (.int 0)))) (toB (fBin gNe (fMeth S_Yard_news (fun ds es => pick [(0, 0)] ds es []) "Yard" "news" 1 0 1 (fVar 0) (fun _ S => .ok [] S) (fun _ S => .ok [] S)) (fLst (fun _ S => .ok [] S))))))) (gRet (fC (.bl false))) gNil) (gSeq (gSet 5 (fMeth S_Yard_picture (fun ds es => pick [(0, 0)] ds es []) "Yard" "picture" 1 0 1 (fVar 0) (fun _ S => .ok [] S) (fun _ S => .ok [] S))) (gSeq (gIf (toB (fBin gNe (fLst (fCons (fBin gIx (fVar 5) (fC (.str "kind"))) (fCons (fBin gIx (fVar 5) (fC (.str "phase"))) (fCons (fBin gIx (fVar 5) (fC (.str "ages"))) (fCons (fBin gIx (fVar 5) (fC (.str "next"))) (fun _ S => .ok [] S)))))) (fLst (fCons (fVar 3) (fCons (fC (.str "rest")) (fCons (fVar 4) (fCons (fC (.int 0)) (fun _ S => .ok [] S)))))))) (gRet (fC (.bl false))) gNil) (gSeq (gFor (fSeq (fLst (fCons (fTup (fCons (fC (.str "young")) (fCons (fBin gIx (fVar 2) (fC (.int 0))) (fun _ S => .ok [] S)))) (fCons (fTup (fCons (fC (.str "old")) (fCons (fBin gIx (fVar 2) (fC (.int 1))) (fun _ S => .ok [] S)))) (fCons (fTup (fCons (fC (.str "new")) (fCons (fBin gIx (fVar 2) (fC (.int 1))) (fun _ S => .ok [] S)))) (fun _ S => .ok [] S)))))) (mTup 2 (mCons (mName 6) (mCons (mName 7) (fun ds ρ _ => match ds with | [] => some ρ | _ => none)))) (gSeq (gAsg (mTup 3 (mCons (mName 8) (mCons (mName 9) (mCons (mName 10) (fun ds ρ _ => match ds with | [] => some ρ | _ => none))))) (fBin gIx (fVar 5) (fVar 6))) (gIf (fOrT (toB (fBin gNe (fVar 9) (fVar 8))) (fOrT (toB (fBin gNe (fBin gSub (fVar 10) (fVar 8)) (fVar 7))) (toB (fBin gLt (fVar 8) (fC (.int 1)))))) (gRet (fC (.bl false))) gNil))) (gSeq (gSet 11 (fLst (fCons (fBin gIx (fVar 5) (fC (.str "cells"))) (fCons (fBin gIx (fVar 5) (fC (.str "due"))) (fCons (fBin gIx (fVar 5) (fC (.str "far"))) (fCons (fBin gIx (fVar 5) (fC (.str "ties"))) (fCons (fBin gIx (fVar 5) (fC (.str "lasts"))) (fCons (fMeth S_Yard_serials (fun ds es => pick [(0, 0)] ds es []) "Yard" "serials" 1 0 1 (fVar 0) (fun _ S => .ok [] S) (fun _ S => .ok [] S)) (fun _ S => .ok [] S))))))))) (gSeq (gIf (fOrT (toB (fBin gNe (fVar 11) (fBin gRepL (fLst (fCons (fLst (fun _ S => .ok [] S)) (fun _ S => .ok [] S))) (fC (.int 6))))) (fOrT (toB (fBin gNe (fBin gIx (fVar 5) (fC (.str "pegs"))) (fBin gRepL (fLst (fCons (fC .non) (fun _ S => .ok [] S))) (fVar 1)))) (toB (fBin gNe (fMeth S_Yard_step (fun ds es => pick [(0, 0), (2, 0)] ds es [.int 1]) "Yard" "step" 1 0 2 (fVar 0) (fun _ S => .ok [] S) (fun _ S => .ok [] S)) (fC (.str "rest")))))) (gRet (fC (.bl false))) gNil) (gRet (fAndV (fBin gEq (fComp (fRng1 (fCons (fVar 1) (fun _ S => .ok [] S))) (mName 12) fYes (fMeth S_Ground_what (fun ds es => pick [(0, 0), (0, 1)] ds es []) "Yard" "what" 2 0 2 (fVar 0) (fCons (fVar 12) (fun _ S => .ok [] S)) (fun _ S => .ok [] S)) ([("_law_p", 12)].map (·.2)) finL) (fBin gRepL (fLst (fCons (fC .non) (fun _ S => .ok [] S))) (fVar 1))) (fCall S_p_law_steps_right (fun ds es => pick [(0, 0)] ds es []) 1 0 1 (fCons (fVar 0) (fun _ S => .ok [] S)) (fun _ S => .ok [] S))))))))))
noncomputable def S_p_law_new_right : Sem' := semOf 13 m_p_law_new_right
/-! ### law -/
abbrev N_law : List Str := ["_law_script", "_law_cell", "_law_state_here", "_law_way", "_law_many", "_law_sizes", "_law_sort", "_law_times", "_law_paid", "_law_found", "_law_good_here", "_law_size"]
noncomputable def m_law : FS := (gSeq (gFor (fRng1 (fCons (fCB gMax (fCons (fC (.int 1)) (fCons (fCB gMin (fCons (fC (.int 8)) (fCons (fCB gLen (fCons (fVar 0) (fun _ S => .ok [] S))) (fun _ S => .ok [] S)))) (fun _ S => .ok [] S)))) (fun _ S => .ok [] S))) (mName 1) (gSeq (gSet 2 (fCall S_p_law_state (fun ds es => pick [(0, 0), (0, 1)] ds es []) 2 0 2 (fCons (fVar 0) (fCons (fVar 1) (fun _ S => .ok [] S))) (fun _ S => .ok [] S))) (gSeq (gSet 3 (fCall S_p_law_next (fun ds es => pick [(0, 0), (0, 1)] ds es []) 2 0 2 (fCons (fVar 2) (fCons (fC (.int 5)) (fun _ S => .ok [] S))) (fun _ S => .ok [] S))) (gSeq (gAsg (mTup 2 (mCons (mName 4) (mCons (mName 5) (fun ds ρ _ => match ds with | [] => some ρ | _ => none)))) (fTup (fCons (fCall S_p_law_near (fun ds es => pick [(0, 0), (0, 1), (0, 2)] ds es []) 3 0 3 (fCons (fVar 2) (fCons (fC (.int 1)) (fCons (fC (.int 40)) (fun _ S => .ok [] S)))) (fun _ S => .ok [] S)) (fCons (fTup (fCons (fCall S_p_law_near (fun ds es => pick [(0, 0), (0, 1), (0, 2)] ds es []) 3 0 3 (fCons (fVar 2) (fCons (fC (.int 7)) (fCons (fC (.int 400)) (fun _ S => .ok [] S)))) (fun _ S => .ok [] S)) (fCons (fCall S_p_law_near (fun ds es => pick [(0, 0), (0, 1), (0, 2)] ds es []) 3 0 3 (fCons (fVar 2) (fCons (fC (.int 7)) (fCons (fC (.int 400)) (fun _ S => .ok [] S)))) (fun _ S => .ok [] S)) (fun _ S => .ok [] S)))) (fun _ S => .ok [] S))))) (gSeq (gSet 6 (fCall S_p_law_pick (fun ds es => pick [(0, 0), (0, 1)] ds es []) 2 0 2 (fCons (fVar 2) (fCons (fLst (fCons (fC (.str "first")) (fCons (fC (.str "last")) (fCons (fC (.str "first")) (fCons (fC (.str "last")) (fCons (fC (.str "First")) (fCons (fC (.str "")) (fCons (fC .non) (fCons (fC (.int 1)) (fCons (fTup (fCons (fC (.str "first")) (fun _ S => .ok [] S))) (fCons (fLst (fCons (fC (.str "last")) (fun _ S => .ok [] S))) (fun _ S => .ok [] S)))))))))))) (fun _ S => .ok [] S))) (fun _ S => .ok [] S))) (gSeq (gAsg (mTup 2 (mCons (mName 7) (mCons (mName 8) (fun ds ρ _ => match ds with | [] => some ρ | _ => none)))) (fTup (fCons (fCall S_p_law_near (fun ds es => pick [(0, 0), (0, 1), (0, 2)] ds es []) 3 0 3 (fCons (fVar 2) (fCons (fC (.int 1)) (fCons (fC (.int 3)) (fun _ S => .ok [] S)))) (fun _ S => .ok [] S)) (fCons (fCall S_p_law_near (fun ds es => pick [(0, 0), (0, 1), (0, 2)] ds es []) 3 0 3 (fCons (fVar 2) (fCons (fC (.int 0)) (fCons (fC (.int 100)) (fun _ S => .ok [] S)))) (fun _ S => .ok [] S)) (fun _ S => .ok [] S))))) (gSeq (gSet 9 (fTold ("law", none) ((("law" : Str) ++ ".<locals>.") ++ "<lambda>") 4 m_p_law_got (fCall S_p_law_made (fun ds es => pick [(0, 0), (0, 1), (0, 2), (0, 3), (0, 4), (0, 5)] ds es []) 6 0 6 (fCons (fVar 4) (fCons (fVar 5) (fCons (fVar 6) (fCons (fVar 7) (fCons (fVar 8) (fCons (fVar 3) (fun _ S => .ok [] S))))))) (fun _ S => .ok [] S)))) (gSeq (gIf (toB (fBin gGt (fVar 3) (fC (.int 1)))) (gSet 8 (fC (.int 0))) gNil) (gSeq (gIf (toB (fBin gGt (fVar 3) (fC (.int 2)))) (gSet 6 (fC (.str "first"))) gNil) (gSeq (gIf (toB (fBin gEq (fVar 3) (fC (.int 2)))) (gAsg (mTup 2 (mCons (mName 5) (mCons (mName 7) (fun ds ρ _ => match ds with | [] => some ρ | _ => none)))) (fTup (fCons (fTup (fCons (fC (.int 24)) (fCons (fBin gIx (fVar 5) (fC (.int 1))) (fun _ S => .ok [] S)))) (fCons (fC (.int 2)) (fun _ S => .ok [] S))))) gNil) (gSeq (gIf (toB (fBin gEq (fVar 3) (fC (.int 3)))) (gSet 5 (fTup (fCons (fBin gIx (fVar 5) (fC (.int 0))) (fCons (fC (.int 96)) (fun _ S => .ok [] S))))) gNil) (gSeq (gIf (toB (fBin gEq (fVar 3) (fC (.int 4)))) (gAsg (mTup 2 (mCons (mName 5) (mCons (mName 7) (fun ds ρ _ => match ds with | [] => some ρ | _ => none)))) (fTup (fCons (fTup (fCons (fC (.int 24)) (fCons (fC (.int 96)) (fun _ S => .ok [] S)))) (fCons (fC (.int 2)) (fun _ S => .ok [] S))))) gNil) (gSeq (gSet 10 (fBin gAdd (fLst (fCons (fCall (callSub S_p_law_good) (fun ds es => pick [(0, 0), (0, 1), (0, 2)] ds es []) 3 0 3 (fCons (fVar 4) (fCons (fC (.int 1)) (fCons (fC (.int 40)) (fun _ S => .ok [] S)))) (fun _ S => .ok [] S)) (fun _ S => .ok [] S))) (fComp (fSeq (fVar 5)) (mName 11) fYes (fCall (callSub S_p_law_good) (fun ds es => pick [(0, 0), (0, 1), (0, 2)] ds es []) 3 0 3 (fCons (fVar 11) (fCons (fC (.int 7)) (fCons (fC (.int 400)) (fun _ S => .ok [] S)))) (fun _ S => .ok [] S)) ([("_law_size", 11)].map (·.2)) finL))) (gSeq (gSet 10 (fBin gAdd (fVar 10) (fLst (fCons (fBin gInTD (fVar 6) (fTup (fCons (fC (.str "first")) (fCons (fC (.str "last")) (fun _ S => .ok [] S))))) (fCons (fCall (callSub S_p_law_good) (fun ds es => pick [(0, 0), (0, 1), (0, 2)] ds es []) 3 0 3 (fCons (fVar 7) (fCons (fC (.int 1)) (fCons (fC (.int 3)) (fun _ S => .ok [] S)))) (fun _ S => .ok [] S)) (fCons (fCall (callSub S_p_law_good) (fun ds es => pick [(0, 0), (0, 1), (0, 2)] ds es []) 3 0 3 (fCons (fVar 8) (fCons (fC (.int 0)) (fCons (fC (.int 100)) (fun _ S => .ok [] S)))) (fun _ S => .ok [] S)) (fun _ S => .ok [] S))))))) (gSeq (gIf (fAndT (toB (fBin gIn (fC (.bl false)) (fVar 10))) (toB (fBin gNe (fVar 9) (fC (.str "ground"))))) (gRet (fC (.bl false))) gNil) (gSeq (gIf (toB (fBin gIn (fC (.bl false)) (fVar 10))) (fun ρ S => .ct ρ S) gNil) (gIf (fOrT (toB (fCB (gIsiY "Yard" "str") (fCons (fVar 9) (fCons (fC (.ty "str")) (fun _ S => .ok [] S))))) (fNotT (toB (fCall S_p_law_new_right (fun ds es => pick [(0, 0), (0, 1), (0, 2), (0, 3), (0, 4)] ds es []) 5 0 5 (fCons (fVar 9) (fCons (fVar 4) (fCons (fVar 5) (fCons (fVar 6) (fCons (fVar 7) (fun _ S => .ok [] S)))))) (fun _ S => .ok [] S))))) (gRet (fC (.bl false))) gNil))))))))))))))))) (gRet (fC (.bl true))))
noncomputable def S_law : Sem' := semOf 12 m_law
structure Txt (K : PySem.W.Frag) (mg : Str → Option Value) : Prop where
  says : He.SaysD fa fn K
  glo : ∀ {x : Str}, (He.Fa.glo x).ok K = true → mg x = some (.ref (He.ga K x))
  free : ∀ {x : Str}, (He.Fa.free x).ok K = true → mg x = none
  int : ∀ {x : Str} {i : Int}, (He.Fa.int x i).ok K = true → ∃ t, mg x = some (.int i t)
  str : ∀ {x z : Str}, (He.Fa.str x z).ok K = true → ∃ t, mg x = some (.str z t)
  ex : exB K = true
section
variable {K : PySem.W.Frag} {mg : Str → Option Value}
theorem txt_of {h : Heap} (X : K.In h) (G : h.Ns mainGlobals mg) (c : He.SaysD fa fn K) (cx : exB K = true) : Txt K mg := ⟨c, fun q => He.glo_ok X G q, fun q => He.free_ok X G q, fun q => He.int_ok X G q, fun q => He.str_ok X G q, cx⟩
theorem glo_p_law_state (T : Txt K mg) : mg "_law_state" = some (.ref (He.fAd K d_p_law_state.at_)) := T.glo (T.says.fact 0 (f := .glo "_law_state") rfl)
theorem glo_p_law_next (T : Txt K mg) : mg "_law_next" = some (.ref (He.fAd K d_p_law_next.at_)) := T.glo (T.says.fact 1 (f := .glo "_law_next") rfl)
theorem glo_p_law_pick (T : Txt K mg) : mg "_law_pick" = some (.ref (He.fAd K d_p_law_pick.at_)) := T.glo (T.says.fact 2 (f := .glo "_law_pick") rfl)
theorem glo_p_law_near (T : Txt K mg) : mg "_law_near" = some (.ref (He.fAd K d_p_law_near.at_)) := T.glo (T.says.fact 3 (f := .glo "_law_near") rfl)
theorem glo_p_law_got (T : Txt K mg) : mg "_law_got" = some (.ref (He.fAd K d_p_law_got.at_)) := T.glo (T.says.fact 4 (f := .glo "_law_got") rfl)
theorem glo_is_whole (T : Txt K mg) : mg "is_whole" = some (.ref (He.fAd K d_is_whole.at_)) := T.glo (T.says.fact 5 (f := .glo "is_whole") rfl)
theorem glo_p_law_made (T : Txt K mg) : mg "_law_made" = some (.ref (He.fAd K d_p_law_made.at_)) := T.glo (T.says.fact 6 (f := .glo "_law_made") rfl)
theorem glo_p_law_good (T : Txt K mg) : mg "_law_good" = some (.ref (He.fAd K d_p_law_good.at_)) := T.glo (T.says.fact 7 (f := .glo "_law_good") rfl)
theorem glo_many_in (T : Txt K mg) : mg "many_in" = some (.ref (He.fAd K d_many_in.at_)) := T.glo (T.says.fact 8 (f := .glo "many_in") rfl)
theorem glo_sort_in (T : Txt K mg) : mg "sort_in" = some (.ref (He.fAd K d_sort_in.at_)) := T.glo (T.says.fact 9 (f := .glo "sort_in") rfl)
theorem glo_serial_in (T : Txt K mg) : mg "serial_in" = some (.ref (He.fAd K d_serial_in.at_)) := T.glo (T.says.fact 10 (f := .glo "serial_in") rfl)
theorem glo_is_place (T : Txt K mg) : mg "is_place" = some (.ref (He.fAd K d_is_place.at_)) := T.glo (T.says.fact 11 (f := .glo "is_place") rfl)
theorem glo_value_of (T : Txt K mg) : mg "value_of" = some (.ref (He.fAd K d_value_of.at_)) := T.glo (T.says.fact 12 (f := .glo "value_of") rfl)
theorem glo_age_in (T : Txt K mg) : mg "age_in" = some (.ref (He.fAd K d_age_in.at_)) := T.glo (T.says.fact 13 (f := .glo "age_in") rfl)
theorem glo_mark_in (T : Txt K mg) : mg "mark_in" = some (.ref (He.fAd K d_mark_in.at_)) := T.glo (T.says.fact 14 (f := .glo "mark_in") rfl)
theorem glo_pictured (T : Txt K mg) : mg "pictured" = some (.ref (He.fAd K d_pictured.at_)) := T.glo (T.says.fact 15 (f := .glo "pictured") rfl)
theorem glo_word_of (T : Txt K mg) : mg "word_of" = some (.ref (He.fAd K d_word_of.at_)) := T.glo (T.says.fact 16 (f := .glo "word_of") rfl)
theorem glo_led_to_webs (T : Txt K mg) : mg "led_to_webs" = some (.ref (He.fAd K d_led_to_webs.at_)) := T.glo (T.says.fact 17 (f := .glo "led_to_webs") rfl)
theorem glo_p_law_steps_right (T : Txt K mg) : mg "_law_steps_right" = some (.ref (He.fAd K d_p_law_steps_right.at_)) := T.glo (T.says.fact 18 (f := .glo "_law_steps_right") rfl)
theorem glo_p_law_new_right (T : Txt K mg) : mg "_law_new_right" = some (.ref (He.fAd K d_p_law_new_right.at_)) := T.glo (T.says.fact 19 (f := .glo "_law_new_right") rfl)
theorem glo_law (T : Txt K mg) : mg "law" = some (.ref (He.fAd K d_law.at_)) := T.glo (T.says.fact 20 (f := .glo "law") rfl)
theorem free_ValueError (T : Txt K mg) : mg "ValueError" = none := T.free (T.says.fact 21 (f := .free "ValueError") rfl)
theorem free_abs (T : Txt K mg) : mg "abs" = none := T.free (T.says.fact 22 (f := .free "abs") rfl)
theorem free_all (T : Txt K mg) : mg "all" = none := T.free (T.says.fact 23 (f := .free "all") rfl)
theorem free_bool (T : Txt K mg) : mg "bool" = none := T.free (T.says.fact 24 (f := .free "bool") rfl)
theorem free_int (T : Txt K mg) : mg "int" = none := T.free (T.says.fact 25 (f := .free "int") rfl)
theorem free_isinstance (T : Txt K mg) : mg "isinstance" = none := T.free (T.says.fact 26 (f := .free "isinstance") rfl)
theorem free_len (T : Txt K mg) : mg "len" = none := T.free (T.says.fact 27 (f := .free "len") rfl)
theorem free_list (T : Txt K mg) : mg "list" = none := T.free (T.says.fact 28 (f := .free "list") rfl)
theorem free_max (T : Txt K mg) : mg "max" = none := T.free (T.says.fact 29 (f := .free "max") rfl)
theorem free_min (T : Txt K mg) : mg "min" = none := T.free (T.says.fact 30 (f := .free "min") rfl)
theorem free_range (T : Txt K mg) : mg "range" = none := T.free (T.says.fact 31 (f := .free "range") rfl)
theorem free_sorted (T : Txt K mg) : mg "sorted" = none := T.free (T.says.fact 32 (f := .free "sorted") rfl)
theorem free_str (T : Txt K mg) : mg "str" = none := T.free (T.says.fact 33 (f := .free "str") rfl)
theorem free_tuple (T : Txt K mg) : mg "tuple" = none := T.free (T.says.fact 34 (f := .free "tuple") rfl)
theorem int_LEAST_PLACES (T : Txt K mg) : ∃ t, mg "LEAST_PLACES" = some (.int (7) t) := T.int (T.says.fact 35 (f := .int "LEAST_PLACES" (7)) rfl)
theorem int_MOST_PAY (T : Txt K mg) : ∃ t, mg "MOST_PAY" = some (.int (100) t) := T.int (T.says.fact 36 (f := .int "MOST_PAY" (100)) rfl)
theorem int_MOST_PEGS (T : Txt K mg) : ∃ t, mg "MOST_PEGS" = some (.int (40) t) := T.int (T.says.fact 37 (f := .int "MOST_PEGS" (40)) rfl)
theorem int_MOST_PLACES (T : Txt K mg) : ∃ t, mg "MOST_PLACES" = some (.int (400) t) := T.int (T.says.fact 38 (f := .int "MOST_PLACES" (400)) rfl)
theorem int_MOST_UNITS (T : Txt K mg) : ∃ t, mg "MOST_UNITS" = some (.int (1000) t) := T.int (T.says.fact 39 (f := .int "MOST_UNITS" (1000)) rfl)
theorem int_POST (T : Txt K mg) : ∃ t, mg "POST" = some (.int (3) t) := T.int (T.says.fact 40 (f := .int "POST" (3)) rfl)
theorem glot_SORTS (T : Txt K mg) : mg "SORTS" = some (.ref (He.ga K "SORTS")) := T.glo (T.says.fact 41 (f := .glo "SORTS") rfl)
theorem gloc_BadGround (T : Txt K mg) : mg "BadGround" = some (.ref (He.ga K "BadGround")) := T.glo (T.says.fact 42 (f := .glo "BadGround") rfl)
theorem gloc_BadNumber (T : Txt K mg) : mg "BadNumber" = some (.ref (He.ga K "BadNumber")) := T.glo (T.says.fact 43 (f := .glo "BadNumber") rfl)
theorem gloc_Ground (T : Txt K mg) : mg "Ground" = some (.ref (He.ga K "Ground")) := T.glo (T.says.fact 44 (f := .glo "Ground") rfl)
theorem gloc_YardError (T : Txt K mg) : mg "YardError" = some (.ref (He.ga K "YardError")) := T.glo (T.says.fact 45 (f := .glo "YardError") rfl)
theorem gloc_Floor (T : Txt K mg) : mg "Floor" = some (.ref (He.ga K "Floor")) := T.glo (T.says.fact 46 (f := .glo "Floor") rfl)
theorem cls_Floor (T : Txt K mg) : Cls K (He.ga K "Floor") := He.cls_ok (T.says.fact 47 (f := .cls "Floor") rfl)
theorem gloc_Yard (T : Txt K mg) : mg "Yard" = some (.ref (He.ga K "Yard")) := T.glo (T.says.fact 48 (f := .glo "Yard") rfl)
theorem cls_Yard (T : Txt K mg) : Cls K (He.ga K "Yard") := He.cls_ok (T.says.fact 49 (f := .cls "Yard") rfl)
theorem mkr_Floor (T : Txt K mg) : Mk K (He.ga K "Floor") (He.fAd K d_Floor_init.at_) := He.mkr_ok (T.says.fact 50 (f := .mkr "Floor") rfl)
theorem mkr_Yard (T : Txt K mg) : Mk K (He.ga K "Yard") (He.fAd K d_Yard_init.at_) := He.mkr_ok (T.says.fact 51 (f := .mkr "Yard") rfl)
theorem meth_Floor_places (T : Txt K mg) : Meth K (He.ga K "Floor") "places" (He.fAd K d_Floor_places.at_) := He.meth_ok (T.says.fact 52 (f := .meth "Floor" "places") rfl)
theorem meth_Floor_serial_of (T : Txt K mg) : Meth K (He.ga K "Floor") "serial_of" (He.fAd K d_Floor_serial_of.at_) := He.meth_ok (T.says.fact 53 (f := .meth "Floor" "serial_of") rfl)
theorem meth_Floor_size (T : Txt K mg) : Meth K (He.ga K "Floor") "size" (He.fAd K d_Floor_size.at_) := He.meth_ok (T.says.fact 54 (f := .meth "Floor" "size") rfl)
theorem meth_Floor_sort_of (T : Txt K mg) : Meth K (He.ga K "Floor") "sort_of" (He.fAd K d_Floor_sort_of.at_) := He.meth_ok (T.says.fact 55 (f := .meth "Floor" "sort_of") rfl)
theorem meth_Floor_there (T : Txt K mg) : Meth K (He.ga K "Floor") "there" (He.fAd K d_Floor_there.at_) := He.meth_ok (T.says.fact 56 (f := .meth "Floor" "there") rfl)
theorem meth_Floor_there_word (T : Txt K mg) : Meth K (He.ga K "Floor") "there_word" (He.fAd K d_Floor_there_word.at_) := He.meth_ok (T.says.fact 57 (f := .meth "Floor" "there_word") rfl)
theorem meth_Floor_words_at (T : Txt K mg) : Meth K (He.ga K "Floor") "words_at" (He.fAd K d_Floor_words_at.at_) := He.meth_ok (T.says.fact 58 (f := .meth "Floor" "words_at") rfl)
theorem meth_Yard_goal (T : Txt K mg) : Meth K (He.ga K "Yard") "goal" (He.fAd K d_Yard_goal.at_) := He.meth_ok (T.says.fact 59 (f := .meth "Yard" "goal") rfl)
theorem meth_Yard_made (T : Txt K mg) : Meth K (He.ga K "Yard") "made" (He.fAd K d_Yard_made.at_) := He.meth_ok (T.says.fact 60 (f := .meth "Yard" "made") rfl)
theorem meth_Yard_news (T : Txt K mg) : Meth K (He.ga K "Yard") "news" (He.fAd K d_Yard_news.at_) := He.meth_ok (T.says.fact 61 (f := .meth "Yard" "news") rfl)
theorem meth_Yard_pegs (T : Txt K mg) : Meth K (He.ga K "Yard") "pegs" (He.fAd K d_Ground_pegs.at_) := He.meth_ok (T.says.fact 62 (f := .meth "Yard" "pegs") rfl)
theorem meth_Yard_picture (T : Txt K mg) : Meth K (He.ga K "Yard") "picture" (He.fAd K d_Yard_picture.at_) := He.meth_ok (T.says.fact 63 (f := .meth "Yard" "picture") rfl)
theorem meth_Yard_seen_places (T : Txt K mg) : Meth K (He.ga K "Yard") "seen_places" (He.fAd K d_Yard_seen_places_o.at_) := He.meth_ok (T.says.fact 64 (f := .meth "Yard" "seen_places") rfl)
theorem meth_Yard_serials (T : Txt K mg) : Meth K (He.ga K "Yard") "serials" (He.fAd K d_Yard_serials.at_) := He.meth_ok (T.says.fact 65 (f := .meth "Yard" "serials") rfl)
theorem meth_Yard_sort_at (T : Txt K mg) : Meth K (He.ga K "Yard") "sort_at" (He.fAd K d_Yard_sort_at.at_) := He.meth_ok (T.says.fact 66 (f := .meth "Yard" "sort_at") rfl)
theorem meth_Yard_step (T : Txt K mg) : Meth K (He.ga K "Yard") "step" (He.fAd K d_Yard_step.at_) := He.meth_ok (T.says.fact 67 (f := .meth "Yard" "step") rfl)
theorem meth_Yard_sure_pegs (T : Txt K mg) : Meth K (He.ga K "Yard") "sure_pegs" (He.fAd K d_Ground_sure_pegs.at_) := He.meth_ok (T.says.fact 68 (f := .meth "Yard" "sure_pegs") rfl)
theorem meth_Yard_what (T : Txt K mg) : Meth K (He.ga K "Yard") "what" (He.fAd K d_Ground_what.at_) := He.meth_ok (T.says.fact 69 (f := .meth "Yard" "what") rfl)
theorem noat_Floor_barrier (T : Txt K mg) : NoAttr K (He.ga K "Floor") "barrier" := He.noat_ok (T.says.fact 70 (f := .noat "Floor" "barrier") rfl)
theorem noat_Floor_cursor (T : Txt K mg) : NoAttr K (He.ga K "Floor") "cursor" := He.noat_ok (T.says.fact 71 (f := .noat "Floor" "cursor") rfl)
theorem noat_Floor_far_places (T : Txt K mg) : NoAttr K (He.ga K "Floor") "far_places" := He.noat_ok (T.says.fact 72 (f := .noat "Floor" "far_places") rfl)
theorem noat_Floor_greys (T : Txt K mg) : NoAttr K (He.ga K "Floor") "greys" := He.noat_ok (T.says.fact 73 (f := .noat "Floor" "greys") rfl)
theorem noat_Floor_half_places (T : Txt K mg) : NoAttr K (He.ga K "Floor") "half_places" := He.noat_ok (T.says.fact 74 (f := .noat "Floor" "half_places") rfl)
theorem noat_Floor_last_places (T : Txt K mg) : NoAttr K (He.ga K "Floor") "last_places" := He.noat_ok (T.says.fact 75 (f := .noat "Floor" "last_places") rfl)
theorem noat_Floor_most_age (T : Txt K mg) : NoAttr K (He.ga K "Floor") "most_age" := He.noat_ok (T.says.fact 76 (f := .noat "Floor" "most_age") rfl)
theorem noat_Floor_new_first (T : Txt K mg) : NoAttr K (He.ga K "Floor") "new_first" := He.noat_ok (T.says.fact 77 (f := .noat "Floor" "new_first") rfl)
theorem noat_Floor_new_top (T : Txt K mg) : NoAttr K (He.ga K "Floor") "new_top" := He.noat_ok (T.says.fact 78 (f := .noat "Floor" "new_top") rfl)
theorem noat_Floor_old_first (T : Txt K mg) : NoAttr K (He.ga K "Floor") "old_first" := He.noat_ok (T.says.fact 79 (f := .noat "Floor" "old_first") rfl)
theorem noat_Floor_old_top (T : Txt K mg) : NoAttr K (He.ga K "Floor") "old_top" := He.noat_ok (T.says.fact 80 (f := .noat "Floor" "old_top") rfl)
theorem noat_Floor_phase (T : Txt K mg) : NoAttr K (He.ga K "Floor") "phase" := He.noat_ok (T.says.fact 81 (f := .noat "Floor" "phase") rfl)
theorem noat_Floor_serials_made (T : Txt K mg) : NoAttr K (He.ga K "Floor") "serials_made" := He.noat_ok (T.says.fact 82 (f := .noat "Floor" "serials_made") rfl)
theorem noat_Floor_store (T : Txt K mg) : NoAttr K (He.ga K "Floor") "store" := He.noat_ok (T.says.fact 83 (f := .noat "Floor" "store") rfl)
theorem noat_Floor_tie_places (T : Txt K mg) : NoAttr K (He.ga K "Floor") "tie_places" := He.noat_ok (T.says.fact 84 (f := .noat "Floor" "tie_places") rfl)
theorem noat_Floor_told_news (T : Txt K mg) : NoAttr K (He.ga K "Floor") "told_news" := He.noat_ok (T.says.fact 85 (f := .noat "Floor" "told_news") rfl)
theorem noat_Floor_young_first (T : Txt K mg) : NoAttr K (He.ga K "Floor") "young_first" := He.noat_ok (T.says.fact 86 (f := .noat "Floor" "young_first") rfl)
theorem noat_Floor_young_places (T : Txt K mg) : NoAttr K (He.ga K "Floor") "young_places" := He.noat_ok (T.says.fact 87 (f := .noat "Floor" "young_places") rfl)
theorem noat_Floor_young_spare (T : Txt K mg) : NoAttr K (He.ga K "Floor") "young_spare" := He.noat_ok (T.says.fact 88 (f := .noat "Floor" "young_spare") rfl)
theorem noat_Floor_young_top (T : Txt K mg) : NoAttr K (He.ga K "Floor") "young_top" := He.noat_ok (T.says.fact 89 (f := .noat "Floor" "young_top") rfl)
theorem noat_Yard_floor (T : Txt K mg) : NoAttr K (He.ga K "Yard") "floor" := He.noat_ok (T.says.fact 90 (f := .noat "Yard" "floor") rfl)
theorem noat_Yard_queue (T : Txt K mg) : NoAttr K (He.ga K "Yard") "queue" := He.noat_ok (T.says.fact 91 (f := .noat "Yard" "queue") rfl)
theorem noat_Yard_stands (T : Txt K mg) : NoAttr K (He.ga K "Yard") "stands" := He.noat_ok (T.says.fact 92 (f := .noat "Yard" "stands") rfl)
theorem noat_Yard_units_paid (T : Txt K mg) : NoAttr K (He.ga K "Yard") "units_paid" := He.noat_ok (T.says.fact 93 (f := .noat "Yard" "units_paid") rfl)
theorem isi_Yard (T : Txt K mg) : IsiC K (He.ga K "Yard") := isiB_ok (He.ba T.ex).1
theorem isn_Yard_str (T : Txt K mg) : IsnC K (He.ga K "Yard") "str" := isnB_ok (He.ba (He.ba T.ex).2).1
theorem cclc_Ground_init (T : Txt K mg) : CCl K (He.ga K "Ground") "__init__" (He.fAd K d_Ground_init.at_) := cclB_ok (He.ba (He.ba (He.ba T.ex).2).2).1
theorem tupcc_SORTS (T : Txt K mg) : TupC K (He.ga K "SORTS") (["cell", "last", "tie", "post"] : List Str) := tupB_ok (He.ba (He.ba (He.ba (He.ba T.ex).2).2).2).1
theorem raic_BadGround (T : Txt K mg) : RaiC K (He.ga K "BadGround") := raiB_ok (He.ba (He.ba (He.ba (He.ba (He.ba T.ex).2).2).2).2).1
theorem raic_BadNumber (T : Txt K mg) : RaiC K (He.ga K "BadNumber") := raiB_ok (He.ba (He.ba (He.ba (He.ba (He.ba (He.ba T.ex).2).2).2).2).2).1
theorem isec_BadGround (T : Txt K mg) : L2.ExcC K (He.ga K "BadGround") := iseB_ok (He.ba (He.ba (He.ba (He.ba (He.ba (He.ba (He.ba T.ex).2).2).2).2).2).2).1
theorem isec_BadNumber (T : Txt K mg) : L2.ExcC K (He.ga K "BadNumber") := iseB_ok (He.ba (He.ba (He.ba (He.ba (He.ba (He.ba (He.ba (He.ba T.ex).2).2).2).2).2).2).2).1
theorem exm0_BadGround (T : Txt K mg) : exmT K (.ref (He.ga K "BadGround")) tb_BadGround = true := id (He.ba (He.ba (He.ba (He.ba (He.ba (He.ba (He.ba (He.ba (He.ba T.ex).2).2).2).2).2).2).2).2).1
theorem exm0_BadNumber (T : Txt K mg) : exmT K (.ref (He.ga K "BadNumber")) tb_BadNumber = true := id (He.ba (He.ba (He.ba (He.ba (He.ba (He.ba (He.ba (He.ba (He.ba (He.ba T.ex).2).2).2).2).2).2).2).2).2).1
theorem exm0_YardError (T : Txt K mg) : exmT K (.ref (He.ga K "YardError")) tb_YardError = true := id (He.ba (He.ba (He.ba (He.ba (He.ba (He.ba (He.ba (He.ba (He.ba (He.ba (He.ba T.ex).2).2).2).2).2).2).2).2).2).2).1
theorem kit0_ValueError (T : Txt K mg) : kitT K (.type "ValueError") tb_ValueError = true := id (He.ba (He.ba (He.ba (He.ba (He.ba (He.ba (He.ba (He.ba (He.ba (He.ba (He.ba (He.ba T.ex).2).2).2).2).2).2).2).2).2).2).2).1
theorem exmc_BadGround (T : Txt K mg) : ∀ C b A, tb_BadGround.lookup C = some b → mg C = some (.ref A) → PySem.W.exmOne K (.ref A) (.ref (He.ga K "BadGround")) = some b := exmT_ok (exm0_BadGround T) (by intro q hq; simp only [List.mem_cons, List.not_mem_nil, or_false] at hq; rcases hq with rfl | rfl <;> first | exact gloc_BadGround T | exact gloc_BadNumber T)
theorem exmc_BadNumber (T : Txt K mg) : ∀ C b A, tb_BadNumber.lookup C = some b → mg C = some (.ref A) → PySem.W.exmOne K (.ref A) (.ref (He.ga K "BadNumber")) = some b := exmT_ok (exm0_BadNumber T) (by intro q hq; simp only [List.mem_cons, List.not_mem_nil, or_false] at hq; rcases hq with rfl | rfl <;> first | exact gloc_BadGround T | exact gloc_BadNumber T)
theorem exmc_YardError (T : Txt K mg) : ∀ C b A, tb_YardError.lookup C = some b → mg C = some (.ref A) → PySem.W.exmOne K (.ref A) (.ref (He.ga K "YardError")) = some b := exmT_ok (exm0_YardError T) (by intro q hq; simp only [List.mem_cons, List.not_mem_nil, or_false] at hq; rcases hq with rfl | rfl <;> first | exact gloc_BadGround T | exact gloc_BadNumber T)
theorem kitc_ValueError (T : Txt K mg) : ∀ C b A, tb_ValueError.lookup C = some b → mg C = some (.ref A) → L2.ExcC K A ∧ PySem.W.kitOne K (.ref A) (.type "ValueError") = some b := kitT_ok (kit0_ValueError T) (by intro q hq; simp only [List.mem_cons, List.not_mem_nil, or_false] at hq; rcases hq with rfl | rfl <;> first | exact gloc_BadGround T | exact gloc_BadNumber T) (by intro q hq; simp only [List.mem_cons, List.not_mem_nil, or_false] at hq; rcases hq with rfl | rfl <;> first | exact isec_BadGround T | exact isec_BadNumber T)
theorem fun_p_law_state (T : Txt K mg) : ∃ fd, FunD K d_p_law_state.name d_p_law_state.qual d_p_law_state.params d_p_law_state.body d_p_law_state.scope (d_p_law_state.dvs K) (d_p_law_state.kws K) (He.fAd K d_p_law_state.at_) fd := T.says.def_ 0 (d := d_p_law_state) rfl
theorem fun_p_law_next (T : Txt K mg) : ∃ fd, FunD K d_p_law_next.name d_p_law_next.qual d_p_law_next.params d_p_law_next.body d_p_law_next.scope (d_p_law_next.dvs K) (d_p_law_next.kws K) (He.fAd K d_p_law_next.at_) fd := T.says.def_ 1 (d := d_p_law_next) rfl
theorem fun_p_law_pick (T : Txt K mg) : ∃ fd, FunD K d_p_law_pick.name d_p_law_pick.qual d_p_law_pick.params d_p_law_pick.body d_p_law_pick.scope (d_p_law_pick.dvs K) (d_p_law_pick.kws K) (He.fAd K d_p_law_pick.at_) fd := T.says.def_ 2 (d := d_p_law_pick) rfl
theorem fun_p_law_near (T : Txt K mg) : ∃ fd, FunD K d_p_law_near.name d_p_law_near.qual d_p_law_near.params d_p_law_near.body d_p_law_near.scope (d_p_law_near.dvs K) (d_p_law_near.kws K) (He.fAd K d_p_law_near.at_) fd := T.says.def_ 3 (d := d_p_law_near) rfl
theorem fun_p_law_got (T : Txt K mg) : ∃ fd, FunD K d_p_law_got.name d_p_law_got.qual d_p_law_got.params d_p_law_got.body d_p_law_got.scope (d_p_law_got.dvs K) (d_p_law_got.kws K) (He.fAd K d_p_law_got.at_) fd := T.says.def_ 4 (d := d_p_law_got) rfl
theorem fun_is_whole (T : Txt K mg) : ∃ fd, FunD K d_is_whole.name d_is_whole.qual d_is_whole.params d_is_whole.body d_is_whole.scope (d_is_whole.dvs K) (d_is_whole.kws K) (He.fAd K d_is_whole.at_) fd := T.says.def_ 5 (d := d_is_whole) rfl
theorem fun_Ground_init (T : Txt K mg) : ∃ fd, FunD K d_Ground_init.name d_Ground_init.qual d_Ground_init.params d_Ground_init.body d_Ground_init.scope (d_Ground_init.dvs K) (d_Ground_init.kws K) (He.fAd K d_Ground_init.at_) fd := T.says.def_ 6 (d := d_Ground_init) rfl
theorem fun_Floor_init (T : Txt K mg) : ∃ fd, FunD K d_Floor_init.name d_Floor_init.qual d_Floor_init.params d_Floor_init.body d_Floor_init.scope (d_Floor_init.dvs K) (d_Floor_init.kws K) (He.fAd K d_Floor_init.at_) fd := T.says.def_ 7 (d := d_Floor_init) rfl
theorem fun_Yard_init (T : Txt K mg) : ∃ fd, FunD K d_Yard_init.name d_Yard_init.qual d_Yard_init.params d_Yard_init.body d_Yard_init.scope (d_Yard_init.dvs K) (d_Yard_init.kws K) (He.fAd K d_Yard_init.at_) fd := T.says.def_ 8 (d := d_Yard_init) rfl
theorem fun_p_law_made (T : Txt K mg) : ∃ fd, FunD K d_p_law_made.name d_p_law_made.qual d_p_law_made.params d_p_law_made.body d_p_law_made.scope (d_p_law_made.dvs K) (d_p_law_made.kws K) (He.fAd K d_p_law_made.at_) fd := T.says.def_ 9 (d := d_p_law_made) rfl
theorem fun_p_law_good (T : Txt K mg) : ∃ fd, FunD K d_p_law_good.name d_p_law_good.qual d_p_law_good.params d_p_law_good.body d_p_law_good.scope (d_p_law_good.dvs K) (d_p_law_good.kws K) (He.fAd K d_p_law_good.at_) fd := T.says.def_ 10 (d := d_p_law_good) rfl
theorem fun_Ground_pegs (T : Txt K mg) : ∃ fd, FunD K d_Ground_pegs.name d_Ground_pegs.qual d_Ground_pegs.params d_Ground_pegs.body d_Ground_pegs.scope (d_Ground_pegs.dvs K) (d_Ground_pegs.kws K) (He.fAd K d_Ground_pegs.at_) fd := T.says.def_ 11 (d := d_Ground_pegs) rfl
theorem fun_Yard_made (T : Txt K mg) : ∃ fd, FunD K d_Yard_made.name d_Yard_made.qual d_Yard_made.params d_Yard_made.body d_Yard_made.scope (d_Yard_made.dvs K) (d_Yard_made.kws K) (He.fAd K d_Yard_made.at_) fd := T.says.def_ 12 (d := d_Yard_made) rfl
theorem fun_Yard_news (T : Txt K mg) : ∃ fd, FunD K d_Yard_news.name d_Yard_news.qual d_Yard_news.params d_Yard_news.body d_Yard_news.scope (d_Yard_news.dvs K) (d_Yard_news.kws K) (He.fAd K d_Yard_news.at_) fd := T.says.def_ 13 (d := d_Yard_news) rfl
theorem fun_many_in (T : Txt K mg) : ∃ fd, FunD K d_many_in.name d_many_in.qual d_many_in.params d_many_in.body d_many_in.scope (d_many_in.dvs K) (d_many_in.kws K) (He.fAd K d_many_in.at_) fd := T.says.def_ 14 (d := d_many_in) rfl
theorem fun_Floor_size (T : Txt K mg) : ∃ fd, FunD K d_Floor_size.name d_Floor_size.qual d_Floor_size.params d_Floor_size.body d_Floor_size.scope (d_Floor_size.dvs K) (d_Floor_size.kws K) (He.fAd K d_Floor_size.at_) fd := T.says.def_ 15 (d := d_Floor_size) rfl
theorem fun_Floor_places (T : Txt K mg) : ∃ fd, FunD K d_Floor_places.name d_Floor_places.qual d_Floor_places.params d_Floor_places.body d_Floor_places.scope (d_Floor_places.dvs K) (d_Floor_places.kws K) (He.fAd K d_Floor_places.at_) fd := T.says.def_ 16 (d := d_Floor_places) rfl
theorem fun_sort_in (T : Txt K mg) : ∃ fd, FunD K d_sort_in.name d_sort_in.qual d_sort_in.params d_sort_in.body d_sort_in.scope (d_sort_in.dvs K) (d_sort_in.kws K) (He.fAd K d_sort_in.at_) fd := T.says.def_ 17 (d := d_sort_in) rfl
theorem fun_Floor_sort_of (T : Txt K mg) : ∃ fd, FunD K d_Floor_sort_of.name d_Floor_sort_of.qual d_Floor_sort_of.params d_Floor_sort_of.body d_Floor_sort_of.scope (d_Floor_sort_of.dvs K) (d_Floor_sort_of.kws K) (He.fAd K d_Floor_sort_of.at_) fd := T.says.def_ 18 (d := d_Floor_sort_of) rfl
theorem fun_serial_in (T : Txt K mg) : ∃ fd, FunD K d_serial_in.name d_serial_in.qual d_serial_in.params d_serial_in.body d_serial_in.scope (d_serial_in.dvs K) (d_serial_in.kws K) (He.fAd K d_serial_in.at_) fd := T.says.def_ 19 (d := d_serial_in) rfl
theorem fun_Floor_there (T : Txt K mg) : ∃ fd, FunD K d_Floor_there.name d_Floor_there.qual d_Floor_there.params d_Floor_there.body d_Floor_there.scope (d_Floor_there.dvs K) (d_Floor_there.kws K) (He.fAd K d_Floor_there.at_) fd := T.says.def_ 20 (d := d_Floor_there) rfl
theorem fun_Floor_serial_of (T : Txt K mg) : ∃ fd, FunD K d_Floor_serial_of.name d_Floor_serial_of.qual d_Floor_serial_of.params d_Floor_serial_of.body d_Floor_serial_of.scope (d_Floor_serial_of.dvs K) (d_Floor_serial_of.kws K) (He.fAd K d_Floor_serial_of.at_) fd := T.says.def_ 21 (d := d_Floor_serial_of) rfl
theorem fun_is_place (T : Txt K mg) : ∃ fd, FunD K d_is_place.name d_is_place.qual d_is_place.params d_is_place.body d_is_place.scope (d_is_place.dvs K) (d_is_place.kws K) (He.fAd K d_is_place.at_) fd := T.says.def_ 22 (d := d_is_place) rfl
theorem fun_value_of (T : Txt K mg) : ∃ fd, FunD K d_value_of.name d_value_of.qual d_value_of.params d_value_of.body d_value_of.scope (d_value_of.dvs K) (d_value_of.kws K) (He.fAd K d_value_of.at_) fd := T.says.def_ 23 (d := d_value_of) rfl
theorem fun_Floor_words_at (T : Txt K mg) : ∃ fd, FunD K d_Floor_words_at.name d_Floor_words_at.qual d_Floor_words_at.params d_Floor_words_at.body d_Floor_words_at.scope (d_Floor_words_at.dvs K) (d_Floor_words_at.kws K) (He.fAd K d_Floor_words_at.at_) fd := T.says.def_ 24 (d := d_Floor_words_at) rfl
theorem fun_age_in (T : Txt K mg) : ∃ fd, FunD K d_age_in.name d_age_in.qual d_age_in.params d_age_in.body d_age_in.scope (d_age_in.dvs K) (d_age_in.kws K) (He.fAd K d_age_in.at_) fd := T.says.def_ 25 (d := d_age_in) rfl
theorem fun_mark_in (T : Txt K mg) : ∃ fd, FunD K d_mark_in.name d_mark_in.qual d_mark_in.params d_mark_in.body d_mark_in.scope (d_mark_in.dvs K) (d_mark_in.kws K) (He.fAd K d_mark_in.at_) fd := T.says.def_ 26 (d := d_mark_in) rfl
theorem fun_pictured (T : Txt K mg) : ∃ fd, FunD K d_pictured.name d_pictured.qual d_pictured.params d_pictured.body d_pictured.scope (d_pictured.dvs K) (d_pictured.kws K) (He.fAd K d_pictured.at_) fd := T.says.def_ 27 (d := d_pictured) rfl
theorem fun_Yard_picture (T : Txt K mg) : ∃ fd, FunD K d_Yard_picture.name d_Yard_picture.qual d_Yard_picture.params d_Yard_picture.body d_Yard_picture.scope (d_Yard_picture.dvs K) (d_Yard_picture.kws K) (He.fAd K d_Yard_picture.at_) fd := T.says.def_ 28 (d := d_Yard_picture) rfl
theorem fun_word_of (T : Txt K mg) : ∃ fd, FunD K d_word_of.name d_word_of.qual d_word_of.params d_word_of.body d_word_of.scope (d_word_of.dvs K) (d_word_of.kws K) (He.fAd K d_word_of.at_) fd := T.says.def_ 29 (d := d_word_of) rfl
theorem fun_Floor_there_word (T : Txt K mg) : ∃ fd, FunD K d_Floor_there_word.name d_Floor_there_word.qual d_Floor_there_word.params d_Floor_there_word.body d_Floor_there_word.scope (d_Floor_there_word.dvs K) (d_Floor_there_word.kws K) (He.fAd K d_Floor_there_word.at_) fd := T.says.def_ 30 (d := d_Floor_there_word) rfl
theorem fun_Yard_seen_places_o (T : Txt K mg) : ∃ fd, FunD K d_Yard_seen_places_o.name d_Yard_seen_places_o.qual d_Yard_seen_places_o.params d_Yard_seen_places_o.body d_Yard_seen_places_o.scope (d_Yard_seen_places_o.dvs K) (d_Yard_seen_places_o.kws K) (He.fAd K d_Yard_seen_places_o.at_) fd := T.says.def_ 31 (d := d_Yard_seen_places_o) rfl
theorem fun_Yard_serials (T : Txt K mg) : ∃ fd, FunD K d_Yard_serials.name d_Yard_serials.qual d_Yard_serials.params d_Yard_serials.body d_Yard_serials.scope (d_Yard_serials.dvs K) (d_Yard_serials.kws K) (He.fAd K d_Yard_serials.at_) fd := T.says.def_ 32 (d := d_Yard_serials) rfl
theorem fun_Yard_step (T : Txt K mg) : ∃ fd, FunD K d_Yard_step.name d_Yard_step.qual d_Yard_step.params d_Yard_step.body d_Yard_step.scope (d_Yard_step.dvs K) (d_Yard_step.kws K) (He.fAd K d_Yard_step.at_) fd := T.says.def_ 33 (d := d_Yard_step) rfl
theorem fun_Ground_sure_pegs (T : Txt K mg) : ∃ fd, FunD K d_Ground_sure_pegs.name d_Ground_sure_pegs.qual d_Ground_sure_pegs.params d_Ground_sure_pegs.body d_Ground_sure_pegs.scope (d_Ground_sure_pegs.dvs K) (d_Ground_sure_pegs.kws K) (He.fAd K d_Ground_sure_pegs.at_) fd := T.says.def_ 34 (d := d_Ground_sure_pegs) rfl
theorem fun_Yard_goal (T : Txt K mg) : ∃ fd, FunD K d_Yard_goal.name d_Yard_goal.qual d_Yard_goal.params d_Yard_goal.body d_Yard_goal.scope (d_Yard_goal.dvs K) (d_Yard_goal.kws K) (He.fAd K d_Yard_goal.at_) fd := T.says.def_ 35 (d := d_Yard_goal) rfl
theorem fun_led_to_webs (T : Txt K mg) : ∃ fd, FunD K d_led_to_webs.name d_led_to_webs.qual d_led_to_webs.params d_led_to_webs.body d_led_to_webs.scope (d_led_to_webs.dvs K) (d_led_to_webs.kws K) (He.fAd K d_led_to_webs.at_) fd := T.says.def_ 36 (d := d_led_to_webs) rfl
theorem fun_Yard_sort_at (T : Txt K mg) : ∃ fd, FunD K d_Yard_sort_at.name d_Yard_sort_at.qual d_Yard_sort_at.params d_Yard_sort_at.body d_Yard_sort_at.scope (d_Yard_sort_at.dvs K) (d_Yard_sort_at.kws K) (He.fAd K d_Yard_sort_at.at_) fd := T.says.def_ 37 (d := d_Yard_sort_at) rfl
theorem fun_Ground_what (T : Txt K mg) : ∃ fd, FunD K d_Ground_what.name d_Ground_what.qual d_Ground_what.params d_Ground_what.body d_Ground_what.scope (d_Ground_what.dvs K) (d_Ground_what.kws K) (He.fAd K d_Ground_what.at_) fd := T.says.def_ 38 (d := d_Ground_what) rfl
theorem fun_p_law_steps_right (T : Txt K mg) : ∃ fd, FunD K d_p_law_steps_right.name d_p_law_steps_right.qual d_p_law_steps_right.params d_p_law_steps_right.body d_p_law_steps_right.scope (d_p_law_steps_right.dvs K) (d_p_law_steps_right.kws K) (He.fAd K d_p_law_steps_right.at_) fd := T.says.def_ 39 (d := d_p_law_steps_right) rfl
theorem fun_p_law_new_right (T : Txt K mg) : ∃ fd, FunD K d_p_law_new_right.name d_p_law_new_right.qual d_p_law_new_right.params d_p_law_new_right.body d_p_law_new_right.scope (d_p_law_new_right.dvs K) (d_p_law_new_right.kws K) (He.fAd K d_p_law_new_right.at_) fd := T.says.def_ 40 (d := d_p_law_new_right) rfl
theorem fun_law (T : Txt K mg) : ∃ fd, FunD K d_law.name d_law.qual d_law.params d_law.body d_law.scope (d_law.dvs K) (d_law.kws K) (He.fAd K d_law.at_) fd := T.says.def_ 41 (d := d_law) rfl
end
end K03

namespace K03
open PySem PySem.Spec PyProof.Rows L2 DL
/-! ### the head -/
end K03

namespace K03
open PySem PySem.Spec PyProof.Rows L2 DL
theorem kb0 {K : PySem.W.Frag} {fd : FuncData} (D_p_law_next : FunD K d_p_law_next.name d_p_law_next.qual d_p_law_next.params d_p_law_next.body d_p_law_next.scope (d_p_law_next.dvs K) (d_p_law_next.kws K) (He.fAd K d_p_law_next.at_) fd) : KB K fd ["_law_state_here", "_law_most"] 2 [] (fun ds es => pick [(0, 0), (0, 1)] ds es []) := kb_all D_p_law_next rfl 2 [] [(0, 0), (0, 1)] fun _ _ _ _ _ _ us ws l1 l2 => match us, ws, l1, l2 with | [_, _], [], _, _ => rfl
theorem kb1 {K : PySem.W.Frag} {fd : FuncData} (D_p_law_pick : FunD K d_p_law_pick.name d_p_law_pick.qual d_p_law_pick.params d_p_law_pick.body d_p_law_pick.scope (d_p_law_pick.dvs K) (d_p_law_pick.kws K) (He.fAd K d_p_law_pick.at_) fd) : KB K fd ["_law_state_here", "_law_some"] 2 [] (fun ds es => pick [(0, 0), (0, 1)] ds es []) := kb_all D_p_law_pick rfl 2 [] [(0, 0), (0, 1)] fun _ _ _ _ _ _ us ws l1 l2 => match us, ws, l1, l2 with | [_, _], [], _, _ => rfl
theorem kb2 {K : PySem.W.Frag} {fd : FuncData} (D_is_whole : FunD K d_is_whole.name d_is_whole.qual d_is_whole.params d_is_whole.body d_is_whole.scope (d_is_whole.dvs K) (d_is_whole.kws K) (He.fAd K d_is_whole.at_) fd) : KB K fd ["thing", "least", "most"] 3 [] (fun ds es => pick [(0, 0), (0, 1), (0, 2)] ds es []) := kb_all D_is_whole rfl 3 [] [(0, 0), (0, 1), (0, 2)] fun _ _ _ _ _ _ us ws l1 l2 => match us, ws, l1, l2 with | [_, _, _], [], _, _ => rfl
theorem kb3 {K : PySem.W.Frag} {fd : FuncData} (D_Ground_init : FunD K d_Ground_init.name d_Ground_init.qual d_Ground_init.params d_Ground_init.body d_Ground_init.scope (d_Ground_init.dvs K) (d_Ground_init.kws K) (He.fAd K d_Ground_init.at_) fd) : KB K fd ["self", "pegs"] 2 [] (fun ds es => pick [(0, 0), (0, 1)] ds es []) := kb_all D_Ground_init rfl 2 [] [(0, 0), (0, 1)] fun _ _ _ _ _ _ us ws l1 l2 => match us, ws, l1, l2 with | [_, _], [], _, _ => rfl
theorem kb4 {K : PySem.W.Frag} {fd : FuncData} (D_Floor_init : FunD K d_Floor_init.name d_Floor_init.qual d_Floor_init.params d_Floor_init.body d_Floor_init.scope (d_Floor_init.dvs K) (d_Floor_init.kws K) (He.fAd K d_Floor_init.at_) fd) : KB K fd ["self", "young", "half", "barrier", "most_age"] 1 ["young", "half", "barrier", "most_age"] (fun ds es => pick [(0, 0), (1, 0), (1, 1), (1, 2), (1, 3)] ds es []) := kb_all D_Floor_init rfl 1 ["young", "half", "barrier", "most_age"] [(0, 0), (1, 0), (1, 1), (1, 2), (1, 3)] fun _ _ _ _ _ _ us ws l1 l2 => match us, ws, l1, l2 with | [_], [_, _, _, _], _, _ => rfl
theorem kb5 {K : PySem.W.Frag} {fd : FuncData} (D_Yard_init : FunD K d_Yard_init.name d_Yard_init.qual d_Yard_init.params d_Yard_init.body d_Yard_init.scope (d_Yard_init.dvs K) (d_Yard_init.kws K) (He.fAd K d_Yard_init.at_) fd) : KB K fd ["self", "pegs", "young", "half", "kind", "ages", "pay"] 2 ["young", "half", "kind", "ages", "pay"] (fun ds es => pick [(0, 0), (0, 1), (1, 0), (1, 1), (1, 2), (1, 3), (1, 4)] ds es []) := kb_all D_Yard_init rfl 2 ["young", "half", "kind", "ages", "pay"] [(0, 0), (0, 1), (1, 0), (1, 1), (1, 2), (1, 3), (1, 4)] fun _ _ _ _ _ _ us ws l1 l2 => match us, ws, l1, l2 with | [_, _], [_, _, _, _, _], _, _ => rfl
theorem kb6 {K : PySem.W.Frag} {fd : FuncData} (D_Yard_init : FunD K d_Yard_init.name d_Yard_init.qual d_Yard_init.params d_Yard_init.body d_Yard_init.scope (d_Yard_init.dvs K) (d_Yard_init.kws K) (He.fAd K d_Yard_init.at_) fd) : KB K fd ["self", "pegs", "young", "half", "kind", "ages", "pay"] 2 ["pay", "ages", "kind", "half", "young"] (fun ds es => pick [(0, 0), (0, 1), (1, 4), (1, 3), (1, 2), (1, 1), (1, 0)] ds es []) := kb_all D_Yard_init rfl 2 ["pay", "ages", "kind", "half", "young"] [(0, 0), (0, 1), (1, 4), (1, 3), (1, 2), (1, 1), (1, 0)] fun _ _ _ _ _ _ us ws l1 l2 => match us, ws, l1, l2 with | [_, _], [_, _, _, _, _], _, _ => rfl
theorem kb7 {K : PySem.W.Frag} {fd : FuncData} (D_many_in : FunD K d_many_in.name d_many_in.qual d_many_in.params d_many_in.body d_many_in.scope (d_many_in.dvs K) (d_many_in.kws K) (He.fAd K d_many_in.at_) fd) : KB K fd ["word"] 1 [] (fun ds es => pick [(0, 0)] ds es []) := kb_all D_many_in rfl 1 [] [(0, 0)] fun _ _ _ _ _ _ us ws l1 l2 => match us, ws, l1, l2 with | [_], [], _, _ => rfl
theorem kb8 {K : PySem.W.Frag} {fd : FuncData} (D_Floor_size : FunD K d_Floor_size.name d_Floor_size.qual d_Floor_size.params d_Floor_size.body d_Floor_size.scope (d_Floor_size.dvs K) (d_Floor_size.kws K) (He.fAd K d_Floor_size.at_) fd) : KB K fd ["self", "place"] 2 [] (fun ds es => pick [(0, 0), (0, 1)] ds es []) := kb_all D_Floor_size rfl 2 [] [(0, 0), (0, 1)] fun _ _ _ _ _ _ us ws l1 l2 => match us, ws, l1, l2 with | [_, _], [], _, _ => rfl
theorem kb9 {K : PySem.W.Frag} {fd : FuncData} (D_sort_in : FunD K d_sort_in.name d_sort_in.qual d_sort_in.params d_sort_in.body d_sort_in.scope (d_sort_in.dvs K) (d_sort_in.kws K) (He.fAd K d_sort_in.at_) fd) : KB K fd ["word"] 1 [] (fun ds es => pick [(0, 0)] ds es []) := kb_all D_sort_in rfl 1 [] [(0, 0)] fun _ _ _ _ _ _ us ws l1 l2 => match us, ws, l1, l2 with | [_], [], _, _ => rfl
theorem kb10 {K : PySem.W.Frag} {fd : FuncData} (D_Floor_sort_of : FunD K d_Floor_sort_of.name d_Floor_sort_of.qual d_Floor_sort_of.params d_Floor_sort_of.body d_Floor_sort_of.scope (d_Floor_sort_of.dvs K) (d_Floor_sort_of.kws K) (He.fAd K d_Floor_sort_of.at_) fd) : KB K fd ["self", "place"] 2 [] (fun ds es => pick [(0, 0), (0, 1)] ds es []) := kb_all D_Floor_sort_of rfl 2 [] [(0, 0), (0, 1)] fun _ _ _ _ _ _ us ws l1 l2 => match us, ws, l1, l2 with | [_, _], [], _, _ => rfl
theorem kb11 {K : PySem.W.Frag} {fd : FuncData} (D_serial_in : FunD K d_serial_in.name d_serial_in.qual d_serial_in.params d_serial_in.body d_serial_in.scope (d_serial_in.dvs K) (d_serial_in.kws K) (He.fAd K d_serial_in.at_) fd) : KB K fd ["word"] 1 [] (fun ds es => pick [(0, 0)] ds es []) := kb_all D_serial_in rfl 1 [] [(0, 0)] fun _ _ _ _ _ _ us ws l1 l2 => match us, ws, l1, l2 with | [_], [], _, _ => rfl
theorem kb12 {K : PySem.W.Frag} {fd : FuncData} (D_is_place : FunD K d_is_place.name d_is_place.qual d_is_place.params d_is_place.body d_is_place.scope (d_is_place.dvs K) (d_is_place.kws K) (He.fAd K d_is_place.at_) fd) : KB K fd ["word"] 1 [] (fun ds es => pick [(0, 0)] ds es []) := kb_all D_is_place rfl 1 [] [(0, 0)] fun _ _ _ _ _ _ us ws l1 l2 => match us, ws, l1, l2 with | [_], [], _, _ => rfl
theorem kb13 {K : PySem.W.Frag} {fd : FuncData} (D_Floor_there : FunD K d_Floor_there.name d_Floor_there.qual d_Floor_there.params d_Floor_there.body d_Floor_there.scope (d_Floor_there.dvs K) (d_Floor_there.kws K) (He.fAd K d_Floor_there.at_) fd) : KB K fd ["self", "place"] 2 [] (fun ds es => pick [(0, 0), (0, 1)] ds es []) := kb_all D_Floor_there rfl 2 [] [(0, 0), (0, 1)] fun _ _ _ _ _ _ us ws l1 l2 => match us, ws, l1, l2 with | [_, _], [], _, _ => rfl
theorem kb14 {K : PySem.W.Frag} {fd : FuncData} (D_Floor_serial_of : FunD K d_Floor_serial_of.name d_Floor_serial_of.qual d_Floor_serial_of.params d_Floor_serial_of.body d_Floor_serial_of.scope (d_Floor_serial_of.dvs K) (d_Floor_serial_of.kws K) (He.fAd K d_Floor_serial_of.at_) fd) : KB K fd ["self", "place"] 2 [] (fun ds es => pick [(0, 0), (0, 1)] ds es []) := kb_all D_Floor_serial_of rfl 2 [] [(0, 0), (0, 1)] fun _ _ _ _ _ _ us ws l1 l2 => match us, ws, l1, l2 with | [_, _], [], _, _ => rfl
theorem kb15 {K : PySem.W.Frag} {fd : FuncData} (D_Floor_words_at : FunD K d_Floor_words_at.name d_Floor_words_at.qual d_Floor_words_at.params d_Floor_words_at.body d_Floor_words_at.scope (d_Floor_words_at.dvs K) (d_Floor_words_at.kws K) (He.fAd K d_Floor_words_at.at_) fd) : KB K fd ["self", "place"] 2 [] (fun ds es => pick [(0, 0), (0, 1)] ds es []) := kb_all D_Floor_words_at rfl 2 [] [(0, 0), (0, 1)] fun _ _ _ _ _ _ us ws l1 l2 => match us, ws, l1, l2 with | [_, _], [], _, _ => rfl
theorem kb16 {K : PySem.W.Frag} {fd : FuncData} (D_value_of : FunD K d_value_of.name d_value_of.qual d_value_of.params d_value_of.body d_value_of.scope (d_value_of.dvs K) (d_value_of.kws K) (He.fAd K d_value_of.at_) fd) : KB K fd ["word"] 1 [] (fun ds es => pick [(0, 0)] ds es []) := kb_all D_value_of rfl 1 [] [(0, 0)] fun _ _ _ _ _ _ us ws l1 l2 => match us, ws, l1, l2 with | [_], [], _, _ => rfl
theorem kb17 {K : PySem.W.Frag} {fd : FuncData} (D_age_in : FunD K d_age_in.name d_age_in.qual d_age_in.params d_age_in.body d_age_in.scope (d_age_in.dvs K) (d_age_in.kws K) (He.fAd K d_age_in.at_) fd) : KB K fd ["word"] 1 [] (fun ds es => pick [(0, 0)] ds es []) := kb_all D_age_in rfl 1 [] [(0, 0)] fun _ _ _ _ _ _ us ws l1 l2 => match us, ws, l1, l2 with | [_], [], _, _ => rfl
theorem kb18 {K : PySem.W.Frag} {fd : FuncData} (D_mark_in : FunD K d_mark_in.name d_mark_in.qual d_mark_in.params d_mark_in.body d_mark_in.scope (d_mark_in.dvs K) (d_mark_in.kws K) (He.fAd K d_mark_in.at_) fd) : KB K fd ["word"] 1 [] (fun ds es => pick [(0, 0)] ds es []) := kb_all D_mark_in rfl 1 [] [(0, 0)] fun _ _ _ _ _ _ us ws l1 l2 => match us, ws, l1, l2 with | [_], [], _, _ => rfl
theorem kb19 {K : PySem.W.Frag} {fd : FuncData} (D_Floor_places : FunD K d_Floor_places.name d_Floor_places.qual d_Floor_places.params d_Floor_places.body d_Floor_places.scope (d_Floor_places.dvs K) (d_Floor_places.kws K) (He.fAd K d_Floor_places.at_) fd) : KB K fd ["self", "first", "top"] 3 [] (fun ds es => pick [(0, 0), (0, 1), (0, 2)] ds es []) := kb_all D_Floor_places rfl 3 [] [(0, 0), (0, 1), (0, 2)] fun _ _ _ _ _ _ us ws l1 l2 => match us, ws, l1, l2 with | [_, _, _], [], _, _ => rfl
theorem kb20 {K : PySem.W.Frag} {fd : FuncData} (D_pictured : FunD K d_pictured.name d_pictured.qual d_pictured.params d_pictured.body d_pictured.scope (d_pictured.dvs K) (d_pictured.kws K) (He.fAd K d_pictured.at_) fd) : KB K fd ["floor", "place"] 2 [] (fun ds es => pick [(0, 0), (0, 1)] ds es []) := kb_all D_pictured rfl 2 [] [(0, 0), (0, 1)] fun _ _ _ _ _ _ us ws l1 l2 => match us, ws, l1, l2 with | [_, _], [], _, _ => rfl
theorem kb21 {K : PySem.W.Frag} {fd : FuncData} (D_word_of : FunD K d_word_of.name d_word_of.qual d_word_of.params d_word_of.body d_word_of.scope (d_word_of.dvs K) (d_word_of.kws K) (He.fAd K d_word_of.at_) fd) : KB K fd ["value"] 1 [] (fun ds es => pick [(0, 0)] ds es []) := kb_all D_word_of rfl 1 [] [(0, 0)] fun _ _ _ _ _ _ us ws l1 l2 => match us, ws, l1, l2 with | [_], [], _, _ => rfl
theorem kb22 {K : PySem.W.Frag} {fd : FuncData} (D_Floor_there_word : FunD K d_Floor_there_word.name d_Floor_there_word.qual d_Floor_there_word.params d_Floor_there_word.body d_Floor_there_word.scope (d_Floor_there_word.dvs K) (d_Floor_there_word.kws K) (He.fAd K d_Floor_there_word.at_) fd) : KB K fd ["self", "word"] 2 [] (fun ds es => pick [(0, 0), (0, 1)] ds es []) := kb_all D_Floor_there_word rfl 2 [] [(0, 0), (0, 1)] fun _ _ _ _ _ _ us ws l1 l2 => match us, ws, l1, l2 with | [_, _], [], _, _ => rfl
theorem kb23 {K : PySem.W.Frag} {fd : FuncData} (D_Yard_seen_places_o : FunD K d_Yard_seen_places_o.name d_Yard_seen_places_o.qual d_Yard_seen_places_o.params d_Yard_seen_places_o.body d_Yard_seen_places_o.scope (d_Yard_seen_places_o.dvs K) (d_Yard_seen_places_o.kws K) (He.fAd K d_Yard_seen_places_o.at_) fd) : KB K fd ["self"] 1 [] (fun ds es => pick [(0, 0)] ds es []) := kb_all D_Yard_seen_places_o rfl 1 [] [(0, 0)] fun _ _ _ _ _ _ us ws l1 l2 => match us, ws, l1, l2 with | [_], [], _, _ => rfl
theorem kb24 {K : PySem.W.Frag} {fd : FuncData} (D_Yard_goal : FunD K d_Yard_goal.name d_Yard_goal.qual d_Yard_goal.params d_Yard_goal.body d_Yard_goal.scope (d_Yard_goal.dvs K) (d_Yard_goal.kws K) (He.fAd K d_Yard_goal.at_) fd) : KB K fd ["self", "value"] 2 [] (fun ds es => pick [(0, 0), (0, 1)] ds es []) := kb_all D_Yard_goal rfl 2 [] [(0, 0), (0, 1)] fun _ _ _ _ _ _ us ws l1 l2 => match us, ws, l1, l2 with | [_, _], [], _, _ => rfl
theorem kb25 {K : PySem.W.Frag} {fd : FuncData} (D_Ground_sure_pegs : FunD K d_Ground_sure_pegs.name d_Ground_sure_pegs.qual d_Ground_sure_pegs.params d_Ground_sure_pegs.body d_Ground_sure_pegs.scope (d_Ground_sure_pegs.dvs K) (d_Ground_sure_pegs.kws K) (He.fAd K d_Ground_sure_pegs.at_) fd) : KB K fd ["self", "some"] 2 [] (fun ds es => pick [(0, 0), (0, 1)] ds es []) := kb_all D_Ground_sure_pegs rfl 2 [] [(0, 0), (0, 1)] fun _ _ _ _ _ _ us ws l1 l2 => match us, ws, l1, l2 with | [_, _], [], _, _ => rfl
theorem kb26 {K : PySem.W.Frag} {fd : FuncData} (D_led_to_webs : FunD K d_led_to_webs.name d_led_to_webs.qual d_led_to_webs.params d_led_to_webs.body d_led_to_webs.scope (d_led_to_webs.dvs K) (d_led_to_webs.kws K) (He.fAd K d_led_to_webs.at_) fd) : KB K fd ["value"] 1 [] (fun ds es => pick [(0, 0)] ds es []) := kb_all D_led_to_webs rfl 1 [] [(0, 0)] fun _ _ _ _ _ _ us ws l1 l2 => match us, ws, l1, l2 with | [_], [], _, _ => rfl
theorem kb27 {K : PySem.W.Frag} {fd : FuncData} (D_Yard_sort_at : FunD K d_Yard_sort_at.name d_Yard_sort_at.qual d_Yard_sort_at.params d_Yard_sort_at.body d_Yard_sort_at.scope (d_Yard_sort_at.dvs K) (d_Yard_sort_at.kws K) (He.fAd K d_Yard_sort_at.at_) fd) : KB K fd ["self", "value"] 2 [] (fun ds es => pick [(0, 0), (0, 1)] ds es []) := kb_all D_Yard_sort_at rfl 2 [] [(0, 0), (0, 1)] fun _ _ _ _ _ _ us ws l1 l2 => match us, ws, l1, l2 with | [_, _], [], _, _ => rfl
theorem kb28 {K : PySem.W.Frag} {fd : FuncData} (D_Yard_step : FunD K d_Yard_step.name d_Yard_step.qual d_Yard_step.params d_Yard_step.body d_Yard_step.scope (d_Yard_step.dvs K) (d_Yard_step.kws K) (He.fAd K d_Yard_step.at_) fd) : KB K fd ["self", "units"] 1 ["units"] (fun ds es => pick [(0, 0), (1, 0)] ds es []) := kb_all D_Yard_step rfl 1 ["units"] [(0, 0), (1, 0)] fun _ _ _ _ _ _ us ws l1 l2 => match us, ws, l1, l2 with | [_], [_], _, _ => rfl
theorem kb29 {K : PySem.W.Frag} {fd : FuncData} (D_Ground_pegs : FunD K d_Ground_pegs.name d_Ground_pegs.qual d_Ground_pegs.params d_Ground_pegs.body d_Ground_pegs.scope (d_Ground_pegs.dvs K) (d_Ground_pegs.kws K) (He.fAd K d_Ground_pegs.at_) fd) : KB K fd ["self"] 1 [] (fun ds es => pick [(0, 0)] ds es []) := kb_all D_Ground_pegs rfl 1 [] [(0, 0)] fun _ _ _ _ _ _ us ws l1 l2 => match us, ws, l1, l2 with | [_], [], _, _ => rfl
theorem kb30 {K : PySem.W.Frag} {fd : FuncData} (D_Yard_made : FunD K d_Yard_made.name d_Yard_made.qual d_Yard_made.params d_Yard_made.body d_Yard_made.scope (d_Yard_made.dvs K) (d_Yard_made.kws K) (He.fAd K d_Yard_made.at_) fd) : KB K fd ["self"] 1 [] (fun ds es => pick [(0, 0)] ds es []) := kb_all D_Yard_made rfl 1 [] [(0, 0)] fun _ _ _ _ _ _ us ws l1 l2 => match us, ws, l1, l2 with | [_], [], _, _ => rfl
theorem kb31 {K : PySem.W.Frag} {fd : FuncData} (D_Yard_news : FunD K d_Yard_news.name d_Yard_news.qual d_Yard_news.params d_Yard_news.body d_Yard_news.scope (d_Yard_news.dvs K) (d_Yard_news.kws K) (He.fAd K d_Yard_news.at_) fd) : KB K fd ["self"] 1 [] (fun ds es => pick [(0, 0)] ds es []) := kb_all D_Yard_news rfl 1 [] [(0, 0)] fun _ _ _ _ _ _ us ws l1 l2 => match us, ws, l1, l2 with | [_], [], _, _ => rfl
theorem kb32 {K : PySem.W.Frag} {fd : FuncData} (D_Yard_picture : FunD K d_Yard_picture.name d_Yard_picture.qual d_Yard_picture.params d_Yard_picture.body d_Yard_picture.scope (d_Yard_picture.dvs K) (d_Yard_picture.kws K) (He.fAd K d_Yard_picture.at_) fd) : KB K fd ["self"] 1 [] (fun ds es => pick [(0, 0)] ds es []) := kb_all D_Yard_picture rfl 1 [] [(0, 0)] fun _ _ _ _ _ _ us ws l1 l2 => match us, ws, l1, l2 with | [_], [], _, _ => rfl
theorem kb33 {K : PySem.W.Frag} {fd : FuncData} (D_Yard_serials : FunD K d_Yard_serials.name d_Yard_serials.qual d_Yard_serials.params d_Yard_serials.body d_Yard_serials.scope (d_Yard_serials.dvs K) (d_Yard_serials.kws K) (He.fAd K d_Yard_serials.at_) fd) : KB K fd ["self"] 1 [] (fun ds es => pick [(0, 0)] ds es []) := kb_all D_Yard_serials rfl 1 [] [(0, 0)] fun _ _ _ _ _ _ us ws l1 l2 => match us, ws, l1, l2 with | [_], [], _, _ => rfl
theorem kb34 {K : PySem.W.Frag} {fd : FuncData} (D_Ground_what : FunD K d_Ground_what.name d_Ground_what.qual d_Ground_what.params d_Ground_what.body d_Ground_what.scope (d_Ground_what.dvs K) (d_Ground_what.kws K) (He.fAd K d_Ground_what.at_) fd) : KB K fd ["self", "p"] 2 [] (fun ds es => pick [(0, 0), (0, 1)] ds es []) := kb_all D_Ground_what rfl 2 [] [(0, 0), (0, 1)] fun _ _ _ _ _ _ us ws l1 l2 => match us, ws, l1, l2 with | [_, _], [], _, _ => rfl
theorem kb35 {K : PySem.W.Frag} {fd : FuncData} (D_p_law_steps_right : FunD K d_p_law_steps_right.name d_p_law_steps_right.qual d_p_law_steps_right.params d_p_law_steps_right.body d_p_law_steps_right.scope (d_p_law_steps_right.dvs K) (d_p_law_steps_right.kws K) (He.fAd K d_p_law_steps_right.at_) fd) : KB K fd ["_law_found"] 1 [] (fun ds es => pick [(0, 0)] ds es []) := kb_all D_p_law_steps_right rfl 1 [] [(0, 0)] fun _ _ _ _ _ _ us ws l1 l2 => match us, ws, l1, l2 with | [_], [], _, _ => rfl
theorem kb36 {K : PySem.W.Frag} {fd : FuncData} (D_p_law_state : FunD K d_p_law_state.name d_p_law_state.qual d_p_law_state.params d_p_law_state.body d_p_law_state.scope (d_p_law_state.dvs K) (d_p_law_state.kws K) (He.fAd K d_p_law_state.at_) fd) : KB K fd ["_law_script", "_law_k"] 2 [] (fun ds es => pick [(0, 0), (0, 1)] ds es []) := kb_all D_p_law_state rfl 2 [] [(0, 0), (0, 1)] fun _ _ _ _ _ _ us ws l1 l2 => match us, ws, l1, l2 with | [_, _], [], _, _ => rfl
theorem kb37 {K : PySem.W.Frag} {fd : FuncData} (D_p_law_near : FunD K d_p_law_near.name d_p_law_near.qual d_p_law_near.params d_p_law_near.body d_p_law_near.scope (d_p_law_near.dvs K) (d_p_law_near.kws K) (He.fAd K d_p_law_near.at_) fd) : KB K fd ["_law_state_here", "_law_least_one", "_law_most_one"] 3 [] (fun ds es => pick [(0, 0), (0, 1), (0, 2)] ds es []) := kb_all D_p_law_near rfl 3 [] [(0, 0), (0, 1), (0, 2)] fun _ _ _ _ _ _ us ws l1 l2 => match us, ws, l1, l2 with | [_, _, _], [], _, _ => rfl
theorem kb38 {K : PySem.W.Frag} {fd : FuncData} (D_p_law_made : FunD K d_p_law_made.name d_p_law_made.qual d_p_law_made.params d_p_law_made.body d_p_law_made.scope (d_p_law_made.dvs K) (d_p_law_made.kws K) (He.fAd K d_p_law_made.at_) fd) : KB K fd ["_law_many", "_law_sizes", "_law_sort", "_law_times", "_law_paid", "_law_way"] 6 [] (fun ds es => pick [(0, 0), (0, 1), (0, 2), (0, 3), (0, 4), (0, 5)] ds es []) := kb_all D_p_law_made rfl 6 [] [(0, 0), (0, 1), (0, 2), (0, 3), (0, 4), (0, 5)] fun _ _ _ _ _ _ us ws l1 l2 => match us, ws, l1, l2 with | [_, _, _, _, _, _], [], _, _ => rfl
theorem kb39 {K : PySem.W.Frag} {fd : FuncData} (D_p_law_good : FunD K d_p_law_good.name d_p_law_good.qual d_p_law_good.params d_p_law_good.body d_p_law_good.scope (d_p_law_good.dvs K) (d_p_law_good.kws K) (He.fAd K d_p_law_good.at_) fd) : KB K fd ["_law_thing", "_law_least_one", "_law_most_one"] 3 [] (fun ds es => pick [(0, 0), (0, 1), (0, 2)] ds es []) := kb_all D_p_law_good rfl 3 [] [(0, 0), (0, 1), (0, 2)] fun _ _ _ _ _ _ us ws l1 l2 => match us, ws, l1, l2 with | [_, _, _], [], _, _ => rfl
theorem kb40 {K : PySem.W.Frag} {fd : FuncData} (D_p_law_new_right : FunD K d_p_law_new_right.name d_p_law_new_right.qual d_p_law_new_right.params d_p_law_new_right.body d_p_law_new_right.scope (d_p_law_new_right.dvs K) (d_p_law_new_right.kws K) (He.fAd K d_p_law_new_right.at_) fd) : KB K fd ["_law_found", "_law_many", "_law_sizes", "_law_sort", "_law_times"] 5 [] (fun ds es => pick [(0, 0), (0, 1), (0, 2), (0, 3), (0, 4)] ds es []) := kb_all D_p_law_new_right rfl 5 [] [(0, 0), (0, 1), (0, 2), (0, 3), (0, 4)] fun _ _ _ _ _ _ us ws l1 l2 => match us, ws, l1, l2 with | [_, _, _, _, _], [], _, _ => rfl
theorem ok_p_law_state {P : Program} {w : World} {K : PySem.W.Frag} {mg : Str → Option Value} {base : Heap} (T : Txt K mg) (TB : ∀ p ∈ tq, LamX.TabB base mg (He.cT K p.1).1 (He.cT K p.1).2) : ∃ fd, FunD K d_p_law_state.name d_p_law_state.qual d_p_law_state.params d_p_law_state.body d_p_law_state.scope (d_p_law_state.dvs K) (d_p_law_state.kws K) (He.fAd K d_p_law_state.at_) fd ∧
    FnG P w K mg base 1 (He.fAd K d_p_law_state.at_) fd ["_law_script", "_law_k"] (spD K mg 2 S_p_law_state) := by
  have b_abs := free_abs T
  have b_len := free_len T
  obtain ⟨fd, F⟩ := fun_p_law_state T
  refine ⟨fd, F, fnG (N := N_p_law_state) (ps := ["_law_script", "_law_k"]) (k := 0) (g := m_p_law_state) F ⟨rfl, rfl, rfl, by decide +kernel, rfl, by decide +kernel, by decide +kernel⟩ fun cdv A outer s H E C => ?_⟩
  refine dss_cons (ds_set C (i := 2) rfl (by first | exact Or.inl rfl | exact Or.inr rfl) (de_ifExp (dt_cmp (opr_ne C) opd_ne (de_var (pv 0)) (de_lst da_nil) (nomark _)) (de_abs rfl b_abs (da_cons (de_sub1 C (de_var (pv 0)) (de_mod (de_var (pv 1)) (de_len rfl b_len (da_cons (de_var (pv 0)) da_nil)))) da_nil)) de_int)) ?_
  refine dss_cons (ds_if (dt_cmp op_ge opd_ge (de_var (pv 2)) (de_pow de_int de_int) (nomark _)) (dss_one (ds_ret (de_lstO (da_cons (de_sub (de_var (pv 2)) (de_pow de_int de_int)) da_nil)))) dss_nil) ?_
  exact (dss_cons (ds_set C (i := 3) rfl (by first | exact Or.inl rfl | exact Or.inr rfl) de_int) (dss_cons (ds_set C (i := 4) rfl (by first | exact Or.inl rfl | exact Or.inr rfl) (de_lst (da_cons de_int (da_cons de_int (da_cons de_int (da_cons de_int (da_cons de_int (da_cons de_int (da_cons de_int (da_cons de_int da_nil)))))))))) (dss_cons (ds_for C (di_seq (de_add (de_var (pv 4)) (de_lst (da_cons de_int (da_cons de_int (da_cons de_int (da_cons de_int (da_cons de_int (da_cons de_int (da_cons de_int da_nil)))))))))) (dg_name (i := 5) (pg_name C.nd rfl (by first | exact Or.inl rfl | exact Or.inr rfl))) (dss_cons (ds_set C (i := 6) rfl (by first | exact Or.inl rfl | exact Or.inr rfl) (de_mod (de_mul (de_pow (de_add (de_add (de_mod (de_var (pv 2)) (de_var (pv 5))) (de_mul de_int (de_var (pv 1)))) de_int) de_int) de_int) (de_var (pv 5)))) (dss_one (ds_set C (i := 3) rfl (by first | exact Or.inl rfl | exact Or.inr rfl) (de_add (de_mul (de_var (pv 3)) de_int) (de_mod (de_mul (de_var (pv 6)) (de_add (de_var (pv 6)) (de_fdiv (de_var (pv 5)) de_int))) (de_var (pv 5)))))))) (dss_one (ds_ret (de_lstO (da_cons (de_var (pv 3)) da_nil)))))))
theorem ok_p_law_next {P : Program} {w : World} {K : PySem.W.Frag} {mg : Str → Option Value} {base : Heap} (T : Txt K mg) (TB : ∀ p ∈ tq, LamX.TabB base mg (He.cT K p.1).1 (He.cT K p.1).2) : ∃ fd, FunD K d_p_law_next.name d_p_law_next.qual d_p_law_next.params d_p_law_next.body d_p_law_next.scope (d_p_law_next.dvs K) (d_p_law_next.kws K) (He.fAd K d_p_law_next.at_) fd ∧
    FnG P w K mg base 1 (He.fAd K d_p_law_next.at_) fd ["_law_state_here", "_law_most"] (spD K mg 2 S_p_law_next) := by
  obtain ⟨fd, F⟩ := fun_p_law_next T
  refine ⟨fd, F, fnG (N := N_p_law_next) (ps := ["_law_state_here", "_law_most"]) (k := 0) (g := m_p_law_next) F ⟨rfl, rfl, rfl, by decide +kernel, rfl, by decide +kernel, by decide +kernel⟩ fun cdv A outer s H E C => ?_⟩
  exact (dss_cons (ds_set C (i := 2) rfl (by first | exact Or.inl rfl | exact Or.inr rfl) (de_mod (de_sub1 C (de_var (pv 0)) de_int) (de_var (pv 1)))) (dss_cons (ds_put C (de_var (pv 0)) de_int (de_fdiv (de_sub1 C (de_var (pv 0)) de_int) (de_var (pv 1)))) (dss_one (ds_ret (de_var (pv 2))))))
theorem ok_p_law_pick {P : Program} {w : World} {K : PySem.W.Frag} {mg : Str → Option Value} {base : Heap} (T : Txt K mg) (TB : ∀ p ∈ tq, LamX.TabB base mg (He.cT K p.1).1 (He.cT K p.1).2) : ∃ fd, FunD K d_p_law_pick.name d_p_law_pick.qual d_p_law_pick.params d_p_law_pick.body d_p_law_pick.scope (d_p_law_pick.dvs K) (d_p_law_pick.kws K) (He.fAd K d_p_law_pick.at_) fd ∧
    FnG P w K mg base 2 (He.fAd K d_p_law_pick.at_) fd ["_law_state_here", "_law_some"] (spD K mg 2 S_p_law_pick) := by
  obtain ⟨fd_p_law_next, D_p_law_next, G_p_law_next⟩ := ok_p_law_next (P := P) (w := w) (base := base) T TB
  have m_p_law_next := glo_p_law_next T
  have b_len := free_len T
  obtain ⟨fd, F⟩ := fun_p_law_pick T
  refine ⟨fd, F, fnG (N := N_p_law_pick) (ps := ["_law_state_here", "_law_some"]) (k := 1) (g := m_p_law_pick) F ⟨rfl, rfl, rfl, by decide +kernel, rfl, by decide +kernel, by decide +kernel⟩ fun cdv A outer s H E C => ?_⟩
  exact (dss_one (ds_ret (de_sub1 C (de_var (pv 1)) (de_callL (x := "_law_next") G_p_law_next callOk_share C rfl m_p_law_next D_p_law_next.kp (kb0 D_p_law_next) (da_cons (de_var (pv 0)) (da_cons (de_len rfl b_len (da_cons (de_var (pv 1)) da_nil)) da_nil)) dkw_nil))))
theorem ok_p_law_near {P : Program} {w : World} {K : PySem.W.Frag} {mg : Str → Option Value} {base : Heap} (T : Txt K mg) (TB : ∀ p ∈ tq, LamX.TabB base mg (He.cT K p.1).1 (He.cT K p.1).2) : ∃ fd, FunD K d_p_law_near.name d_p_law_near.qual d_p_law_near.params d_p_law_near.body d_p_law_near.scope (d_p_law_near.dvs K) (d_p_law_near.kws K) (He.fAd K d_p_law_near.at_) fd ∧
    FnG P w K mg base 3 (He.fAd K d_p_law_near.at_) fd ["_law_state_here", "_law_least_one", "_law_most_one"] (spD K mg 3 S_p_law_near) := by
  obtain ⟨fd_p_law_next, D_p_law_next, G_p_law_next⟩ := ok_p_law_next (P := P) (w := w) (base := base) T TB
  have m_p_law_next := glo_p_law_next T
  obtain ⟨fd_p_law_pick, D_p_law_pick, G_p_law_pick⟩ := ok_p_law_pick (P := P) (w := w) (base := base) T TB
  have m_p_law_pick := glo_p_law_pick T
  obtain ⟨fd, F⟩ := fun_p_law_near T
  refine ⟨fd, F, fnG (N := N_p_law_near) (ps := ["_law_state_here", "_law_least_one", "_law_most_one"]) (k := 2) (g := m_p_law_near) F ⟨rfl, rfl, rfl, by decide +kernel, rfl, by decide +kernel, by decide +kernel⟩ fun cdv A outer s H E C => ?_⟩
  refine dss_cons (ds_set C (i := 3) rfl (by first | exact Or.inl rfl | exact Or.inr rfl) (de_callL (x := "_law_next") G_p_law_next callOk_share C rfl m_p_law_next D_p_law_next.kp (kb0 D_p_law_next) (da_cons (de_var (pv 0)) (da_cons de_int da_nil)) dkw_nil)) ?_
  refine dss_cons (ds_if (dt_cmp (opr_eq C) opd_eq (de_var (pv 3)) de_int (nomark _)) (dss_one (ds_ret (de_callL (x := "_law_pick") G_p_law_pick callOk_share C rfl m_p_law_pick D_p_law_pick.kp (kb1 D_p_law_pick) (da_cons (de_var (pv 0)) (da_cons (de_lst (da_cons de_non (da_cons de_bl (da_cons de_str (da_cons (de_tup (da_cons de_int da_nil)) (da_cons (de_lst da_nil) (da_cons (de_neg de_int) da_nil))))))) da_nil)) dkw_nil))) dss_nil) ?_
  exact (dss_cons (ds_if (dt_cmp (opr_eq C) opd_eq (de_var (pv 3)) de_int (nomark _)) (dss_one (ds_ret (de_callL (x := "_law_pick") G_p_law_pick callOk_share C rfl m_p_law_pick D_p_law_pick.kp (kb1 D_p_law_pick) (da_cons (de_var (pv 0)) (da_cons (de_lst (da_cons (de_sub (de_var (pv 1)) de_int) (da_cons (de_add (de_var (pv 2)) de_int) (da_cons (de_pow de_int de_int) da_nil)))) da_nil)) dkw_nil))) dss_nil) (dss_cons (ds_if (dt_cmp op_gt opd_gt (de_var (pv 3)) de_int (nomark _)) (dss_one (ds_ret (de_sub1 C (de_lst (da_cons (de_var (pv 1)) (da_cons (de_var (pv 2)) da_nil))) (de_sub (de_var (pv 3)) de_int)))) dss_nil) (dss_one (ds_ret (de_add (de_var (pv 1)) (de_callL (x := "_law_next") G_p_law_next callOk_share C rfl m_p_law_next D_p_law_next.kp (kb0 D_p_law_next) (da_cons (de_var (pv 0)) (da_cons (de_add (de_sub (de_var (pv 2)) (de_var (pv 1))) de_int) da_nil)) dkw_nil))))))
theorem ok_p_law_got {P : Program} {w : World} {K : PySem.W.Frag} {mg : Str → Option Value} {base : Heap} (T : Txt K mg) (TB : ∀ p ∈ tq, LamX.TabB base mg (He.cT K p.1).1 (He.cT K p.1).2) : ∃ fd, FunD K d_p_law_got.name d_p_law_got.qual d_p_law_got.params d_p_law_got.body d_p_law_got.scope (d_p_law_got.dvs K) (d_p_law_got.kws K) (He.fAd K d_p_law_got.at_) fd ∧
    FnT P w K mg base 31 "_law_got" d_p_law_got.scope (He.fAd K d_p_law_got.at_) fd "_law_work" N_p_law_got m_p_law_got := by
  have b_ValueError := free_ValueError T
  have b_isinstance := free_isinstance T
  have gx_BadGround := gloc_BadGround T
  have gx_BadNumber := gloc_BadNumber T
  have gx_YardError := gloc_YardError T
  have kit_ValueError := kitc_ValueError T
  have exm_BadGround := exmc_BadGround T
  have exm_YardError := exmc_YardError T
  obtain ⟨fd, F⟩ := fun_p_law_got T
  refine ⟨fd, F, fnT (k := 31) (m := m_p_law_got) F ⟨rfl, rfl, rfl, by decide +kernel, rfl, by decide +kernel, by decide +kernel⟩ rfl (by first | exact Or.inl rfl | exact Or.inr (Or.inl rfl)) (fun s v => L2.FunD.bindsA (ps := ["_law_work"]) F (fun _ _ _ _ _ _ us hl => match us, hl with | [_], _ => rfl) s [v] rfl) fun cdv A outer s H E f c q tl C act => ?_⟩
  exact (ts_const C (i := 1) (d := .non) (by rfl) rfl (by first | exact Or.inl rfl | exact Or.inr rfl) pe_non (fun _ _ => dat_non) (ts_const C (i := 2) (d := .non) (by rfl) rfl (by first | exact Or.inl rfl | exact Or.inr rfl) pe_non (fun _ _ => dat_non) (ts_trySet act C rfl rfl rfl (i := 1) rfl (by first | exact Or.inl rfl | exact Or.inr rfl) (.named ⟨rfl, by decide, .inl gx_BadGround⟩ C.nd (i := 3) rfl rfl exm_BadGround (fun a pn => (dss_one (ds_setS (by exact C.nd) (i := 2) rfl (by first | exact Or.inl rfl | exact Or.inr rfl) (de_ifExp (dt_val (de_isXT rfl b_isinstance kit_ValueError (da_cons (de_var (pv 3)) (da_cons (de_ty rfl b_ValueError (by rfl)) da_nil)))) de_str de_str)))) (.plain ⟨rfl, by decide, .inl gx_YardError⟩ exm_YardError (fun a pn => (dss_one (ds_setS (by exact C.nd) (i := 2) rfl (by first | exact Or.inl rfl | exact Or.inr rfl) de_str))) .nil)) (dss_one (ds_ret (de_ifExp (dt_cmp op_isN opd_is (de_var (pv 2)) de_non (nomark _)) (de_var (pv 1)) (de_var (pv 2))))))))
theorem ok_is_whole {P : Program} {w : World} {K : PySem.W.Frag} {mg : Str → Option Value} {base : Heap} (T : Txt K mg) (TB : ∀ p ∈ tq, LamX.TabB base mg (He.cT K p.1).1 (He.cT K p.1).2) : ∃ fd, FunD K d_is_whole.name d_is_whole.qual d_is_whole.params d_is_whole.body d_is_whole.scope (d_is_whole.dvs K) (d_is_whole.kws K) (He.fAd K d_is_whole.at_) fd ∧
    FnG P w K mg base 1 (He.fAd K d_is_whole.at_) fd ["thing", "least", "most"] (spD K mg 3 S_is_whole) := by
  have b_bool := free_bool T
  have b_int := free_int T
  have b_isinstance := free_isinstance T
  obtain ⟨fd, F⟩ := fun_is_whole T
  refine ⟨fd, F, fnG (N := N_is_whole) (ps := ["thing", "least", "most"]) (k := 0) (g := m_is_whole) F ⟨rfl, rfl, rfl, by decide +kernel, rfl, by decide +kernel, by decide +kernel⟩ fun cdv A outer s H E C => ?_⟩
  exact (dss_one (ds_ret (de_and (de_isi rfl b_isinstance (da_cons (de_var (pv 0)) (da_cons (de_ty rfl b_int (by rfl)) da_nil))) (de_and (de_not (de_isi rfl b_isinstance (da_cons (de_var (pv 0)) (da_cons (de_ty rfl b_bool (by rfl)) da_nil)))) (de_one (de_chain op_le op_le opd_le opd_le (de_var (pv 1)) (de_var (pv 0)) (de_var (pv 2))))))))
theorem ok_Ground_init {P : Program} {w : World} {K : PySem.W.Frag} {mg : Str → Option Value} {base : Heap} (T : Txt K mg) (TB : ∀ p ∈ tq, LamX.TabB base mg (He.cT K p.1).1 (He.cT K p.1).2) : ∃ fd, FunD K d_Ground_init.name d_Ground_init.qual d_Ground_init.params d_Ground_init.body d_Ground_init.scope (d_Ground_init.dvs K) (d_Ground_init.kws K) (He.fAd K d_Ground_init.at_) fd ∧
    FnG P w K mg base 2 (He.fAd K d_Ground_init.at_) fd ["self", "pegs"] (spD K mg 2 S_Ground_init) := by
  obtain ⟨fd_is_whole, D_is_whole, G_is_whole⟩ := ok_is_whole (P := P) (w := w) (base := base) T TB
  have m_is_whole := glo_is_whole T
  obtain ⟨_, i_MOST_PEGS⟩ := int_MOST_PEGS T
  have gx_BadGround := gloc_BadGround T
  have rai_BadGround := raic_BadGround T
  have I_Yard : ∀ {X : Cx}, X.K = K → X.mg = mg → ClsI X "Yard" (He.ga K "Yard") := fun h1 h2 => ⟨by rw [h2]; exact gloc_Yard T, by rw [h1]; exact cls_Yard T⟩
  have N_Yard_queue := noat_Yard_queue T
  have N_Yard_stands := noat_Yard_stands T
  obtain ⟨fd, F⟩ := fun_Ground_init T
  refine ⟨fd, F, fnG (N := N_Ground_init) (ps := ["self", "pegs"]) (k := 1) (g := m_Ground_init) F ⟨rfl, rfl, rfl, by decide +kernel, rfl, by decide +kernel, by decide +kernel⟩ fun cdv A outer s H E C => ?_⟩
  exact (dss_cons (ds_if (dt_not (dt_val (de_callL (x := "is_whole") G_is_whole callOk_sub C rfl m_is_whole D_is_whole.kp (kb2 D_is_whole) (da_cons (de_var (pv 1)) (da_cons de_int (da_cons (de_globI rfl i_MOST_PEGS) da_nil))) dkw_nil))) (dss_one (ds_raiseC C rai_BadGround gx_BadGround rfl)) dss_nil) (dss_cons (ds_fld (de_var (pv 0)) (de_repO (de_lst (da_cons de_non da_nil)) (de_var (pv 1))) (cs := ["Yard"]) fun c hc => by rw [List.mem_singleton.mp hc]; exact ⟨_, I_Yard rfl rfl, N_Yard_stands⟩) (dss_one (ds_fld (de_var (pv 0)) (de_lstO da_nil) (cs := ["Yard"]) fun c hc => by rw [List.mem_singleton.mp hc]; exact ⟨_, I_Yard rfl rfl, N_Yard_queue⟩))))
theorem ok_Floor_init {P : Program} {w : World} {K : PySem.W.Frag} {mg : Str → Option Value} {base : Heap} (T : Txt K mg) (TB : ∀ p ∈ tq, LamX.TabB base mg (He.cT K p.1).1 (He.cT K p.1).2) : ∃ fd, FunD K d_Floor_init.name d_Floor_init.qual d_Floor_init.params d_Floor_init.body d_Floor_init.scope (d_Floor_init.dvs K) (d_Floor_init.kws K) (He.fAd K d_Floor_init.at_) fd ∧
    FnG P w K mg base 1 (He.fAd K d_Floor_init.at_) fd ["self", "young", "half", "barrier", "most_age"] (spD K mg 5 S_Floor_init) := by
  obtain ⟨_, i_MOST_PEGS⟩ := int_MOST_PEGS T
  have I_Floor : ∀ {X : Cx}, X.K = K → X.mg = mg → ClsI X "Floor" (He.ga K "Floor") := fun h1 h2 => ⟨by rw [h2]; exact gloc_Floor T, by rw [h1]; exact cls_Floor T⟩
  have N_Floor_barrier := noat_Floor_barrier T
  have N_Floor_cursor := noat_Floor_cursor T
  have N_Floor_far_places := noat_Floor_far_places T
  have N_Floor_greys := noat_Floor_greys T
  have N_Floor_half_places := noat_Floor_half_places T
  have N_Floor_last_places := noat_Floor_last_places T
  have N_Floor_most_age := noat_Floor_most_age T
  have N_Floor_new_first := noat_Floor_new_first T
  have N_Floor_new_top := noat_Floor_new_top T
  have N_Floor_old_first := noat_Floor_old_first T
  have N_Floor_old_top := noat_Floor_old_top T
  have N_Floor_phase := noat_Floor_phase T
  have N_Floor_serials_made := noat_Floor_serials_made T
  have N_Floor_store := noat_Floor_store T
  have N_Floor_tie_places := noat_Floor_tie_places T
  have N_Floor_told_news := noat_Floor_told_news T
  have N_Floor_young_first := noat_Floor_young_first T
  have N_Floor_young_places := noat_Floor_young_places T
  have N_Floor_young_spare := noat_Floor_young_spare T
  have N_Floor_young_top := noat_Floor_young_top T
  obtain ⟨fd, F⟩ := fun_Floor_init T
  refine ⟨fd, F, fnG (N := N_Floor_init) (ps := ["self", "young", "half", "barrier", "most_age"]) (k := 0) (g := m_Floor_init) F ⟨rfl, rfl, rfl, by decide +kernel, rfl, by decide +kernel, by decide +kernel⟩ fun cdv A outer s H E C => ?_⟩
  refine dss_cons (ds_fld (de_var (pv 0)) (de_repW (de_lst (da_cons de_int da_nil)) (de_add (de_add de_int (de_mul de_int (de_var (pv 1)))) (de_mul de_int (de_var (pv 2))))) (cs := ["Floor"]) fun c hc => by rw [List.mem_singleton.mp hc]; exact ⟨_, I_Floor rfl rfl, N_Floor_store⟩) ?_
  refine dss_cons (ds_fld (de_var (pv 0)) (de_var (pv 1)) (cs := ["Floor"]) fun c hc => by rw [List.mem_singleton.mp hc]; exact ⟨_, I_Floor rfl rfl, N_Floor_young_places⟩) ?_
  refine dss_cons (ds_fld (de_var (pv 0)) (de_var (pv 2)) (cs := ["Floor"]) fun c hc => by rw [List.mem_singleton.mp hc]; exact ⟨_, I_Floor rfl rfl, N_Floor_half_places⟩) ?_
  refine dss_cons (ds_fld (de_var (pv 0)) (de_var (pv 3)) (cs := ["Floor"]) fun c hc => by rw [List.mem_singleton.mp hc]; exact ⟨_, I_Floor rfl rfl, N_Floor_barrier⟩) ?_
  refine dss_cons (ds_fld (de_var (pv 0)) (de_var (pv 4)) (cs := ["Floor"]) fun c hc => by rw [List.mem_singleton.mp hc]; exact ⟨_, I_Floor rfl rfl, N_Floor_most_age⟩) ?_
  refine dss_cons (ds_fldC (de_var (pv 0)) (de_var (pv 0)) de_int (cs := ["Floor"]) (fun c hc => by rw [List.mem_singleton.mp hc]; exact ⟨_, I_Floor rfl rfl, N_Floor_young_first⟩) (fun c hc => by rw [List.mem_singleton.mp hc]; exact ⟨_, I_Floor rfl rfl, N_Floor_young_top⟩)) ?_
  refine dss_cons (ds_fld (de_var (pv 0)) (de_add de_int (de_var (pv 1))) (cs := ["Floor"]) fun c hc => by rw [List.mem_singleton.mp hc]; exact ⟨_, I_Floor rfl rfl, N_Floor_young_spare⟩) ?_
  refine dss_cons (ds_fldC (de_var (pv 0)) (de_var (pv 0)) (de_add de_int (de_mul de_int (de_var (pv 1)))) (cs := ["Floor"]) (fun c hc => by rw [List.mem_singleton.mp hc]; exact ⟨_, I_Floor rfl rfl, N_Floor_old_first⟩) (fun c hc => by rw [List.mem_singleton.mp hc]; exact ⟨_, I_Floor rfl rfl, N_Floor_old_top⟩)) ?_
  refine dss_cons (ds_fldC (de_var (pv 0)) (de_var (pv 0)) (de_add (de_add de_int (de_mul de_int (de_var (pv 1)))) (de_var (pv 2))) (cs := ["Floor"]) (fun c hc => by rw [List.mem_singleton.mp hc]; exact ⟨_, I_Floor rfl rfl, N_Floor_new_first⟩) (fun c hc => by rw [List.mem_singleton.mp hc]; exact ⟨_, I_Floor rfl rfl, N_Floor_new_top⟩)) ?_
  refine dss_cons (ds_fld (de_var (pv 0)) de_str (cs := ["Floor"]) fun c hc => by rw [List.mem_singleton.mp hc]; exact ⟨_, I_Floor rfl rfl, N_Floor_phase⟩) ?_
  exact (dss_cons (ds_fld (de_var (pv 0)) de_int (cs := ["Floor"]) fun c hc => by rw [List.mem_singleton.mp hc]; exact ⟨_, I_Floor rfl rfl, N_Floor_cursor⟩) (dss_cons (ds_fld (de_var (pv 0)) (de_lstO da_nil) (cs := ["Floor"]) fun c hc => by rw [List.mem_singleton.mp hc]; exact ⟨_, I_Floor rfl rfl, N_Floor_greys⟩) (dss_cons (ds_fld (de_var (pv 0)) de_dict0 (cs := ["Floor"]) fun c hc => by rw [List.mem_singleton.mp hc]; exact ⟨_, I_Floor rfl rfl, N_Floor_far_places⟩) (dss_cons (ds_fld (de_var (pv 0)) de_dict0 (cs := ["Floor"]) fun c hc => by rw [List.mem_singleton.mp hc]; exact ⟨_, I_Floor rfl rfl, N_Floor_tie_places⟩) (dss_cons (ds_fld (de_var (pv 0)) de_dict0 (cs := ["Floor"]) fun c hc => by rw [List.mem_singleton.mp hc]; exact ⟨_, I_Floor rfl rfl, N_Floor_last_places⟩) (dss_cons (ds_fld (de_var (pv 0)) de_int (cs := ["Floor"]) fun c hc => by rw [List.mem_singleton.mp hc]; exact ⟨_, I_Floor rfl rfl, N_Floor_serials_made⟩) (dss_one (ds_fld (de_var (pv 0)) (de_lstO da_nil) (cs := ["Floor"]) fun c hc => by rw [List.mem_singleton.mp hc]; exact ⟨_, I_Floor rfl rfl, N_Floor_told_news⟩))))))))
theorem ok_Yard_init {P : Program} {w : World} {K : PySem.W.Frag} {mg : Str → Option Value} {base : Heap} (T : Txt K mg) (TB : ∀ p ∈ tq, LamX.TabB base mg (He.cT K p.1).1 (He.cT K p.1).2) : ∃ fd, FunD K d_Yard_init.name d_Yard_init.qual d_Yard_init.params d_Yard_init.body d_Yard_init.scope (d_Yard_init.dvs K) (d_Yard_init.kws K) (He.fAd K d_Yard_init.at_) fd ∧
    FnG P w K mg base 3 (He.fAd K d_Yard_init.at_) fd ["self", "pegs", "young", "half", "kind", "ages", "pay"] (spD K mg 7 S_Yard_init) := by
  obtain ⟨fd_Ground_init, D_Ground_init, G_Ground_init⟩ := ok_Ground_init (P := P) (w := w) (base := base) T TB
  obtain ⟨fd_is_whole, D_is_whole, G_is_whole⟩ := ok_is_whole (P := P) (w := w) (base := base) T TB
  have m_is_whole := glo_is_whole T
  obtain ⟨fd_Floor_init, D_Floor_init, G_Floor_init⟩ := ok_Floor_init (P := P) (w := w) (base := base) T TB
  have b_all := free_all T
  have b_isinstance := free_isinstance T
  have b_str := free_str T
  obtain ⟨_, i_LEAST_PLACES⟩ := int_LEAST_PLACES T
  obtain ⟨_, i_MOST_PAY⟩ := int_MOST_PAY T
  obtain ⟨_, i_MOST_PEGS⟩ := int_MOST_PEGS T
  obtain ⟨_, i_MOST_PLACES⟩ := int_MOST_PLACES T
  have M_Floor := mkr_Floor T
  have c_Floor := gloc_Floor T
  have gx_BadGround := gloc_BadGround T
  have gx_Ground := gloc_Ground T
  have ccl_Ground_init := cclc_Ground_init T
  have rai_BadGround := raic_BadGround T
  have I_Yard : ∀ {X : Cx}, X.K = K → X.mg = mg → ClsI X "Yard" (He.ga K "Yard") := fun h1 h2 => ⟨by rw [h2]; exact gloc_Yard T, by rw [h1]; exact cls_Yard T⟩
  have N_Yard_floor := noat_Yard_floor T
  have N_Yard_units_paid := noat_Yard_units_paid T
  obtain ⟨fd, F⟩ := fun_Yard_init T
  refine ⟨fd, F, fnG (N := N_Yard_init) (ps := ["self", "pegs", "young", "half", "kind", "ages", "pay"]) (k := 2) (g := m_Yard_init) F ⟨rfl, rfl, rfl, by decide +kernel, rfl, by decide +kernel, by decide +kernel⟩ fun cdv A outer s H E C => ?_⟩
  refine dss_cons (ds_expr (de_ccallL (x := "Ground") G_Ground_init callOk_share C rfl gx_Ground ccl_Ground_init (kb3 D_Ground_init) (da_cons (de_var (pv 0)) (da_cons (de_var (pv 1)) da_nil)) dkw_nil)) ?_
  refine dss_cons (ds_setLcB C finL_ok (i := 7) rfl rfl (sw_true rfl rfl rfl (by decide +kernel)) (di_seq (de_tup (da_cons (de_var (pv 2)) (da_cons (de_var (pv 3)) da_nil)))) (show BlkOk N_Yard_init (defScope s_Yard_init) _ [("places", 8)] from ⟨rfl, by decide +kernel, by decide +kernel, by decide +kernel, by decide +kernel⟩) (fun _ _ _ _ _ C1 => (dg_name (i := 8) (pg_name C1.nd rfl (by first | exact Or.inl rfl | exact Or.inr rfl)))) (fun _ _ _ _ _ C1 => dts_nil) (fun _ _ _ _ _ C1 => (de_callL (x := "is_whole") G_is_whole callOk_sub C1 rfl m_is_whole D_is_whole.kp (kb2 D_is_whole) (da_cons (de_var (pv 8)) (da_cons (de_globI rfl i_LEAST_PLACES) (da_cons (de_globI rfl i_MOST_PLACES) da_nil))) dkw_nil))) ?_
  refine dss_cons (ds_if (DW.dt (dw_or (dt_not (dt_val (de_all C rfl b_all (da_cons (de_var (pv 7)) da_nil)))) (dw_or (dt_not (dt_val (de_callL (x := "is_whole") G_is_whole callOk_sub C rfl m_is_whole D_is_whole.kp (kb2 D_is_whole) (da_cons (de_var (pv 5)) (da_cons de_int (da_cons de_int da_nil))) dkw_nil))) (dw_or1 (dt_not (dt_val (de_callL (x := "is_whole") G_is_whole callOk_sub C rfl m_is_whole D_is_whole.kp (kb2 D_is_whole) (da_cons (de_var (pv 6)) (da_cons de_int (da_cons (de_globI rfl i_MOST_PAY) da_nil))) dkw_nil))))))) (dss_one (ds_raiseC C rai_BadGround gx_BadGround rfl)) dss_nil) ?_
  exact (dss_cons (ds_if (DW.dt (dw_or (dt_not (dt_val (de_isi rfl b_isinstance (da_cons (de_var (pv 4)) (da_cons (de_ty rfl b_str (by rfl)) da_nil))))) (dw_or1 (dt_cmp (opr_notIn C) opd_notIn (de_var (pv 4)) (de_tup (da_cons de_str (da_cons de_str da_nil))) (by with_unfolding_all rfl))))) (dss_one (ds_raiseC C rai_BadGround gx_BadGround rfl)) dss_nil) (dss_cons (ds_fld (de_var (pv 0)) (de_make0L (c := "Floor") M_Floor G_Floor_init makeO_ok C rfl c_Floor (kb4 D_Floor_init) (dkw_cons (de_var (pv 2)) (dkw_cons (de_var (pv 3)) (dkw_cons (de_var (pv 4)) (dkw_cons (de_var (pv 5)) dkw_nil))))) (cs := ["Yard"]) fun c hc => by rw [List.mem_singleton.mp hc]; exact ⟨_, I_Yard rfl rfl, N_Yard_floor⟩) (dss_one (ds_fld (de_var (pv 0)) (de_var (pv 6)) (cs := ["Yard"]) fun c hc => by rw [List.mem_singleton.mp hc]; exact ⟨_, I_Yard rfl rfl, N_Yard_units_paid⟩))))
theorem ok_p_law_made {P : Program} {w : World} {K : PySem.W.Frag} {mg : Str → Option Value} {base : Heap} (T : Txt K mg) (TB : ∀ p ∈ tq, LamX.TabB base mg (He.cT K p.1).1 (He.cT K p.1).2) : ∃ fd, FunD K d_p_law_made.name d_p_law_made.qual d_p_law_made.params d_p_law_made.body d_p_law_made.scope (d_p_law_made.dvs K) (d_p_law_made.kws K) (He.fAd K d_p_law_made.at_) fd ∧
    FnG P w K mg base 5 (He.fAd K d_p_law_made.at_) fd ["_law_many", "_law_sizes", "_law_sort", "_law_times", "_law_paid", "_law_way"] (spD K mg 6 S_p_law_made) := by
  obtain ⟨fd_Yard_init, D_Yard_init, G_Yard_init⟩ := ok_Yard_init (P := P) (w := w) (base := base) T TB
  obtain ⟨_, i_LEAST_PLACES⟩ := int_LEAST_PLACES T
  obtain ⟨_, i_MOST_PAY⟩ := int_MOST_PAY T
  obtain ⟨_, i_MOST_PEGS⟩ := int_MOST_PEGS T
  obtain ⟨_, i_MOST_PLACES⟩ := int_MOST_PLACES T
  have M_Yard := mkr_Yard T
  have c_Yard := gloc_Yard T
  obtain ⟨fd, F⟩ := fun_p_law_made T
  refine ⟨fd, F, fnG (N := N_p_law_made) (ps := ["_law_many", "_law_sizes", "_law_sort", "_law_times", "_law_paid", "_law_way"]) (k := 4) (g := m_p_law_made) F ⟨rfl, rfl, rfl, by decide +kernel, rfl, by decide +kernel, by decide +kernel⟩ fun cdv A outer s H E C => ?_⟩
  refine dss_cons (ds_if (dt_cmp (opr_eq C) opd_eq (de_var (pv 5)) de_int (nomark _)) (dss_one (ds_ret (de_makeL (c := "Yard") M_Yard G_Yard_init makeO_ok C rfl c_Yard (kb5 D_Yard_init) (da_cons (de_var (pv 0)) da_nil) (dkw_cons (de_sub1 C (de_var (pv 1)) de_int) (dkw_cons (de_sub1 C (de_var (pv 1)) de_int) (dkw_cons (de_var (pv 2)) (dkw_cons (de_var (pv 3)) (dkw_cons (de_var (pv 4)) dkw_nil)))))))) dss_nil) ?_
  refine dss_cons (ds_if (dt_cmp (opr_eq C) opd_eq (de_var (pv 5)) de_int (nomark _)) (dss_one (ds_ret (de_makeL (c := "Yard") M_Yard G_Yard_init makeO_ok C rfl c_Yard (kb6 D_Yard_init) (da_cons (de_var (pv 0)) da_nil) (dkw_cons (de_var (pv 4)) (dkw_cons (de_var (pv 3)) (dkw_cons (de_var (pv 2)) (dkw_cons (de_sub1 C (de_var (pv 1)) de_int) (dkw_cons (de_sub1 C (de_var (pv 1)) de_int) dkw_nil)))))))) dss_nil) ?_
  refine dss_cons (ds_if (dt_cmp (opr_eq C) opd_eq (de_var (pv 5)) de_int (nomark _)) (dss_one (ds_ret (de_makeL (c := "Yard") M_Yard G_Yard_init makeO_ok C rfl c_Yard (kb_dfl D_Yard_init 2 ["kind", "half"] [("young", .int 24), ("ages", .int 2), ("pay", .int 0)] [.int 24, .int 2, .int 0] [(0, 0), (0, 1), (2, 0), (1, 1), (1, 0), (2, 1), (2, 2)] (by simp [He.DefD.kws, d_Yard_init]) (show ∀ q ∈ ([("young", .int 24), ("ages", .int 2), ("pay", .int 0)] : List (Str × V)), q ∈ ([("young", .int 24), ("half", .int 96), ("kind", .str "first"), ("ages", .int 2), ("pay", .int 0)] : List (Str × V)) by decide) (fun _ _ _ => (.cons (by unfold Dat; rfl) (.cons (by unfold Dat; rfl) (.cons (by unfold Dat; rfl) DatL.nil)))) fun _ _ _ _ _ _ us mv ws l1 l2 l3 => match us, mv, ws, l1, l2, l3 with | [_, _], [_, _, _], [_, _], _, _, _ => ⟨_, _, _, _, _, _, rfl, rfl, ⟨_, _, _, _, _, _, rfl, rfl, ⟨_, _, _, _, _, _, rfl, rfl, (by show _ = pure _; rfl)⟩⟩⟩) (da_cons (de_var (pv 0)) da_nil) (dkw_cons (de_var (pv 2)) (dkw_cons (de_sub1 C (de_var (pv 1)) de_int) dkw_nil))))) dss_nil) ?_
  refine dss_cons (ds_if (dt_cmp (opr_eq C) opd_eq (de_var (pv 5)) de_int (nomark _)) (dss_one (ds_ret (de_makeL (c := "Yard") M_Yard G_Yard_init makeO_ok C rfl c_Yard (kb_dfl D_Yard_init 2 ["ages", "young"] [("half", .int 96), ("kind", .str "first"), ("pay", .int 0)] [.int 96, .str "first", .int 0] [(0, 0), (0, 1), (1, 1), (2, 0), (2, 1), (1, 0), (2, 2)] (by simp [He.DefD.kws, d_Yard_init]) (show ∀ q ∈ ([("half", .int 96), ("kind", .str "first"), ("pay", .int 0)] : List (Str × V)), q ∈ ([("young", .int 24), ("half", .int 96), ("kind", .str "first"), ("ages", .int 2), ("pay", .int 0)] : List (Str × V)) by decide) (fun _ _ _ => (.cons (by unfold Dat; rfl) (.cons (by unfold Dat; rfl) (.cons (by unfold Dat; rfl) DatL.nil)))) fun _ _ _ _ _ _ us mv ws l1 l2 l3 => match us, mv, ws, l1, l2, l3 with | [_, _], [_, _, _], [_, _], _, _, _ => ⟨_, _, _, _, _, _, rfl, rfl, ⟨_, _, _, _, _, _, rfl, rfl, ⟨_, _, _, _, _, _, rfl, rfl, (by show _ = pure _; rfl)⟩⟩⟩) (da_cons (de_var (pv 0)) da_nil) (dkw_cons (de_var (pv 3)) (dkw_cons (de_sub1 C (de_var (pv 1)) de_int) dkw_nil))))) dss_nil) ?_
  exact (dss_one (ds_ret (de_makeL (c := "Yard") M_Yard G_Yard_init makeO_ok C rfl c_Yard (kb_dfl D_Yard_init 2 [] [("young", .int 24), ("half", .int 96), ("kind", .str "first"), ("ages", .int 2), ("pay", .int 0)] [.int 24, .int 96, .str "first", .int 2, .int 0] [(0, 0), (0, 1), (2, 0), (2, 1), (2, 2), (2, 3), (2, 4)] (by simp [He.DefD.kws, d_Yard_init]) (show ∀ q ∈ ([("young", .int 24), ("half", .int 96), ("kind", .str "first"), ("ages", .int 2), ("pay", .int 0)] : List (Str × V)), q ∈ ([("young", .int 24), ("half", .int 96), ("kind", .str "first"), ("ages", .int 2), ("pay", .int 0)] : List (Str × V)) by decide) (fun _ _ _ => (.cons (by unfold Dat; rfl) (.cons (by unfold Dat; rfl) (.cons (by unfold Dat; rfl) (.cons (by unfold Dat; rfl) (.cons (by unfold Dat; rfl) DatL.nil)))))) fun _ _ _ _ _ _ us mv ws l1 l2 l3 => match us, mv, ws, l1, l2, l3 with | [_, _], [_, _, _, _, _], [], _, _, _ => ⟨_, _, _, _, _, _, rfl, rfl, ⟨_, _, _, _, _, _, rfl, rfl, ⟨_, _, _, _, _, _, rfl, rfl, ⟨_, _, _, _, _, _, rfl, rfl, ⟨_, _, _, _, _, _, rfl, rfl, (by show _ = pure _; rfl)⟩⟩⟩⟩⟩) (da_cons (de_var (pv 0)) da_nil) dkw_nil)))
theorem ok_p_law_good {P : Program} {w : World} {K : PySem.W.Frag} {mg : Str → Option Value} {base : Heap} (T : Txt K mg) (TB : ∀ p ∈ tq, LamX.TabB base mg (He.cT K p.1).1 (He.cT K p.1).2) : ∃ fd, FunD K d_p_law_good.name d_p_law_good.qual d_p_law_good.params d_p_law_good.body d_p_law_good.scope (d_p_law_good.dvs K) (d_p_law_good.kws K) (He.fAd K d_p_law_good.at_) fd ∧
    FnG P w K mg base 1 (He.fAd K d_p_law_good.at_) fd ["_law_thing", "_law_least_one", "_law_most_one"] (spD K mg 3 S_p_law_good) := by
  have b_bool := free_bool T
  have b_int := free_int T
  have b_isinstance := free_isinstance T
  obtain ⟨_, i_LEAST_PLACES⟩ := int_LEAST_PLACES T
  obtain ⟨_, i_MOST_PAY⟩ := int_MOST_PAY T
  obtain ⟨_, i_MOST_PEGS⟩ := int_MOST_PEGS T
  obtain ⟨_, i_MOST_PLACES⟩ := int_MOST_PLACES T
  obtain ⟨fd, F⟩ := fun_p_law_good T
  refine ⟨fd, F, fnG (N := N_p_law_good) (ps := ["_law_thing", "_law_least_one", "_law_most_one"]) (k := 0) (g := m_p_law_good) F ⟨rfl, rfl, rfl, by decide +kernel, rfl, by decide +kernel, by decide +kernel⟩ fun cdv A outer s H E C => ?_⟩
  exact (dss_one (ds_ret (de_and (de_isi rfl b_isinstance (da_cons (de_var (pv 0)) (da_cons (de_ty rfl b_int (by rfl)) da_nil))) (de_and (de_not (de_isi rfl b_isinstance (da_cons (de_var (pv 0)) (da_cons (de_ty rfl b_bool (by rfl)) da_nil)))) (de_one (de_chain op_le op_le opd_le opd_le (de_var (pv 1)) (de_var (pv 0)) (de_var (pv 2))))))))
theorem ok_Ground_pegs {P : Program} {w : World} {K : PySem.W.Frag} {mg : Str → Option Value} {base : Heap} (T : Txt K mg) (TB : ∀ p ∈ tq, LamX.TabB base mg (He.cT K p.1).1 (He.cT K p.1).2) : ∃ fd, FunD K d_Ground_pegs.name d_Ground_pegs.qual d_Ground_pegs.params d_Ground_pegs.body d_Ground_pegs.scope (d_Ground_pegs.dvs K) (d_Ground_pegs.kws K) (He.fAd K d_Ground_pegs.at_) fd ∧
    FnG P w K mg base 1 (He.fAd K d_Ground_pegs.at_) fd ["self"] (spD K mg 1 S_Ground_pegs) := by
  have b_len := free_len T
  obtain ⟨_, i_LEAST_PLACES⟩ := int_LEAST_PLACES T
  obtain ⟨_, i_MOST_PAY⟩ := int_MOST_PAY T
  obtain ⟨_, i_MOST_PEGS⟩ := int_MOST_PEGS T
  obtain ⟨_, i_MOST_PLACES⟩ := int_MOST_PLACES T
  have I_Yard : ∀ {X : Cx}, X.K = K → X.mg = mg → ClsI X "Yard" (He.ga K "Yard") := fun h1 h2 => ⟨by rw [h2]; exact gloc_Yard T, by rw [h1]; exact cls_Yard T⟩
  have N_Yard_stands := noat_Yard_stands T
  obtain ⟨fd, F⟩ := fun_Ground_pegs T
  refine ⟨fd, F, fnG (N := N_Ground_pegs) (ps := ["self"]) (k := 0) (g := m_Ground_pegs) F ⟨rfl, rfl, rfl, by decide +kernel, rfl, by decide +kernel, by decide +kernel⟩ fun cdv A outer s H E C => ?_⟩
  exact (dss_one (ds_ret (de_len rfl b_len (da_cons (de_fld (de_var (pv 0)) (cs := ["Yard"]) fun c hc => by rw [List.mem_singleton.mp hc]; exact ⟨_, I_Yard rfl rfl, N_Yard_stands⟩) da_nil))))
theorem ok_Yard_made {P : Program} {w : World} {K : PySem.W.Frag} {mg : Str → Option Value} {base : Heap} (T : Txt K mg) (TB : ∀ p ∈ tq, LamX.TabB base mg (He.cT K p.1).1 (He.cT K p.1).2) : ∃ fd, FunD K d_Yard_made.name d_Yard_made.qual d_Yard_made.params d_Yard_made.body d_Yard_made.scope (d_Yard_made.dvs K) (d_Yard_made.kws K) (He.fAd K d_Yard_made.at_) fd ∧
    FnG P w K mg base 1 (He.fAd K d_Yard_made.at_) fd ["self"] (spD K mg 1 S_Yard_made) := by
  obtain ⟨_, i_LEAST_PLACES⟩ := int_LEAST_PLACES T
  obtain ⟨_, i_MOST_PAY⟩ := int_MOST_PAY T
  obtain ⟨_, i_MOST_PEGS⟩ := int_MOST_PEGS T
  obtain ⟨_, i_MOST_PLACES⟩ := int_MOST_PLACES T
  have I_Floor : ∀ {X : Cx}, X.K = K → X.mg = mg → ClsI X "Floor" (He.ga K "Floor") := fun h1 h2 => ⟨by rw [h2]; exact gloc_Floor T, by rw [h1]; exact cls_Floor T⟩
  have I_Yard : ∀ {X : Cx}, X.K = K → X.mg = mg → ClsI X "Yard" (He.ga K "Yard") := fun h1 h2 => ⟨by rw [h2]; exact gloc_Yard T, by rw [h1]; exact cls_Yard T⟩
  have N_Floor_serials_made := noat_Floor_serials_made T
  have N_Yard_floor := noat_Yard_floor T
  obtain ⟨fd, F⟩ := fun_Yard_made T
  refine ⟨fd, F, fnG (N := N_Yard_made) (ps := ["self"]) (k := 0) (g := m_Yard_made) F ⟨rfl, rfl, rfl, by decide +kernel, rfl, by decide +kernel, by decide +kernel⟩ fun cdv A outer s H E C => ?_⟩
  exact (dss_one (ds_ret (de_fld (de_fld (de_var (pv 0)) (cs := ["Yard"]) fun c hc => by rw [List.mem_singleton.mp hc]; exact ⟨_, I_Yard rfl rfl, N_Yard_floor⟩) (cs := ["Floor"]) fun c hc => by rw [List.mem_singleton.mp hc]; exact ⟨_, I_Floor rfl rfl, N_Floor_serials_made⟩)))
theorem ok_Yard_news {P : Program} {w : World} {K : PySem.W.Frag} {mg : Str → Option Value} {base : Heap} (T : Txt K mg) (TB : ∀ p ∈ tq, LamX.TabB base mg (He.cT K p.1).1 (He.cT K p.1).2) : ∃ fd, FunD K d_Yard_news.name d_Yard_news.qual d_Yard_news.params d_Yard_news.body d_Yard_news.scope (d_Yard_news.dvs K) (d_Yard_news.kws K) (He.fAd K d_Yard_news.at_) fd ∧
    FnG P w K mg base 1 (He.fAd K d_Yard_news.at_) fd ["self"] (spD K mg 1 S_Yard_news) := by
  obtain ⟨_, i_LEAST_PLACES⟩ := int_LEAST_PLACES T
  obtain ⟨_, i_MOST_PAY⟩ := int_MOST_PAY T
  obtain ⟨_, i_MOST_PEGS⟩ := int_MOST_PEGS T
  obtain ⟨_, i_MOST_PLACES⟩ := int_MOST_PLACES T
  have I_Floor : ∀ {X : Cx}, X.K = K → X.mg = mg → ClsI X "Floor" (He.ga K "Floor") := fun h1 h2 => ⟨by rw [h2]; exact gloc_Floor T, by rw [h1]; exact cls_Floor T⟩
  have I_Yard : ∀ {X : Cx}, X.K = K → X.mg = mg → ClsI X "Yard" (He.ga K "Yard") := fun h1 h2 => ⟨by rw [h2]; exact gloc_Yard T, by rw [h1]; exact cls_Yard T⟩
  have N_Floor_told_news := noat_Floor_told_news T
  have N_Yard_floor := noat_Yard_floor T
  obtain ⟨fd, F⟩ := fun_Yard_news T
  refine ⟨fd, F, fnG (N := N_Yard_news) (ps := ["self"]) (k := 0) (g := m_Yard_news) F ⟨rfl, rfl, rfl, by decide +kernel, rfl, by decide +kernel, by decide +kernel⟩ fun cdv A outer s H E C => ?_⟩
  exact (dss_cons (ds_nameFld C (i := 1) rfl (by first | exact Or.inl rfl | exact Or.inr rfl) (de_fld (de_var (pv 0)) (cs := ["Yard"]) fun c hc => by rw [List.mem_singleton.mp hc]; exact ⟨_, I_Yard rfl rfl, N_Yard_floor⟩) (de_tup (da_cons (de_fld (de_fld (de_var (pv 0)) (cs := ["Yard"]) fun c hc => by rw [List.mem_singleton.mp hc]; exact ⟨_, I_Yard rfl rfl, N_Yard_floor⟩) (cs := ["Floor"]) fun c hc => by rw [List.mem_singleton.mp hc]; exact ⟨_, I_Floor rfl rfl, N_Floor_told_news⟩) (da_cons (de_lstO da_nil) da_nil))) (cs := ["Floor"]) (fun c hc => by rw [List.mem_singleton.mp hc]; exact ⟨_, I_Floor rfl rfl, N_Floor_told_news⟩)) (dss_one (ds_ret (de_var (pv 1)))))
theorem ok_many_in {P : Program} {w : World} {K : PySem.W.Frag} {mg : Str → Option Value} {base : Heap} (T : Txt K mg) (TB : ∀ p ∈ tq, LamX.TabB base mg (He.cT K p.1).1 (He.cT K p.1).2) : ∃ fd, FunD K d_many_in.name d_many_in.qual d_many_in.params d_many_in.body d_many_in.scope (d_many_in.dvs K) (d_many_in.kws K) (He.fAd K d_many_in.at_) fd ∧
    FnG P w K mg base 1 (He.fAd K d_many_in.at_) fd ["word"] (spD K mg 1 S_many_in) := by
  obtain ⟨_, i_LEAST_PLACES⟩ := int_LEAST_PLACES T
  obtain ⟨_, i_MOST_PAY⟩ := int_MOST_PAY T
  obtain ⟨_, i_MOST_PEGS⟩ := int_MOST_PEGS T
  obtain ⟨_, i_MOST_PLACES⟩ := int_MOST_PLACES T
  obtain ⟨fd, F⟩ := fun_many_in T
  refine ⟨fd, F, fnG (N := N_many_in) (ps := ["word"]) (k := 0) (g := m_many_in) F ⟨rfl, rfl, rfl, by decide +kernel, rfl, by decide +kernel, by decide +kernel⟩ fun cdv A outer s H E C => ?_⟩
  exact (dss_one (ds_ret (de_andM (de_shr (de_var (pv 0)) de_int) de_int)))
theorem ok_Floor_size {P : Program} {w : World} {K : PySem.W.Frag} {mg : Str → Option Value} {base : Heap} (T : Txt K mg) (TB : ∀ p ∈ tq, LamX.TabB base mg (He.cT K p.1).1 (He.cT K p.1).2) : ∃ fd, FunD K d_Floor_size.name d_Floor_size.qual d_Floor_size.params d_Floor_size.body d_Floor_size.scope (d_Floor_size.dvs K) (d_Floor_size.kws K) (He.fAd K d_Floor_size.at_) fd ∧
    FnG P w K mg base 2 (He.fAd K d_Floor_size.at_) fd ["self", "place"] (spD K mg 2 S_Floor_size) := by
  obtain ⟨fd_many_in, D_many_in, G_many_in⟩ := ok_many_in (P := P) (w := w) (base := base) T TB
  have m_many_in := glo_many_in T
  obtain ⟨_, i_LEAST_PLACES⟩ := int_LEAST_PLACES T
  obtain ⟨_, i_MOST_PAY⟩ := int_MOST_PAY T
  obtain ⟨_, i_MOST_PEGS⟩ := int_MOST_PEGS T
  obtain ⟨_, i_MOST_PLACES⟩ := int_MOST_PLACES T
  have I_Floor : ∀ {X : Cx}, X.K = K → X.mg = mg → ClsI X "Floor" (He.ga K "Floor") := fun h1 h2 => ⟨by rw [h2]; exact gloc_Floor T, by rw [h1]; exact cls_Floor T⟩
  have N_Floor_store := noat_Floor_store T
  obtain ⟨fd, F⟩ := fun_Floor_size T
  refine ⟨fd, F, fnG (N := N_Floor_size) (ps := ["self", "place"]) (k := 1) (g := m_Floor_size) F ⟨rfl, rfl, rfl, by decide +kernel, rfl, by decide +kernel, by decide +kernel⟩ fun cdv A outer s H E C => ?_⟩
  exact (dss_one (ds_ret (de_add de_int (de_callL (x := "many_in") G_many_in callOk_sub C rfl m_many_in D_many_in.kp (kb7 D_many_in) (da_cons (de_sub1 C (de_fld (de_var (pv 0)) (cs := ["Floor"]) fun c hc => by rw [List.mem_singleton.mp hc]; exact ⟨_, I_Floor rfl rfl, N_Floor_store⟩) (de_var (pv 1))) da_nil) dkw_nil))))
theorem ok_Floor_places {P : Program} {w : World} {K : PySem.W.Frag} {mg : Str → Option Value} {base : Heap} (T : Txt K mg) (TB : ∀ p ∈ tq, LamX.TabB base mg (He.cT K p.1).1 (He.cT K p.1).2) : ∃ fd, FunD K d_Floor_places.name d_Floor_places.qual d_Floor_places.params d_Floor_places.body d_Floor_places.scope (d_Floor_places.dvs K) (d_Floor_places.kws K) (He.fAd K d_Floor_places.at_) fd ∧
    FnG P w K mg base 3 (He.fAd K d_Floor_places.at_) fd ["self", "first", "top"] (spD K mg 3 S_Floor_places) := by
  obtain ⟨fd_Floor_size, D_Floor_size, G_Floor_size⟩ := ok_Floor_size (P := P) (w := w) (base := base) T TB
  obtain ⟨_, i_LEAST_PLACES⟩ := int_LEAST_PLACES T
  obtain ⟨_, i_MOST_PAY⟩ := int_MOST_PAY T
  obtain ⟨_, i_MOST_PEGS⟩ := int_MOST_PEGS T
  obtain ⟨_, i_MOST_PLACES⟩ := int_MOST_PLACES T
  have H_Floor_size := meth_Floor_size T
  have I_Floor : ∀ {X : Cx}, X.K = K → X.mg = mg → ClsI X "Floor" (He.ga K "Floor") := fun h1 h2 => ⟨by rw [h2]; exact gloc_Floor T, by rw [h1]; exact cls_Floor T⟩
  obtain ⟨fd, F⟩ := fun_Floor_places T
  refine ⟨fd, F, fnG (N := N_Floor_places) (ps := ["self", "first", "top"]) (k := 2) (g := m_Floor_places) F ⟨rfl, rfl, rfl, by decide +kernel, rfl, by decide +kernel, by decide +kernel⟩ fun cdv A outer s H E C => ?_⟩
  exact (dss_cons (ds_set C (i := 3) rfl (by first | exact Or.inl rfl | exact Or.inr rfl) (de_lstO da_nil)) (dss_cons (ds_while C 100000 (dt_cmp op_lt opd_lt (de_var (pv 1)) (de_var (pv 2)) (nomark _)) (dss_cons (ds_expr (de_append (de_var (pv 3)) (da_cons (de_var (pv 1)) da_nil))) (dss_one (ds_aug C (i := 1) rfl (by first | exact Or.inl rfl | exact Or.inr rfl) ip_add (ipd_int _) (de_methL (de_var (pv 0)) (I_Floor rfl rfl) H_Floor_size G_Floor_size callOk_share C (kb8 D_Floor_size) (da_cons (de_var (pv 1)) da_nil) dkw_nil))))) (dss_one (ds_ret (de_frz (de_var (pv 3)))))))
theorem ok_sort_in {P : Program} {w : World} {K : PySem.W.Frag} {mg : Str → Option Value} {base : Heap} (T : Txt K mg) (TB : ∀ p ∈ tq, LamX.TabB base mg (He.cT K p.1).1 (He.cT K p.1).2) : ∃ fd, FunD K d_sort_in.name d_sort_in.qual d_sort_in.params d_sort_in.body d_sort_in.scope (d_sort_in.dvs K) (d_sort_in.kws K) (He.fAd K d_sort_in.at_) fd ∧
    FnG P w K mg base 1 (He.fAd K d_sort_in.at_) fd ["word"] (spD K mg 1 S_sort_in) := by
  obtain ⟨_, i_LEAST_PLACES⟩ := int_LEAST_PLACES T
  obtain ⟨_, i_MOST_PAY⟩ := int_MOST_PAY T
  obtain ⟨_, i_MOST_PEGS⟩ := int_MOST_PEGS T
  obtain ⟨_, i_MOST_PLACES⟩ := int_MOST_PLACES T
  obtain ⟨fd, F⟩ := fun_sort_in T
  refine ⟨fd, F, fnG (N := N_sort_in) (ps := ["word"]) (k := 0) (g := m_sort_in) F ⟨rfl, rfl, rfl, by decide +kernel, rfl, by decide +kernel, by decide +kernel⟩ fun cdv A outer s H E C => ?_⟩
  exact (dss_one (ds_ret (de_andM (de_var (pv 0)) de_int)))
theorem ok_Floor_sort_of {P : Program} {w : World} {K : PySem.W.Frag} {mg : Str → Option Value} {base : Heap} (T : Txt K mg) (TB : ∀ p ∈ tq, LamX.TabB base mg (He.cT K p.1).1 (He.cT K p.1).2) : ∃ fd, FunD K d_Floor_sort_of.name d_Floor_sort_of.qual d_Floor_sort_of.params d_Floor_sort_of.body d_Floor_sort_of.scope (d_Floor_sort_of.dvs K) (d_Floor_sort_of.kws K) (He.fAd K d_Floor_sort_of.at_) fd ∧
    FnG P w K mg base 2 (He.fAd K d_Floor_sort_of.at_) fd ["self", "place"] (spD K mg 2 S_Floor_sort_of) := by
  obtain ⟨fd_sort_in, D_sort_in, G_sort_in⟩ := ok_sort_in (P := P) (w := w) (base := base) T TB
  have m_sort_in := glo_sort_in T
  obtain ⟨_, i_LEAST_PLACES⟩ := int_LEAST_PLACES T
  obtain ⟨_, i_MOST_PAY⟩ := int_MOST_PAY T
  obtain ⟨_, i_MOST_PEGS⟩ := int_MOST_PEGS T
  obtain ⟨_, i_MOST_PLACES⟩ := int_MOST_PLACES T
  have I_Floor : ∀ {X : Cx}, X.K = K → X.mg = mg → ClsI X "Floor" (He.ga K "Floor") := fun h1 h2 => ⟨by rw [h2]; exact gloc_Floor T, by rw [h1]; exact cls_Floor T⟩
  have N_Floor_store := noat_Floor_store T
  obtain ⟨fd, F⟩ := fun_Floor_sort_of T
  refine ⟨fd, F, fnG (N := N_Floor_sort_of) (ps := ["self", "place"]) (k := 1) (g := m_Floor_sort_of) F ⟨rfl, rfl, rfl, by decide +kernel, rfl, by decide +kernel, by decide +kernel⟩ fun cdv A outer s H E C => ?_⟩
  exact (dss_one (ds_ret (de_callL (x := "sort_in") G_sort_in callOk_sub C rfl m_sort_in D_sort_in.kp (kb9 D_sort_in) (da_cons (de_sub1 C (de_fld (de_var (pv 0)) (cs := ["Floor"]) fun c hc => by rw [List.mem_singleton.mp hc]; exact ⟨_, I_Floor rfl rfl, N_Floor_store⟩) (de_var (pv 1))) da_nil) dkw_nil)))
theorem ok_serial_in {P : Program} {w : World} {K : PySem.W.Frag} {mg : Str → Option Value} {base : Heap} (T : Txt K mg) (TB : ∀ p ∈ tq, LamX.TabB base mg (He.cT K p.1).1 (He.cT K p.1).2) : ∃ fd, FunD K d_serial_in.name d_serial_in.qual d_serial_in.params d_serial_in.body d_serial_in.scope (d_serial_in.dvs K) (d_serial_in.kws K) (He.fAd K d_serial_in.at_) fd ∧
    FnG P w K mg base 1 (He.fAd K d_serial_in.at_) fd ["word"] (spD K mg 1 S_serial_in) := by
  obtain ⟨_, i_LEAST_PLACES⟩ := int_LEAST_PLACES T
  obtain ⟨_, i_MOST_PAY⟩ := int_MOST_PAY T
  obtain ⟨_, i_MOST_PEGS⟩ := int_MOST_PEGS T
  obtain ⟨_, i_MOST_PLACES⟩ := int_MOST_PLACES T
  obtain ⟨fd, F⟩ := fun_serial_in T
  refine ⟨fd, F, fnG (N := N_serial_in) (ps := ["word"]) (k := 0) (g := m_serial_in) F ⟨rfl, rfl, rfl, by decide +kernel, rfl, by decide +kernel, by decide +kernel⟩ fun cdv A outer s H E C => ?_⟩
  exact (dss_one (ds_ret (de_shr (de_var (pv 0)) de_int)))
theorem ok_Floor_there {P : Program} {w : World} {K : PySem.W.Frag} {mg : Str → Option Value} {base : Heap} (T : Txt K mg) (TB : ∀ p ∈ tq, LamX.TabB base mg (He.cT K p.1).1 (He.cT K p.1).2) : ∃ fd, FunD K d_Floor_there.name d_Floor_there.qual d_Floor_there.params d_Floor_there.body d_Floor_there.scope (d_Floor_there.dvs K) (d_Floor_there.kws K) (He.fAd K d_Floor_there.at_) fd ∧
    FnG P w K mg base 3 (He.fAd K d_Floor_there.at_) fd ["self", "place"] (spD K mg 2 S_Floor_there) := by
  obtain ⟨fd_Floor_sort_of, D_Floor_sort_of, G_Floor_sort_of⟩ := ok_Floor_sort_of (P := P) (w := w) (base := base) T TB
  obtain ⟨fd_serial_in, D_serial_in, G_serial_in⟩ := ok_serial_in (P := P) (w := w) (base := base) T TB
  have m_serial_in := glo_serial_in T
  obtain ⟨_, i_LEAST_PLACES⟩ := int_LEAST_PLACES T
  obtain ⟨_, i_MOST_PAY⟩ := int_MOST_PAY T
  obtain ⟨_, i_MOST_PEGS⟩ := int_MOST_PEGS T
  obtain ⟨_, i_MOST_PLACES⟩ := int_MOST_PLACES T
  obtain ⟨_, i_POST⟩ := int_POST T
  have H_Floor_sort_of := meth_Floor_sort_of T
  have I_Floor : ∀ {X : Cx}, X.K = K → X.mg = mg → ClsI X "Floor" (He.ga K "Floor") := fun h1 h2 => ⟨by rw [h2]; exact gloc_Floor T, by rw [h1]; exact cls_Floor T⟩
  have N_Floor_store := noat_Floor_store T
  obtain ⟨fd, F⟩ := fun_Floor_there T
  refine ⟨fd, F, fnG (N := N_Floor_there) (ps := ["self", "place"]) (k := 2) (g := m_Floor_there) F ⟨rfl, rfl, rfl, by decide +kernel, rfl, by decide +kernel, by decide +kernel⟩ fun cdv A outer s H E C => ?_⟩
  exact (dss_cons (ds_if (dt_cmp (opr_eq C) opd_eq (de_methL (de_var (pv 0)) (I_Floor rfl rfl) H_Floor_sort_of G_Floor_sort_of callOk_share C (kb10 D_Floor_sort_of) (da_cons (de_var (pv 1)) da_nil) dkw_nil) (de_globI rfl i_POST) (nomark _)) (dss_one (ds_ret (de_callL (x := "serial_in") G_serial_in callOk_sub C rfl m_serial_in D_serial_in.kp (kb11 D_serial_in) (da_cons (de_sub1 C (de_fld (de_var (pv 0)) (cs := ["Floor"]) fun c hc => by rw [List.mem_singleton.mp hc]; exact ⟨_, I_Floor rfl rfl, N_Floor_store⟩) (de_var (pv 1))) da_nil) dkw_nil))) dss_nil) (dss_one (ds_ret (de_var (pv 1)))))
theorem ok_Floor_serial_of {P : Program} {w : World} {K : PySem.W.Frag} {mg : Str → Option Value} {base : Heap} (T : Txt K mg) (TB : ∀ p ∈ tq, LamX.TabB base mg (He.cT K p.1).1 (He.cT K p.1).2) : ∃ fd, FunD K d_Floor_serial_of.name d_Floor_serial_of.qual d_Floor_serial_of.params d_Floor_serial_of.body d_Floor_serial_of.scope (d_Floor_serial_of.dvs K) (d_Floor_serial_of.kws K) (He.fAd K d_Floor_serial_of.at_) fd ∧
    FnG P w K mg base 2 (He.fAd K d_Floor_serial_of.at_) fd ["self", "place"] (spD K mg 2 S_Floor_serial_of) := by
  obtain ⟨fd_serial_in, D_serial_in, G_serial_in⟩ := ok_serial_in (P := P) (w := w) (base := base) T TB
  have m_serial_in := glo_serial_in T
  obtain ⟨_, i_LEAST_PLACES⟩ := int_LEAST_PLACES T
  obtain ⟨_, i_MOST_PAY⟩ := int_MOST_PAY T
  obtain ⟨_, i_MOST_PEGS⟩ := int_MOST_PEGS T
  obtain ⟨_, i_MOST_PLACES⟩ := int_MOST_PLACES T
  obtain ⟨_, i_POST⟩ := int_POST T
  have I_Floor : ∀ {X : Cx}, X.K = K → X.mg = mg → ClsI X "Floor" (He.ga K "Floor") := fun h1 h2 => ⟨by rw [h2]; exact gloc_Floor T, by rw [h1]; exact cls_Floor T⟩
  have N_Floor_store := noat_Floor_store T
  obtain ⟨fd, F⟩ := fun_Floor_serial_of T
  refine ⟨fd, F, fnG (N := N_Floor_serial_of) (ps := ["self", "place"]) (k := 1) (g := m_Floor_serial_of) F ⟨rfl, rfl, rfl, by decide +kernel, rfl, by decide +kernel, by decide +kernel⟩ fun cdv A outer s H E C => ?_⟩
  exact (dss_one (ds_ret (de_callL (x := "serial_in") G_serial_in callOk_sub C rfl m_serial_in D_serial_in.kp (kb11 D_serial_in) (da_cons (de_sub1 C (de_fld (de_var (pv 0)) (cs := ["Floor"]) fun c hc => by rw [List.mem_singleton.mp hc]; exact ⟨_, I_Floor rfl rfl, N_Floor_store⟩) (de_var (pv 1))) da_nil) dkw_nil)))
theorem ok_is_place {P : Program} {w : World} {K : PySem.W.Frag} {mg : Str → Option Value} {base : Heap} (T : Txt K mg) (TB : ∀ p ∈ tq, LamX.TabB base mg (He.cT K p.1).1 (He.cT K p.1).2) : ∃ fd, FunD K d_is_place.name d_is_place.qual d_is_place.params d_is_place.body d_is_place.scope (d_is_place.dvs K) (d_is_place.kws K) (He.fAd K d_is_place.at_) fd ∧
    FnG P w K mg base 1 (He.fAd K d_is_place.at_) fd ["word"] (spD K mg 1 S_is_place) := by
  obtain ⟨_, i_LEAST_PLACES⟩ := int_LEAST_PLACES T
  obtain ⟨_, i_MOST_PAY⟩ := int_MOST_PAY T
  obtain ⟨_, i_MOST_PEGS⟩ := int_MOST_PEGS T
  obtain ⟨_, i_MOST_PLACES⟩ := int_MOST_PLACES T
  obtain ⟨_, i_POST⟩ := int_POST T
  obtain ⟨fd, F⟩ := fun_is_place T
  refine ⟨fd, F, fnG (N := N_is_place) (ps := ["word"]) (k := 0) (g := m_is_place) F ⟨rfl, rfl, rfl, by decide +kernel, rfl, by decide +kernel, by decide +kernel⟩ fun cdv A outer s H E C => ?_⟩
  exact (dss_one (ds_ret (de_and (de_cmp (opr_ne C) opd_ne (de_var (pv 0)) de_int (nomark _)) (de_one (de_cmp (opr_eq C) opd_eq (de_andM (de_var (pv 0)) de_int) de_int (nomark _))))))
theorem ok_value_of {P : Program} {w : World} {K : PySem.W.Frag} {mg : Str → Option Value} {base : Heap} (T : Txt K mg) (TB : ∀ p ∈ tq, LamX.TabB base mg (He.cT K p.1).1 (He.cT K p.1).2) : ∃ fd, FunD K d_value_of.name d_value_of.qual d_value_of.params d_value_of.body d_value_of.scope (d_value_of.dvs K) (d_value_of.kws K) (He.fAd K d_value_of.at_) fd ∧
    FnG P w K mg base 2 (He.fAd K d_value_of.at_) fd ["word"] (spD K mg 1 S_value_of) := by
  obtain ⟨fd_is_place, D_is_place, G_is_place⟩ := ok_is_place (P := P) (w := w) (base := base) T TB
  have m_is_place := glo_is_place T
  obtain ⟨_, i_LEAST_PLACES⟩ := int_LEAST_PLACES T
  obtain ⟨_, i_MOST_PAY⟩ := int_MOST_PAY T
  obtain ⟨_, i_MOST_PEGS⟩ := int_MOST_PEGS T
  obtain ⟨_, i_MOST_PLACES⟩ := int_MOST_PLACES T
  obtain ⟨_, i_POST⟩ := int_POST T
  obtain ⟨fd, F⟩ := fun_value_of T
  refine ⟨fd, F, fnG (N := N_value_of) (ps := ["word"]) (k := 1) (g := m_value_of) F ⟨rfl, rfl, rfl, by decide +kernel, rfl, by decide +kernel, by decide +kernel⟩ fun cdv A outer s H E C => ?_⟩
  exact (dss_cons (ds_if (dt_cmp (opr_eq C) opd_eq (de_var (pv 0)) de_int (nomark _)) (dss_one (ds_ret de_non)) dss_nil) (dss_cons (ds_if (dt_val (de_callL (x := "is_place") G_is_place callOk_sub C rfl m_is_place D_is_place.kp (kb12 D_is_place) (da_cons (de_var (pv 0)) da_nil) dkw_nil)) (dss_one (ds_ret (de_tup (da_cons de_str (da_cons (de_shr (de_var (pv 0)) de_int) da_nil))))) dss_nil) (dss_one (ds_ret (de_shr (de_var (pv 0)) de_int)))))
theorem ok_Floor_words_at {P : Program} {w : World} {K : PySem.W.Frag} {mg : Str → Option Value} {base : Heap} (T : Txt K mg) (TB : ∀ p ∈ tq, LamX.TabB base mg (He.cT K p.1).1 (He.cT K p.1).2) : ∃ fd, FunD K d_Floor_words_at.name d_Floor_words_at.qual d_Floor_words_at.params d_Floor_words_at.body d_Floor_words_at.scope (d_Floor_words_at.dvs K) (d_Floor_words_at.kws K) (He.fAd K d_Floor_words_at.at_) fd ∧
    FnG P w K mg base 3 (He.fAd K d_Floor_words_at.at_) fd ["self", "place"] (spD K mg 2 S_Floor_words_at) := by
  obtain ⟨fd_Floor_size, D_Floor_size, G_Floor_size⟩ := ok_Floor_size (P := P) (w := w) (base := base) T TB
  obtain ⟨_, i_LEAST_PLACES⟩ := int_LEAST_PLACES T
  obtain ⟨_, i_MOST_PAY⟩ := int_MOST_PAY T
  obtain ⟨_, i_MOST_PEGS⟩ := int_MOST_PEGS T
  obtain ⟨_, i_MOST_PLACES⟩ := int_MOST_PLACES T
  obtain ⟨_, i_POST⟩ := int_POST T
  have H_Floor_size := meth_Floor_size T
  have I_Floor : ∀ {X : Cx}, X.K = K → X.mg = mg → ClsI X "Floor" (He.ga K "Floor") := fun h1 h2 => ⟨by rw [h2]; exact gloc_Floor T, by rw [h1]; exact cls_Floor T⟩
  have N_Floor_store := noat_Floor_store T
  obtain ⟨fd, F⟩ := fun_Floor_words_at T
  refine ⟨fd, F, fnG (N := N_Floor_words_at) (ps := ["self", "place"]) (k := 2) (g := m_Floor_words_at) F ⟨rfl, rfl, rfl, by decide +kernel, rfl, by decide +kernel, by decide +kernel⟩ fun cdv A outer s H E C => ?_⟩
  exact (dss_one (ds_ret (de_slice (de_fld (de_var (pv 0)) (cs := ["Floor"]) fun c hc => by rw [List.mem_singleton.mp hc]; exact ⟨_, I_Floor rfl rfl, N_Floor_store⟩) (do_some (de_add (de_var (pv 1)) de_int)) (do_some (de_add (de_var (pv 1)) (de_methL (de_var (pv 0)) (I_Floor rfl rfl) H_Floor_size G_Floor_size callOk_share C (kb8 D_Floor_size) (da_cons (de_var (pv 1)) da_nil) dkw_nil))))))
theorem ok_age_in {P : Program} {w : World} {K : PySem.W.Frag} {mg : Str → Option Value} {base : Heap} (T : Txt K mg) (TB : ∀ p ∈ tq, LamX.TabB base mg (He.cT K p.1).1 (He.cT K p.1).2) : ∃ fd, FunD K d_age_in.name d_age_in.qual d_age_in.params d_age_in.body d_age_in.scope (d_age_in.dvs K) (d_age_in.kws K) (He.fAd K d_age_in.at_) fd ∧
    FnG P w K mg base 1 (He.fAd K d_age_in.at_) fd ["word"] (spD K mg 1 S_age_in) := by
  obtain ⟨_, i_LEAST_PLACES⟩ := int_LEAST_PLACES T
  obtain ⟨_, i_MOST_PAY⟩ := int_MOST_PAY T
  obtain ⟨_, i_MOST_PEGS⟩ := int_MOST_PEGS T
  obtain ⟨_, i_MOST_PLACES⟩ := int_MOST_PLACES T
  obtain ⟨_, i_POST⟩ := int_POST T
  obtain ⟨fd, F⟩ := fun_age_in T
  refine ⟨fd, F, fnG (N := N_age_in) (ps := ["word"]) (k := 0) (g := m_age_in) F ⟨rfl, rfl, rfl, by decide +kernel, rfl, by decide +kernel, by decide +kernel⟩ fun cdv A outer s H E C => ?_⟩
  exact (dss_one (ds_ret (de_andM (de_shr (de_var (pv 0)) de_int) de_int)))
theorem ok_mark_in {P : Program} {w : World} {K : PySem.W.Frag} {mg : Str → Option Value} {base : Heap} (T : Txt K mg) (TB : ∀ p ∈ tq, LamX.TabB base mg (He.cT K p.1).1 (He.cT K p.1).2) : ∃ fd, FunD K d_mark_in.name d_mark_in.qual d_mark_in.params d_mark_in.body d_mark_in.scope (d_mark_in.dvs K) (d_mark_in.kws K) (He.fAd K d_mark_in.at_) fd ∧
    FnG P w K mg base 1 (He.fAd K d_mark_in.at_) fd ["word"] (spD K mg 1 S_mark_in) := by
  obtain ⟨_, i_LEAST_PLACES⟩ := int_LEAST_PLACES T
  obtain ⟨_, i_MOST_PAY⟩ := int_MOST_PAY T
  obtain ⟨_, i_MOST_PEGS⟩ := int_MOST_PEGS T
  obtain ⟨_, i_MOST_PLACES⟩ := int_MOST_PLACES T
  obtain ⟨_, i_POST⟩ := int_POST T
  obtain ⟨fd, F⟩ := fun_mark_in T
  refine ⟨fd, F, fnG (N := N_mark_in) (ps := ["word"]) (k := 0) (g := m_mark_in) F ⟨rfl, rfl, rfl, by decide +kernel, rfl, by decide +kernel, by decide +kernel⟩ fun cdv A outer s H E C => ?_⟩
  exact (dss_one (ds_ret (de_andM (de_shr (de_var (pv 0)) de_int) de_int)))
theorem ok_pictured {P : Program} {w : World} {K : PySem.W.Frag} {mg : Str → Option Value} {base : Heap} (T : Txt K mg) (TB : ∀ p ∈ tq, LamX.TabB base mg (He.cT K p.1).1 (He.cT K p.1).2) : ∃ fd, FunD K d_pictured.name d_pictured.qual d_pictured.params d_pictured.body d_pictured.scope (d_pictured.dvs K) (d_pictured.kws K) (He.fAd K d_pictured.at_) fd ∧
    FnG P w K mg base 4 (He.fAd K d_pictured.at_) fd ["floor", "place"] (spD K mg 2 S_pictured) := by
  obtain ⟨fd_Floor_sort_of, D_Floor_sort_of, G_Floor_sort_of⟩ := ok_Floor_sort_of (P := P) (w := w) (base := base) T TB
  obtain ⟨fd_Floor_there, D_Floor_there, G_Floor_there⟩ := ok_Floor_there (P := P) (w := w) (base := base) T TB
  obtain ⟨fd_Floor_serial_of, D_Floor_serial_of, G_Floor_serial_of⟩ := ok_Floor_serial_of (P := P) (w := w) (base := base) T TB
  obtain ⟨fd_Floor_words_at, D_Floor_words_at, G_Floor_words_at⟩ := ok_Floor_words_at (P := P) (w := w) (base := base) T TB
  obtain ⟨fd_value_of, D_value_of, G_value_of⟩ := ok_value_of (P := P) (w := w) (base := base) T TB
  have m_value_of := glo_value_of T
  obtain ⟨fd_age_in, D_age_in, G_age_in⟩ := ok_age_in (P := P) (w := w) (base := base) T TB
  have m_age_in := glo_age_in T
  obtain ⟨fd_mark_in, D_mark_in, G_mark_in⟩ := ok_mark_in (P := P) (w := w) (base := base) T TB
  have m_mark_in := glo_mark_in T
  have b_tuple := free_tuple T
  obtain ⟨_, i_LEAST_PLACES⟩ := int_LEAST_PLACES T
  obtain ⟨_, i_MOST_PAY⟩ := int_MOST_PAY T
  obtain ⟨_, i_MOST_PEGS⟩ := int_MOST_PEGS T
  obtain ⟨_, i_MOST_PLACES⟩ := int_MOST_PLACES T
  obtain ⟨_, i_POST⟩ := int_POST T
  have t_SORTS := glot_SORTS T
  have tupc_SORTS := tupcc_SORTS T
  have H_Floor_serial_of := meth_Floor_serial_of T
  have H_Floor_sort_of := meth_Floor_sort_of T
  have H_Floor_there := meth_Floor_there T
  have H_Floor_words_at := meth_Floor_words_at T
  have I_Floor : ∀ {X : Cx}, X.K = K → X.mg = mg → ClsI X "Floor" (He.ga K "Floor") := fun h1 h2 => ⟨by rw [h2]; exact gloc_Floor T, by rw [h1]; exact cls_Floor T⟩
  have N_Floor_store := noat_Floor_store T
  obtain ⟨fd, F⟩ := fun_pictured T
  refine ⟨fd, F, fnG (N := N_pictured) (ps := ["floor", "place"]) (k := 3) (g := m_pictured) F ⟨rfl, rfl, rfl, by decide +kernel, rfl, by decide +kernel, by decide +kernel⟩ fun cdv A outer s H E C => ?_⟩
  refine dss_cons (ds_set C (i := 2) rfl (by first | exact Or.inl rfl | exact Or.inr rfl) (de_sub1 C (de_fld (de_var (pv 0)) (cs := ["Floor"]) fun c hc => by rw [List.mem_singleton.mp hc]; exact ⟨_, I_Floor rfl rfl, N_Floor_store⟩) (de_var (pv 1)))) ?_
  refine dss_cons (ds_if (dt_cmp (opr_eq C) opd_eq (de_methL (de_var (pv 0)) (I_Floor rfl rfl) H_Floor_sort_of G_Floor_sort_of callOk_share C (kb10 D_Floor_sort_of) (da_cons (de_var (pv 1)) da_nil) dkw_nil) (de_globI rfl i_POST) (nomark _)) (dss_cons (ds_set C (i := 3) rfl (by first | exact Or.inl rfl | exact Or.inr rfl) (de_methL (de_var (pv 0)) (I_Floor rfl rfl) H_Floor_there G_Floor_there callOk_share C (kb13 D_Floor_there) (da_cons (de_var (pv 1)) da_nil) dkw_nil)) (dss_one (ds_ret (de_tup (da_cons (de_var (pv 1)) (da_cons de_str (da_cons (de_tup (da_cons (de_tup (da_cons de_str (da_cons (de_var (pv 3)) da_nil))) da_nil)) (da_cons de_int (da_cons de_int (da_cons (de_methL (de_var (pv 0)) (I_Floor rfl rfl) H_Floor_serial_of G_Floor_serial_of callOk_share C (kb14 D_Floor_serial_of) (da_cons (de_var (pv 3)) da_nil) dkw_nil) da_nil)))))))))) dss_nil) ?_
  refine dss_cons (ds_set C (i := 4) rfl (by first | exact Or.inl rfl | exact Or.inr rfl) (de_tuple rfl b_tuple (da_cons (de_lcB C finL_ok (di_seq (de_methL (de_var (pv 0)) (I_Floor rfl rfl) H_Floor_words_at G_Floor_words_at callOk_share C (kb15 D_Floor_words_at) (da_cons (de_var (pv 1)) da_nil) dkw_nil)) (show BlkOk N_pictured (defScope s_pictured) _ [("word", 5)] from ⟨rfl, by decide +kernel, by decide +kernel, by decide +kernel, by decide +kernel⟩) (fun _ _ _ _ _ C1 => (dg_name (i := 5) (pg_name C1.nd rfl (by first | exact Or.inl rfl | exact Or.inr rfl)))) (fun _ _ _ _ _ C1 => dts_nil) (fun _ _ _ _ _ C1 => (de_callL (x := "value_of") G_value_of callOk_sub C1 rfl m_value_of D_value_of.kp (kb16 D_value_of) (da_cons (de_var (pv 5)) da_nil) dkw_nil))) da_nil))) ?_
  exact (dss_one (ds_ret (de_tup (da_cons (de_var (pv 1)) (da_cons (de_sub1 C (de_globT rfl t_SORTS tupc_SORTS) (de_methL (de_var (pv 0)) (I_Floor rfl rfl) H_Floor_sort_of G_Floor_sort_of callOk_share C (kb10 D_Floor_sort_of) (da_cons (de_var (pv 1)) da_nil) dkw_nil)) (da_cons (de_var (pv 4)) (da_cons (de_callL (x := "age_in") G_age_in callOk_sub C rfl m_age_in D_age_in.kp (kb17 D_age_in) (da_cons (de_var (pv 2)) da_nil) dkw_nil) (da_cons (de_callL (x := "mark_in") G_mark_in callOk_sub C rfl m_mark_in D_mark_in.kp (kb18 D_mark_in) (da_cons (de_var (pv 2)) da_nil) dkw_nil) (da_cons (de_methL (de_var (pv 0)) (I_Floor rfl rfl) H_Floor_serial_of G_Floor_serial_of callOk_share C (kb14 D_Floor_serial_of) (da_cons (de_var (pv 1)) da_nil) dkw_nil) da_nil)))))))))
theorem ok_Yard_picture {P : Program} {w : World} {K : PySem.W.Frag} {mg : Str → Option Value} {base : Heap} (T : Txt K mg) (TB : ∀ p ∈ tq, LamX.TabB base mg (He.cT K p.1).1 (He.cT K p.1).2) : ∃ fd, FunD K d_Yard_picture.name d_Yard_picture.qual d_Yard_picture.params d_Yard_picture.body d_Yard_picture.scope (d_Yard_picture.dvs K) (d_Yard_picture.kws K) (He.fAd K d_Yard_picture.at_) fd ∧
    FnG P w K mg base 5 (He.fAd K d_Yard_picture.at_) fd ["self"] (spD K mg 1 S_Yard_picture) := by
  obtain ⟨fd_Floor_places, D_Floor_places, G_Floor_places⟩ := ok_Floor_places (P := P) (w := w) (base := base) T TB
  obtain ⟨fd_pictured, D_pictured, G_pictured⟩ := ok_pictured (P := P) (w := w) (base := base) T TB
  have m_pictured := glo_pictured T
  have b_list := free_list T
  have b_sorted := free_sorted T
  obtain ⟨_, i_LEAST_PLACES⟩ := int_LEAST_PLACES T
  obtain ⟨_, i_MOST_PAY⟩ := int_MOST_PAY T
  obtain ⟨_, i_MOST_PEGS⟩ := int_MOST_PEGS T
  obtain ⟨_, i_MOST_PLACES⟩ := int_MOST_PLACES T
  obtain ⟨_, i_POST⟩ := int_POST T
  have H_Floor_places := meth_Floor_places T
  have I_Floor : ∀ {X : Cx}, X.K = K → X.mg = mg → ClsI X "Floor" (He.ga K "Floor") := fun h1 h2 => ⟨by rw [h2]; exact gloc_Floor T, by rw [h1]; exact cls_Floor T⟩
  have I_Yard : ∀ {X : Cx}, X.K = K → X.mg = mg → ClsI X "Yard" (He.ga K "Yard") := fun h1 h2 => ⟨by rw [h2]; exact gloc_Yard T, by rw [h1]; exact cls_Yard T⟩
  have N_Floor_barrier := noat_Floor_barrier T
  have N_Floor_cursor := noat_Floor_cursor T
  have N_Floor_far_places := noat_Floor_far_places T
  have N_Floor_half_places := noat_Floor_half_places T
  have N_Floor_last_places := noat_Floor_last_places T
  have N_Floor_most_age := noat_Floor_most_age T
  have N_Floor_new_first := noat_Floor_new_first T
  have N_Floor_new_top := noat_Floor_new_top T
  have N_Floor_old_first := noat_Floor_old_first T
  have N_Floor_old_top := noat_Floor_old_top T
  have N_Floor_phase := noat_Floor_phase T
  have N_Floor_tie_places := noat_Floor_tie_places T
  have N_Floor_young_first := noat_Floor_young_first T
  have N_Floor_young_places := noat_Floor_young_places T
  have N_Floor_young_top := noat_Floor_young_top T
  have N_Yard_floor := noat_Yard_floor T
  have N_Yard_queue := noat_Yard_queue T
  have N_Yard_stands := noat_Yard_stands T
  obtain ⟨fd, F⟩ := fun_Yard_picture T
  refine ⟨fd, F, fnG (N := N_Yard_picture) (ps := ["self"]) (k := 4) (g := m_Yard_picture) F ⟨rfl, rfl, rfl, by decide +kernel, rfl, by decide +kernel, by decide +kernel⟩ fun cdv A outer s H E C => ?_⟩
  refine dss_cons (ds_set C (i := 1) rfl (by first | exact Or.inl rfl | exact Or.inr rfl) (de_fld (de_var (pv 0)) (cs := ["Yard"]) fun c hc => by rw [List.mem_singleton.mp hc]; exact ⟨_, I_Yard rfl rfl, N_Yard_floor⟩)) ?_
  refine dss_cons ?_ ?_
  · exact (ds_set C (i := 2) rfl (by first | exact Or.inl rfl | exact Or.inr rfl) (de_disp (dps_cons de_str (de_tup (da_cons (de_fld (de_var (pv 1)) (cs := ["Floor"]) fun c hc => by rw [List.mem_singleton.mp hc]; exact ⟨_, I_Floor rfl rfl, N_Floor_young_first⟩) (da_cons (de_fld (de_var (pv 1)) (cs := ["Floor"]) fun c hc => by rw [List.mem_singleton.mp hc]; exact ⟨_, I_Floor rfl rfl, N_Floor_young_top⟩) (da_cons (de_add (de_fld (de_var (pv 1)) (cs := ["Floor"]) fun c hc => by rw [List.mem_singleton.mp hc]; exact ⟨_, I_Floor rfl rfl, N_Floor_young_first⟩) (de_fld (de_var (pv 1)) (cs := ["Floor"]) fun c hc => by rw [List.mem_singleton.mp hc]; exact ⟨_, I_Floor rfl rfl, N_Floor_young_places⟩)) da_nil)))) (dps_cons de_str (de_tup (da_cons (de_fld (de_var (pv 1)) (cs := ["Floor"]) fun c hc => by rw [List.mem_singleton.mp hc]; exact ⟨_, I_Floor rfl rfl, N_Floor_old_first⟩) (da_cons (de_fld (de_var (pv 1)) (cs := ["Floor"]) fun c hc => by rw [List.mem_singleton.mp hc]; exact ⟨_, I_Floor rfl rfl, N_Floor_old_top⟩) (da_cons (de_add (de_fld (de_var (pv 1)) (cs := ["Floor"]) fun c hc => by rw [List.mem_singleton.mp hc]; exact ⟨_, I_Floor rfl rfl, N_Floor_old_first⟩) (de_fld (de_var (pv 1)) (cs := ["Floor"]) fun c hc => by rw [List.mem_singleton.mp hc]; exact ⟨_, I_Floor rfl rfl, N_Floor_half_places⟩)) da_nil)))) (dps_cons de_str (de_tup (da_cons (de_fld (de_var (pv 1)) (cs := ["Floor"]) fun c hc => by rw [List.mem_singleton.mp hc]; exact ⟨_, I_Floor rfl rfl, N_Floor_new_first⟩) (da_cons (de_fld (de_var (pv 1)) (cs := ["Floor"]) fun c hc => by rw [List.mem_singleton.mp hc]; exact ⟨_, I_Floor rfl rfl, N_Floor_new_top⟩) (da_cons (de_add (de_fld (de_var (pv 1)) (cs := ["Floor"]) fun c hc => by rw [List.mem_singleton.mp hc]; exact ⟨_, I_Floor rfl rfl, N_Floor_new_first⟩) (de_fld (de_var (pv 1)) (cs := ["Floor"]) fun c hc => by rw [List.mem_singleton.mp hc]; exact ⟨_, I_Floor rfl rfl, N_Floor_half_places⟩)) da_nil)))) dps_nil)))))
  refine dss_cons (ds_set C (i := 3) rfl (by first | exact Or.inl rfl | exact Or.inr rfl) (de_disp (dps_cons de_str (de_fld (de_var (pv 1)) (cs := ["Floor"]) fun c hc => by rw [List.mem_singleton.mp hc]; exact ⟨_, I_Floor rfl rfl, N_Floor_barrier⟩) (dps_cons de_str (de_fld (de_var (pv 1)) (cs := ["Floor"]) fun c hc => by rw [List.mem_singleton.mp hc]; exact ⟨_, I_Floor rfl rfl, N_Floor_phase⟩) (dps_cons de_str (de_fld (de_var (pv 1)) (cs := ["Floor"]) fun c hc => by rw [List.mem_singleton.mp hc]; exact ⟨_, I_Floor rfl rfl, N_Floor_most_age⟩) (dps_cons de_str (de_fld (de_var (pv 1)) (cs := ["Floor"]) fun c hc => by rw [List.mem_singleton.mp hc]; exact ⟨_, I_Floor rfl rfl, N_Floor_cursor⟩) dps_nil)))))) ?_
  refine dss_cons (ds_expr (de_update (de_var (pv 3)) (da_cons (de_var (pv 2)) da_nil))) ?_
  refine dss_cons ?_ ?_
  · exact (ds_set C (i := 4) rfl (by first | exact Or.inl rfl | exact Or.inr rfl) (de_sorted rfl b_sorted (da_cons (de_lc2B C finL_ok (vs1 := [8]) (di_valsJ (de_var (pv 2))) (show BlkOk N_Yard_picture (defScope s_Yard_picture) _ [("first", 5), ("top", 6), ("end", 7), ("place", 8)] from ⟨rfl, by decide +kernel, by decide +kernel, by decide +kernel, by decide +kernel⟩) (fun _ _ _ _ _ C1 => (dg_tup C1.calm (dgs_cons (dg_name (i := 5) (pg_name C1.nd rfl (by first | exact Or.inl rfl | exact Or.inr rfl))) (dgs_cons (dg_name (i := 6) (pg_name C1.nd rfl (by first | exact Or.inl rfl | exact Or.inr rfl))) (dgs_cons (dg_name (i := 7) (pg_name C1.nd rfl (by first | exact Or.inl rfl | exact Or.inr rfl))) dgs_nil))))) (fun _ _ _ _ _ C1 => dts_nil) (fun _ _ _ _ _ C1 => (di_seq (de_methL (de_var (pv 1)) (I_Floor rfl rfl) H_Floor_places G_Floor_places callOk_share C1 (kb19 D_Floor_places) (da_cons (de_var (pv 5)) (da_cons (de_var (pv 6)) da_nil)) dkw_nil))) (fun _ _ _ _ _ C1 => (dg_name (i := 8) (pg_name C1.nd rfl (by first | exact Or.inl rfl | exact Or.inr rfl)))) (fun _ _ _ _ _ C1 => dts_nil) (fun _ _ _ _ _ C1 => (de_var (pv 8)))) da_nil)))
  refine dss_cons (ds_put C (de_var (pv 3)) de_str (de_lcB C finL_ok (di_seq (de_var (pv 4))) (show BlkOk N_Yard_picture (defScope s_Yard_picture) _ [("place", 8)] from ⟨rfl, by decide +kernel, by decide +kernel, by decide +kernel, by decide +kernel⟩) (fun _ _ _ _ _ C1 => (dg_name (i := 8) (pg_name C1.nd rfl (by first | exact Or.inl rfl | exact Or.inr rfl)))) (fun _ _ _ _ _ C1 => dts_nil) (fun _ _ _ _ _ C1 => (de_callL (x := "pictured") G_pictured callOk_sub C1 rfl m_pictured D_pictured.kp (kb20 D_pictured) (da_cons (de_var (pv 1)) (da_cons (de_var (pv 8)) da_nil)) dkw_nil)))) ?_
  exact (dss_cons (ds_put C (de_var (pv 3)) de_str (de_list C rfl b_list (da_cons (de_fld (de_var (pv 0)) (cs := ["Yard"]) fun c hc => by rw [List.mem_singleton.mp hc]; exact ⟨_, I_Yard rfl rfl, N_Yard_stands⟩) da_nil))) (dss_cons (ds_put C (de_var (pv 3)) de_str (de_list C rfl b_list (da_cons (de_fld (de_var (pv 0)) (cs := ["Yard"]) fun c hc => by rw [List.mem_singleton.mp hc]; exact ⟨_, I_Yard rfl rfl, N_Yard_queue⟩) da_nil))) (dss_cons (ds_put C (de_var (pv 3)) de_str (de_sortDI C rfl b_sorted (da_cons (de_fld (de_var (pv 1)) (cs := ["Floor"]) fun c hc => by rw [List.mem_singleton.mp hc]; exact ⟨_, I_Floor rfl rfl, N_Floor_far_places⟩) da_nil))) (dss_cons (ds_put C (de_var (pv 3)) de_str (de_sortDI C rfl b_sorted (da_cons (de_fld (de_var (pv 1)) (cs := ["Floor"]) fun c hc => by rw [List.mem_singleton.mp hc]; exact ⟨_, I_Floor rfl rfl, N_Floor_tie_places⟩) da_nil))) (dss_cons (ds_put C (de_var (pv 3)) de_str (de_sortDI C rfl b_sorted (da_cons (de_fld (de_var (pv 1)) (cs := ["Floor"]) fun c hc => by rw [List.mem_singleton.mp hc]; exact ⟨_, I_Floor rfl rfl, N_Floor_last_places⟩) da_nil))) (dss_one (ds_ret (de_frz (de_var (pv 3))))))))))
theorem ok_word_of {P : Program} {w : World} {K : PySem.W.Frag} {mg : Str → Option Value} {base : Heap} (T : Txt K mg) (TB : ∀ p ∈ tq, LamX.TabB base mg (He.cT K p.1).1 (He.cT K p.1).2) : ∃ fd, FunD K d_word_of.name d_word_of.qual d_word_of.params d_word_of.body d_word_of.scope (d_word_of.dvs K) (d_word_of.kws K) (He.fAd K d_word_of.at_) fd ∧
    FnG P w K mg base 1 (He.fAd K d_word_of.at_) fd ["value"] (spD K mg 1 S_word_of) := by
  have b_isinstance := free_isinstance T
  have b_tuple := free_tuple T
  obtain ⟨_, i_LEAST_PLACES⟩ := int_LEAST_PLACES T
  obtain ⟨_, i_MOST_PAY⟩ := int_MOST_PAY T
  obtain ⟨_, i_MOST_PEGS⟩ := int_MOST_PEGS T
  obtain ⟨_, i_MOST_PLACES⟩ := int_MOST_PLACES T
  obtain ⟨_, i_POST⟩ := int_POST T
  obtain ⟨fd, F⟩ := fun_word_of T
  refine ⟨fd, F, fnG (N := N_word_of) (ps := ["value"]) (k := 0) (g := m_word_of) F ⟨rfl, rfl, rfl, by decide +kernel, rfl, by decide +kernel, by decide +kernel⟩ fun cdv A outer s H E C => ?_⟩
  exact (dss_cons (ds_if (dt_cmp op_isN opd_is (de_var (pv 0)) de_non (nomark _)) (dss_one (ds_ret de_int)) dss_nil) (dss_cons (ds_if (dt_val (de_isi rfl b_isinstance (da_cons (de_var (pv 0)) (da_cons (de_ty rfl b_tuple (by rfl)) da_nil)))) (dss_one (ds_ret (de_shl (de_sub1 C (de_var (pv 0)) de_int) de_int))) dss_nil) (dss_one (ds_ret (de_add (de_shl (de_var (pv 0)) de_int) de_int)))))
theorem ok_Floor_there_word {P : Program} {w : World} {K : PySem.W.Frag} {mg : Str → Option Value} {base : Heap} (T : Txt K mg) (TB : ∀ p ∈ tq, LamX.TabB base mg (He.cT K p.1).1 (He.cT K p.1).2) : ∃ fd, FunD K d_Floor_there_word.name d_Floor_there_word.qual d_Floor_there_word.params d_Floor_there_word.body d_Floor_there_word.scope (d_Floor_there_word.dvs K) (d_Floor_there_word.kws K) (He.fAd K d_Floor_there_word.at_) fd ∧
    FnG P w K mg base 4 (He.fAd K d_Floor_there_word.at_) fd ["self", "word"] (spD K mg 2 S_Floor_there_word) := by
  obtain ⟨fd_is_place, D_is_place, G_is_place⟩ := ok_is_place (P := P) (w := w) (base := base) T TB
  have m_is_place := glo_is_place T
  obtain ⟨fd_Floor_there, D_Floor_there, G_Floor_there⟩ := ok_Floor_there (P := P) (w := w) (base := base) T TB
  obtain ⟨_, i_LEAST_PLACES⟩ := int_LEAST_PLACES T
  obtain ⟨_, i_MOST_PAY⟩ := int_MOST_PAY T
  obtain ⟨_, i_MOST_PEGS⟩ := int_MOST_PEGS T
  obtain ⟨_, i_MOST_PLACES⟩ := int_MOST_PLACES T
  obtain ⟨_, i_POST⟩ := int_POST T
  have H_Floor_there := meth_Floor_there T
  have I_Floor : ∀ {X : Cx}, X.K = K → X.mg = mg → ClsI X "Floor" (He.ga K "Floor") := fun h1 h2 => ⟨by rw [h2]; exact gloc_Floor T, by rw [h1]; exact cls_Floor T⟩
  obtain ⟨fd, F⟩ := fun_Floor_there_word T
  refine ⟨fd, F, fnG (N := N_Floor_there_word) (ps := ["self", "word"]) (k := 3) (g := m_Floor_there_word) F ⟨rfl, rfl, rfl, by decide +kernel, rfl, by decide +kernel, by decide +kernel⟩ fun cdv A outer s H E C => ?_⟩
  exact (dss_cons (ds_if (dt_not (dt_val (de_callL (x := "is_place") G_is_place callOk_sub C rfl m_is_place D_is_place.kp (kb12 D_is_place) (da_cons (de_var (pv 1)) da_nil) dkw_nil))) (dss_one (ds_ret (de_var (pv 1)))) dss_nil) (dss_one (ds_ret (de_shl (de_methL (de_var (pv 0)) (I_Floor rfl rfl) H_Floor_there G_Floor_there callOk_share C (kb13 D_Floor_there) (da_cons (de_shr (de_var (pv 1)) de_int) da_nil) dkw_nil) de_int))))
theorem ok_Yard_seen_places_o {P : Program} {w : World} {K : PySem.W.Frag} {mg : Str → Option Value} {base : Heap} (T : Txt K mg) (TB : ∀ p ∈ tq, LamX.TabB base mg (He.cT K p.1).1 (He.cT K p.1).2) : ∃ fd, FunD K d_Yard_seen_places_o.name d_Yard_seen_places_o.qual d_Yard_seen_places_o.params d_Yard_seen_places_o.body d_Yard_seen_places_o.scope (d_Yard_seen_places_o.dvs K) (d_Yard_seen_places_o.kws K) (He.fAd K d_Yard_seen_places_o.at_) fd ∧
    FnG P w K mg base 5 (He.fAd K d_Yard_seen_places_o.at_) fd ["self"] (spD K mg 1 S_Yard_seen_places_o) := by
  obtain ⟨fd_word_of, D_word_of, G_word_of⟩ := ok_word_of (P := P) (w := w) (base := base) T TB
  have m_word_of := glo_word_of T
  obtain ⟨fd_Floor_there_word, D_Floor_there_word, G_Floor_there_word⟩ := ok_Floor_there_word (P := P) (w := w) (base := base) T TB
  obtain ⟨fd_is_place, D_is_place, G_is_place⟩ := ok_is_place (P := P) (w := w) (base := base) T TB
  have m_is_place := glo_is_place T
  obtain ⟨fd_Floor_words_at, D_Floor_words_at, G_Floor_words_at⟩ := ok_Floor_words_at (P := P) (w := w) (base := base) T TB
  have b_len := free_len T
  obtain ⟨_, i_LEAST_PLACES⟩ := int_LEAST_PLACES T
  obtain ⟨_, i_MOST_PAY⟩ := int_MOST_PAY T
  obtain ⟨_, i_MOST_PEGS⟩ := int_MOST_PEGS T
  obtain ⟨_, i_MOST_PLACES⟩ := int_MOST_PLACES T
  obtain ⟨_, i_POST⟩ := int_POST T
  have H_Floor_there_word := meth_Floor_there_word T
  have H_Floor_words_at := meth_Floor_words_at T
  have I_Floor : ∀ {X : Cx}, X.K = K → X.mg = mg → ClsI X "Floor" (He.ga K "Floor") := fun h1 h2 => ⟨by rw [h2]; exact gloc_Floor T, by rw [h1]; exact cls_Floor T⟩
  have I_Yard : ∀ {X : Cx}, X.K = K → X.mg = mg → ClsI X "Yard" (He.ga K "Yard") := fun h1 h2 => ⟨by rw [h2]; exact gloc_Yard T, by rw [h1]; exact cls_Yard T⟩
  have N_Yard_floor := noat_Yard_floor T
  have N_Yard_queue := noat_Yard_queue T
  have N_Yard_stands := noat_Yard_stands T
  obtain ⟨fd, F⟩ := fun_Yard_seen_places_o T
  refine ⟨fd, F, fnG (N := N_Yard_seen_places_o) (ps := ["self"]) (k := 4) (g := m_Yard_seen_places_o) F ⟨rfl, rfl, rfl, by decide +kernel, rfl, by decide +kernel, by decide +kernel⟩ fun cdv A outer s H E C => ?_⟩
  refine dss_cons (ds_set C (i := 1) rfl (by first | exact Or.inl rfl | exact Or.inr rfl) de_dict0) ?_
  refine dss_cons (ds_setLcB C finL_ok (i := 2) rfl rfl (sw_true rfl rfl rfl (by decide +kernel)) (di_seq (de_add (de_fld (de_var (pv 0)) (cs := ["Yard"]) fun c hc => by rw [List.mem_singleton.mp hc]; exact ⟨_, I_Yard rfl rfl, N_Yard_stands⟩) (de_fld (de_var (pv 0)) (cs := ["Yard"]) fun c hc => by rw [List.mem_singleton.mp hc]; exact ⟨_, I_Yard rfl rfl, N_Yard_queue⟩))) (show BlkOk N_Yard_seen_places_o (defScope s_Yard_seen_places_o) _ [("value", 6)] from ⟨rfl, by decide +kernel, by decide +kernel, by decide +kernel, by decide +kernel⟩) (fun _ _ _ _ _ C1 => (dg_name (i := 6) (pg_name C1.nd rfl (by first | exact Or.inl rfl | exact Or.inr rfl)))) (fun _ _ _ _ _ C1 => dts_nil) (fun _ _ _ _ _ C1 => (de_callL (x := "word_of") G_word_of callOk_sub C1 rfl m_word_of D_word_of.kp (kb21 D_word_of) (da_cons (de_var (pv 6)) da_nil) dkw_nil))) ?_
  refine dss_cons ?_ ?_
  · refine ds_while C 100000 (dt_cmp (opr_ne C) opd_ne (de_var (pv 2)) (de_lst da_nil) (nomark _)) ?_
    refine dss_cons (ds_set C (i := 3) rfl (by first | exact Or.inl rfl | exact Or.inr rfl) (de_lstO da_nil)) ?_
    refine dss_cons ?_ ?_
    · refine ds_for C (di_seq (de_var (pv 2))) (dg_name (i := 4) (pg_name C.nd rfl (by first | exact Or.inl rfl | exact Or.inr rfl))) ?_
      refine dss_cons (ds_set C (i := 5) rfl (by first | exact Or.inl rfl | exact Or.inr rfl) (de_shr (de_methL (de_fld (de_var (pv 0)) (cs := ["Yard"]) fun c hc => by rw [List.mem_singleton.mp hc]; exact ⟨_, I_Yard rfl rfl, N_Yard_floor⟩) (I_Floor rfl rfl) H_Floor_there_word G_Floor_there_word callOk_share C (kb22 D_Floor_there_word) (da_cons (de_var (pv 4)) da_nil) dkw_nil) de_int)) ?_
      exact (dss_one (ds_if (DW.dt (dw_and (dt_val (de_callL (x := "is_place") G_is_place callOk_sub C rfl m_is_place D_is_place.kp (kb12 D_is_place) (da_cons (de_var (pv 4)) da_nil) dkw_nil)) (dw_and1 (dt_cmp (opr_notIn C) opd_notIn (de_var (pv 5)) (de_var (pv 1)) (by with_unfolding_all rfl))))) (dss_cons (ds_put C (de_var (pv 1)) (de_var (pv 5)) (de_len rfl b_len (da_cons (de_var (pv 1)) da_nil))) (dss_one (ds_expr (de_extend (de_var (pv 3)) (da_cons (de_methL (de_fld (de_var (pv 0)) (cs := ["Yard"]) fun c hc => by rw [List.mem_singleton.mp hc]; exact ⟨_, I_Yard rfl rfl, N_Yard_floor⟩) (I_Floor rfl rfl) H_Floor_words_at G_Floor_words_at callOk_share C (kb15 D_Floor_words_at) (da_cons (de_var (pv 5)) da_nil) dkw_nil) da_nil))))) dss_nil))
    exact (dss_one (ds_set C (i := 2) rfl (by first | exact Or.inl rfl | exact Or.inr rfl) (de_var (pv 3))))
  exact (dss_one (ds_ret (de_var (pv 1))))
theorem ok_Yard_serials {P : Program} {w : World} {K : PySem.W.Frag} {mg : Str → Option Value} {base : Heap} (T : Txt K mg) (TB : ∀ p ∈ tq, LamX.TabB base mg (He.cT K p.1).1 (He.cT K p.1).2) : ∃ fd, FunD K d_Yard_serials.name d_Yard_serials.qual d_Yard_serials.params d_Yard_serials.body d_Yard_serials.scope (d_Yard_serials.dvs K) (d_Yard_serials.kws K) (He.fAd K d_Yard_serials.at_) fd ∧
    FnG P w K mg base 6 (He.fAd K d_Yard_serials.at_) fd ["self"] (spD K mg 1 S_Yard_serials) := by
  obtain ⟨fd_Yard_seen_places_o, D_Yard_seen_places_o, G_Yard_seen_places_o⟩ := ok_Yard_seen_places_o (P := P) (w := w) (base := base) T TB
  obtain ⟨fd_Floor_serial_of, D_Floor_serial_of, G_Floor_serial_of⟩ := ok_Floor_serial_of (P := P) (w := w) (base := base) T TB
  obtain ⟨_, i_LEAST_PLACES⟩ := int_LEAST_PLACES T
  obtain ⟨_, i_MOST_PAY⟩ := int_MOST_PAY T
  obtain ⟨_, i_MOST_PEGS⟩ := int_MOST_PEGS T
  obtain ⟨_, i_MOST_PLACES⟩ := int_MOST_PLACES T
  obtain ⟨_, i_POST⟩ := int_POST T
  have H_Floor_serial_of := meth_Floor_serial_of T
  have H_Yard_seen_places := meth_Yard_seen_places T
  have I_Floor : ∀ {X : Cx}, X.K = K → X.mg = mg → ClsI X "Floor" (He.ga K "Floor") := fun h1 h2 => ⟨by rw [h2]; exact gloc_Floor T, by rw [h1]; exact cls_Floor T⟩
  have I_Yard : ∀ {X : Cx}, X.K = K → X.mg = mg → ClsI X "Yard" (He.ga K "Yard") := fun h1 h2 => ⟨by rw [h2]; exact gloc_Yard T, by rw [h1]; exact cls_Yard T⟩
  have N_Yard_floor := noat_Yard_floor T
  obtain ⟨fd, F⟩ := fun_Yard_serials T
  refine ⟨fd, F, fnG (N := N_Yard_serials) (ps := ["self"]) (k := 5) (g := m_Yard_serials) F ⟨rfl, rfl, rfl, by decide +kernel, rfl, by decide +kernel, by decide +kernel⟩ fun cdv A outer s H E C => ?_⟩
  exact (dss_one (ds_ret (de_lcB C finL_ok (di_keysJ (de_meth0L (de_var (pv 0)) (I_Yard rfl rfl) H_Yard_seen_places G_Yard_seen_places_o callOk_share C (kb23 D_Yard_seen_places_o) dkw_nil)) (show BlkOk N_Yard_serials (defScope s_Yard_serials) _ [("place", 1)] from ⟨rfl, by decide +kernel, by decide +kernel, by decide +kernel, by decide +kernel⟩) (fun _ _ _ _ _ C1 => (dg_name (i := 1) (pg_name C1.nd rfl (by first | exact Or.inl rfl | exact Or.inr rfl)))) (fun _ _ _ _ _ C1 => dts_nil) (fun _ _ _ _ _ C1 => (de_methL (de_fld (de_var (pv 0)) (cs := ["Yard"]) fun c hc => by rw [List.mem_singleton.mp hc]; exact ⟨_, I_Yard rfl rfl, N_Yard_floor⟩) (I_Floor rfl rfl) H_Floor_serial_of G_Floor_serial_of callOk_share C1 (kb14 D_Floor_serial_of) (da_cons (de_var (pv 1)) da_nil) dkw_nil)))))
theorem ok_Yard_step {P : Program} {w : World} {K : PySem.W.Frag} {mg : Str → Option Value} {base : Heap} (T : Txt K mg) (TB : ∀ p ∈ tq, LamX.TabB base mg (He.cT K p.1).1 (He.cT K p.1).2) : ∃ fd, FunD K d_Yard_step.name d_Yard_step.qual d_Yard_step.params d_Yard_step.body d_Yard_step.scope (d_Yard_step.dvs K) (d_Yard_step.kws K) (He.fAd K d_Yard_step.at_) fd ∧
    FnG P w K mg base 2 (He.fAd K d_Yard_step.at_) fd ["self", "units"] (spD K mg 2 S_Yard_step) := by
  obtain ⟨fd_is_whole, D_is_whole, G_is_whole⟩ := ok_is_whole (P := P) (w := w) (base := base) T TB
  have m_is_whole := glo_is_whole T
  have b_range := free_range T
  obtain ⟨_, i_LEAST_PLACES⟩ := int_LEAST_PLACES T
  obtain ⟨_, i_MOST_PAY⟩ := int_MOST_PAY T
  obtain ⟨_, i_MOST_PEGS⟩ := int_MOST_PEGS T
  obtain ⟨_, i_MOST_PLACES⟩ := int_MOST_PLACES T
  obtain ⟨_, i_MOST_UNITS⟩ := int_MOST_UNITS T
  obtain ⟨_, i_POST⟩ := int_POST T
  have gx_BadNumber := gloc_BadNumber T
  have rai_BadNumber := raic_BadNumber T
  have I_Floor : ∀ {X : Cx}, X.K = K → X.mg = mg → ClsI X "Floor" (He.ga K "Floor") := fun h1 h2 => ⟨by rw [h2]; exact gloc_Floor T, by rw [h1]; exact cls_Floor T⟩
  have I_Yard : ∀ {X : Cx}, X.K = K → X.mg = mg → ClsI X "Yard" (He.ga K "Yard") := fun h1 h2 => ⟨by rw [h2]; exact gloc_Yard T, by rw [h1]; exact cls_Yard T⟩
  have N_Floor_phase := noat_Floor_phase T
  have N_Yard_floor := noat_Yard_floor T
  obtain ⟨fd, F⟩ := fun_Yard_step T
  refine ⟨fd, F, fnG (N := N_Yard_step) (ps := ["self", "units"]) (k := 1) (g := m_Yard_step) F ⟨rfl, rfl, rfl, by decide +kernel, rfl, by decide +kernel, by decide +kernel⟩ fun cdv A outer s H E C => ?_⟩
  refine dss_cons (ds_if (dt_not (dt_val (de_callL (x := "is_whole") G_is_whole callOk_sub C rfl m_is_whole D_is_whole.kp (kb2 D_is_whole) (da_cons (de_var (pv 1)) (da_cons de_int (da_cons (de_globI rfl i_MOST_UNITS) da_nil))) dkw_nil))) (dss_one (ds_raiseC C rai_BadNumber gx_BadNumber rfl)) dss_nil) ?_
  refine dss_cons (ds_for C (di_range1 rfl b_range (da_cons (de_var (pv 1)) da_nil)) (dg_name (i := 2) (pg_name C.nd rfl (by first | exact Or.inl rfl | exact Or.inr rfl))) (dss_one (ds_if (dt_cmp (opr_in C) opd_in (de_fld (de_fld (de_var (pv 0)) (cs := ["Yard"]) fun c hc => by rw [List.mem_singleton.mp hc]; exact ⟨_, I_Yard rfl rfl, N_Yard_floor⟩) (cs := ["Floor"]) fun c hc => by rw [List.mem_singleton.mp hc]; exact ⟨_, I_Floor rfl rfl, N_Floor_phase⟩) (de_tup (da_cons de_str (da_cons de_str da_nil))) (by with_unfolding_all rfl)) dss_none (dss_one (ds_if (dt_cmp (opr_eq C) opd_eq (de_fld (de_fld (de_var (pv 0)) (cs := ["Yard"]) fun c hc => by rw [List.mem_singleton.mp hc]; exact ⟨_, I_Yard rfl rfl, N_Yard_floor⟩) (cs := ["Floor"]) fun c hc => by rw [List.mem_singleton.mp hc]; exact ⟨_, I_Floor rfl rfl, N_Floor_phase⟩) de_str (nomark _)) dss_none (dss_one (ds_if (dt_cmp (opr_eq C) opd_eq (de_fld (de_fld (de_var (pv 0)) (cs := ["Yard"]) fun c hc => by rw [List.mem_singleton.mp hc]; exact ⟨_, I_Yard rfl rfl, N_Yard_floor⟩) (cs := ["Floor"]) fun c hc => by rw [List.mem_singleton.mp hc]; exact ⟨_, I_Floor rfl rfl, N_Floor_phase⟩) de_str (nomark _)) dss_none dss_nil))))))) ?_
  exact (dss_one (ds_ret (de_fld (de_fld (de_var (pv 0)) (cs := ["Yard"]) fun c hc => by rw [List.mem_singleton.mp hc]; exact ⟨_, I_Yard rfl rfl, N_Yard_floor⟩) (cs := ["Floor"]) fun c hc => by rw [List.mem_singleton.mp hc]; exact ⟨_, I_Floor rfl rfl, N_Floor_phase⟩)))
theorem ok_Ground_sure_pegs {P : Program} {w : World} {K : PySem.W.Frag} {mg : Str → Option Value} {base : Heap} (T : Txt K mg) (TB : ∀ p ∈ tq, LamX.TabB base mg (He.cT K p.1).1 (He.cT K p.1).2) : ∃ fd, FunD K d_Ground_sure_pegs.name d_Ground_sure_pegs.qual d_Ground_sure_pegs.params d_Ground_sure_pegs.body d_Ground_sure_pegs.scope (d_Ground_sure_pegs.dvs K) (d_Ground_sure_pegs.kws K) (He.fAd K d_Ground_sure_pegs.at_) fd ∧
    FnG P w K mg base 2 (He.fAd K d_Ground_sure_pegs.at_) fd ["self", "some"] (spD K mg 2 S_Ground_sure_pegs) := by
  obtain ⟨fd_is_whole, D_is_whole, G_is_whole⟩ := ok_is_whole (P := P) (w := w) (base := base) T TB
  have m_is_whole := glo_is_whole T
  have b_all := free_all T
  have b_len := free_len T
  obtain ⟨_, i_LEAST_PLACES⟩ := int_LEAST_PLACES T
  obtain ⟨_, i_MOST_PAY⟩ := int_MOST_PAY T
  obtain ⟨_, i_MOST_PEGS⟩ := int_MOST_PEGS T
  obtain ⟨_, i_MOST_PLACES⟩ := int_MOST_PLACES T
  obtain ⟨_, i_MOST_UNITS⟩ := int_MOST_UNITS T
  obtain ⟨_, i_POST⟩ := int_POST T
  have I_Yard : ∀ {X : Cx}, X.K = K → X.mg = mg → ClsI X "Yard" (He.ga K "Yard") := fun h1 h2 => ⟨by rw [h2]; exact gloc_Yard T, by rw [h1]; exact cls_Yard T⟩
  have N_Yard_stands := noat_Yard_stands T
  obtain ⟨fd, F⟩ := fun_Ground_sure_pegs T
  refine ⟨fd, F, fnG (N := N_Ground_sure_pegs) (ps := ["self", "some"]) (k := 1) (g := m_Ground_sure_pegs) F ⟨rfl, rfl, rfl, by decide +kernel, rfl, by decide +kernel, by decide +kernel⟩ fun cdv A outer s H E C => ?_⟩
  exact (dss_one (ds_if (dt_not (dt_val (de_all C rfl b_all (da_cons (de_lcB C finL_ok (di_seq (de_var (pv 1))) (show BlkOk N_Ground_sure_pegs (defScope s_Ground_sure_pegs) _ [("p", 2)] from ⟨rfl, by decide +kernel, by decide +kernel, by decide +kernel, by decide +kernel⟩) (fun _ _ _ _ _ C1 => (dg_name (i := 2) (pg_name C1.nd rfl (by first | exact Or.inl rfl | exact Or.inr rfl)))) (fun _ _ _ _ _ C1 => dts_nil) (fun _ _ _ _ _ C1 => (de_callL (x := "is_whole") G_is_whole callOk_sub C1 rfl m_is_whole D_is_whole.kp (kb2 D_is_whole) (da_cons (de_var (pv 2)) (da_cons de_int (da_cons (de_sub (de_len rfl b_len (da_cons (de_fld (de_var (pv 0)) (cs := ["Yard"]) fun c hc => by rw [List.mem_singleton.mp hc]; exact ⟨_, I_Yard rfl rfl, N_Yard_stands⟩) da_nil)) de_int) da_nil))) dkw_nil))) da_nil)))) (dss_one ds_none) dss_nil))
theorem ok_Yard_goal {P : Program} {w : World} {K : PySem.W.Frag} {mg : Str → Option Value} {base : Heap} (T : Txt K mg) (TB : ∀ p ∈ tq, LamX.TabB base mg (He.cT K p.1).1 (He.cT K p.1).2) : ∃ fd, FunD K d_Yard_goal.name d_Yard_goal.qual d_Yard_goal.params d_Yard_goal.body d_Yard_goal.scope (d_Yard_goal.dvs K) (d_Yard_goal.kws K) (He.fAd K d_Yard_goal.at_) fd ∧
    FnG P w K mg base 5 (He.fAd K d_Yard_goal.at_) fd ["self", "value"] (spD K mg 2 S_Yard_goal) := by
  obtain ⟨fd_value_of, D_value_of, G_value_of⟩ := ok_value_of (P := P) (w := w) (base := base) T TB
  have m_value_of := glo_value_of T
  obtain ⟨fd_Floor_there_word, D_Floor_there_word, G_Floor_there_word⟩ := ok_Floor_there_word (P := P) (w := w) (base := base) T TB
  obtain ⟨fd_word_of, D_word_of, G_word_of⟩ := ok_word_of (P := P) (w := w) (base := base) T TB
  have m_word_of := glo_word_of T
  obtain ⟨_, i_LEAST_PLACES⟩ := int_LEAST_PLACES T
  obtain ⟨_, i_MOST_PAY⟩ := int_MOST_PAY T
  obtain ⟨_, i_MOST_PEGS⟩ := int_MOST_PEGS T
  obtain ⟨_, i_MOST_PLACES⟩ := int_MOST_PLACES T
  obtain ⟨_, i_MOST_UNITS⟩ := int_MOST_UNITS T
  obtain ⟨_, i_POST⟩ := int_POST T
  have H_Floor_there_word := meth_Floor_there_word T
  have I_Floor : ∀ {X : Cx}, X.K = K → X.mg = mg → ClsI X "Floor" (He.ga K "Floor") := fun h1 h2 => ⟨by rw [h2]; exact gloc_Floor T, by rw [h1]; exact cls_Floor T⟩
  have I_Yard : ∀ {X : Cx}, X.K = K → X.mg = mg → ClsI X "Yard" (He.ga K "Yard") := fun h1 h2 => ⟨by rw [h2]; exact gloc_Yard T, by rw [h1]; exact cls_Yard T⟩
  have N_Yard_floor := noat_Yard_floor T
  obtain ⟨fd, F⟩ := fun_Yard_goal T
  refine ⟨fd, F, fnG (N := N_Yard_goal) (ps := ["self", "value"]) (k := 4) (g := m_Yard_goal) F ⟨rfl, rfl, rfl, by decide +kernel, rfl, by decide +kernel, by decide +kernel⟩ fun cdv A outer s H E C => ?_⟩
  exact (dss_one (ds_ret (de_callL (x := "value_of") G_value_of callOk_sub C rfl m_value_of D_value_of.kp (kb16 D_value_of) (da_cons (de_methL (de_fld (de_var (pv 0)) (cs := ["Yard"]) fun c hc => by rw [List.mem_singleton.mp hc]; exact ⟨_, I_Yard rfl rfl, N_Yard_floor⟩) (I_Floor rfl rfl) H_Floor_there_word G_Floor_there_word callOk_share C (kb22 D_Floor_there_word) (da_cons (de_callL (x := "word_of") G_word_of callOk_sub C rfl m_word_of D_word_of.kp (kb21 D_word_of) (da_cons (de_var (pv 1)) da_nil) dkw_nil) da_nil) dkw_nil) da_nil) dkw_nil)))
theorem ok_led_to_webs {P : Program} {w : World} {K : PySem.W.Frag} {mg : Str → Option Value} {base : Heap} (T : Txt K mg) (TB : ∀ p ∈ tq, LamX.TabB base mg (He.cT K p.1).1 (He.cT K p.1).2) : ∃ fd, FunD K d_led_to_webs.name d_led_to_webs.qual d_led_to_webs.params d_led_to_webs.body d_led_to_webs.scope (d_led_to_webs.dvs K) (d_led_to_webs.kws K) (He.fAd K d_led_to_webs.at_) fd ∧
    FnG P w K mg base 1 (He.fAd K d_led_to_webs.at_) fd ["value"] (spD K mg 1 S_led_to_webs) := by
  have b_isinstance := free_isinstance T
  have b_tuple := free_tuple T
  obtain ⟨_, i_LEAST_PLACES⟩ := int_LEAST_PLACES T
  obtain ⟨_, i_MOST_PAY⟩ := int_MOST_PAY T
  obtain ⟨_, i_MOST_PEGS⟩ := int_MOST_PEGS T
  obtain ⟨_, i_MOST_PLACES⟩ := int_MOST_PLACES T
  obtain ⟨_, i_MOST_UNITS⟩ := int_MOST_UNITS T
  obtain ⟨_, i_POST⟩ := int_POST T
  obtain ⟨fd, F⟩ := fun_led_to_webs T
  refine ⟨fd, F, fnG (N := N_led_to_webs) (ps := ["value"]) (k := 0) (g := m_led_to_webs) F ⟨rfl, rfl, rfl, by decide +kernel, rfl, by decide +kernel, by decide +kernel⟩ fun cdv A outer s H E C => ?_⟩
  exact (dss_one (ds_ret (de_ifExp (dt_val (de_isi rfl b_isinstance (da_cons (de_var (pv 0)) (da_cons (de_ty rfl b_tuple (by rfl)) da_nil)))) (de_sub1 C (de_var (pv 0)) de_int) de_non)))
theorem ok_Yard_sort_at {P : Program} {w : World} {K : PySem.W.Frag} {mg : Str → Option Value} {base : Heap} (T : Txt K mg) (TB : ∀ p ∈ tq, LamX.TabB base mg (He.cT K p.1).1 (He.cT K p.1).2) : ∃ fd, FunD K d_Yard_sort_at.name d_Yard_sort_at.qual d_Yard_sort_at.params d_Yard_sort_at.body d_Yard_sort_at.scope (d_Yard_sort_at.dvs K) (d_Yard_sort_at.kws K) (He.fAd K d_Yard_sort_at.at_) fd ∧
    FnG P w K mg base 6 (He.fAd K d_Yard_sort_at.at_) fd ["self", "value"] (spD K mg 2 S_Yard_sort_at) := by
  obtain ⟨fd_Floor_sort_of, D_Floor_sort_of, G_Floor_sort_of⟩ := ok_Floor_sort_of (P := P) (w := w) (base := base) T TB
  obtain ⟨fd_Yard_goal, D_Yard_goal, G_Yard_goal⟩ := ok_Yard_goal (P := P) (w := w) (base := base) T TB
  obtain ⟨_, i_LEAST_PLACES⟩ := int_LEAST_PLACES T
  obtain ⟨_, i_MOST_PAY⟩ := int_MOST_PAY T
  obtain ⟨_, i_MOST_PEGS⟩ := int_MOST_PEGS T
  obtain ⟨_, i_MOST_PLACES⟩ := int_MOST_PLACES T
  obtain ⟨_, i_MOST_UNITS⟩ := int_MOST_UNITS T
  obtain ⟨_, i_POST⟩ := int_POST T
  have t_SORTS := glot_SORTS T
  have tupc_SORTS := tupcc_SORTS T
  have H_Floor_sort_of := meth_Floor_sort_of T
  have H_Yard_goal := meth_Yard_goal T
  have I_Floor : ∀ {X : Cx}, X.K = K → X.mg = mg → ClsI X "Floor" (He.ga K "Floor") := fun h1 h2 => ⟨by rw [h2]; exact gloc_Floor T, by rw [h1]; exact cls_Floor T⟩
  have I_Yard : ∀ {X : Cx}, X.K = K → X.mg = mg → ClsI X "Yard" (He.ga K "Yard") := fun h1 h2 => ⟨by rw [h2]; exact gloc_Yard T, by rw [h1]; exact cls_Yard T⟩
  have N_Yard_floor := noat_Yard_floor T
  obtain ⟨fd, F⟩ := fun_Yard_sort_at T
  refine ⟨fd, F, fnG (N := N_Yard_sort_at) (ps := ["self", "value"]) (k := 5) (g := m_Yard_sort_at) F ⟨rfl, rfl, rfl, by decide +kernel, rfl, by decide +kernel, by decide +kernel⟩ fun cdv A outer s H E C => ?_⟩
  exact (dss_one (ds_ret (de_sub1 C (de_globT rfl t_SORTS tupc_SORTS) (de_methL (de_fld (de_var (pv 0)) (cs := ["Yard"]) fun c hc => by rw [List.mem_singleton.mp hc]; exact ⟨_, I_Yard rfl rfl, N_Yard_floor⟩) (I_Floor rfl rfl) H_Floor_sort_of G_Floor_sort_of callOk_share C (kb10 D_Floor_sort_of) (da_cons (de_sub1 C (de_methL (de_var (pv 0)) (I_Yard rfl rfl) H_Yard_goal G_Yard_goal callOk_share C (kb24 D_Yard_goal) (da_cons (de_var (pv 1)) da_nil) dkw_nil) de_int) da_nil) dkw_nil))))
theorem ok_Ground_what {P : Program} {w : World} {K : PySem.W.Frag} {mg : Str → Option Value} {base : Heap} (T : Txt K mg) (TB : ∀ p ∈ tq, LamX.TabB base mg (He.cT K p.1).1 (He.cT K p.1).2) : ∃ fd, FunD K d_Ground_what.name d_Ground_what.qual d_Ground_what.params d_Ground_what.body d_Ground_what.scope (d_Ground_what.dvs K) (d_Ground_what.kws K) (He.fAd K d_Ground_what.at_) fd ∧
    FnG P w K mg base 7 (He.fAd K d_Ground_what.at_) fd ["self", "p"] (spD K mg 2 S_Ground_what) := by
  obtain ⟨fd_Ground_sure_pegs, D_Ground_sure_pegs, G_Ground_sure_pegs⟩ := ok_Ground_sure_pegs (P := P) (w := w) (base := base) T TB
  obtain ⟨fd_Yard_goal, D_Yard_goal, G_Yard_goal⟩ := ok_Yard_goal (P := P) (w := w) (base := base) T TB
  obtain ⟨fd_led_to_webs, D_led_to_webs, G_led_to_webs⟩ := ok_led_to_webs (P := P) (w := w) (base := base) T TB
  have m_led_to_webs := glo_led_to_webs T
  obtain ⟨fd_Yard_sort_at, D_Yard_sort_at, G_Yard_sort_at⟩ := ok_Yard_sort_at (P := P) (w := w) (base := base) T TB
  obtain ⟨_, i_LEAST_PLACES⟩ := int_LEAST_PLACES T
  obtain ⟨_, i_MOST_PAY⟩ := int_MOST_PAY T
  obtain ⟨_, i_MOST_PEGS⟩ := int_MOST_PEGS T
  obtain ⟨_, i_MOST_PLACES⟩ := int_MOST_PLACES T
  obtain ⟨_, i_MOST_UNITS⟩ := int_MOST_UNITS T
  obtain ⟨_, i_POST⟩ := int_POST T
  have H_Yard_goal := meth_Yard_goal T
  have H_Yard_sort_at := meth_Yard_sort_at T
  have H_Ground_sure_pegs := meth_Yard_sure_pegs T
  have I_Yard : ∀ {X : Cx}, X.K = K → X.mg = mg → ClsI X "Yard" (He.ga K "Yard") := fun h1 h2 => ⟨by rw [h2]; exact gloc_Yard T, by rw [h1]; exact cls_Yard T⟩
  have N_Yard_stands := noat_Yard_stands T
  obtain ⟨fd, F⟩ := fun_Ground_what T
  refine ⟨fd, F, fnG (N := N_Ground_what) (ps := ["self", "p"]) (k := 6) (g := m_Ground_what) F ⟨rfl, rfl, rfl, by decide +kernel, rfl, by decide +kernel, by decide +kernel⟩ fun cdv A outer s H E C => ?_⟩
  refine dss_cons (ds_expr (de_methL (de_var (pv 0)) (I_Yard rfl rfl) H_Ground_sure_pegs G_Ground_sure_pegs callOk_share C (kb25 D_Ground_sure_pegs) (da_cons (de_lst (da_cons (de_var (pv 1)) da_nil)) da_nil) dkw_nil)) ?_
  exact (dss_cons (ds_set C (i := 2) rfl (by first | exact Or.inl rfl | exact Or.inr rfl) (de_methL (de_var (pv 0)) (I_Yard rfl rfl) H_Yard_goal G_Yard_goal callOk_share C (kb24 D_Yard_goal) (da_cons (de_sub1 C (de_fld (de_var (pv 0)) (cs := ["Yard"]) fun c hc => by rw [List.mem_singleton.mp hc]; exact ⟨_, I_Yard rfl rfl, N_Yard_stands⟩) (de_var (pv 1))) da_nil) dkw_nil)) (dss_cons (ds_if (dt_cmp op_isN opd_is (de_callL (x := "led_to_webs") G_led_to_webs callOk_sub C rfl m_led_to_webs D_led_to_webs.kp (kb26 D_led_to_webs) (da_cons (de_var (pv 2)) da_nil) dkw_nil) de_non (nomark _)) (dss_one (ds_ret (de_var (pv 2)))) dss_nil) (dss_one (ds_ret (de_ifExp (dt_cmp (opr_eq C) opd_eq (de_methL (de_var (pv 0)) (I_Yard rfl rfl) H_Yard_sort_at G_Yard_sort_at callOk_share C (kb27 D_Yard_sort_at) (da_cons (de_var (pv 2)) da_nil) dkw_nil) de_str (nomark _)) de_str de_str)))))
theorem ok_p_law_steps_right {P : Program} {w : World} {K : PySem.W.Frag} {mg : Str → Option Value} {base : Heap} (T : Txt K mg) (TB : ∀ p ∈ tq, LamX.TabB base mg (He.cT K p.1).1 (He.cT K p.1).2) : ∃ fd, FunD K d_p_law_steps_right.name d_p_law_steps_right.qual d_p_law_steps_right.params d_p_law_steps_right.body d_p_law_steps_right.scope (d_p_law_steps_right.dvs K) (d_p_law_steps_right.kws K) (He.fAd K d_p_law_steps_right.at_) fd ∧
    FnG P w K mg base 3 (He.fAd K d_p_law_steps_right.at_) fd ["_law_found"] (spD K mg 1 S_p_law_steps_right) := by
  obtain ⟨fd_Yard_step, D_Yard_step, G_Yard_step⟩ := ok_Yard_step (P := P) (w := w) (base := base) T TB
  obtain ⟨_, i_LEAST_PLACES⟩ := int_LEAST_PLACES T
  obtain ⟨_, i_MOST_PAY⟩ := int_MOST_PAY T
  obtain ⟨_, i_MOST_PEGS⟩ := int_MOST_PEGS T
  obtain ⟨_, i_MOST_PLACES⟩ := int_MOST_PLACES T
  obtain ⟨_, i_MOST_UNITS⟩ := int_MOST_UNITS T
  obtain ⟨_, i_POST⟩ := int_POST T
  have gx_BadGround := gloc_BadGround T
  have gx_BadNumber := gloc_BadNumber T
  have gx_YardError := gloc_YardError T
  have exm_BadNumber := exmc_BadNumber T
  have exm_YardError := exmc_YardError T
  have H_Yard_step := meth_Yard_step T
  have I_Yard : ∀ {X : Cx}, X.K = K → X.mg = mg → ClsI X "Yard" (He.ga K "Yard") := fun h1 h2 => ⟨by rw [h2]; exact gloc_Yard T, by rw [h1]; exact cls_Yard T⟩
  obtain ⟨fd, F⟩ := fun_p_law_steps_right T
  refine ⟨fd, F, fnG (N := N_p_law_steps_right) (ps := ["_law_found"]) (k := 2) (g := m_p_law_steps_right) F ⟨rfl, rfl, rfl, by decide +kernel, rfl, by decide +kernel, by decide +kernel⟩ fun cdv A outer s H E C => ?_⟩
  refine dss_cons (ds_for C (di_seq (de_lst (da_cons (de_neg de_int) (da_cons de_int (da_cons de_non (da_cons de_bl (da_cons de_str (da_cons (de_tup (da_cons de_int da_nil)) (da_cons (de_pow de_int de_int) da_nil))))))))) (dg_name (i := 1) (pg_name C.nd rfl (by first | exact Or.inl rfl | exact Or.inr rfl))) (dss_cons (ds_set C (i := 2) rfl (by first | exact Or.inl rfl | exact Or.inr rfl) de_str) (dss_cons (ds_try C rfl rfl rfl (fun Wn pn xe C => (dss_one (ds_expr (de_meth0L (de_var (pv 0)) (I_Yard rfl rfl) H_Yard_step G_Yard_step callOk_share C (kb28 D_Yard_step) (dkw_cons (de_var (pv 1)) dkw_nil))))) (.plain ⟨rfl, by decide, .inl gx_BadNumber⟩ exm_BadNumber (fun a pn => (dss_one (ds_setS (by exact C.nd) (i := 2) rfl (by first | exact Or.inl rfl | exact Or.inr rfl) de_str))) (.plain ⟨rfl, by decide, .inl gx_YardError⟩ exm_YardError (fun a pn => (dss_one (ds_setS (by exact C.nd) (i := 2) rfl (by first | exact Or.inl rfl | exact Or.inr rfl) de_str))) .nil))) (dss_one (ds_if (dt_cmp (opr_ne C) opd_ne (de_var (pv 2)) de_str (nomark _)) (dss_one (ds_ret de_bl)) dss_nil))))) ?_
  exact (dss_one (ds_ret (de_cmp (opr_eq C) opd_eq (de_lst (da_cons (de_meth0L (de_var (pv 0)) (I_Yard rfl rfl) H_Yard_step G_Yard_step callOk_share C (kb28 D_Yard_step) (dkw_cons de_int dkw_nil)) (da_cons (de_meth0L (de_var (pv 0)) (I_Yard rfl rfl) H_Yard_step G_Yard_step callOk_share C (kb28 D_Yard_step) (dkw_cons de_int dkw_nil)) da_nil))) (de_lst (da_cons de_str (da_cons de_str da_nil))) (nomark _))))
theorem ok_p_law_new_right {P : Program} {w : World} {K : PySem.W.Frag} {mg : Str → Option Value} {base : Heap} (T : Txt K mg) (TB : ∀ p ∈ tq, LamX.TabB base mg (He.cT K p.1).1 (He.cT K p.1).2) : ∃ fd, FunD K d_p_law_new_right.name d_p_law_new_right.qual d_p_law_new_right.params d_p_law_new_right.body d_p_law_new_right.scope (d_p_law_new_right.dvs K) (d_p_law_new_right.kws K) (He.fAd K d_p_law_new_right.at_) fd ∧
    FnG P w K mg base 8 (He.fAd K d_p_law_new_right.at_) fd ["_law_found", "_law_many", "_law_sizes", "_law_sort", "_law_times"] (spD K mg 5 S_p_law_new_right) := by
  obtain ⟨fd_Ground_pegs, D_Ground_pegs, G_Ground_pegs⟩ := ok_Ground_pegs (P := P) (w := w) (base := base) T TB
  obtain ⟨fd_Yard_made, D_Yard_made, G_Yard_made⟩ := ok_Yard_made (P := P) (w := w) (base := base) T TB
  obtain ⟨fd_Yard_news, D_Yard_news, G_Yard_news⟩ := ok_Yard_news (P := P) (w := w) (base := base) T TB
  obtain ⟨fd_Yard_picture, D_Yard_picture, G_Yard_picture⟩ := ok_Yard_picture (P := P) (w := w) (base := base) T TB
  obtain ⟨fd_Yard_serials, D_Yard_serials, G_Yard_serials⟩ := ok_Yard_serials (P := P) (w := w) (base := base) T TB
  obtain ⟨fd_Yard_step, D_Yard_step, G_Yard_step⟩ := ok_Yard_step (P := P) (w := w) (base := base) T TB
  obtain ⟨fd_Ground_what, D_Ground_what, G_Ground_what⟩ := ok_Ground_what (P := P) (w := w) (base := base) T TB
  obtain ⟨fd_p_law_steps_right, D_p_law_steps_right, G_p_law_steps_right⟩ := ok_p_law_steps_right (P := P) (w := w) (base := base) T TB
  have m_p_law_steps_right := glo_p_law_steps_right T
  have b_isinstance := free_isinstance T
  have b_range := free_range T
  obtain ⟨_, i_LEAST_PLACES⟩ := int_LEAST_PLACES T
  obtain ⟨_, i_MOST_PAY⟩ := int_MOST_PAY T
  obtain ⟨_, i_MOST_PEGS⟩ := int_MOST_PEGS T
  obtain ⟨_, i_MOST_PLACES⟩ := int_MOST_PLACES T
  obtain ⟨_, i_MOST_UNITS⟩ := int_MOST_UNITS T
  obtain ⟨_, i_POST⟩ := int_POST T
  have c_Yard := gloc_Yard T
  have J_Yard := isi_Yard T
  have H_Yard_made := meth_Yard_made T
  have H_Yard_news := meth_Yard_news T
  have H_Ground_pegs := meth_Yard_pegs T
  have H_Yard_picture := meth_Yard_picture T
  have H_Yard_serials := meth_Yard_serials T
  have H_Yard_step := meth_Yard_step T
  have H_Ground_what := meth_Yard_what T
  have I_Yard : ∀ {X : Cx}, X.K = K → X.mg = mg → ClsI X "Yard" (He.ga K "Yard") := fun h1 h2 => ⟨by rw [h2]; exact gloc_Yard T, by rw [h1]; exact cls_Yard T⟩
  obtain ⟨fd, F⟩ := fun_p_law_new_right T
  refine ⟨fd, F, fnG (N := N_p_law_new_right) (ps := ["_law_found", "_law_many", "_law_sizes", "_law_sort", "_law_times"]) (k := 7) (g := m_p_law_new_right) F ⟨rfl, rfl, rfl, by decide +kernel, rfl, by decide +kernel, by decide +kernel⟩ fun cdv A outer s H E C => ?_⟩
  refine dss_cons (ds_if (DW.dt (dw_or (dt_not (dt_val (de_isiC rfl b_isinstance (I_Yard rfl rfl) J_Yard (da_cons (de_var (pv 0)) (da_cons (de_own rfl c_Yard) da_nil))))) (dw_or (dt_cmp (opr_ne C) opd_ne (de_meth0L (de_var (pv 0)) (I_Yard rfl rfl) H_Ground_pegs G_Ground_pegs callOk_share C (kb29 D_Ground_pegs) dkw_nil) (de_var (pv 1)) (nomark _)) (dw_or (dt_cmp (opr_ne C) opd_ne (de_meth0L (de_var (pv 0)) (I_Yard rfl rfl) H_Yard_made G_Yard_made callOk_share C (kb30 D_Yard_made) dkw_nil) de_int (nomark _)) (dw_or1 (dt_cmp (opr_ne C) opd_ne (de_meth0L (de_var (pv 0)) (I_Yard rfl rfl) H_Yard_news G_Yard_news callOk_share C (kb31 D_Yard_news) dkw_nil) (de_lst da_nil) (nomark _))))))) (dss_one (ds_ret de_bl)) dss_nil) ?_
  refine dss_cons (ds_set C (i := 5) rfl (by first | exact Or.inl rfl | exact Or.inr rfl) (de_meth0L (de_var (pv 0)) (I_Yard rfl rfl) H_Yard_picture G_Yard_picture callOk_share C (kb32 D_Yard_picture) dkw_nil)) ?_
  refine dss_cons (ds_if (dt_cmp (opr_ne C) opd_ne (de_lst (da_cons (de_sub1 C (de_var (pv 5)) de_str) (da_cons (de_sub1 C (de_var (pv 5)) de_str) (da_cons (de_sub1 C (de_var (pv 5)) de_str) (da_cons (de_sub1 C (de_var (pv 5)) de_str) da_nil))))) (de_lst (da_cons (de_var (pv 3)) (da_cons de_str (da_cons (de_var (pv 4)) (da_cons de_int da_nil))))) (nomark _)) (dss_one (ds_ret de_bl)) dss_nil) ?_
  refine dss_cons ?_ ?_
  · refine ds_for C (di_seq (de_lst (da_cons (de_tup (da_cons de_str (da_cons (de_sub1 C (de_var (pv 2)) de_int) da_nil))) (da_cons (de_tup (da_cons de_str (da_cons (de_sub1 C (de_var (pv 2)) de_int) da_nil))) (da_cons (de_tup (da_cons de_str (da_cons (de_sub1 C (de_var (pv 2)) de_int) da_nil))) da_nil))))) (dg_tup C.calm (dgs_cons (dg_name (i := 6) (pg_name C.nd rfl (by first | exact Or.inl rfl | exact Or.inr rfl))) (dgs_cons (dg_name (i := 7) (pg_name C.nd rfl (by first | exact Or.inl rfl | exact Or.inr rfl))) dgs_nil))) ?_
    exact (dss_cons (ds_asg (de_sub1 C (de_var (pv 5)) (de_var (pv 6))) (dg_tup C.calm (dgs_cons (dg_name (i := 8) (pg_name C.nd rfl (by first | exact Or.inl rfl | exact Or.inr rfl))) (dgs_cons (dg_name (i := 9) (pg_name C.nd rfl (by first | exact Or.inl rfl | exact Or.inr rfl))) (dgs_cons (dg_name (i := 10) (pg_name C.nd rfl (by first | exact Or.inl rfl | exact Or.inr rfl))) dgs_nil))))) (dss_one (ds_if (DW.dt (dw_or (dt_cmp (opr_ne C) opd_ne (de_var (pv 9)) (de_var (pv 8)) (nomark _)) (dw_or (dt_cmp (opr_ne C) opd_ne (de_sub (de_var (pv 10)) (de_var (pv 8))) (de_var (pv 7)) (nomark _)) (dw_or1 (dt_cmp op_lt opd_lt (de_var (pv 8)) de_int (nomark _)))))) (dss_one (ds_ret de_bl)) dss_nil)))
  refine dss_cons (ds_set C (i := 11) rfl (by first | exact Or.inl rfl | exact Or.inr rfl) (de_lst (da_cons (de_sub1 C (de_var (pv 5)) de_str) (da_cons (de_sub1 C (de_var (pv 5)) de_str) (da_cons (de_sub1 C (de_var (pv 5)) de_str) (da_cons (de_sub1 C (de_var (pv 5)) de_str) (da_cons (de_sub1 C (de_var (pv 5)) de_str) (da_cons (de_meth0L (de_var (pv 0)) (I_Yard rfl rfl) H_Yard_serials G_Yard_serials callOk_share C (kb33 D_Yard_serials) dkw_nil) da_nil)))))))) ?_
  refine dss_cons (ds_if (DW.dt (dw_or (dt_cmp (opr_ne C) opd_ne (de_var (pv 11)) (de_repL (de_lst (da_cons (de_lst da_nil) da_nil)) de_int) (nomark _)) (dw_or (dt_cmp (opr_ne C) opd_ne (de_sub1 C (de_var (pv 5)) de_str) (de_repL (de_lst (da_cons de_non da_nil)) (de_var (pv 1))) (nomark _)) (dw_or1 (dt_cmp (opr_ne C) opd_ne (de_meth0L (de_var (pv 0)) (I_Yard rfl rfl) H_Yard_step G_Yard_step callOk_share C (kb_dfl D_Yard_step 1 [] [("units", .int 1)] [.int 1] [(0, 0), (2, 0)] (by simp [He.DefD.kws, d_Yard_step]) (show ∀ q ∈ ([("units", .int 1)] : List (Str × V)), q ∈ ([("units", .int 1)] : List (Str × V)) by decide) (fun _ _ _ => (.cons (by unfold Dat; rfl) DatL.nil)) fun _ _ _ _ _ _ us mv ws l1 l2 l3 => match us, mv, ws, l1, l2, l3 with | [_], [_], [], _, _, _ => ⟨_, _, _, _, _, _, rfl, rfl, (by show _ = pure _; rfl)⟩) dkw_nil) de_str (nomark _)))))) (dss_one (ds_ret de_bl)) dss_nil) ?_
  exact (dss_one (ds_ret (de_and (de_cmp (opr_eq C) opd_eq (de_lcB C finL_ok (di_range1 rfl b_range (da_cons (de_var (pv 1)) da_nil)) (show BlkOk N_p_law_new_right (defScope s_p_law_new_right) _ [("_law_p", 12)] from ⟨rfl, by decide +kernel, by decide +kernel, by decide +kernel, by decide +kernel⟩) (fun _ _ _ _ _ C1 => (dg_name (i := 12) (pg_name C1.nd rfl (by first | exact Or.inl rfl | exact Or.inr rfl)))) (fun _ _ _ _ _ C1 => dts_nil) (fun _ _ _ _ _ C1 => (de_methL (de_var (pv 0)) (I_Yard rfl rfl) H_Ground_what G_Ground_what callOk_share C1 (kb34 D_Ground_what) (da_cons (de_var (pv 12)) da_nil) dkw_nil))) (de_repL (de_lst (da_cons de_non da_nil)) (de_var (pv 1))) (nomark _)) (de_one (de_callL (x := "_law_steps_right") G_p_law_steps_right callOk_share C rfl m_p_law_steps_right D_p_law_steps_right.kp (kb35 D_p_law_steps_right) (da_cons (de_var (pv 0)) da_nil) dkw_nil)))))
theorem ok_law {P : Program} {w : World} {K : PySem.W.Frag} {mg : Str → Option Value} {base : Heap} (T : Txt K mg) (TB : ∀ p ∈ tq, LamX.TabB base mg (He.cT K p.1).1 (He.cT K p.1).2) : ∃ fd, FunD K d_law.name d_law.qual d_law.params d_law.body d_law.scope (d_law.dvs K) (d_law.kws K) (He.fAd K d_law.at_) fd ∧
    FnG P w K mg base 33 (He.fAd K d_law.at_) fd ["_law_script"] (spD K mg 1 S_law) := by
  obtain ⟨fd_p_law_state, D_p_law_state, G_p_law_state⟩ := ok_p_law_state (P := P) (w := w) (base := base) T TB
  have m_p_law_state := glo_p_law_state T
  obtain ⟨fd_p_law_next, D_p_law_next, G_p_law_next⟩ := ok_p_law_next (P := P) (w := w) (base := base) T TB
  have m_p_law_next := glo_p_law_next T
  obtain ⟨fd_p_law_near, D_p_law_near, G_p_law_near⟩ := ok_p_law_near (P := P) (w := w) (base := base) T TB
  have m_p_law_near := glo_p_law_near T
  obtain ⟨fd_p_law_pick, D_p_law_pick, G_p_law_pick⟩ := ok_p_law_pick (P := P) (w := w) (base := base) T TB
  have m_p_law_pick := glo_p_law_pick T
  obtain ⟨fd_p_law_got, D_p_law_got, G_p_law_got⟩ := ok_p_law_got (P := P) (w := w) (base := base) T TB
  have m_p_law_got := glo_p_law_got T
  obtain ⟨fd_p_law_made, D_p_law_made, G_p_law_made⟩ := ok_p_law_made (P := P) (w := w) (base := base) T TB
  have m_p_law_made := glo_p_law_made T
  obtain ⟨fd_p_law_good, D_p_law_good, G_p_law_good⟩ := ok_p_law_good (P := P) (w := w) (base := base) T TB
  have m_p_law_good := glo_p_law_good T
  obtain ⟨fd_p_law_new_right, D_p_law_new_right, G_p_law_new_right⟩ := ok_p_law_new_right (P := P) (w := w) (base := base) T TB
  have m_p_law_new_right := glo_p_law_new_right T
  have b_isinstance := free_isinstance T
  have b_len := free_len T
  have b_max := free_max T
  have b_min := free_min T
  have b_range := free_range T
  have b_str := free_str T
  obtain ⟨_, i_LEAST_PLACES⟩ := int_LEAST_PLACES T
  obtain ⟨_, i_MOST_PAY⟩ := int_MOST_PAY T
  obtain ⟨_, i_MOST_PEGS⟩ := int_MOST_PEGS T
  obtain ⟨_, i_MOST_PLACES⟩ := int_MOST_PLACES T
  obtain ⟨_, i_MOST_UNITS⟩ := int_MOST_UNITS T
  obtain ⟨_, i_POST⟩ := int_POST T
  have V_Yard_str := isn_Yard_str T
  have I_Yard : ∀ {X : Cx}, X.K = K → X.mg = mg → ClsI X "Yard" (He.ga K "Yard") := fun h1 h2 => ⟨by rw [h2]; exact gloc_Yard T, by rw [h1]; exact cls_Yard T⟩
  obtain ⟨fd, F⟩ := fun_law T
  refine ⟨fd, F, fnGc (N := N_law) (ps := ["_law_script"]) (k := 32) (g := m_law) F ⟨rfl, rfl, rfl, by decide +kernel, rfl, by decide +kernel, by decide +kernel⟩ fun cdv A outer s H E hcode C => ?_⟩
  refine dss_cons ?_ ?_
  · refine ds_for C (di_range1 rfl b_range (da_cons (de_max C rfl b_max (da_cons de_int (da_cons (de_min C rfl b_min (da_cons de_int (da_cons (de_len rfl b_len (da_cons (de_var (pv 0)) da_nil)) da_nil))) da_nil))) da_nil)) (dg_name (i := 1) (pg_name C.nd rfl (by first | exact Or.inl rfl | exact Or.inr rfl))) ?_
    refine dss_cons (ds_set C (i := 2) rfl (by first | exact Or.inl rfl | exact Or.inr rfl) (de_callL (x := "_law_state") G_p_law_state callOk_share C rfl m_p_law_state D_p_law_state.kp (kb36 D_p_law_state) (da_cons (de_var (pv 0)) (da_cons (de_var (pv 1)) da_nil)) dkw_nil)) ?_
    refine dss_cons (ds_set C (i := 3) rfl (by first | exact Or.inl rfl | exact Or.inr rfl) (de_callL (x := "_law_next") G_p_law_next callOk_share C rfl m_p_law_next D_p_law_next.kp (kb0 D_p_law_next) (da_cons (de_var (pv 2)) (da_cons de_int da_nil)) dkw_nil)) ?_
    refine dss_cons ?_ ?_
    · exact (ds_asg (de_tup (da_cons (de_callL (x := "_law_near") G_p_law_near callOk_share C rfl m_p_law_near D_p_law_near.kp (kb37 D_p_law_near) (da_cons (de_var (pv 2)) (da_cons de_int (da_cons de_int da_nil))) dkw_nil) (da_cons (de_tup (da_cons (de_callL (x := "_law_near") G_p_law_near callOk_share C rfl m_p_law_near D_p_law_near.kp (kb37 D_p_law_near) (da_cons (de_var (pv 2)) (da_cons de_int (da_cons de_int da_nil))) dkw_nil) (da_cons (de_callL (x := "_law_near") G_p_law_near callOk_share C rfl m_p_law_near D_p_law_near.kp (kb37 D_p_law_near) (da_cons (de_var (pv 2)) (da_cons de_int (da_cons de_int da_nil))) dkw_nil) da_nil))) da_nil))) (dg_tup C.calm (dgs_cons (dg_name (i := 4) (pg_name C.nd rfl (by first | exact Or.inl rfl | exact Or.inr rfl))) (dgs_cons (dg_name (i := 5) (pg_name C.nd rfl (by first | exact Or.inl rfl | exact Or.inr rfl))) dgs_nil))))
    refine dss_cons (ds_set C (i := 6) rfl (by first | exact Or.inl rfl | exact Or.inr rfl) (de_callL (x := "_law_pick") G_p_law_pick callOk_share C rfl m_p_law_pick D_p_law_pick.kp (kb1 D_p_law_pick) (da_cons (de_var (pv 2)) (da_cons (de_lst (da_cons de_str (da_cons de_str (da_cons de_str (da_cons de_str (da_cons de_str (da_cons de_str (da_cons de_non (da_cons de_int (da_cons (de_tup (da_cons de_str da_nil)) (da_cons (de_lst (da_cons de_str da_nil)) da_nil))))))))))) da_nil)) dkw_nil)) ?_
    refine dss_cons (ds_asg (de_tup (da_cons (de_callL (x := "_law_near") G_p_law_near callOk_share C rfl m_p_law_near D_p_law_near.kp (kb37 D_p_law_near) (da_cons (de_var (pv 2)) (da_cons de_int (da_cons de_int da_nil))) dkw_nil) (da_cons (de_callL (x := "_law_near") G_p_law_near callOk_share C rfl m_p_law_near D_p_law_near.kp (kb37 D_p_law_near) (da_cons (de_var (pv 2)) (da_cons de_int (da_cons de_int da_nil))) dkw_nil) da_nil))) (dg_tup C.calm (dgs_cons (dg_name (i := 7) (pg_name C.nd rfl (by first | exact Or.inl rfl | exact Or.inr rfl))) (dgs_cons (dg_name (i := 8) (pg_name C.nd rfl (by first | exact Or.inl rfl | exact Or.inr rfl))) dgs_nil)))) ?_
    refine dss_cons (ds_set C (i := 9) rfl (by first | exact Or.inl rfl | exact Or.inr rfl) (de_told (x := "_law_got") (at_ := ("law", none)) G_p_law_got C rfl m_p_law_got D_p_law_got.kp rfl hcode (TB (("law", none), ((("law" : Str) ++ ".<locals>.") ++ "<lambda>")) List.mem_cons_self) (show LamX.LamS (defScope s_law) _ from LamX.lamS_by (by decide +kernel)) rfl (fun _ _ _ _ _ => rfl) rfl (by decide) (fun A outer t H E f c CL => (de_callL (x := "_law_made") G_p_law_made callOk_share CL rfl m_p_law_made D_p_law_made.kp (kb38 D_p_law_made) (da_cons (de_var (pv 4)) (da_cons (de_var (pv 5)) (da_cons (de_var (pv 6)) (da_cons (de_var (pv 7)) (da_cons (de_var (pv 8)) (da_cons (de_var (pv 3)) da_nil)))))) dkw_nil)))) ?_
    refine dss_cons (ds_if (dt_cmp op_gt opd_gt (de_var (pv 3)) de_int (nomark _)) (dss_one (ds_set C (i := 8) rfl (by first | exact Or.inl rfl | exact Or.inr rfl) de_int)) dss_nil) ?_
    refine dss_cons (ds_if (dt_cmp op_gt opd_gt (de_var (pv 3)) de_int (nomark _)) (dss_one (ds_set C (i := 6) rfl (by first | exact Or.inl rfl | exact Or.inr rfl) de_str)) dss_nil) ?_
    refine dss_cons (ds_if (dt_cmp (opr_eq C) opd_eq (de_var (pv 3)) de_int (nomark _)) (dss_one (ds_asg (de_tup (da_cons (de_tup (da_cons de_int (da_cons (de_sub1 C (de_var (pv 5)) de_int) da_nil))) (da_cons de_int da_nil))) (dg_tup C.calm (dgs_cons (dg_name (i := 5) (pg_name C.nd rfl (by first | exact Or.inl rfl | exact Or.inr rfl))) (dgs_cons (dg_name (i := 7) (pg_name C.nd rfl (by first | exact Or.inl rfl | exact Or.inr rfl))) dgs_nil))))) dss_nil) ?_
    refine dss_cons (ds_if (dt_cmp (opr_eq C) opd_eq (de_var (pv 3)) de_int (nomark _)) (dss_one (ds_set C (i := 5) rfl (by first | exact Or.inl rfl | exact Or.inr rfl) (de_tup (da_cons (de_sub1 C (de_var (pv 5)) de_int) (da_cons de_int da_nil))))) dss_nil) ?_
    refine dss_cons (ds_if (dt_cmp (opr_eq C) opd_eq (de_var (pv 3)) de_int (nomark _)) (dss_one (ds_asg (de_tup (da_cons (de_tup (da_cons de_int (da_cons de_int da_nil))) (da_cons de_int da_nil))) (dg_tup C.calm (dgs_cons (dg_name (i := 5) (pg_name C.nd rfl (by first | exact Or.inl rfl | exact Or.inr rfl))) (dgs_cons (dg_name (i := 7) (pg_name C.nd rfl (by first | exact Or.inl rfl | exact Or.inr rfl))) dgs_nil))))) dss_nil) ?_
    refine dss_cons (ds_set C (i := 10) rfl (by first | exact Or.inl rfl | exact Or.inr rfl) (de_add (de_lst (da_cons (de_callL (x := "_law_good") G_p_law_good callOk_sub C rfl m_p_law_good D_p_law_good.kp (kb39 D_p_law_good) (da_cons (de_var (pv 4)) (da_cons de_int (da_cons de_int da_nil))) dkw_nil) da_nil)) (de_lcB C finL_ok (di_seq (de_var (pv 5))) (show BlkOk N_law (defScope s_law) _ [("_law_size", 11)] from ⟨rfl, by decide +kernel, by decide +kernel, by decide +kernel, by decide +kernel⟩) (fun _ _ _ _ _ C1 => (dg_name (i := 11) (pg_name C1.nd rfl (by first | exact Or.inl rfl | exact Or.inr rfl)))) (fun _ _ _ _ _ C1 => dts_nil) (fun _ _ _ _ _ C1 => (de_callL (x := "_law_good") G_p_law_good callOk_sub C1 rfl m_p_law_good D_p_law_good.kp (kb39 D_p_law_good) (da_cons (de_var (pv 11)) (da_cons de_int (da_cons de_int da_nil))) dkw_nil))))) ?_
    refine dss_cons (ds_set C (i := 10) rfl (by first | exact Or.inl rfl | exact Or.inr rfl) (de_add (de_var (pv 10)) (de_lst (da_cons (de_cmp (L2.op_inTD C.u65) opd_inTD (de_var (pv 6)) (de_tup (da_cons de_str (da_cons de_str da_nil))) (by with_unfolding_all rfl)) (da_cons (de_callL (x := "_law_good") G_p_law_good callOk_sub C rfl m_p_law_good D_p_law_good.kp (kb39 D_p_law_good) (da_cons (de_var (pv 7)) (da_cons de_int (da_cons de_int da_nil))) dkw_nil) (da_cons (de_callL (x := "_law_good") G_p_law_good callOk_sub C rfl m_p_law_good D_p_law_good.kp (kb39 D_p_law_good) (da_cons (de_var (pv 8)) (da_cons de_int (da_cons de_int da_nil))) dkw_nil) da_nil)))))) ?_
    exact (dss_cons (ds_if (DW.dt (dw_and (dt_cmp (opr_in C) opd_in de_bl (de_var (pv 10)) (by with_unfolding_all rfl)) (dw_and1 (dt_cmp (opr_ne C) opd_ne (de_var (pv 9)) de_str (nomark _))))) (dss_one (ds_ret de_bl)) dss_nil) (dss_cons (ds_if (dt_cmp (opr_in C) opd_in de_bl (de_var (pv 10)) (by with_unfolding_all rfl)) (dss_one ds_continue) dss_nil) (dss_one (ds_if (DW.dt (dw_or (dt_val (de_isiY rfl b_isinstance (I_Yard rfl rfl) V_Yard_str (da_cons (de_var (pv 9)) (da_cons (de_ty rfl b_str (by rfl)) da_nil)))) (dw_or1 (dt_not (dt_val (de_callL (x := "_law_new_right") G_p_law_new_right callOk_share C rfl m_p_law_new_right D_p_law_new_right.kp (kb40 D_p_law_new_right) (da_cons (de_var (pv 9)) (da_cons (de_var (pv 4)) (da_cons (de_var (pv 5)) (da_cons (de_var (pv 6)) (da_cons (de_var (pv 7)) da_nil))))) dkw_nil)))))) (dss_one (ds_ret de_bl)) dss_nil))))
  exact (dss_one (ds_ret de_bl))
end K03

/-! Plain laws, part 1: what mirrors come to. -/
namespace DL
open PySem L2

/-! ### calls -/
theorem subArgs_pure {S : Store} : ∀ (ds : List D) (n : Nat), pureL ds = true → subArgs S ds n = some (ds, [])
  | [], _, _ => rfl
  | d :: ds, n, h => by
    unfold pureL at h
    rw [Bool.and_eq_true] at h
    have q := subArgs_pure (S := S) ds n h.2
    cases d with
    | oid k => exact absurd h.1 (by unfold D.pure; exact Bool.false_ne_true)
    | _ =>
      unfold subArgs
      rw [if_pos h.1, q]
      rfl
theorem callSub_ok {sem : Sem'} {args : List D} {d : D} {S S' : Store} (hp : pureL args = true) (h : sem args [] = .ok d S') (hd : d.pure = true) : callSub sem args S = .ok d S := by
  unfold callSub
  rw [subArgs_pure args 0 hp]
  simp only [List.nodup_nil, if_true, subOf, List.map_nil, h, hd, List.length_nil, List.take_zero, List.all_nil, Nat.zero_le, decide_true, Bool.and_true, Bool.and_self]
  rw [show putBack S [] S' = S by unfold putBack; rfl]
/-! ### loops -/
theorem loopF_nil {m : FG} {b : FS} {ρ : EnvD} {S : Store} : loopF none m b [] ρ S = .nx ρ S := by
  unfold loopF
  rw [if_pos (show okC none _ from trivial)]
theorem loopF_cons {m : FG} {b : FS} {d : D} {ds : List D} {ρ ρ1 : EnvD} {S : Store} (hm : m d ρ S = some ρ1) : loopF none m b (d :: ds) ρ S = (match b ρ1 S with
    | .nx ρ S => loopF none m b ds ρ S
    | .ct ρ S => loopF none m b ds ρ S
    | .bk ρ S => .nx ρ S
    | o => o) := by
  rw [loopF]
  rw [if_pos (show okC none _ from trivial), hm]
  all_goals rfl
/-- a loop by its invariant -/
theorem loop_inv {m : FG} {b : FS} (I : Nat → EnvD → Store → Prop) : ∀ (ds : List D) (i : Nat) (ρ : EnvD) (S : Store), I i ρ S →
    (∀ j d ρ S, ds[j]? = some d → I (i + j) ρ S → ∃ ρ1 ρ2 S2, m d ρ S = some ρ1 ∧ (b ρ1 S = .nx ρ2 S2 ∨ b ρ1 S = .ct ρ2 S2) ∧ I (i + j + 1) ρ2 S2) → ∃ ρ' S', loopF none m b ds ρ S = .nx ρ' S' ∧ I (i + ds.length) ρ' S'
  | [], i, ρ, S, h0, _ => ⟨ρ, S, loopF_nil, h0⟩
  | d :: ds, i, ρ, S, h0, step => by
    obtain ⟨ρ1, ρ2, S2, h1, h2, h3⟩ := step 0 d ρ S rfl h0
    obtain ⟨ρ', S', q1, q2⟩ := loop_inv I ds (i + 1) ρ2 S2 h3 fun j e ρ S hj hI => by
      have := step (j + 1) e ρ S hj (by rw [show i + (j + 1) = i + 1 + j by omega]; exact hI)
      rw [show i + (j + 1) = i + 1 + j by omega] at this
      exact this
    refine ⟨ρ', S', ?_, by rw [List.length_cons, show i + (ds.length + 1) = i + 1 + ds.length by omega]; exact q2⟩
    rw [loopF_cons h1]
    rcases h2 with h2 | h2 <;> (rw [h2]; exact q1)
/-! ### comprehensions -/
theorem compF_nil {m : FG} {ft : FT} {fe : FE} {ρ : EnvD} {S : Store} : compF none m ft fe [] ρ S = .ok [] S := by
  unfold compF
  rw [if_pos (show okC none _ from trivial)]
theorem compF_cons {m : FG} {ft : FT} {fe : FE} {d : D} {ds : List D} {ρ ρ1 : EnvD} {S : Store} (hm : m d ρ S = some ρ1) :
    compF none m ft fe (d :: ds) ρ S = (ft ρ1 S).noEx.bind fun b S => if b then (fe ρ1 S).noEx.bind fun y S => (compF none m ft fe ds ρ S).bind fun ys S => .ok (y :: ys) S else compF none m ft fe ds ρ S := by
  rw [compF]
  rw [if_pos (show okC none _ from trivial), hm]
/-- no test, the store stays -/
theorem comp_map {m : FG} {fe : FE} {f : D → D} {ρ : EnvD} {S : Store} : ∀ (ds : List D), (∀ d ∈ ds, ∃ ρ1, m d ρ S = some ρ1 ∧ fe ρ1 S = .ok (f d) S) → compF none m fYes fe ds ρ S = .ok (ds.map f) S
  | [], _ => compF_nil
  | d :: ds, h => by
    obtain ⟨ρ1, h1, h2⟩ := h d List.mem_cons_self
    rw [compF_cons h1]
    have q := comp_map (m := m) (fe := fe) (f := f) (ρ := ρ) (S := S) ds fun e he => h e (List.mem_cons_of_mem _ he)
    simp only [fYes, Res.noEx_ok, Res.bind_ok, if_true, h2, q, List.map_cons]
theorem rng_length {lo hi : Int} : (rng lo hi).length = (hi - lo).toNat := by simp [rng]
theorem rng_get {lo hi : Int} {j : Nat} {d : D} (h : (rng lo hi)[j]? = some d) : d = .int (lo + j) ∧ j < (hi - lo).toNat := by
  unfold rng at h
  rw [List.getElem?_map] at h
  by_cases hj : j < (hi - lo).toNat
  · rw [List.getElem?_range hj] at h
    cases h
    exact ⟨rfl, hj⟩
  · rw [List.getElem?_eq_none (by simpa using hj)] at h
    cases h
end DL

/-! Plain laws, part 2: the mirrors' equations, for simp. -/
namespace DL
open PySem L2
section
variable (ρ : EnvD) (S : Store) (fa fb fc fe : FE) (ta tb : FT) (g g' : FS) (x y : D)
@[simp] theorem e_semOf (n : Nat) (ds : List D) : semOf n g ds S = (g (startD n ds) S).res := rfl
@[simp] theorem e_startD (n : Nat) (ds : List D) : startD n ds = ds.map some ++ List.replicate (n - ds.length) none := rfl
@[simp] theorem e_gSeq : gSeq g g' ρ S = (g ρ S).seq g' := rfl
@[simp] theorem e_gNil : gNil ρ S = .nx ρ S := rfl
@[simp] theorem e_gRet : gRet fe ρ S = (fe ρ S).into ρ fun d S => .rt d S := rfl
@[simp] theorem e_gIf : gIf ta g g' ρ S = (ta ρ S).into ρ fun k S => if k then g ρ S else g' ρ S := rfl
@[simp] theorem e_gSet (i : Nat) : gSet i fe ρ S = (fe ρ S).into ρ fun d S => .nx (ρ.set i (some d)) S := rfl
@[simp] theorem e_gExpr : gExpr fe ρ S = (fe ρ S).into ρ fun _ S => .nx ρ S := rfl
@[simp] theorem e_gAsg (m : FG) : gAsg m fe ρ S = (fe ρ S).into ρ fun d S => match m d ρ S with | some ρ => .nx ρ S | none => .stuck := rfl
@[simp] theorem e_gPut : gPut fa fb fe ρ S = (fe ρ S).into ρ fun d S => (fa ρ S).into ρ fun x S => (fb ρ S).into ρ fun y S => match storeAt x y d S with | some S => .nx ρ S | none => .stuck := rfl
@[simp] theorem e_gStar (i j : Nat) : gStar i j fe ρ S = (fe ρ S).into ρ fun d S => match asL S d with | some (x :: xs) => .nx ((ρ.set i (some x)).set j (some (.oid S.length))) (S ++ [.lst xs]) | _ => .stuck := rfl
@[simp] theorem e_gFor (fi : FI) (m : FG) : gFor fi m g ρ S = (fi ρ S).into ρ fun it S => loopF it.chk m g it.items ρ S := rfl
@[simp] theorem e_gFld (cs : List Str) (f : Str) : gFld cs f fa fe ρ S = (fe ρ S).into ρ fun d S => (fa ρ S).into ρ fun o S => match o with
  | .oid n => (match S[n]? with
    | some (.ins c fs) => if c ∈ cs ∧ fs.length < 1000 then .nx ρ (S.set n (.ins c (putFD f d fs))) else .stuck
    | _ => .stuck)
  | _ => .stuck := rfl
@[simp] theorem e_res_nx : (Out.nx ρ S).res = .ok .non S := rfl
@[simp] theorem e_res_rt : (Out.rt x S).res = .ok x S := rfl
@[simp] theorem e_res_ex (C fs) : (Out.ex C fs ρ S).res = .ex C fs S := rfl
@[simp] theorem e_fVar (i : Nat) : fVar i ρ S = match ρ[i]? with | some (some d) => .ok d S | _ => .stuck := rfl
@[simp] theorem e_fC : fC x ρ S = .ok x S := rfl
@[simp] theorem e_fAndV : fAndV fa fb ρ S = (fa ρ S).bind fun d S => match d with | .bl true => fb ρ S | .bl false => .ok (.bl false) S | _ => .stuck := rfl
@[simp] theorem e_fOrV : fOrV fa fb ρ S = (fa ρ S).bind fun d S => match d with | .bl true => .ok (.bl true) S | .bl false => fb ρ S | _ => .stuck := rfl
@[simp] theorem e_fNotV : fNotV fa ρ S = (fa ρ S).bind fun d S => match d with | .bl k => .ok (.bl (!k)) S | _ => .stuck := rfl
@[simp] theorem e_fAndT : fAndT ta tb ρ S = (ta ρ S).bind fun k S => if k then tb ρ S else .ok false S := rfl
@[simp] theorem e_fOrT : fOrT ta tb ρ S = (ta ρ S).bind fun k S => if k then .ok true S else tb ρ S := rfl
@[simp] theorem e_fNotT : fNotT ta ρ S = (ta ρ S).bind fun k S => .ok (!k) S := rfl
@[simp] theorem e_toB : toB fa ρ S = (fa ρ S).bind fun d S => match d with | .bl k => .ok k S | _ => .stuck := rfl
@[simp] theorem e_fIf : fIf ta fa fb ρ S = (ta ρ S).bind fun k S => if k then fa ρ S else fb ρ S := rfl
@[simp] theorem e_fCons (fr : FA) : fCons fa fr ρ S = (fa ρ S).bind fun x S => (fr ρ S).bind fun xs S => .ok (x :: xs) S := rfl
@[simp] theorem e_fTup (fr : FA) : fTup fr ρ S = (fr ρ S).bind fun xs S => if short xs.length then .ok (.tup xs) S else .stuck := rfl
@[simp] theorem e_fLst (fr : FA) : fLst fr ρ S = (fr ρ S).bind fun xs S => if short xs.length then .ok (.lst xs) S else .stuck := rfl
@[simp] theorem e_fLstO (fr : FA) : fLstO fr ρ S = (fr ρ S).bind fun xs S => if short xs.length then .ok (.oid S.length) (S ++ [.lst xs]) else .stuck := rfl
@[simp] theorem e_fDict0 : fDict0 ρ S = .ok (.oid S.length) (S ++ [.dic []]) := rfl
@[simp] theorem e_fBin (h : G2) : fBin h fa fb ρ S = (fa ρ S).bind fun x S => (fb ρ S).bind fun y S => h x y S := rfl
@[simp] theorem e_fUn (h : D → Store → Res D) : fUn h fa ρ S = (fa ρ S).bind h := rfl
@[simp] theorem e_fChain (h h' : G2) : fChain h h' fa fb fc ρ S = (fa ρ S).bind fun x S => (fb ρ S).bind fun y S => (h x y S).bind fun z S => match z with
  | .bl true => (fc ρ S).bind fun u S => h' y u S
  | .bl false => .ok (.bl false) S
  | _ => .stuck := rfl
@[simp] theorem e_fCB (h : GC) (fr : FA) : fCB h fr ρ S = (fr ρ S).bind h := rfl
@[simp] theorem e_fBM (T : String) (h : GM) (fr : FA) : fBM T h fa fr ρ S = (fa ρ S).bind fun x S => if tyS S x = some T ∧ T ≠ "tuple" then (fr ρ S).bind fun ds S => h x ds S else .stuck := rfl
@[simp] theorem e_fCall (cs : Sem') (gD : List D → List D → List D) (np nk n : Nat) (fr fk : FA) : fCall cs gD np nk n fr fk ρ S = (fr ρ S).bind fun ds S => (fk ρ S).bind fun es S => if ds.length = np ∧ es.length = nk ∧ (gD ds es).length = n then cs (gD ds es) S else .stuck := rfl
@[simp] theorem e_fMeth (cs : Sem') (gD : List D → List D → List D) (c m : Str) (np nk n : Nat) (fr fk : FA) : fMeth cs gD c m np nk n fa fr fk ρ S = (fa ρ S).bind fun o S => match asI S o with
  | some (c', fs) => if c' = c ∧ (fs.lookup m).isNone then (fr ρ S).bind fun ds S => (fk ρ S).bind fun es S => if (o :: ds).length = np ∧ es.length = nk ∧ (gD (o :: ds) es).length = n then cs (gD (o :: ds) es) S else .stuck else .stuck
  | none => .stuck := rfl
@[simp] theorem e_fFld (cs : List Str) (f : Str) : fFld cs f fa ρ S = (fa ρ S).bind fun o S => match asI S o with
  | some (c, fs) => if c ∈ cs then (match fs.lookup f with | some d => .ok d S | none => .stuck) else .stuck
  | none => .stuck := rfl
@[simp] theorem e_fMake (mk : MakeT) (np nk : Nat) (fr fk : FA) : fMake mk np nk fr fk ρ S = (fr ρ S).bind fun ds S => (fk ρ S).bind fun es S => if ds.length = np ∧ es.length = nk then mk ds es S else .stuck := rfl
@[simp] theorem e_fSeq_tup (ds : List D) (h : fa ρ S = .ok (.tup ds) S) : fSeq fa ρ S = .ok ⟨ds, none⟩ S := by unfold fSeq; rw [h]; rfl
@[simp] theorem e_fSeq_lst (ds : List D) (h : fa ρ S = .ok (.lst ds) S) : fSeq fa ρ S = .ok ⟨ds, none⟩ S := by unfold fSeq; rw [h]; rfl
@[simp] theorem e_pick (sel : List (Nat × Nat)) (us ws ms : List D) : pick sel us ws ms = sel.filterMap fun s => (src s.1 us ws ms)[s.2]? := rfl
@[simp] theorem e_src0 {α : Type} (us ws ms : List α) : src 0 us ws ms = us := rfl
@[simp] theorem e_src1 {α : Type} (us ws ms : List α) : src 1 us ws ms = ws := rfl
@[simp] theorem e_src2 {α : Type} (us ws ms : List α) : src 2 us ws ms = ms := rfl
@[simp] theorem e_mName (i : Nat) : mName i x ρ S = some (ρ.set i (some x)) := rfl
@[simp] theorem e_mTup (n : Nat) (ms : List D → EnvD → Store → Option EnvD) (ds : List D) : mTup n ms (.tup ds) ρ S = if ds.length = n then ms ds ρ S else none := rfl
@[simp] theorem e_mCons (m : FG) (ms : List D → EnvD → Store → Option EnvD) (d : D) (ds : List D) : mCons m ms (d :: ds) ρ S = (m d ρ S).bind fun ρ => ms ds ρ S := rfl
@[simp] theorem e_isi1 (n : String) : gIsi [x, .ty n] S = gIsi1 [x, .ty n] S := rfl
@[simp] theorem e_isiN (cs : List D) : gIsi [x, .tup cs] S = gIsiN [x, .tup cs] S := rfl
@[simp] theorem e_gIsi1 (n : String) : gIsi1 [x, .ty n] S = match (tyS S x).bind fun T => isiT T n with | some b => .ok (.bl b) S | none => .stuck := rfl
@[simp] theorem e_gIsiN (cs : List D) : gIsiN [x, .tup cs] S = match (tyS S x).bind fun T => (tysOf cs).bind fun ns => isiA T ns with | some b => .ok (.bl b) S | none => .stuck := rfl
@[simp] theorem e_ty_non : tyS S .non = some "NoneType" := rfl
@[simp] theorem e_ty_bl (b) : tyS S (.bl b) = some "bool" := rfl
@[simp] theorem e_ty_int (b) : tyS S (.int b) = some "int" := rfl
@[simp] theorem e_ty_str (b) : tyS S (.str b) = some "str" := rfl
@[simp] theorem e_ty_tup (b) : tyS S (.tup b) = some "tuple" := rfl
@[simp] theorem e_ty_lst (b) : tyS S (.lst b) = some "list" := rfl
variable (i j : Int) (a b : Bool) (xs ys : List D) (p q : Str)
@[simp] theorem e_gNeg : gNeg (.int i) S = .ok (.int (-i)) S := rfl
@[simp] theorem e_gSub : gSub (.int i) (.int j) S = .ok (.int (i - j)) S := rfl
@[simp] theorem e_gAdd : gAdd (.int i) (.int j) S = .ok (.int (i + j)) S := rfl
@[simp] theorem e_gMul (h : cMul i j = true) : gMul (.int i) (.int j) S = .ok (.int (i * j)) S := by simp [gMul, gI, h]
@[simp] theorem e_gMod (h : 0 < j) : gMod (.int i) (.int j) S = .ok (.int (i % j)) S := by simp [gMod, gI, h]
@[simp] theorem e_gDiv (h : 0 < j) (h2 : j < 1073741824) : gDiv (.int i) (.int j) S = .ok (.int (i / j)) S := by simp [gDiv, gI, cDiv, h, h2]
@[simp] theorem e_gLt : gLt (.int i) (.int j) S = .ok (.bl (decide (i < j))) S := rfl
@[simp] theorem e_gLe : gLe (.int i) (.int j) S = .ok (.bl (decide (i ≤ j))) S := rfl
@[simp] theorem e_gGt : gGt (.int i) (.int j) S = .ok (.bl (decide (j < i))) S := rfl
@[simp] theorem e_gGe : gGe (.int i) (.int j) S = .ok (.bl (decide (j ≤ i))) S := rfl
@[simp] theorem e_gIs : gIs x .non S = .ok (.bl x.isNon) S := rfl
@[simp] theorem e_gIsNot : gIsNot x .non S = .ok (.bl (!x.isNon)) S := rfl
@[simp] theorem e_nn : D.non.isNon = true := rfl
@[simp] theorem e_ni : (D.int i).isNon = false := rfl
@[simp] theorem e_ns : (D.str p).isNon = false := rfl
@[simp] theorem e_nt : (D.tup xs).isNon = false := rfl
@[simp] theorem e_nb : (D.bl a).isNon = false := rfl
@[simp] theorem e_nl : (D.lst xs).isNon = false := rfl
@[simp] theorem e_eq_ss : gEq (.str p) (.str q) S = .ok (.bl (decide (p = q))) S := rfl
@[simp] theorem e_eq_ii : gEq (.int i) (.int j) S = .ok (.bl (decide (i = j))) S := rfl
@[simp] theorem e_ne_ss : gNe (.str p) (.str q) S = .ok (.bl (!decide (p = q))) S := rfl
@[simp] theorem e_ne_ii : gNe (.int i) (.int j) S = .ok (.bl (!decide (i = j))) S := rfl
@[simp] theorem e_len_t : gLen [.tup xs] S = .ok (.int xs.length) S := rfl
@[simp] theorem e_len_l : gLen [.lst xs] S = .ok (.int xs.length) S := rfl
@[simp] theorem e_len_s : gLen [.scr xs] S = .ok (.int xs.length) S := rfl
@[simp] theorem e_ix_t : gIx (.tup xs) (.int i) S = match atI xs i with | some d => .ok d S | none => .stuck := rfl
@[simp] theorem e_ix_l : gIx (.lst xs) (.int i) S = match atI xs i with | some d => .ok d S | none => .stuck := rfl
@[simp] theorem e_ix_s : gIx (.scr xs) (.int i) S = match atI xs i with | some d => .ok d S | none => .stuck := rfl
@[simp] theorem e_asL_l : asL S (.lst xs) = some xs := rfl
@[simp] theorem e_asL_s : asL S (.scr xs) = some xs := rfl
@[simp] theorem e_asQ_t : asQ S (.tup xs) = some xs := rfl
@[simp] theorem e_asQ_l : asQ S (.lst xs) = some xs := rfl
@[simp] theorem e_list_l : gList [.lst xs] S = .ok (.lst xs) S := rfl
@[simp] theorem e_list_t : gList [.tup xs] S = .ok (.lst xs) S := rfl
@[simp] theorem e_list_d (ks : List (Key × D)) : gList [.dic ks] S = .ok (.lst (ks.map fun q => keyV q.1)) S := rfl
@[simp] theorem e_tuple_l : gTuple [.lst xs] S = .ok (.tup xs) S := rfl
@[simp] theorem e_lenum_t : gLEnum [.tup xs] S = .ok (.lst (enumD 0 xs)) S := rfl
@[simp] theorem e_lenum_l : gLEnum [.lst xs] S = .ok (.lst (enumD 0 xs)) S := rfl
@[simp] theorem e_max2 : gMax [.int i, .int j] S = .ok (.int (if j > i then j else i)) S := rfl
@[simp] theorem e_min2 : gMin [.int i, .int j] S = .ok (.int (if j < i then j else i)) S := rfl
@[simp] theorem e_abs : gAbs [.int i] S = .ok (.int (if i < 0 then -i else i)) S := rfl
theorem at_nat {α : Type} (zs : List α) (n : Nat) (h : n < zs.length) : atI zs (n : Int) = zs[n]? := by
  have h2 : (n : Int) < zs.length := by omega
  simp [atI, ixN, h2]
@[simp] theorem e_at_c0 {α : Type} (z : α) (zs : List α) : atI (z :: zs) 0 = some z := by
  have := at_nat (z :: zs) 0 (by simp)
  exact this
@[simp] theorem e_at_c1 {α : Type} (z y : α) (zs : List α) : atI (z :: y :: zs) 1 = some y := by
  have := at_nat (z :: y :: zs) 1 (by simp)
  exact this
@[simp] theorem e_fComp (fi : FI) (m : FG) (own : List Nat) (fin : Fin') : fComp fi m ta fe own fin ρ S = (fi ρ S).bind fun it S => (compF it.chk m ta fe it.items (wipeD ρ own) S).bind fin := rfl
@[simp] theorem e_wipe0 : wipeD ρ [] = ρ := rfl
@[simp] theorem e_wipe1 (v : Nat) (vs : List Nat) : wipeD ρ (v :: vs) = (wipeD ρ vs).set v none := rfl
@[simp] theorem e_finL : finL xs S = if short xs.length then .ok (.lst xs) S else .stuck := rfl
@[simp] theorem e_fRng1 (fr : FA) : fRng1 fr ρ S = (fr ρ S).bind fun ds S => match ds with
  | [.int j] => if cRng j then .ok ⟨rng 0 j, none⟩ S else .stuck
  | _ => .stuck := rfl
theorem e_all_true {α : Type} (l : List α) : gAllAny true [.lst (l.map fun _ => D.bl true)] S = .ok (.bl true) S := by
  have h : bsOf (l.map fun _ => D.bl true) = some (l.map fun _ => true) := by
    induction l with
    | nil => rfl
    | cons z l ih => simp [bsOf, ih]
  simp [gAllAny, h]
@[simp] theorem e_all_true2 {α β : Type} (l : List α) (f : α → β) : gAllAny true [.lst (l.map ((fun _ => D.bl true) ∘ f))] S = .ok (.bl true) S := e_all_true S l
@[simp] theorem e_in_tup : gNotIn x (.tup ys) S = gInQ true x (.tup ys) S := rfl
@[simp] theorem e_in_tup2 : gIn x (.tup ys) S = gInQ false x (.tup ys) S := rfl
@[simp] theorem e_in_lst : gNotIn x (.lst ys) S = gInQ true x (.lst ys) S := rfl
@[simp] theorem e_in_lst2 : gIn x (.lst ys) S = gInQ false x (.lst ys) S := rfl
theorem short_le {n : Nat} (h : n ≤ 1000000) : short n = true := by
  have : (1000000 : Nat) ≤ sizeLine := by decide
  exact decide_eq_true (Nat.le_trans h this)
@[simp] theorem short0 : short 0 = true := short_le (by decide)
@[simp] theorem short1 : short 1 = true := short_le (by decide)
@[simp] theorem short2 : short 2 = true := short_le (by decide)
@[simp] theorem short3 : short 3 = true := short_le (by decide)
@[simp] theorem short4 : short 4 = true := short_le (by decide)
@[simp] theorem short8 : short 8 = true := short_le (by decide)
@[simp] theorem short7 : short 7 = true := short_le (by decide)
end
end DL

/-! Plain laws, part 3: plain data shown and compared. -/
namespace DL
open PySem L2

/-! ### data that can be shown -/
mutual
def D.sim : D → Bool
  | .non => true
  | .bl _ => true
  | .int i => decide (-1000000000000 < i ∧ i < 1000000000000)
  | .str x => PyData.strOk x
  | .tup ds => simL ds
  | .lst ds => simL ds
  | _ => false
def simL : List D → Bool
  | [] => true
  | d :: ds => d.sim && simL ds
end
mutual
def D.dep : D → Nat
  | .tup ds => depL ds + 1
  | .lst ds => depL ds + 1
  | _ => 0
def depL : List D → Nat
  | [] => 0
  | d :: ds => max d.dep (depL ds)
end
mutual
def D.wt : D → Nat
  | .int _ => 64
  | .str x => x.cps.size
  | .tup ds => wtL ds
  | .lst ds => wtL ds
  | _ => 0
def wtL : List D → Nat
  | [] => 0
  | d :: ds => d.wt + 1 + wtL ds
end
mutual
def D.py : D → PyData
  | .non => .none
  | .bl b => .bool b
  | .int i => .int i
  | .str x => .str x
  | .tup ds => .tuple (pyL ds)
  | .lst ds => .list (pyL ds)
  | _ => .none
def pyL : List D → List PyData
  | [] => []
  | d :: ds => d.py :: pyL ds
end
structure Sh (d : D) (p : PyData) : Prop where
  py : toPy d = some p
  lay : p.canLay0 = true
  dep : p.depth = d.dep
  wt : p.weight ≤ d.wt
  sh : p.intsShort 13 = true
  shw : p.showable = true
  hd : p.hasDict = false
structure ShL (d : List D) (p : List PyData) : Prop where
  py : toPyL d = some p
  lay : PyData.canLayAll0 p = true
  dep : PyData.depthAll p = depL d
  wt : PyData.weightAll p ≤ wtL d
  sh : PyData.intsShortAll 13 p = true
  shw : PyData.showableAll p = true
  hd : PyData.hasDictAll p = false
theorem int_short {i : Int} (h1 : -1000000000000 < i) (h2 : i < 1000000000000) : (PyData.shown (.int i)).length ≤ 13 := by
  simp only [PyData.shown]
  by_cases h : 0 ≤ i
  · have q := PyProof.Rows.toString_length_le (v := i) h (k := 12) (by decide) (by show i < 10 ^ 12; omega)
    omega
  · have hn : i < 0 := by omega
    have q := PyProof.Rows.toString_length_le (v := 0 - i) (by omega) (k := 12) (by decide) (by show 0 - i < 10 ^ 12; omega)
    rw [PyProof.Rows.toString_neg hn, PyProof.Rows.ofString_len, String.length_append]
    rw [PyProof.Rows.ofString_len] at q
    have e : ("-" : String).length = 1 := rfl
    omega
theorem log_small {n : Nat} (h : n < 1000000000000) : n.log2 < 63 := by
  by_cases h0 : n = 0
  · subst h0; decide
  · have := Nat.log2_self_le h0
    exact Nat.lt_of_not_le fun q => by
      have : 2 ^ 63 ≤ 2 ^ n.log2 := Nat.pow_le_pow_right (by decide) q
      have e : (2 : Nat) ^ 63 = 9223372036854775808 := by decide
      omega
mutual
theorem D.sh : ∀ d : D, d.sim = true → Sh d d.py
  | .non, _ => ⟨rfl, by simp [D.py, PyData.canLay0], by simp [D.py, PyData.depth, D.dep], by simp [D.py, PyData.weight], by simp [D.py, PyData.intsShort], by simp [D.py, PyData.showable], by simp [D.py, PyData.hasDict]⟩
  | .bl _, _ => ⟨rfl, by simp [D.py, PyData.canLay0], by simp [D.py, PyData.depth, D.dep], by simp [D.py, PyData.weight], by simp [D.py, PyData.intsShort], by simp [D.py, PyData.showable], by simp [D.py, PyData.hasDict]⟩
  | .int i, h => by
    have h' : -1000000000000 < i ∧ i < 1000000000000 := by simpa [D.sim] using h
    have lg := log_small (n := i.natAbs) (by omega)
    refine ⟨rfl, by simp [D.py, PyData.canLay0], by simp [D.py, PyData.depth, D.dep], ?_, ?_, ?_, by simp [D.py, PyData.hasDict]⟩
    · simp only [D.py, PyData.weight, D.wt]
      split <;> omega
    · simp only [D.py, PyData.intsShort]
      exact decide_eq_true (int_short h'.1 h'.2)
    · simp only [D.py, PyData.showable]
      exact decide_eq_true (by omega)
  | .str x, h => by
    have h' : PyData.strOk x = true := by simpa [D.sim] using h
    exact ⟨rfl, by simpa [D.py, PyData.canLay0] using h', by simp [D.py, PyData.depth, D.dep], by simp [D.py, PyData.weight, D.wt], by simp [D.py, PyData.intsShort], by simp [D.py, PyData.showable], by simp [D.py, PyData.hasDict]⟩
  | .tup ds, h => by
    have q := simL_sh ds (by simpa [D.sim] using h)
    exact ⟨by simp [toPy, q.py, D.py], by simpa [D.py, PyData.canLay0] using q.lay, by simp [D.py, PyData.depth, D.dep, q.dep], by simpa [D.py, PyData.weight, D.wt] using q.wt, by simpa [D.py, PyData.intsShort] using q.sh, by simpa [D.py, PyData.showable] using q.shw, by simpa [D.py, PyData.hasDict] using q.hd⟩
  | .lst ds, h => by
    have q := simL_sh ds (by simpa [D.sim] using h)
    exact ⟨by simp [toPy, q.py, D.py], by simpa [D.py, PyData.canLay0] using q.lay, by simp [D.py, PyData.depth, D.dep, q.dep], by simpa [D.py, PyData.weight, D.wt] using q.wt, by simpa [D.py, PyData.intsShort] using q.sh, by simpa [D.py, PyData.showable] using q.shw, by simpa [D.py, PyData.hasDict] using q.hd⟩
  | .ty _, h => by simp [D.sim] at h
  | .cls _, h => by simp [D.sim] at h
  | .scr _, h => by simp [D.sim] at h
  | .dic _, h => by simp [D.sim] at h
  | .ins _ _, h => by simp [D.sim] at h
  | .oid _, h => by simp [D.sim] at h
  | .exc _ _, h => by simp [D.sim] at h
theorem simL_sh : ∀ ds : List D, simL ds = true → ShL ds (pyL ds)
  | [], _ => ⟨rfl, by simp [pyL, PyData.canLayAll0], by simp [pyL, PyData.depthAll, depL], by simp [pyL, PyData.weightAll], by simp [pyL, PyData.intsShortAll], by simp [pyL, PyData.showableAll], by simp [pyL, PyData.hasDictAll]⟩
  | d :: ds, h => by
    have h' : d.sim = true ∧ simL ds = true := by simpa [simL] using h
    have a := D.sh d h'.1
    have b := simL_sh ds h'.2
    have bw := b.wt
    have aw := a.wt
    exact ⟨by simp [toPyL, a.py, b.py, pyL], by simp [pyL, PyData.canLayAll0, a.lay, b.lay], by simp [pyL, PyData.depthAll, depL, a.dep, b.dep], by simp only [pyL, PyData.weightAll, wtL]; omega, by simp [pyL, PyData.intsShortAll, a.sh, b.sh], by simp [pyL, PyData.showableAll, a.shw, b.shw], by simp [pyL, PyData.hasDictAll, a.hd, b.hd]⟩
end
theorem toPy_pyOf {d : D} {p : PyData} (S : Store) (h : toPy d = some p) : pyOf S d = some p := by
  cases d <;> first
    | exact h
    | (simp [toPy] at h)
theorem pyOf_sim {d : D} (S : Store) (h : d.sim = true) : pyOf S d = some d.py := toPy_pyOf S (D.sh d h).py
/-! ### data that is equal -/
mutual
theorem eqv_refl : ∀ p : PyData, p.hasDict = false → p.eqv p = true
  | .none, _ => by simp [PyData.eqv]
  | .bool _, _ => by simp [PyData.eqv]
  | .int _, _ => by simp [PyData.eqv]
  | .str _, _ => by simp [PyData.eqv]
  | .list xs, h => by
    simp only [PyData.eqv]
    exact eqvAll_refl xs (by simpa [PyData.hasDict] using h)
  | .tuple xs, h => by
    simp only [PyData.eqv]
    exact eqvAll_refl xs (by simpa [PyData.hasDict] using h)
  | .dict _, h => by simp [PyData.hasDict] at h
theorem eqvAll_refl : ∀ p : List PyData, PyData.hasDictAll p = false → PyData.eqvAll p p = true
  | [], _ => by simp [PyData.eqvAll]
  | x :: xs, h => by
    have h' : x.hasDict = false ∧ PyData.hasDictAll xs = false := by simpa [PyData.hasDictAll] using h
    simp only [PyData.eqvAll, eqv_refl x h'.1, eqvAll_refl xs h'.2]
    rfl
end
mutual
/-- no truths in it -/
def D.nb : D → Bool
  | .bl _ => false
  | .tup ds => nbL ds
  | .lst ds => nbL ds
  | _ => true
def nbL : List D → Bool
  | [] => true
  | d :: ds => d.nb && nbL ds
end
mutual
theorem eqv_eq : ∀ d e : D, d.sim = true → e.sim = true → d.nb = true → e.nb = true → d.py.eqv e.py = true → d = e
  | .non, e, _, h, _, n, q => by cases e <;> simp_all [D.sim, D.nb, D.py, PyData.eqv]
  | .int i, e, _, h, _, n, q => by cases e <;> simp_all [D.sim, D.nb, D.py, PyData.eqv]
  | .str i, e, _, h, _, n, q => by cases e <;> simp_all [D.sim, D.nb, D.py, PyData.eqv]
  | .tup ds, e, hd, h, hn, n, q => by
    cases e with
    | tup es =>
      simp only [D.sim, D.nb, D.py, PyData.eqv] at hd h hn n q
      rw [eqvL_eq ds es hd h hn n q]
    | _ => simp_all [D.sim, D.nb, D.py, PyData.eqv]
  | .lst ds, e, hd, h, hn, n, q => by
    cases e with
    | lst es =>
      simp only [D.sim, D.nb, D.py, PyData.eqv] at hd h hn n q
      rw [eqvL_eq ds es hd h hn n q]
    | _ => simp_all [D.sim, D.nb, D.py, PyData.eqv]
  | .bl _, _, _, _, h, _, _ => by simp [D.nb] at h
  | .ty _, _, h, _, _, _, _ => by simp [D.sim] at h
  | .cls _, _, h, _, _, _, _ => by simp [D.sim] at h
  | .scr _, _, h, _, _, _, _ => by simp [D.sim] at h
  | .dic _, _, h, _, _, _, _ => by simp [D.sim] at h
  | .ins _ _, _, h, _, _, _, _ => by simp [D.sim] at h
  | .exc _ _, _, h, _, _, _, _ => by simp [D.sim] at h
  | .oid _, _, h, _, _, _, _ => by simp [D.sim] at h
theorem eqvL_eq : ∀ ds es : List D, simL ds = true → simL es = true → nbL ds = true → nbL es = true → PyData.eqvAll (pyL ds) (pyL es) = true → ds = es
  | [], [], _, _, _, _, _ => rfl
  | [], _ :: _, _, _, _, _, q => by simp [pyL, PyData.eqvAll] at q
  | _ :: _, [], _, _, _, _, q => by simp [pyL, PyData.eqvAll] at q
  | d :: ds, e :: es, hd, h, hn, n, q => by
    simp only [simL, nbL, pyL, PyData.eqvAll, Bool.and_eq_true] at hd h hn n q
    rw [eqv_eq d e hd.1 h.1 hn.1 n.1 q.1, eqvL_eq ds es hd.2 h.2 hn.2 n.2 q.2]
end
theorem shaped_D {d : D} (h : d.sim = true) (hd : d.dep ≤ 60) : SeqAt.shaped d.py = true := by
  have q := D.sh d h
  have := q.dep
  unfold SeqAt.shaped
  rw [q.lay]
  simp
  omega
theorem scal_D {d e : D} (h : scalD d e = true) : eqS d e = d.py.eqv e.py := by
  cases d <;> cases e <;> simp_all [scalD, eqS, D.py, PyData.eqv] <;> rfl
theorem eq_D {d e : D} (h1 : d.sim = true) (h2 : e.sim = true) (d1 : d.dep ≤ 60) (d2 : e.dep ≤ 60) (S : Store) : gEq d e S = .ok (.bl (d.py.eqv e.py)) S := by
  unfold gEq
  by_cases h : scalD d e = true
  · rw [if_pos (show pScal d e S = true from h)]
    simp only [gEqS, h, if_true, scal_D h, Bool.false_eq_true, if_false]
  · rw [if_neg (show ¬ pScal d e S = true from h)]
    simp only [gEqD, pyOf_sim S h1, pyOf_sim S h2, shaped_D h1 d1, shaped_D h2 d2]
    rfl
theorem ne_D {d e : D} (h1 : d.sim = true) (h2 : e.sim = true) (d1 : d.dep ≤ 60) (d2 : e.dep ≤ 60) (S : Store) : gNe d e S = .ok (.bl (!d.py.eqv e.py)) S := by
  unfold gNe
  by_cases h : scalD d e = true
  · rw [if_pos (show pScal d e S = true from h)]
    simp only [gEqS, h, if_true, scal_D h]
  · rw [if_neg (show ¬ pScal d e S = true from h)]
    simp only [gEqD, pyOf_sim S h1, pyOf_sim S h2, shaped_D h1 d1, shaped_D h2 d2]
    rfl
theorem eq_self {d : D} (h1 : d.sim = true) (d1 : d.dep ≤ 60) (S : Store) : gEq d d S = .ok (.bl true) S := by rw [eq_D h1 h1 d1 d1, eqv_refl _ (D.sh d h1).hd]
theorem ne_self {d : D} (h1 : d.sim = true) (d1 : d.dep ≤ 60) (S : Store) : gNe d d S = .ok (.bl false) S := by rw [ne_D h1 h1 d1 d1, eqv_refl _ (D.sh d h1).hd]; rfl
def seqD : D → Store → Res ItD := fun d S => match d with
  | .tup ds => .ok ⟨ds, none⟩ S
  | .lst ds => .ok ⟨ds, none⟩ S
  | .scr ds => .ok ⟨ds, none⟩ S
  | d => match asL S d with
    | some ds => .ok ⟨ds, some (d, ds)⟩ S
    | none => .stuck
@[simp] theorem e_fSeq (fe : FE) (ρ : EnvD) (S : Store) : fSeq fe ρ S = (fe ρ S).bind seqD := rfl
@[simp] theorem e_seqD_t (ds : List D) (S : Store) : seqD (.tup ds) S = .ok ⟨ds, none⟩ S := rfl
@[simp] theorem e_seqD_l (ds : List D) (S : Store) : seqD (.lst ds) S = .ok ⟨ds, none⟩ S := rfl
@[simp] theorem e_seqD_s (ds : List D) (S : Store) : seqD (.scr ds) S = .ok ⟨ds, none⟩ S := rfl
def enumC : List D → Store → Res ItD := fun ds S => match ds with
  | [.lst ds] => .ok ⟨enumD 0 ds, none⟩ S
  | [d] => match asL S d with
    | some ds => .ok ⟨enumD 0 ds, some (d, ds)⟩ S
    | none => .stuck
  | _ => .stuck
@[simp] theorem e_fEnum (fr : FA) (ρ : EnvD) (S : Store) : fEnum fr ρ S = (fr ρ S).bind enumC := rfl
@[simp] theorem e_enumC_l (ds : List D) (S : Store) : enumC [.lst ds] S = .ok ⟨enumD 0 ds, none⟩ S := rfl
@[simp] theorem e_gAug (i : Nat) (fe : FE) (g : G2) (ρ : EnvD) (S : Store) : gAug i fe g ρ S = match ρ[i]? with
  | some (some x) => (fe ρ S).into ρ fun y S => (g x y S).into ρ fun z S => .nx (ρ.set i (some z)) S
  | _ => .stuck := rfl
@[simp] theorem e_gIp (f : Int → Int → Int) (i j : Int) (S : Store) : gIp f (.int i) (.int j) S = .ok (.int (f i j)) S := rfl
theorem whileF_go {c : FT} {body : FS} {n : Nat} {ρ ρ1 : EnvD} {S S1 S' : Store} (hc : c ρ S = .ok true S') (hb : body ρ S' = .nx ρ1 S1) : whileF c body (n + 1) ρ S = whileF c body n ρ1 S1 := by
  rw [whileF, hc]
  simp [hb]
theorem whileF_end {c : FT} {body : FS} {n : Nat} {ρ : EnvD} {S S' : Store} (hc : c ρ S = .ok false S') : whileF c body (n + 1) ρ S = .nx ρ S' := by
  rw [whileF, hc]
  simp
theorem e_addl (xs ys : List D) (S : Store) (h : short (xs.length + ys.length) = true) : gAdd (.lst xs) (.lst ys) S = .ok (.lst (xs ++ ys)) S := by
  simp [gAdd, isI, isS, isT, gAddL, asLt, h]
theorem simL_all {ds : List D} : simL ds = true ↔ ∀ d ∈ ds, d.sim = true := by
  induction ds with
  | nil => simp [simL]
  | cons d ds ih => simp [simL, ih]
theorem depL_le {n : Nat} {ds : List D} : depL ds ≤ n ↔ ∀ d ∈ ds, d.dep ≤ n := by
  induction ds with
  | nil => simp [depL]
  | cons d ds ih => simp [depL, ← ih, Nat.max_le]
end DL

namespace K03
open PySem L2 DL
abbrev fNo : FA := fun _ S => .ok [] S
theorem cMul_l {i j : Int} (h1 : -18446744073709551616 < i) (h2 : i < 18446744073709551616) : cMul i j = true := @decide_eq_true _ (Classical.propDecidable _) (.inl ⟨h1, h2⟩)
theorem cMul_r {i j : Int} (h1 : -18446744073709551616 < j) (h2 : j < 18446744073709551616) : cMul i j = true := @decide_eq_true _ (Classical.propDecidable _) (.inr ⟨h1, h2⟩)
theorem cRng_nat {n : Nat} (h : n < 1000000) : cRng (n : Int) = true := by
  unfold cRng
  exact @decide_eq_true _ (Classical.propDecidable _) ⟨by omega, by omega⟩
theorem toPyL_ints (l : List Int) : toPyL (l.map D.int) = some (l.map PyData.int) := by
  induction l with
  | nil => rfl
  | cons n l ih => simp [toPyL, toPy, ih]
theorem lay_alli (l : List Int) : PyData.canLayAll0 (l.map PyData.int) = true ∧ PyData.depthAll (l.map PyData.int) = 0 := by
  induction l with
  | nil => exact ⟨rfl, rfl⟩
  | cons n l ih =>
    simp only [List.map_cons, PyData.canLayAll0, PyData.canLay0, PyData.depthAll, PyData.depth, ih.1, ih.2]
    exact ⟨rfl, rfl⟩
theorem ne_scr (ns : List Int) (S : Store) : gNe (.scr (ns.map D.int)) (.lst []) S = .ok (.bl (!ns.isEmpty)) S := by
  have e1 : pyOf S (.scr (ns.map D.int)) = some (.list (ns.map PyData.int)) := by simp [pyOf, toPy, toPyL_ints]
  have e2 : pyOf S (.lst []) = some (.list []) := by simp [pyOf, toPy, toPyL]
  have e3 : SeqAt.shaped (.list []) = true := by simp [SeqAt.shaped, PyData.canLay0, PyData.canLayAll0, PyData.depth, PyData.depthAll]
  have e5 : SeqAt.shaped (.list (ns.map PyData.int)) = true := by simp [SeqAt.shaped, PyData.canLay0, lay_alli, PyData.depth]
  have e4 : PyData.eqv (.list (ns.map PyData.int)) (.list []) = ns.isEmpty := by
    cases ns <;> simp [PyData.eqv, PyData.eqvAll]
  show (if pScal (.scr (ns.map D.int)) (.lst []) S then _ else gEqD true (.scr (ns.map D.int)) (.lst []) S) = _
  rw [if_neg (by simp [pScal, scalD])]
  simp [gEqD, e1, e2, e3, e5, e4]
theorem pw {a n : Int} {r : Int} (h : 0 ≤ n ∧ n ≤ 1000000 ∧ a.natAbs < 18446744073709551616) (e : a ^ n.toNat = r) (S : Store) : gPow (.int a) (.int n) S = .ok (.int r) S := by
  have h : cPow a n = true := @decide_eq_true _ (Classical.propDecidable _) h
  simp [gPow, gI, h, e]
theorem p109 (S : Store) : gPow (.int 10) (.int 9) S = .ok (.int 1000000000) S := pw (by decide) (by decide) S
theorem p1018 (S : Store) : gPow (.int 10) (.int 18) S = .ok (.int 1000000000000000000) S := pw (by decide) (by decide) S
/-! ### the state of a cell of the script -/
noncomputable def sbody : FS := (gSeq (gSet 6 (fBin gMod (fBin gMul (fBin gPow (fBin gAdd (fBin gAdd (fBin gMod (fVar 2) (fVar 5)) (fBin gMul (fC (.int 7919)) (fVar 1))) (fC (.int 48271))) (fC (.int 2))) (fC (.int 69621))) (fVar 5))) (gSet 3 (fBin gAdd (fBin gMul (fVar 3) (fC (.int 2147483647))) (fBin gMod (fBin gMul (fVar 6) (fBin gAdd (fVar 6) (fBin gDiv (fVar 5) (fC (.int 7))))) (fVar 5)))))
theorem sloop_ok {ps : List Int} (hp : ∀ p ∈ ps, 0 < p ∧ p < 2147483648) (x0 x4 : Option D) (k : Nat) (hk : k < 1000000) (cell f : Int) (y5 y6 : Option D) (S : Store) :
    ∃ f' z5 z6, loopF none (mName 5) sbody (ps.map D.int) [x0, some (.int k), some (.int cell), some (.int f), x4, y5, y6] S = .nx [x0, some (.int k), some (.int cell), some (.int f'), x4, z5, z6] S := by
  obtain ⟨ρ', S', h1, f', z5, z6, rfl, rfl⟩ := loop_inv (m := mName 5) (b := sbody) (fun j ρ S' => ∃ (f' : Int) (z5 z6 : Option D), ρ = [x0, some (.int k), some (.int cell), some (.int f'), x4, z5, z6] ∧ S = S')
    (ps.map D.int) 0 [x0, some (.int k), some (.int cell), some (.int f), x4, y5, y6] S ⟨f, y5, y6, rfl, rfl⟩ (by
    rintro j d ρ S' hd ⟨f', z5, z6, rfl, rfl⟩
    obtain ⟨p, hpm, rfl⟩ := List.mem_map.mp (List.mem_of_getElem? hd)
    obtain ⟨p1, p2⟩ := hp p hpm
    have b1 := Int.emod_nonneg cell (b := p) (by omega)
    have b2 := Int.emod_lt_of_pos cell p1
    have m1 : cMul 7919 (k : Int) = true := cMul_l (by decide) (by decide)
    have m2 : ∀ x : Int, cMul x 69621 = true := fun x => cMul_r (by decide) (by decide)
    have m3 : cMul f' 2147483647 = true := cMul_r (by decide) (by decide)
    have q := pw (a := cell % p + 7919 * (k : Int) + 48271) (n := 2) ⟨by decide, by decide, by omega⟩ rfl S
    have c1 := Int.emod_nonneg ((cell % p + 7919 * (k : Int) + 48271) ^ (2 : Int).toNat * 69621) (b := p) (by omega)
    have c2 := Int.emod_lt_of_pos ((cell % p + 7919 * (k : Int) + 48271) ^ (2 : Int).toNat * 69621) p1
    have m4 : ∀ x : Int, cMul ((cell % p + 7919 * (k : Int) + 48271) ^ (2 : Int).toNat * 69621 % p) x = true := fun x => cMul_l (by omega) (by omega)
    have hb : ∃ f2 z, sbody [x0, some (.int k), some (.int cell), some (.int f'), x4, some (.int p), z6] S = .nx [x0, some (.int k), some (.int cell), some (.int f2), x4, some (.int p), z] S := by
      refine ⟨f' * 2147483647 + (cell % p + 7919 * (k : Int) + 48271) ^ (2 : Int).toNat * 69621 % p * ((cell % p + 7919 * (k : Int) + 48271) ^ (2 : Int).toNat * 69621 % p + p / 7) % p, some (.int ((cell % p + 7919 * (k : Int) + 48271) ^ (2 : Int).toNat * 69621 % p)), ?_⟩
      unfold sbody
      simp only [e_gSeq, e_gSet, e_fBin, e_fVar, e_fC, List.getElem?_cons_succ, List.getElem?_cons_zero, Res.bind_ok, e_gMod _ _ _ p1, e_gMul _ _ _ m1, e_gAdd, q, e_gMul _ _ _ (m2 _), Res.into_ok, Out.seq_nx, List.set_cons_succ, List.set_cons_zero, e_gMul _ _ _ m3, e_gMul _ _ _ (m4 _), e_gDiv _ _ _ (show (0 : Int) < 7 by decide) (show (7 : Int) < 1073741824 by decide)]
    obtain ⟨f2, z, hb⟩ := hb
    exact ⟨_, _, S, rfl, .inl hb, _, _, _, rfl, rfl⟩)
  exact ⟨f', z5, z6, h1⟩
theorem state_ok (ns : List Int) (k : Nat) (hk : k < 1000000) (S : Store) : ∃ v : Int, S_p_law_state [.scr (ns.map D.int), .int k] S = .ok (.oid S.length) (S ++ [.lst [.int v]]) := by
  have hcell : ∃ cell : Int, fIf (toB (fBin gNe (fVar 0) (fLst fNo))) (fCB gAbs (fCons (fBin gIx (fVar 0) (fBin gMod (fVar 1) (fCB gLen (fCons (fVar 0) fNo)))) fNo)) (fC (.int 0)) [some (.scr (ns.map D.int)), some (.int k), none, none, none, none, none] S = .ok (.int cell) S := by
    cases ns with
    | nil => exact ⟨0, by simp [show gNe (.scr []) (.lst []) S = .ok (.bl false) S from ne_scr [] S]⟩
    | cons n ns =>
      have lp : (0 : Int) < ((n :: ns).length : Int) := by simp only [List.length_cons]; omega
      have g1 := Int.emod_nonneg (k : Int) (b := ((n :: ns).length : Int)) (by omega)
      have g2 := Int.emod_lt_of_pos (k : Int) lp
      obtain ⟨i, hi⟩ : ∃ i : Nat, (k : Int) % ((n :: ns).length : Int) = (i : Int) := ⟨((k : Int) % ((n :: ns).length : Int)).toNat, by omega⟩
      have hil : i < (n :: ns).length := by omega
      have ea : atI ((n :: ns).map D.int) (i : Int) = some (.int ((n :: ns)[i])) := by
        rw [at_nat _ _ (by simpa using hil), List.getElem?_map, List.getElem?_eq_getElem hil]
        rfl
      refine ⟨if (n :: ns)[i] < 0 then -(n :: ns)[i] else (n :: ns)[i], ?_⟩
      have nn := ne_scr (n :: ns) S
      have md : gMod (.int k) (.int (((n :: ns).map D.int).length : Nat)) S = .ok (.int i) S := by
        rw [List.length_map, e_gMod _ _ _ lp, hi]
      simp only [e_fIf, e_toB, e_fBin, e_fVar, e_fLst, List.getElem?_cons_succ, List.getElem?_cons_zero, Res.bind_ok, List.length_nil, short0, if_true, nn, List.isEmpty_cons, Bool.not_false, e_fCB, e_fCons, e_len_s, md, e_ix_s, ea, e_abs]
  obtain ⟨cell, hcell⟩ := hcell
  by_cases hb : (1000000000000000000 : Int) ≤ cell
  · refine ⟨cell - 1000000000000000000, ?_⟩
    have key : m_p_law_state [some (.scr (ns.map D.int)), some (.int k), none, none, none, none, none] S = .rt (.oid S.length) (S ++ [.lst [.int (cell - 1000000000000000000)]]) := by
      unfold m_p_law_state
      rw [e_gSeq, e_gSet, hcell]
      simp [p1018, hb]
    show (m_p_law_state [some (.scr (ns.map D.int)), some (.int k), none, none, none, none, none] S).res = _
    rw [key]
    rfl
  · let ps : List Int := [2147483629, 2147483587, 2147483579, 2147483563, 2147483549, 2147483543, 2147483497, 2147483489, 2147483477, 2147483423, 2147483399, 2147483353, 2147483323, 2147483269, 2147483249]
    have hps : ∀ p ∈ ps, 0 < p ∧ p < 2147483648 := by decide
    let P8 : D := .lst [.int 2147483629, .int 2147483587, .int 2147483579, .int 2147483563, .int 2147483549, .int 2147483543, .int 2147483497, .int 2147483489]
    obtain ⟨f', z5, z6, hl⟩ := sloop_ok hps (some (.scr (ns.map D.int))) (some P8) k hk cell 0 none none S
    refine ⟨f', ?_⟩
    have no : (toB (fBin gGe (fVar 2) (fBin gPow (fC (.int 10)) (fC (.int 18))))) [some (.scr (ns.map D.int)), some (.int k), some (.int cell), none, none, none, none] S = .ok false S := by
      simp [p1018, hb]
    have key : m_p_law_state [some (.scr (ns.map D.int)), some (.int k), none, none, none, none, none] S = .rt (.oid S.length) (S ++ [.lst [.int f']]) := by
      unfold m_p_law_state
      rw [e_gSeq, e_gSet, hcell]
      simp only [Res.into_ok, Out.seq_nx, List.set_cons_succ, List.set_cons_zero]
      rw [e_gSeq, e_gIf, no]
      simp only [Res.into_ok, Bool.false_eq_true, if_false, e_gNil, Out.seq_nx]
      rw [e_gSeq, e_gSet]
      simp only [e_fC, Res.into_ok, Out.seq_nx, List.set_cons_succ, List.set_cons_zero]
      rw [e_gSeq, e_gSet]
      have p8 : fLst (fCons (fC (.int 2147483629)) (fCons (fC (.int 2147483587)) (fCons (fC (.int 2147483579)) (fCons (fC (.int 2147483563)) (fCons (fC (.int 2147483549)) (fCons (fC (.int 2147483543)) (fCons (fC (.int 2147483497)) (fCons (fC (.int 2147483489)) fNo)))))))) [some (.scr (ns.map D.int)), some (.int k), some (.int cell), some (.int 0), none, none, none] S = .ok P8 S := by simp [P8]
      rw [p8]
      simp only [Res.into_ok, Out.seq_nx, List.set_cons_succ, List.set_cons_zero]
      rw [e_gSeq, e_gFor, e_fSeq, e_fBin]
      have p7 : ∀ ρ : EnvD, fLst (fCons (fC (.int 2147483477)) (fCons (fC (.int 2147483423)) (fCons (fC (.int 2147483399)) (fCons (fC (.int 2147483353)) (fCons (fC (.int 2147483323)) (fCons (fC (.int 2147483269)) (fCons (fC (.int 2147483249)) fNo))))))) ρ S =
          .ok (.lst [.int 2147483477, .int 2147483423, .int 2147483399, .int 2147483353, .int 2147483323, .int 2147483269, .int 2147483249]) S := fun ρ => by simp
      have fv : fVar 4 [some (.scr (ns.map D.int)), some (.int k), some (.int cell), some (.int 0), some P8, none, none] S = .ok P8 S := rfl
      rw [fv]
      simp only [Res.bind_ok]
      rw [p7]
      simp only [Res.bind_ok]
      rw [e_addl _ _ S (short_le (by decide))]
      simp only [Res.bind_ok, e_seqD_l, Res.into_ok]
      refine Eq.trans (congrArg (fun o => Out.seq o (gRet (fLstO (fCons (fVar 3) fNo)))) hl) ?_
      simp
    show (m_p_law_state [some (.scr (ns.map D.int)), some (.int k), none, none, none, none, none] S).res = _
    rw [key]
    rfl
noncomputable def zne0 : FS := (gSet 2 (fBin gMod (fBin gIx (fVar 0) (fC (.int 0))) (fVar 1)))
noncomputable def zne1 : FS := (gPut (fVar 0) (fC (.int 0)) (fBin gDiv (fBin gIx (fVar 0) (fC (.int 0))) (fVar 1)))
noncomputable def zne2 : FS := (gRet (fVar 2))
noncomputable def zne : FS := (gSeq zne0 (gSeq zne1 zne2))
theorem zne_eq : m_p_law_next = zne := rfl
noncomputable def zpi0 : FS := (gRet (fBin gIx (fVar 1) (fCall S_p_law_next (fun ds es => pick [(0, 0), (0, 1)] ds es []) 2 0 2 (fCons (fVar 0) (fCons (fCB gLen (fCons (fVar 1) (fun _ S => .ok [] S))) (fun _ S => .ok [] S))) (fun _ S => .ok [] S))))
theorem zpi_eq : m_p_law_pick = zpi0 := rfl
noncomputable def znr0 : FS := (gSet 3 (fCall S_p_law_next (fun ds es => pick [(0, 0), (0, 1)] ds es []) 2 0 2 (fCons (fVar 0) (fCons (fC (.int 9)) (fun _ S => .ok [] S))) (fun _ S => .ok [] S)))
noncomputable def znr1 : FS := (gIf (toB (fBin gEq (fVar 3) (fC (.int 8)))) (gRet (fCall S_p_law_pick (fun ds es => pick [(0, 0), (0, 1)] ds es []) 2 0 2 (fCons (fVar 0) (fCons (fLst (fCons (fC .non) (fCons (fC (.bl true)) (fCons (fC (.str "7")) (fCons (fTup (fCons (fC (.int 7)) (fun _ S => .ok [] S))) (fCons (fLst (fun _ S => .ok [] S)) (fCons (fUn gNeg (fC (.int 1))) (fun _ S => .ok [] S)))))))) (fun _ S => .ok [] S))) (fun _ S => .ok [] S))) gNil)
noncomputable def znr2 : FS := (gIf (toB (fBin gEq (fVar 3) (fC (.int 7)))) (gRet (fCall S_p_law_pick (fun ds es => pick [(0, 0), (0, 1)] ds es []) 2 0 2 (fCons (fVar 0) (fCons (fLst (fCons (fBin gSub (fVar 1) (fC (.int 1))) (fCons (fBin gAdd (fVar 2) (fC (.int 1))) (fCons (fBin gPow (fC (.int 10)) (fC (.int 9))) (fun _ S => .ok [] S))))) (fun _ S => .ok [] S))) (fun _ S => .ok [] S))) gNil)
noncomputable def znr3 : FS := (gIf (toB (fBin gGt (fVar 3) (fC (.int 4)))) (gRet (fBin gIx (fLst (fCons (fVar 1) (fCons (fVar 2) (fun _ S => .ok [] S)))) (fBin gSub (fVar 3) (fC (.int 5))))) gNil)
noncomputable def znr4 : FS := (gRet (fBin gAdd (fVar 1) (fCall S_p_law_next (fun ds es => pick [(0, 0), (0, 1)] ds es []) 2 0 2 (fCons (fVar 0) (fCons (fBin gAdd (fBin gSub (fVar 2) (fVar 1)) (fC (.int 1))) (fun _ S => .ok [] S))) (fun _ S => .ok [] S))))
noncomputable def znr : FS := (gSeq znr0 (gSeq znr1 (gSeq znr2 (gSeq znr3 znr4))))
theorem znr_eq : m_p_law_near = znr := rfl
noncomputable def ziw0 : FS := (gRet (fAndV (fCB gIsi (fCons (fVar 0) (fCons (fC (.ty "int")) (fun _ S => .ok [] S)))) (fAndV (fNotV (fCB gIsi (fCons (fVar 0) (fCons (fC (.ty "bool")) (fun _ S => .ok [] S))))) (fChain gLe gLe (fVar 1) (fVar 0) (fVar 2)))))
theorem ziw_eq : m_is_whole = ziw0 := rfl
noncomputable def zgd0 : FS := (gRet (fAndV (fCB gIsi (fCons (fVar 0) (fCons (fC (.ty "int")) (fun _ S => .ok [] S)))) (fAndV (fNotV (fCB gIsi (fCons (fVar 0) (fCons (fC (.ty "bool")) (fun _ S => .ok [] S))))) (fChain gLe gLe (fVar 1) (fVar 0) (fVar 2)))))
theorem zgd_eq : m_p_law_good = zgd0 := rfl
/-! ### draws -/
theorem lt_of {S : Store} {s : Nat} {o : SO} (h : S[s]? = some o) : s < S.length := (List.getElem?_eq_some_iff.mp h).1
theorem set_ne {S : Store} {i j : Nat} {o : SO} (h : i ≠ j) : (S.set i o)[j]? = S[j]? := List.getElem?_set_ne h
theorem set_eq {S : Store} {i : Nat} {o u : SO} (h : S[i]? = some u) : (S.set i o)[i]? = some o := by
  rw [List.getElem?_set_self (List.getElem?_eq_some_iff.mp h).1]
theorem app_old {S T : Store} {j : Nat} {o : SO} (h : S[j]? = some o) : (S ++ T)[j]? = some o := by
  rw [List.getElem?_append_left (lt_of h)]
  exact h
theorem next_st {S : Store} {s : Nat} {v : Int} (hS : S[s]? = some (.lst [.int v])) (m : Int) (h1 : 0 < m) (h2 : m < 1000000) : S_p_law_next [.oid s, .int m] S = .ok (.int (v % m)) (S.set s (.lst [.int (v / m)])) := by
  have a1 : asD S (.oid s) = none := by simp [asD, hS]
  have a2 : isS (.oid s) (.int 0) S = false := rfl
  have a3 : asQ S (.oid s) = some [.int v] := by simp [asQ, asL, hS]
  have i0 : gIx (.oid s) (.int 0) S = .ok (.int v) S := by
    have q : atI [D.int v] 0 = some (.int v) := rfl
    simp [gIx, pDic1, a1, a2, gIxQ, a3, q]
  have st : storeAt (.oid s) (.int 0) (.int (v / m)) S = some (S.set s (.lst [.int (v / m)])) := by
    simp [storeAt, hS, ixN]
  have dv := e_gDiv (S := S) v m h1 (by omega)
  unfold S_p_law_next
  rw [zne_eq]
  unfold zne zne0 zne1 zne2
  simp [List.replicate, i0, h1, dv, st]
def St (s : Nat) (S : Store) : Prop := ∃ v, S[s]? = some (.lst [.int v])
structure Drw (s : Nat) (S S' : Store) : Prop where
  st : St s S'
  len : S'.length = S.length
  z : s ≠ 0 → S'[0]? = S[0]?
theorem Drw.trans {s : Nat} {S T U : Store} (a : Drw s S T) (b : Drw s T U) : Drw s S U := ⟨b.st, b.len.trans a.len, fun h => (b.z h).trans (a.z h)⟩
theorem draw {s : Nat} {S : Store} (h : St s S) (m : Int) (h1 : 0 < m) (h2 : m < 1000000) : ∃ (x : Int) (S' : Store), 0 ≤ x ∧ x < m ∧ S_p_law_next [.oid s, .int m] S = .ok (.int x) S' ∧ Drw s S S' := by
  obtain ⟨v, h⟩ := h
  exact ⟨v % m, _, Int.emod_nonneg _ (by omega), Int.emod_lt_of_pos _ h1, next_st h m h1 h2, ⟨v / m, set_eq h⟩, List.length_set, fun q => set_ne q⟩
theorem pick_st {s : Nat} {S : Store} (h : St s S) {xs : List D} (hl : 0 < xs.length) (hl2 : xs.length < 1000) : ∃ (x : D) (S' : Store), x ∈ xs ∧ S_p_law_pick [.oid s, .lst xs] S = .ok x S' ∧ Drw s S S' := by
  obtain ⟨x, S', x1, x2, e, d⟩ := draw h (xs.length : Nat) (by omega) (by omega)
  obtain ⟨i, rfl⟩ : ∃ i : Nat, x = (i : Int) := ⟨x.toNat, by omega⟩
  have hi : i < xs.length := by omega
  have ea : atI xs (i : Int) = some xs[i] := by rw [at_nat _ _ hi, List.getElem?_eq_getElem hi]
  have sh : short xs.length = true := short_le (by omega)
  refine ⟨xs[i], S', List.getElem_mem hi, ?_, d⟩
  unfold S_p_law_pick
  rw [zpi_eq]
  unfold zpi0
  simp [List.replicate, sh, e, ea]
def whl : D → Int → Int → Bool
  | .int i, a, b => decide (a ≤ i) && decide (i ≤ b)
  | _, _, _ => false
def okK : D → Bool
  | .non => true
  | .bl _ => true
  | .int _ => true
  | .str _ => true
  | .tup _ => true
  | .lst _ => true
  | .dic _ => true
  | _ => false
theorem whole_any {d : D} (h : okK d = true) (a b : Int) (S : Store) : S_is_whole [d, .int a, .int b] S = .ok (.bl (whl d a b)) S := by
  unfold S_is_whole
  rw [ziw_eq]
  unfold ziw0
  cases d with
  | int i =>
    by_cases h1 : a ≤ i <;> by_cases h2 : i ≤ b <;> simp [List.replicate, tyS, isiT, whl, h1, h2]
  | non => simp [List.replicate, tyS, isiT, whl]
  | bl x => simp [List.replicate, tyS, isiT, whl]
  | str x => simp [List.replicate, tyS, isiT, whl]
  | tup x => simp [List.replicate, tyS, isiT, whl]
  | lst x => simp [List.replicate, tyS, isiT, whl]
  | dic x => simp [List.replicate, tyS, isiT, whl]
  | _ => cases h
theorem c_whole {d : D} (h : okK d = true) (hp : d.pure = true) (a b : Int) (S : Store) : callSub S_is_whole [d, .int a, .int b] S = .ok (.bl (whl d a b)) S := callSub_ok (by simp [pureL, D.pure, hp]) (whole_any h a b []) (by rfl)
theorem lwhole_any {d : D} (h : okK d = true) (a b : Int) (S : Store) : S_p_law_good [d, .int a, .int b] S = .ok (.bl (whl d a b)) S := by
  unfold S_p_law_good
  rw [zgd_eq]
  unfold zgd0
  cases d with
  | int i =>
    by_cases h1 : a ≤ i <;> by_cases h2 : i ≤ b <;> simp [List.replicate, tyS, isiT, whl, h1, h2]
  | non => simp [List.replicate, tyS, isiT, whl]
  | bl x => simp [List.replicate, tyS, isiT, whl]
  | str x => simp [List.replicate, tyS, isiT, whl]
  | tup x => simp [List.replicate, tyS, isiT, whl]
  | lst x => simp [List.replicate, tyS, isiT, whl]
  | dic x => simp [List.replicate, tyS, isiT, whl]
  | _ => cases h
theorem c_lwhole {d : D} (h : okK d = true) (hp : d.pure = true) (a b : Int) (S : Store) : callSub S_p_law_good [d, .int a, .int b] S = .ok (.bl (whl d a b)) S := callSub_ok (by simp [pureL, D.pure, hp]) (lwhole_any h a b []) (by rfl)
structure Nd (d : D) : Prop where
  ok : okK d = true
  pu : d.pure = true
theorem near_ok {s : Nat} {S : Store} (h : St s S) {a b : Int} (h0 : 0 ≤ a) (hab : a ≤ b) (hb : b ≤ 1000) : ∃ (d : D) (S' : Store), Nd d ∧ S_p_law_near [.oid s, .int a, .int b] S = .ok d S' ∧ Drw s S S' := by
  obtain ⟨w, S1, w1, w2, q1, d1⟩ := draw h 9 (by decide) (by decide)
  have st : startD 4 [.oid s, .int a, .int b] = [some (.oid s), some (.int a), some (.int b), none] := rfl
  have v0 : znr0 [some (.oid s), some (.int a), some (.int b), none] S = .nx [some (.oid s), some (.int a), some (.int b), some (.int w)] S1 := by
    unfold znr0
    simp [q1]
  have un : ∀ d S', (gSeq znr1 (gSeq znr2 (gSeq znr3 znr4))) [some (.oid s), some (.int a), some (.int b), some (.int w)] S1 = .rt d S' → S_p_law_near [.oid s, .int a, .int b] S = .ok d S' := fun d S' q => by
    unfold S_p_law_near
    rw [znr_eq, e_semOf, st]
    unfold znr
    rw [e_gSeq, v0, Out.seq_nx, q]
    rfl
  have k6 : short 6 = true := short_le (by omega)
  have k3 : short 3 = true := short_le (by omega)
  have k2 : short 2 = true := short_le (by omega)
  have k1 : short 1 = true := short_le (by omega)
  have k0 : short 0 = true := short_le (by omega)
  by_cases c8 : w = 8
  · subst c8
    obtain ⟨d, S2, hx, q2, d2⟩ := pick_st d1.st (xs := [.non, .bl true, .str "7", .tup [.int 7], .lst [], .int (-1)]) (by simp) (by simp)
    refine ⟨d, S2, ?_, un d S2 ?_, d1.trans d2⟩
    · simp only [List.mem_cons, List.not_mem_nil, or_false] at hx
      rcases hx with rfl | rfl | rfl | rfl | rfl | rfl <;> exact ⟨rfl, rfl⟩
    · unfold znr1
      simp [q2, k6, k1, k0]
  · by_cases c7 : w = 7
    · subst c7
      obtain ⟨d, S2, hx, q2, d2⟩ := pick_st d1.st (xs := [.int (a - 1), .int (b + 1), .int 1000000000]) (by simp) (by simp)
      refine ⟨d, S2, ?_, un d S2 ?_, d1.trans d2⟩
      · simp only [List.mem_cons, List.not_mem_nil, or_false] at hx
        rcases hx with rfl | rfl | rfl <;> exact ⟨rfl, rfl⟩
      · unfold znr1 znr2
        simp [q2, k3, p109]
    · by_cases c4 : 4 < w
      · have a0 : atI [D.int a, D.int b] 0 = some (.int a) := by
          have e0 : (0 : Int) = ((0 : Nat) : Int) := rfl
          rw [e0, at_nat _ _ (by simp)]
          rfl
        have a1 : atI [D.int a, D.int b] 1 = some (.int b) := by
          have e0 : (1 : Int) = ((1 : Nat) : Int) := rfl
          rw [e0, at_nat _ _ (by simp)]
          rfl
        have w56 : w = 5 ∨ w = 6 := by omega
        rcases w56 with rfl | rfl
        · refine ⟨.int a, S1, ⟨rfl, rfl⟩, un _ S1 ?_, d1⟩
          unfold znr1 znr2 znr3
          simp [k2, a0]
        · refine ⟨.int b, S1, ⟨rfl, rfl⟩, un _ S1 ?_, d1⟩
          unfold znr1 znr2 znr3
          simp [k2, a1]
      · obtain ⟨x, S2, x1, x2, q2, d2⟩ := draw d1.st (b - a + 1) (by omega) (by omega)
        refine ⟨.int (a + x), S2, ⟨rfl, rfl⟩, un _ S2 ?_, d1.trans d2⟩
        unfold znr1 znr2 znr3 znr4
        simp [c8, c7, c4, q2]
end K03

/-! A new floor, a new yard, as they lie in the store. -/
namespace K03
open PySem L2 DL
noncomputable def zgi0 : FS := (gIf (fNotT (toB (fCall (callSub S_is_whole) (fun ds es => pick [(0, 0), (0, 1), (0, 2)] ds es []) 3 0 3 (fCons (fVar 1) (fCons (fC (.int 1)) (fCons (fC (.int (40))) (fun _ S => .ok [] S)))) (fun _ S => .ok [] S)))) (fun ρ S => .ex "BadGround" [] ρ S) gNil)
noncomputable def zgi1 : FS := (gFld ["Yard"] "stands" (fVar 0) (fBin gRepO (fLst (fCons (fC .non) (fun _ S => .ok [] S))) (fVar 1)))
noncomputable def zgi2 : FS := (gFld ["Yard"] "queue" (fVar 0) (fLstO (fun _ S => .ok [] S)))
noncomputable def zgi : FS := (gSeq zgi0 (gSeq zgi1 zgi2))
theorem zgi_eq : m_Ground_init = zgi := rfl
noncomputable def zfi0 : FS := (gFld ["Floor"] "store" (fVar 0) (fBin gRepW (fLst (fCons (fC (.int 0)) (fun _ S => .ok [] S))) (fBin gAdd (fBin gAdd (fC (.int 1)) (fBin gMul (fC (.int 2)) (fVar 1))) (fBin gMul (fC (.int 2)) (fVar 2)))))
noncomputable def zfi1 : FS := (gFld ["Floor"] "young_places" (fVar 0) (fVar 1))
noncomputable def zfi2 : FS := (gFld ["Floor"] "half_places" (fVar 0) (fVar 2))
noncomputable def zfi3 : FS := (gFld ["Floor"] "barrier" (fVar 0) (fVar 3))
noncomputable def zfi4 : FS := (gFld ["Floor"] "most_age" (fVar 0) (fVar 4))
noncomputable def zfi5 : FS := (gFldC ["Floor"] "young_first" "young_top" (fVar 0) (fVar 0) (fC (.int 1)))
noncomputable def zfi6 : FS := (gFld ["Floor"] "young_spare" (fVar 0) (fBin gAdd (fC (.int 1)) (fVar 1)))
noncomputable def zfi7 : FS := (gFldC ["Floor"] "old_first" "old_top" (fVar 0) (fVar 0) (fBin gAdd (fC (.int 1)) (fBin gMul (fC (.int 2)) (fVar 1))))
noncomputable def zfi8 : FS := (gFldC ["Floor"] "new_first" "new_top" (fVar 0) (fVar 0) (fBin gAdd (fBin gAdd (fC (.int 1)) (fBin gMul (fC (.int 2)) (fVar 1))) (fVar 2)))
noncomputable def zfi9 : FS := (gFld ["Floor"] "phase" (fVar 0) (fC (.str "rest")))
noncomputable def zfi10 : FS := (gFld ["Floor"] "cursor" (fVar 0) (fC (.int 0)))
noncomputable def zfi11 : FS := (gFld ["Floor"] "greys" (fVar 0) (fLstO (fun _ S => .ok [] S)))
noncomputable def zfi12 : FS := (gFld ["Floor"] "far_places" (fVar 0) fDict0)
noncomputable def zfi13 : FS := (gFld ["Floor"] "tie_places" (fVar 0) fDict0)
noncomputable def zfi14 : FS := (gFld ["Floor"] "last_places" (fVar 0) fDict0)
noncomputable def zfi15 : FS := (gFld ["Floor"] "serials_made" (fVar 0) (fC (.int 0)))
noncomputable def zfi16 : FS := (gFld ["Floor"] "told_news" (fVar 0) (fLstO (fun _ S => .ok [] S)))
noncomputable def zfi : FS := (gSeq zfi0 (gSeq zfi1 (gSeq zfi2 (gSeq zfi3 (gSeq zfi4 (gSeq zfi5 (gSeq zfi6 (gSeq zfi7 (gSeq zfi8 (gSeq zfi9 (gSeq zfi10 (gSeq zfi11 (gSeq zfi12 (gSeq zfi13 (gSeq zfi14 (gSeq zfi15 zfi16))))))))))))))))
theorem zfi_eq : m_Floor_init = zfi := rfl
noncomputable def zyi0 : FS := (gExpr (fCall S_Ground_init (fun ds es => pick [(0, 0), (0, 1)] ds es []) 2 0 2 (fCons (fVar 0) (fCons (fVar 1) (fun _ S => .ok [] S))) (fun _ S => .ok [] S)))
noncomputable def zyi1 : FS := (gSet 7 (fComp (fSeq (fTup (fCons (fVar 2) (fCons (fVar 3) (fun _ S => .ok [] S))))) (mName 8) fYes (fCall (callSub S_is_whole) (fun ds es => pick [(0, 0), (0, 1), (0, 2)] ds es []) 3 0 3 (fCons (fVar 8) (fCons (fC (.int (7))) (fCons (fC (.int (400))) (fun _ S => .ok [] S)))) (fun _ S => .ok [] S)) ([("places", 8)].map (·.2)) finL))
noncomputable def zyi2 : FS := (gIf (fOrT (fNotT (toB (fCB (gAllAny true) (fCons (fVar 7) (fun _ S => .ok [] S))))) (fOrT (fNotT (toB (fCall (callSub S_is_whole) (fun ds es => pick [(0, 0), (0, 1), (0, 2)] ds es []) 3 0 3 (fCons (fVar 5) (fCons (fC (.int 1)) (fCons (fC (.int 3)) (fun _ S => .ok [] S)))) (fun _ S => .ok [] S)))) (fNotT (toB (fCall (callSub S_is_whole) (fun ds es => pick [(0, 0), (0, 1), (0, 2)] ds es []) 3 0 3 (fCons (fVar 6) (fCons (fC (.int 0)) (fCons (fC (.int (100))) (fun _ S => .ok [] S)))) (fun _ S => .ok [] S)))))) (fun ρ S => .ex "BadGround" [] ρ S) gNil)
noncomputable def zyi3 : FS := (gIf (fOrT (fNotT (toB (fCB gIsi (fCons (fVar 4) (fCons (fC (.ty "str")) (fun _ S => .ok [] S)))))) (toB (fBin gNotIn (fVar 4) (fTup (fCons (fC (.str "first")) (fCons (fC (.str "last")) (fun _ S => .ok [] S))))))) (fun ρ S => .ex "BadGround" [] ρ S) gNil)
noncomputable def zyi4 : FS := (gFld ["Yard"] "floor" (fVar 0) (fMake (makeO S_Floor_init (fun ds es => pick [(0, 0), (1, 0), (1, 1), (1, 2), (1, 3)] ds es []) "Floor" 5) 0 4 (fun _ S => .ok [] S) (fCons (fVar 2) (fCons (fVar 3) (fCons (fVar 4) (fCons (fVar 5) (fun _ S => .ok [] S)))))))
noncomputable def zyi5 : FS := (gFld ["Yard"] "units_paid" (fVar 0) (fVar 6))
noncomputable def zyi : FS := (gSeq zyi0 (gSeq zyi1 (gSeq zyi2 (gSeq zyi3 (gSeq zyi4 zyi5)))))
theorem zyi_eq : m_Yard_init = zyi := rfl
/-- all but one place stays -/
structure Kn (n : Nat) (S S' : Store) : Prop where
  len : S.length ≤ S'.length
  old : ∀ (j : Nat) (o : SO), j ≠ n → S[j]? = some o → S'[j]? = some o
theorem Kn.refl (n : Nat) (S : Store) : Kn n S S := ⟨Nat.le_refl _, fun _ _ _ h => h⟩
theorem Kn.trans {n : Nat} {S T U : Store} (a : Kn n S T) (b : Kn n T U) : Kn n S U := ⟨Nat.le_trans a.len b.len, fun j o hj h => b.old j o hj (a.old j o hj h)⟩
theorem Kn.set (n : Nat) (S : Store) (o : SO) : Kn n S (S.set n o) := ⟨by rw [List.length_set]; exact Nat.le_refl _, fun j x hj h => by rw [set_ne (Ne.symm hj)]; exact h⟩
theorem Kn.app (n : Nat) (S T : Store) : Kn n S (S ++ T) := ⟨by rw [List.length_append]; omega, fun j x _ h => app_old h⟩
theorem fld_step {cs : List Str} {f : Str} {fo fe : FE} {ρ : EnvD} {S S1 : Store} {n : Nat} {C : Str} {fs fs' : List (Str × D)} {d : D} (he : fe ρ S = .ok d S1) (ho : fo ρ S1 = .ok (.oid n) S1) (h : S1[n]? = some (.ins C fs)) (hc : C ∈ cs) (hl : fs.length < 1000) (hp : putFD f d fs = fs') :
    ∃ S', gFld cs f fo fe ρ S = .nx ρ S' ∧ S'[n]? = some (.ins C fs') ∧ Kn n S1 S' ∧ S'.length = S1.length := by
  subst hp
  refine ⟨S1.set n (.ins C (putFD f d fs)), ?_, set_eq h, .set _ _ _, List.length_set⟩
  unfold gFld
  rw [he]
  simp only [Res.into_ok, ho, h]
  rw [if_pos ⟨hc, hl⟩]
theorem fldC_step {cs : List Str} {f g : Str} {fo fe : FE} {ρ : EnvD} {S S1 : Store} {n : Nat} {C : Str} {fs fs1 fs' : List (Str × D)} {d : D} (he : fe ρ S = .ok d S1) (ho : ∀ S, fo ρ S = .ok (.oid n) S) (h : S1[n]? = some (.ins C fs)) (hc : C ∈ cs) (hl : fs.length < 1000) (hl1 : fs1.length < 1000) (hp : putFD f d fs = fs1) (hp2 : putFD g d fs1 = fs') :
    ∃ S', gFldC cs f g fo fo fe ρ S = .nx ρ S' ∧ S'[n]? = some (.ins C fs') ∧ Kn n S1 S' ∧ S'.length = S1.length := by
  subst hp
  subst hp2
  have g1 : (S1.set n (.ins C (putFD f d fs)))[n]? = some (.ins C (putFD f d fs)) := set_eq h
  refine ⟨(S1.set n (.ins C (putFD f d fs))).set n (.ins C (putFD g d (putFD f d fs))), ?_, set_eq g1, (Kn.set _ _ _).trans (.set _ _ _), by rw [List.length_set, List.length_set]⟩
  unfold gFldC stFld
  rw [he]
  simp only [Res.into_ok, ho, h, g1]
  rw [if_pos ⟨hc, hl⟩]
  simp only [g1]
  rw [if_pos ⟨hc, hl1⟩]
theorem putFD_new {f : Str} {d : D} : ∀ {fs : List (Str × D)}, (fs.map (·.1)).contains f = false → putFD f d fs = fs ++ [(f, d)]
  | [], _ => rfl
  | (g, e) :: fs, h => by
    rw [List.map_cons, List.contains_cons, Bool.or_eq_false_iff] at h
    have hn : ¬ g = f := fun q => by
      subst q
      simp at h
    unfold putFD
    rw [if_neg hn, putFD_new h.2]
    rfl
theorem rep1 (d : D) (m : Nat) : repD [d] (m : Int) = List.replicate m d := by
  unfold repD
  rw [Int.toNat_natCast]
  induction m with
  | zero => rfl
  | succ m ih => rw [List.replicate_succ, List.replicate_succ, List.flatten_cons, ih]; rfl
def fF (st gr fa ti la nw a b : Nat) (kd g : D) : List (Str × D) := [("store", .oid st), ("young_places", (.int (a : Nat))), ("half_places", (.int (b : Nat))), ("barrier", kd), ("most_age", g), ("young_first", (.int 1)), ("young_top", (.int 1)), ("young_spare", (.int (1 + (a : Nat)))), ("old_first", (.int (1 + 2 * (a : Nat)))), ("old_top", (.int (1 + 2 * (a : Nat)))), ("new_first", (.int (1 + 2 * (a : Nat) + (b : Nat)))), ("new_top", (.int (1 + 2 * (a : Nat) + (b : Nat)))), ("phase", (.str "rest")), ("cursor", (.int 0)), ("greys", .oid gr), ("far_places", .oid fa), ("tie_places", .oid ti), ("last_places", .oid la), ("serials_made", (.int 0)), ("told_news", .oid nw)]
structure FlAt (S : Store) (n st gr fa ti la nw a b : Nat) (kd g : D) : Prop where
  fl : S[n]? = some (.ins "Floor" (fF st gr fa ti la nw a b kd g))
  so : S[st]? = some (.lst (List.replicate (1 + 2 * a + 2 * b) (.int 0)))
  go : S[gr]? = some (.lst [])
  fo : S[fa]? = some (.dic [])
  to : S[ti]? = some (.dic [])
  lo : S[la]? = some (.dic [])
  no : S[nw]? = some (.lst [])
theorem floor_init {S : Store} {n a b : Nat} {kd g : D} (hn : S[n]? = some (.ins "Floor" [])) (ha : a ≤ 400) (hb : b ≤ 400) : ∃ (S' : Store) (st gr fa ti la nw : Nat), FlAt S' n st gr fa ti la nw a b kd g ∧ Kn n S S' ∧ (S.length ≤ st ∧ S.length ≤ gr ∧ S.length ≤ fa ∧ S.length ≤ ti ∧ S.length ≤ la ∧ S.length ≤ nw) ∧ S_Floor_init [.oid n, .int (a : Nat), .int (b : Nat), kd, g] S = .ok .non S' := by
  obtain ⟨ρ, hρ⟩ : ∃ ρ : EnvD, ρ = [some (.oid n), some (.int (a : Nat)), some (.int (b : Nat)), some kd, some g] := ⟨_, rfl⟩
  have r0 : ∀ S, fVar 0 ρ S = .ok (.oid n) S := fun S => by rw [hρ]; rfl
  have r1 : ρ[1]? = some (some (.int (a : Nat))) := by rw [hρ]; rfl
  have r2 : ρ[2]? = some (some (.int (b : Nat))) := by rw [hρ]; rfl
  have r3 : ρ[3]? = some (some kd) := by rw [hρ]; rfl
  have r4 : ρ[4]? = some (some g) := by rw [hρ]; rfl
  have m2 : ∀ x : Int, cMul 2 x = true := fun x => @decide_eq_true _ (Classical.propDecidable _) (.inl ⟨by decide, by decide⟩)
  have k1 : short 1 = true := short_le (by omega)
  have nl : n < S.length := lt_of hn
  have h0 : S[n]? = some (.ins "Floor" []) := hn
  have e0 : (fBin gRepW (fLst (fCons (fC (.int 0)) (fun _ S => .ok [] S))) (fBin gAdd (fBin gAdd (fC (.int 1)) (fBin gMul (fC (.int 2)) (fVar 1))) (fBin gMul (fC (.int 2)) (fVar 2)))) ρ S = .ok (.oid S.length) (S ++ [.lst (List.replicate (1 + 2 * a + 2 * b) (.int 0))]) := by
    have el : asLt S (.lst [.int 0]) = some [.int 0] := rfl
    have ek : (1 : Int) + 2 * (a : Nat) + 2 * (b : Nat) = ((1 + 2 * a + 2 * b : Nat) : Int) := by omega
    have gr : gRepW (.lst [.int 0]) (.int (1 + 2 * (a : Nat) + 2 * (b : Nat))) S = .ok (.oid S.length) (S ++ [.lst (List.replicate (1 + 2 * a + 2 * b) (.int 0))]) := by
      simp only [gRepW, el]
      rw [if_pos ⟨by omega, by omega, by simp⟩, ek, rep1]
    simp [r1, r2, m2, k1, gr]
  obtain ⟨S0, q0, h1, k0n, l0n⟩ := fld_step (cs := ["Floor"]) (f := "store") (fs' := [("store", (.oid S.length))]) e0 (r0 _) (app_old h0) (by simp) (by simp) (putFD_new (by rfl))
  have e1 : (fVar 1) ρ S0 = .ok (.int (a : Nat)) S0 := by simp [r1, r2, r3, r4, m2]
  obtain ⟨S1, q1, h2, k1n, l1n⟩ := fld_step (cs := ["Floor"]) (f := "young_places") (fs' := [("store", (.oid S.length)), ("young_places", (.int (a : Nat)))]) e1 (r0 _) h1 (by simp) (by simp) (putFD_new (by rfl))
  have e2 : (fVar 2) ρ S1 = .ok (.int (b : Nat)) S1 := by simp [r1, r2, r3, r4, m2]
  obtain ⟨S2, q2, h3, k2n, l2n⟩ := fld_step (cs := ["Floor"]) (f := "half_places") (fs' := [("store", (.oid S.length)), ("young_places", (.int (a : Nat))), ("half_places", (.int (b : Nat)))]) e2 (r0 _) h2 (by simp) (by simp) (putFD_new (by rfl))
  have e3 : (fVar 3) ρ S2 = .ok kd S2 := by simp [r1, r2, r3, r4, m2]
  obtain ⟨S3, q3, h4, k3n, l3n⟩ := fld_step (cs := ["Floor"]) (f := "barrier") (fs' := [("store", (.oid S.length)), ("young_places", (.int (a : Nat))), ("half_places", (.int (b : Nat))), ("barrier", kd)]) e3 (r0 _) h3 (by simp) (by simp) (putFD_new (by rfl))
  have e4 : (fVar 4) ρ S3 = .ok g S3 := by simp [r1, r2, r3, r4, m2]
  obtain ⟨S4, q4, h5, k4n, l4n⟩ := fld_step (cs := ["Floor"]) (f := "most_age") (fs' := [("store", (.oid S.length)), ("young_places", (.int (a : Nat))), ("half_places", (.int (b : Nat))), ("barrier", kd), ("most_age", g)]) e4 (r0 _) h4 (by simp) (by simp) (putFD_new (by rfl))
  have e5 : (fC (.int 1)) ρ S4 = .ok (.int 1) S4 := by simp [r1, r2, r3, r4, m2]
  obtain ⟨S5, q5, h6, k5n, l5n⟩ := fldC_step (cs := ["Floor"]) (f := "young_first") (g := "young_top") (fs1 := [("store", (.oid S.length)), ("young_places", (.int (a : Nat))), ("half_places", (.int (b : Nat))), ("barrier", kd), ("most_age", g), ("young_first", (.int 1))]) (fs' := [("store", (.oid S.length)), ("young_places", (.int (a : Nat))), ("half_places", (.int (b : Nat))), ("barrier", kd), ("most_age", g), ("young_first", (.int 1)), ("young_top", (.int 1))]) e5 r0 h5 (by simp) (by simp) (by simp) (putFD_new (by rfl)) (putFD_new (by rfl))
  have e6 : (fBin gAdd (fC (.int 1)) (fVar 1)) ρ S5 = .ok (.int (1 + (a : Nat))) S5 := by simp [r1, r2, r3, r4, m2]
  obtain ⟨S6, q6, h7, k6n, l6n⟩ := fld_step (cs := ["Floor"]) (f := "young_spare") (fs' := [("store", (.oid S.length)), ("young_places", (.int (a : Nat))), ("half_places", (.int (b : Nat))), ("barrier", kd), ("most_age", g), ("young_first", (.int 1)), ("young_top", (.int 1)), ("young_spare", (.int (1 + (a : Nat))))]) e6 (r0 _) h6 (by simp) (by simp) (putFD_new (by rfl))
  have e7 : (fBin gAdd (fC (.int 1)) (fBin gMul (fC (.int 2)) (fVar 1))) ρ S6 = .ok (.int (1 + 2 * (a : Nat))) S6 := by simp [r1, r2, r3, r4, m2]
  obtain ⟨S7, q7, h8, k7n, l7n⟩ := fldC_step (cs := ["Floor"]) (f := "old_first") (g := "old_top") (fs1 := [("store", (.oid S.length)), ("young_places", (.int (a : Nat))), ("half_places", (.int (b : Nat))), ("barrier", kd), ("most_age", g), ("young_first", (.int 1)), ("young_top", (.int 1)), ("young_spare", (.int (1 + (a : Nat)))), ("old_first", (.int (1 + 2 * (a : Nat))))]) (fs' := [("store", (.oid S.length)), ("young_places", (.int (a : Nat))), ("half_places", (.int (b : Nat))), ("barrier", kd), ("most_age", g), ("young_first", (.int 1)), ("young_top", (.int 1)), ("young_spare", (.int (1 + (a : Nat)))), ("old_first", (.int (1 + 2 * (a : Nat)))), ("old_top", (.int (1 + 2 * (a : Nat))))]) e7 r0 h7 (by simp) (by simp) (by simp) (putFD_new (by rfl)) (putFD_new (by rfl))
  have e8 : (fBin gAdd (fBin gAdd (fC (.int 1)) (fBin gMul (fC (.int 2)) (fVar 1))) (fVar 2)) ρ S7 = .ok (.int (1 + 2 * (a : Nat) + (b : Nat))) S7 := by simp [r1, r2, r3, r4, m2]
  obtain ⟨S8, q8, h9, k8n, l8n⟩ := fldC_step (cs := ["Floor"]) (f := "new_first") (g := "new_top") (fs1 := [("store", (.oid S.length)), ("young_places", (.int (a : Nat))), ("half_places", (.int (b : Nat))), ("barrier", kd), ("most_age", g), ("young_first", (.int 1)), ("young_top", (.int 1)), ("young_spare", (.int (1 + (a : Nat)))), ("old_first", (.int (1 + 2 * (a : Nat)))), ("old_top", (.int (1 + 2 * (a : Nat)))), ("new_first", (.int (1 + 2 * (a : Nat) + (b : Nat))))]) (fs' := [("store", (.oid S.length)), ("young_places", (.int (a : Nat))), ("half_places", (.int (b : Nat))), ("barrier", kd), ("most_age", g), ("young_first", (.int 1)), ("young_top", (.int 1)), ("young_spare", (.int (1 + (a : Nat)))), ("old_first", (.int (1 + 2 * (a : Nat)))), ("old_top", (.int (1 + 2 * (a : Nat)))), ("new_first", (.int (1 + 2 * (a : Nat) + (b : Nat)))), ("new_top", (.int (1 + 2 * (a : Nat) + (b : Nat))))]) e8 r0 h8 (by simp) (by simp) (by simp) (putFD_new (by rfl)) (putFD_new (by rfl))
  have e9 : (fC (.str "rest")) ρ S8 = .ok (.str "rest") S8 := by simp [r1, r2, r3, r4, m2]
  obtain ⟨S9, q9, h10, k9n, l9n⟩ := fld_step (cs := ["Floor"]) (f := "phase") (fs' := [("store", (.oid S.length)), ("young_places", (.int (a : Nat))), ("half_places", (.int (b : Nat))), ("barrier", kd), ("most_age", g), ("young_first", (.int 1)), ("young_top", (.int 1)), ("young_spare", (.int (1 + (a : Nat)))), ("old_first", (.int (1 + 2 * (a : Nat)))), ("old_top", (.int (1 + 2 * (a : Nat)))), ("new_first", (.int (1 + 2 * (a : Nat) + (b : Nat)))), ("new_top", (.int (1 + 2 * (a : Nat) + (b : Nat)))), ("phase", (.str "rest"))]) e9 (r0 _) h9 (by simp) (by simp) (putFD_new (by rfl))
  have e10 : (fC (.int 0)) ρ S9 = .ok (.int 0) S9 := by simp [r1, r2, r3, r4, m2]
  obtain ⟨S10, q10, h11, k10n, l10n⟩ := fld_step (cs := ["Floor"]) (f := "cursor") (fs' := [("store", (.oid S.length)), ("young_places", (.int (a : Nat))), ("half_places", (.int (b : Nat))), ("barrier", kd), ("most_age", g), ("young_first", (.int 1)), ("young_top", (.int 1)), ("young_spare", (.int (1 + (a : Nat)))), ("old_first", (.int (1 + 2 * (a : Nat)))), ("old_top", (.int (1 + 2 * (a : Nat)))), ("new_first", (.int (1 + 2 * (a : Nat) + (b : Nat)))), ("new_top", (.int (1 + 2 * (a : Nat) + (b : Nat)))), ("phase", (.str "rest")), ("cursor", (.int 0))]) e10 (r0 _) h10 (by simp) (by simp) (putFD_new (by rfl))
  have e11 : (fLstO (fun _ S => .ok [] S)) ρ S10 = .ok (.oid S10.length) (S10 ++ [.lst []]) := by simp
  obtain ⟨S11, q11, h12, k11n, l11n⟩ := fld_step (cs := ["Floor"]) (f := "greys") (fs' := [("store", (.oid S.length)), ("young_places", (.int (a : Nat))), ("half_places", (.int (b : Nat))), ("barrier", kd), ("most_age", g), ("young_first", (.int 1)), ("young_top", (.int 1)), ("young_spare", (.int (1 + (a : Nat)))), ("old_first", (.int (1 + 2 * (a : Nat)))), ("old_top", (.int (1 + 2 * (a : Nat)))), ("new_first", (.int (1 + 2 * (a : Nat) + (b : Nat)))), ("new_top", (.int (1 + 2 * (a : Nat) + (b : Nat)))), ("phase", (.str "rest")), ("cursor", (.int 0)), ("greys", (.oid S10.length))]) e11 (r0 _) (app_old h11) (by simp) (by simp) (putFD_new (by rfl))
  have e12 : fDict0 ρ S11 = .ok (.oid S11.length) (S11 ++ [.dic []]) := rfl
  obtain ⟨S12, q12, h13, k12n, l12n⟩ := fld_step (cs := ["Floor"]) (f := "far_places") (fs' := [("store", (.oid S.length)), ("young_places", (.int (a : Nat))), ("half_places", (.int (b : Nat))), ("barrier", kd), ("most_age", g), ("young_first", (.int 1)), ("young_top", (.int 1)), ("young_spare", (.int (1 + (a : Nat)))), ("old_first", (.int (1 + 2 * (a : Nat)))), ("old_top", (.int (1 + 2 * (a : Nat)))), ("new_first", (.int (1 + 2 * (a : Nat) + (b : Nat)))), ("new_top", (.int (1 + 2 * (a : Nat) + (b : Nat)))), ("phase", (.str "rest")), ("cursor", (.int 0)), ("greys", (.oid S10.length)), ("far_places", (.oid S11.length))]) e12 (r0 _) (app_old h12) (by simp) (by simp) (putFD_new (by rfl))
  have e13 : fDict0 ρ S12 = .ok (.oid S12.length) (S12 ++ [.dic []]) := rfl
  obtain ⟨S13, q13, h14, k13n, l13n⟩ := fld_step (cs := ["Floor"]) (f := "tie_places") (fs' := [("store", (.oid S.length)), ("young_places", (.int (a : Nat))), ("half_places", (.int (b : Nat))), ("barrier", kd), ("most_age", g), ("young_first", (.int 1)), ("young_top", (.int 1)), ("young_spare", (.int (1 + (a : Nat)))), ("old_first", (.int (1 + 2 * (a : Nat)))), ("old_top", (.int (1 + 2 * (a : Nat)))), ("new_first", (.int (1 + 2 * (a : Nat) + (b : Nat)))), ("new_top", (.int (1 + 2 * (a : Nat) + (b : Nat)))), ("phase", (.str "rest")), ("cursor", (.int 0)), ("greys", (.oid S10.length)), ("far_places", (.oid S11.length)), ("tie_places", (.oid S12.length))]) e13 (r0 _) (app_old h13) (by simp) (by simp) (putFD_new (by rfl))
  have e14 : fDict0 ρ S13 = .ok (.oid S13.length) (S13 ++ [.dic []]) := rfl
  obtain ⟨S14, q14, h15, k14n, l14n⟩ := fld_step (cs := ["Floor"]) (f := "last_places") (fs' := [("store", (.oid S.length)), ("young_places", (.int (a : Nat))), ("half_places", (.int (b : Nat))), ("barrier", kd), ("most_age", g), ("young_first", (.int 1)), ("young_top", (.int 1)), ("young_spare", (.int (1 + (a : Nat)))), ("old_first", (.int (1 + 2 * (a : Nat)))), ("old_top", (.int (1 + 2 * (a : Nat)))), ("new_first", (.int (1 + 2 * (a : Nat) + (b : Nat)))), ("new_top", (.int (1 + 2 * (a : Nat) + (b : Nat)))), ("phase", (.str "rest")), ("cursor", (.int 0)), ("greys", (.oid S10.length)), ("far_places", (.oid S11.length)), ("tie_places", (.oid S12.length)), ("last_places", (.oid S13.length))]) e14 (r0 _) (app_old h14) (by simp) (by simp) (putFD_new (by rfl))
  have e15 : (fC (.int 0)) ρ S14 = .ok (.int 0) S14 := by simp [r1, r2, r3, r4, m2]
  obtain ⟨S15, q15, h16, k15n, l15n⟩ := fld_step (cs := ["Floor"]) (f := "serials_made") (fs' := [("store", (.oid S.length)), ("young_places", (.int (a : Nat))), ("half_places", (.int (b : Nat))), ("barrier", kd), ("most_age", g), ("young_first", (.int 1)), ("young_top", (.int 1)), ("young_spare", (.int (1 + (a : Nat)))), ("old_first", (.int (1 + 2 * (a : Nat)))), ("old_top", (.int (1 + 2 * (a : Nat)))), ("new_first", (.int (1 + 2 * (a : Nat) + (b : Nat)))), ("new_top", (.int (1 + 2 * (a : Nat) + (b : Nat)))), ("phase", (.str "rest")), ("cursor", (.int 0)), ("greys", (.oid S10.length)), ("far_places", (.oid S11.length)), ("tie_places", (.oid S12.length)), ("last_places", (.oid S13.length)), ("serials_made", (.int 0))]) e15 (r0 _) h15 (by simp) (by simp) (putFD_new (by rfl))
  have e16 : (fLstO (fun _ S => .ok [] S)) ρ S15 = .ok (.oid S15.length) (S15 ++ [.lst []]) := by simp
  obtain ⟨S16, q16, h17, k16n, l16n⟩ := fld_step (cs := ["Floor"]) (f := "told_news") (fs' := [("store", (.oid S.length)), ("young_places", (.int (a : Nat))), ("half_places", (.int (b : Nat))), ("barrier", kd), ("most_age", g), ("young_first", (.int 1)), ("young_top", (.int 1)), ("young_spare", (.int (1 + (a : Nat)))), ("old_first", (.int (1 + 2 * (a : Nat)))), ("old_top", (.int (1 + 2 * (a : Nat)))), ("new_first", (.int (1 + 2 * (a : Nat) + (b : Nat)))), ("new_top", (.int (1 + 2 * (a : Nat) + (b : Nat)))), ("phase", (.str "rest")), ("cursor", (.int 0)), ("greys", (.oid S10.length)), ("far_places", (.oid S11.length)), ("tie_places", (.oid S12.length)), ("last_places", (.oid S13.length)), ("serials_made", (.int 0)), ("told_news", (.oid S15.length))]) e16 (r0 _) (app_old h16) (by simp) (by simp) (putFD_new (by rfl))
  have L0 : S.length < S0.length := by rw [l0n, List.length_append]; simp
  have L1 : S0.length ≤ S1.length := by rw [l1n]; exact Nat.le_refl _
  have L2 : S1.length ≤ S2.length := by rw [l2n]; exact Nat.le_refl _
  have L3 : S2.length ≤ S3.length := by rw [l3n]; exact Nat.le_refl _
  have L4 : S3.length ≤ S4.length := by rw [l4n]; exact Nat.le_refl _
  have L5 : S4.length ≤ S5.length := by rw [l5n]; exact Nat.le_refl _
  have L6 : S5.length ≤ S6.length := by rw [l6n]; exact Nat.le_refl _
  have L7 : S6.length ≤ S7.length := by rw [l7n]; exact Nat.le_refl _
  have L8 : S7.length ≤ S8.length := by rw [l8n]; exact Nat.le_refl _
  have L9 : S8.length ≤ S9.length := by rw [l9n]; exact Nat.le_refl _
  have L10 : S9.length ≤ S10.length := by rw [l10n]; exact Nat.le_refl _
  have L11 : S10.length ≤ S11.length := by rw [l11n, List.length_append]; omega
  have L12 : S11.length ≤ S12.length := by rw [l12n, List.length_append]; omega
  have L13 : S12.length ≤ S13.length := by rw [l13n, List.length_append]; omega
  have L14 : S13.length ≤ S14.length := by rw [l14n, List.length_append]; omega
  have L15 : S14.length ≤ S15.length := by rw [l15n]; exact Nat.le_refl _
  have L16 : S15.length ≤ S16.length := by rw [l16n, List.length_append]; omega
  have K16 : Kn n S16 S16 := .refl _ _
  have K15 : Kn n S15 S16 := ((Kn.app n S15 _).trans k16n).trans K16
  have K14 : Kn n S14 S16 := k15n.trans K15
  have K13 : Kn n S13 S16 := ((Kn.app n S13 _).trans k14n).trans K14
  have K12 : Kn n S12 S16 := ((Kn.app n S12 _).trans k13n).trans K13
  have K11 : Kn n S11 S16 := ((Kn.app n S11 _).trans k12n).trans K12
  have K10 : Kn n S10 S16 := ((Kn.app n S10 _).trans k11n).trans K11
  have K9 : Kn n S9 S16 := k10n.trans K10
  have K8 : Kn n S8 S16 := k9n.trans K9
  have K7 : Kn n S7 S16 := k8n.trans K8
  have K6 : Kn n S6 S16 := k7n.trans K7
  have K5 : Kn n S5 S16 := k6n.trans K6
  have K4 : Kn n S4 S16 := k5n.trans K5
  have K3 : Kn n S3 S16 := k4n.trans K4
  have K2 : Kn n S2 S16 := k3n.trans K3
  have K1 : Kn n S1 S16 := k2n.trans K2
  have K0 : Kn n S0 S16 := k1n.trans K1
  have KS : Kn n S S16 := ((Kn.app n S _).trans k0n).trans K0
  have g0 : S16[S.length]? = some (.lst (List.replicate (1 + 2 * a + 2 * b) (.int 0))) := K0.old _ _ (by omega) (k0n.old _ _ (by omega) (by rw [List.getElem?_append_right (Nat.le_refl _), Nat.sub_self]; rfl))
  have g11 : S16[S10.length]? = some (.lst []) := K11.old _ _ (by omega) (k11n.old _ _ (by omega) (by rw [List.getElem?_append_right (Nat.le_refl _), Nat.sub_self]; rfl))
  have g12 : S16[S11.length]? = some (.dic []) := K12.old _ _ (by omega) (k12n.old _ _ (by omega) (by rw [List.getElem?_append_right (Nat.le_refl _), Nat.sub_self]; rfl))
  have g13 : S16[S12.length]? = some (.dic []) := K13.old _ _ (by omega) (k13n.old _ _ (by omega) (by rw [List.getElem?_append_right (Nat.le_refl _), Nat.sub_self]; rfl))
  have g14 : S16[S13.length]? = some (.dic []) := K14.old _ _ (by omega) (k14n.old _ _ (by omega) (by rw [List.getElem?_append_right (Nat.le_refl _), Nat.sub_self]; rfl))
  have g16 : S16[S15.length]? = some (.lst []) := K16.old _ _ (by omega) (k16n.old _ _ (by omega) (by rw [List.getElem?_append_right (Nat.le_refl _), Nat.sub_self]; rfl))
  refine ⟨S16, S.length, S10.length, S11.length, S12.length, S13.length, S15.length, ⟨h17, g0, g11, g12, g13, g14, g16⟩, KS, ⟨Nat.le_refl _, by omega, by omega, by omega, by omega, by omega⟩, ?_⟩
  have st : startD 5 [.oid n, .int (a : Nat), .int (b : Nat), kd, g] = ρ := by rw [hρ]; rfl
  unfold S_Floor_init
  rw [zfi_eq, e_semOf, st]
  unfold zfi
  have v0 : zfi0 ρ S = .nx ρ S0 := q0
  have v1 : zfi1 ρ S0 = .nx ρ S1 := q1
  have v2 : zfi2 ρ S1 = .nx ρ S2 := q2
  have v3 : zfi3 ρ S2 = .nx ρ S3 := q3
  have v4 : zfi4 ρ S3 = .nx ρ S4 := q4
  have v5 : zfi5 ρ S4 = .nx ρ S5 := q5
  have v6 : zfi6 ρ S5 = .nx ρ S6 := q6
  have v7 : zfi7 ρ S6 = .nx ρ S7 := q7
  have v8 : zfi8 ρ S7 = .nx ρ S8 := q8
  have v9 : zfi9 ρ S8 = .nx ρ S9 := q9
  have v10 : zfi10 ρ S9 = .nx ρ S10 := q10
  have v11 : zfi11 ρ S10 = .nx ρ S11 := q11
  have v12 : zfi12 ρ S11 = .nx ρ S12 := q12
  have v13 : zfi13 ρ S12 = .nx ρ S13 := q13
  have v14 : zfi14 ρ S13 = .nx ρ S14 := q14
  have v15 : zfi15 ρ S14 = .nx ρ S15 := q15
  have v16 : zfi16 ρ S15 = .nx ρ S16 := q16
  rw [e_gSeq, v0, Out.seq_nx, e_gSeq, v1, Out.seq_nx, e_gSeq, v2, Out.seq_nx, e_gSeq, v3, Out.seq_nx, e_gSeq, v4, Out.seq_nx, e_gSeq, v5, Out.seq_nx, e_gSeq, v6, Out.seq_nx, e_gSeq, v7, Out.seq_nx, e_gSeq, v8, Out.seq_nx, e_gSeq, v9, Out.seq_nx, e_gSeq, v10, Out.seq_nx, e_gSeq, v11, Out.seq_nx, e_gSeq, v12, Out.seq_nx, e_gSeq, v13, Out.seq_nx, e_gSeq, v14, Out.seq_nx, e_gSeq, v15, Out.seq_nx, v16]
  rfl
end K03

/-! A new yard. -/
namespace K03
open PySem L2 DL
theorem bsOf_map {α : Type} (g : α → Bool) : ∀ l : List α, bsOf (l.map fun x => D.bl (g x)) = some (l.map g)
  | [] => rfl
  | x :: l => by simp [bsOf, bsOf_map g l]
theorem all_bl {α : Type} (g : α → Bool) (l : List α) (S : Store) : gAllAny true [.lst (l.map fun x => D.bl (g x))] S = .ok (.bl (l.all g)) S := by
  have e : asL S (.lst (l.map fun x => D.bl (g x))) = some (l.map fun x => D.bl (g x)) := rfl
  simp only [gAllAny, e, Option.bind_some, bsOf_map]
  simp [List.all_map]
theorem whl_int {d : D} {a b : Int} (h : whl d a b = true) : ∃ i, d = .int i ∧ a ≤ i ∧ i ≤ b := by
  cases d with
  | int i =>
    simp only [whl, Bool.and_eq_true, decide_eq_true_eq] at h
    exact ⟨i, rfl, h.1, h.2⟩
  | _ => cases h
theorem whl_nat {d : D} {a b : Int} (h : whl d a b = true) (ha : 0 ≤ a) : ∃ m : Nat, d = .int (m : Nat) ∧ a ≤ m ∧ (m : Int) ≤ b := by
  obtain ⟨i, rfl, h1, h2⟩ := whl_int h
  exact ⟨i.toNat, by rw [Int.toNat_of_nonneg (by omega)], by omega, by omega⟩
theorem ground_init {S : Store} {q : Nat} {p : D} (hq : S[q]? = some (.ins "Yard" [])) (hp : Nd p) :
    (whl p 1 40 = false → S_Ground_init [.oid q, p] S = .ex "BadGround" [] S) ∧
    (whl p 1 40 = true → ∃ (m : Nat) (S' : Store) (sd qu : Nat), p = .int (m : Nat) ∧ 1 ≤ m ∧ m ≤ 40 ∧ S'[q]? = some (.ins "Yard" [("stands", .oid sd), ("queue", .oid qu)]) ∧ S'[sd]? = some (.lst (List.replicate m .non)) ∧ S'[qu]? = some (.lst []) ∧ Kn q S S' ∧ S.length ≤ sd ∧ S.length ≤ qu ∧ S_Ground_init [.oid q, p] S = .ok .non S') := by
  have cw := c_whole hp.ok hp.pu 1 40 S
  have st : startD 2 [.oid q, p] = [some (.oid q), some p] := rfl
  have k1 : short 1 = true := short_le (by omega)
  constructor
  · intro h
    rw [h] at cw
    unfold S_Ground_init
    rw [zgi_eq, e_semOf, st]
    unfold zgi
    have v0 : zgi0 [some (.oid q), some p] S = .ex "BadGround" [] [some (.oid q), some p] S := by
      unfold zgi0
      simp [cw]
    rw [e_gSeq, v0]
    rfl
  · intro h
    rw [h] at cw
    obtain ⟨m, rfl, m1, m2⟩ := whl_nat h (by decide)
    have ql := lt_of hq
    have v0 : zgi0 [some (.oid q), some (.int (m : Nat))] S = .nx [some (.oid q), some (.int (m : Nat))] S := by
      unfold zgi0
      simp [cw]
    have el : asLt S (.lst [.non]) = some [.non] := rfl
    have gr : gRepO (.lst [.non]) (.int (m : Nat)) S = .ok (.oid S.length) (S ++ [.lst (List.replicate m .non)]) := by
      simp only [gRepO, el]
      rw [if_pos ⟨by omega, by omega, by simp⟩, rep1]
    have e1 : (fBin gRepO (fLst (fCons (fC .non) (fun _ S => .ok [] S))) (fVar 1)) [some (.oid q), some (.int (m : Nat))] S = .ok (.oid S.length) (S ++ [.lst (List.replicate m .non)]) := by simp [k1, gr]
    obtain ⟨S1, q1, h1, n1, l1⟩ := fld_step (cs := ["Yard"]) (f := "stands") (fo := fVar 0) (fs' := [("stands", .oid S.length)]) e1 rfl (app_old hq) (by simp) (by simp) rfl
    have e2 : (fLstO (fun _ S => .ok [] S)) [some (.oid q), some (.int (m : Nat))] S1 = .ok (.oid S1.length) (S1 ++ [.lst []]) := by simp
    obtain ⟨S2, q2, h2, n2, l2⟩ := fld_step (cs := ["Yard"]) (f := "queue") (fo := fVar 0) (fs' := [("stands", .oid S.length), ("queue", .oid S1.length)]) e2 rfl (app_old h1) (by simp) (by simp) (putFD_new (by rfl))
    have L1 : S.length < S1.length := by rw [l1, List.length_append]; simp
    have g1 : S1[S.length]? = some (.lst (List.replicate m .non)) := n1.old _ _ (by omega) (by rw [List.getElem?_append_right (Nat.le_refl _), Nat.sub_self]; rfl)
    have g2 : S2[S.length]? = some (.lst (List.replicate m .non)) := n2.old _ _ (by omega) (app_old g1)
    have g3 : S2[S1.length]? = some (.lst []) := n2.old _ _ (by omega) (by rw [List.getElem?_append_right (Nat.le_refl _), Nat.sub_self]; rfl)
    refine ⟨m, S2, S.length, S1.length, rfl, by omega, by omega, h2, g2, g3, (((Kn.app q S _).trans n1).trans (Kn.app q S1 _)).trans n2, Nat.le_refl _, by omega, ?_⟩
    unfold S_Ground_init
    rw [zgi_eq, e_semOf, st]
    unfold zgi
    have v1 : zgi1 [some (.oid q), some (.int (m : Nat))] S = .nx [some (.oid q), some (.int (m : Nat))] S1 := q1
    have v2 : zgi2 [some (.oid q), some (.int (m : Nat))] S1 = .nx [some (.oid q), some (.int (m : Nat))] S2 := q2
    rw [e_gSeq, v0, Out.seq_nx, e_gSeq, v1, Out.seq_nx, v2]
    rfl
def kdOk : D → Bool
  | .str x => x == "first" || x == "last"
  | _ => false
structure YardAt (S : Store) (q sd qu n st gr fa ti la nw m a b : Nat) (kd g y : D) : Prop where
  yd : S[q]? = some (.ins "Yard" [("stands", .oid sd), ("queue", .oid qu), ("floor", .oid n), ("units_paid", y)])
  sO : S[sd]? = some (.lst (List.replicate m .non))
  qO : S[qu]? = some (.lst [])
  fl : FlAt S n st gr fa ti la nw a b kd g
  dq : q ≠ sd ∧ q ≠ qu ∧ q ≠ n
  dn : n ≠ st ∧ n ≠ gr ∧ n ≠ fa ∧ n ≠ ti ∧ n ≠ la ∧ n ≠ nw
/-- whether a yard of these may be -/
def gdY (p a b kd g y : D) : Bool := whl p 1 40 && (whl a 7 400 && whl b 7 400) && kdOk kd && whl g 1 3 && whl y 0 100
theorem kd_isi {kd : D} (h : okK kd = true) (S : Store) : gIsi [kd, .ty "str"] S = .ok (.bl (match kd with | .str _ => true | _ => false)) S := by
  cases kd with
  | non => simp [tyS, isiT]
  | bl x => simp [tyS, isiT]
  | int x => simp [tyS, isiT]
  | str x => simp [tyS, isiT]
  | tup x => simp [tyS, isiT]
  | lst x => simp [tyS, isiT]
  | dic x => simp [tyS, isiT]
  | _ => cases h
theorem yard_init {S : Store} {q : Nat} {p a b kd g y : D} (hq : S[q]? = some (.ins "Yard" [])) (hp : Nd p) (ha : Nd a) (hb : Nd b) (hk : Nd kd) (hg : Nd g) (hy : Nd y) :
    (gdY p a b kd g y = false → ∃ S', Kn q S S' ∧ S_Yard_init [.oid q, p, a, b, kd, g, y] S = .ex "BadGround" [] S') ∧
    (gdY p a b kd g y = true → ∃ (m a' b' : Nat) (S' : Store) (sd qu n st gr fa ti la nw : Nat), p = .int (m : Nat) ∧ a = .int (a' : Nat) ∧ b = .int (b' : Nat) ∧ m ≤ 40 ∧ a' ≤ 400 ∧ b' ≤ 400 ∧ YardAt S' q sd qu n st gr fa ti la nw m a' b' kd g y ∧ Kn q S S' ∧ S_Yard_init [.oid q, p, a, b, kd, g, y] S = .ok .non S') := by
  obtain ⟨gb, gg⟩ := ground_init hq hp
  have st0 : startD 9 [.oid q, p, a, b, kd, g, y] = [some (.oid q), some p, some a, some b, some kd, some g, some y, none, none] := rfl
  have un : S_Yard_init [.oid q, p, a, b, kd, g, y] S = (zyi [some (.oid q), some p, some a, some b, some kd, some g, some y, none, none] S).res := by
    unfold S_Yard_init
    rw [zyi_eq, e_semOf, st0]
  rw [un]
  unfold zyi
  rw [e_gSeq]
  cases hw : whl p 1 40 with
  | false =>
    have v0 : zyi0 [some (.oid q), some p, some a, some b, some kd, some g, some y, none, none] S = .ex "BadGround" [] [some (.oid q), some p, some a, some b, some kd, some g, some y, none, none] S := by
      have := gb hw
      unfold zyi0
      simp [this]
    rw [v0]
    exact ⟨fun _ => ⟨S, .refl _ _, rfl⟩, fun h => by simp [gdY, hw] at h⟩
  | true =>
    obtain ⟨m, S1, sd, qu, rfl, m1, m2, h1, hs, hu, K1, Ls, Lu, e1⟩ := gg hw
    have ql := lt_of hq
    have v0 : zyi0 [some (.oid q), some (.int (m : Nat)), some a, some b, some kd, some g, some y, none, none] S = .nx [some (.oid q), some (.int (m : Nat)), some a, some b, some kd, some g, some y, none, none] S1 := by
      unfold zyi0
      simp [e1]
    have cm := DL.comp_map (m := mName 8) (fe := fCall (callSub S_is_whole) (fun ds es => pick [(0, 0), (0, 1), (0, 2)] ds es []) 3 0 3 (fCons (fVar 8) (fCons (fC (.int (7))) (fCons (fC (.int (400))) (fun _ S => .ok [] S)))) (fun _ S => .ok [] S)) (f := fun d => D.bl (whl d 7 400)) (ρ := [some (.oid q), some (.int (m : Nat)), some a, some b, some kd, some g, some y, none, none]) (S := S1) [a, b] (fun d hd => by
      have nd : Nd d := by
        simp only [List.mem_cons, List.not_mem_nil, or_false] at hd
        rcases hd with rfl | rfl <;> assumption
      have c := c_whole nd.ok nd.pu 7 400 S1
      refine ⟨_, rfl, ?_⟩
      simp [c])
    have k2 : short 2 = true := short_le (by omega)
    have v1 : zyi1 [some (.oid q), some (.int (m : Nat)), some a, some b, some kd, some g, some y, none, none] S1 = .nx [some (.oid q), some (.int (m : Nat)), some a, some b, some kd, some g, some y, some (.lst ([a, b].map fun d => D.bl (whl d 7 400))), none] S1 := by
      unfold zyi1
      simp only [e_gSet, e_fComp, e_fSeq, e_fTup, e_fCons, e_fVar, List.getElem?_cons_succ, List.getElem?_cons_zero, Res.bind_ok, List.length_cons, List.length_nil, k2, if_true, e_seqD_t, List.map_cons, List.map_nil, e_wipe1, e_wipe0, List.set_cons_succ, List.set_cons_zero]
      have cm' := cm
      simp only [List.map_cons, List.map_nil] at cm'
      erw [cm']
      simp [finL, k2]
    have al := all_bl (fun d => whl d 7 400) [a, b] S1
    have ab : [a, b].all (fun d => whl d 7 400) = (whl a 7 400 && whl b 7 400) := by simp
    rw [ab] at al
    have cg := c_whole hg.ok hg.pu 1 3 S1
    have cy := c_whole hy.ok hy.pu 0 100 S1
    have ki := kd_isi hk.ok S1
    rw [v0, Out.seq_nx, e_gSeq, v1, Out.seq_nx, e_gSeq]
    generalize ([a, b].map fun d => D.bl (whl d 7 400)) = L at *
    have v2 : zyi2 [some (.oid q), some (.int (m : Nat)), some a, some b, some kd, some g, some y, some (.lst L), none] S1 = if (whl a 7 400 && whl b 7 400) && whl g 1 3 && whl y 0 100 then .nx [some (.oid q), some (.int (m : Nat)), some a, some b, some kd, some g, some y, some (.lst L), none] S1 else .ex "BadGround" [] [some (.oid q), some (.int (m : Nat)), some a, some b, some kd, some g, some y, some (.lst L), none] S1 := by
      unfold zyi2
      generalize (whl a 7 400 && whl b 7 400) = A at *
      generalize whl g 1 3 = B at *
      generalize whl y 0 100 = C at *
      cases A <;> cases B <;> cases C <;> simp [al, cg, cy]
    rw [v2]
    cases hA : ((whl a 7 400 && whl b 7 400) && whl g 1 3 && whl y 0 100) with
    | false =>
      rw [if_neg Bool.false_ne_true]
      refine ⟨fun _ => ⟨S1, K1, rfl⟩, fun h => ?_⟩
      simp only [gdY, Bool.and_eq_true] at h
      simp [h.1.1.1.2.1, h.1.1.1.2.2, h.1.2, h.2] at hA
    | true =>
      rw [if_pos rfl, Out.seq_nx, e_gSeq]
      simp only [Bool.and_eq_true] at hA
      obtain ⟨⟨⟨wa, wb⟩, wg⟩, wy⟩ := hA
      obtain ⟨a', rfl, a1, a2⟩ := whl_nat wa (by decide)
      obtain ⟨b', rfl, b1, b2⟩ := whl_nat wb (by decide)
      have v3 : zyi3 [some (.oid q), some (.int (m : Nat)), some (.int (a' : Nat)), some (.int (b' : Nat)), some kd, some g, some y, some (.lst L), none] S1 = if kdOk kd then .nx [some (.oid q), some (.int (m : Nat)), some (.int (a' : Nat)), some (.int (b' : Nat)), some kd, some g, some y, some (.lst L), none] S1 else .ex "BadGround" [] [some (.oid q), some (.int (m : Nat)), some (.int (a' : Nat)), some (.int (b' : Nat)), some kd, some g, some y, some (.lst L), none] S1 := by
        unfold zyi3
        cases kd with
        | str x =>
          have ni : gNotIn (.str x) (.tup [.str "first", .str "last"]) S1 = .ok (.bl (!(x == "first" || x == "last"))) S1 := by
            have e : asQ S1 (.tup [.str "first", .str "last"]) = some [.str "first", .str "last"] := rfl
            have p1 : pDic (.str x) (.tup [.str "first", .str "last"]) S1 = false := rfl
            have i1 : inF (.str x) [.str "first", .str "last"] = (x == "first" || x == "last") := by
              simp only [inF, List.any_cons, List.any_nil, eqF, Bool.or_false]
              congr 1 <;> exact Bool.beq_comm ..
            simp only [gNotIn, p1, gInQ, e]
            simp only [Bool.false_eq_true, if_false, D.flat, List.all_cons, List.all_nil, Bool.and_true, Bool.and_self, if_true, i1]
          have niQ : gInQ true (.str x) (.tup [.str "first", .str "last"]) S1 = .ok (.bl (!(x == "first" || x == "last"))) S1 := ni
          simp only [] at ki
          have kk : kdOk (.str x) = (x == "first" || x == "last") := rfl
          rw [kk]
          clear kk
          generalize (x == "first" || x == "last") = B at *
          cases B <;> simp [ki, ni, niQ, k2]
        | _ => simp only [] at ki; simp [ki, kdOk]
      rw [v3]
      cases hK : kdOk kd with
      | false =>
        rw [if_neg Bool.false_ne_true]
        exact ⟨fun _ => ⟨S1, K1, rfl⟩, fun h => by simp [gdY, hK] at h⟩
      | true =>
        rw [if_pos rfl, Out.seq_nx, e_gSeq]
        refine ⟨fun h => by simp [gdY, hw, wa, wb, wg, wy, hK] at h, fun _ => ?_⟩
        have hn : (S1 ++ [SO.ins "Floor" []])[S1.length]? = some (.ins "Floor" []) := by
          rw [List.getElem?_append_right (Nat.le_refl _), Nat.sub_self]
          rfl
        obtain ⟨S2, st, gr, fa, ti, la, nw, F, K2, ⟨lst, lgr, lfa, lti, lla, lnw⟩, e2⟩ := floor_init (kd := kd) (g := g) (a := a') (b := b') hn (by omega) (by omega)
        have mk : (fMake (makeO S_Floor_init (fun ds es => pick [(0, 0), (1, 0), (1, 1), (1, 2), (1, 3)] ds es []) "Floor" 5) 0 4 (fun _ S => .ok [] S) (fCons (fVar 2) (fCons (fVar 3) (fCons (fVar 4) (fCons (fVar 5) (fun _ S => .ok [] S)))))) [some (.oid q), some (.int (m : Nat)), some (.int (a' : Nat)), some (.int (b' : Nat)), some kd, some g, some y, some (.lst L), none] S1 = .ok (.oid S1.length) S2 := by
          have pk : pick [(0, 0), (1, 0), (1, 1), (1, 2), (1, 3)] (.oid S1.length :: []) [.int (a' : Nat), .int (b' : Nat), kd, g] [] = [.oid S1.length, .int (a' : Nat), .int (b' : Nat), kd, g] := rfl
          have m1 : makeO S_Floor_init (fun ds es => pick [(0, 0), (1, 0), (1, 1), (1, 2), (1, 3)] ds es []) "Floor" 5 [] [.int (a' : Nat), .int (b' : Nat), kd, g] S1 = .ok (.oid S1.length) S2 := by
            simp only [makeO, pk, e2]
            rfl
          generalize makeO S_Floor_init (fun ds es => pick [(0, 0), (1, 0), (1, 1), (1, 2), (1, 3)] ds es []) "Floor" 5 = M at *
          simp [fMake, m1]
        have qs := lt_of h1
        have ls := lt_of hs
        have lu := lt_of hu
        have LL : S1.length ≤ (S1 ++ [SO.ins "Floor" []]).length := by rw [List.length_append]; omega
        have h2 : S2[q]? = some (.ins "Yard" [("stands", .oid sd), ("queue", .oid qu)]) := K2.old _ _ (by omega) (app_old h1)
        have s2 : S2[sd]? = some (.lst (List.replicate m .non)) := K2.old _ _ (by omega) (app_old hs)
        have u2 : S2[qu]? = some (.lst []) := K2.old _ _ (by omega) (app_old hu)
        obtain ⟨S3, q3, h3, K3, l3⟩ := fld_step (cs := ["Yard"]) (f := "floor") (fo := fVar 0) (fs' := [("stands", .oid sd), ("queue", .oid qu), ("floor", .oid S1.length)]) mk rfl h2 (by simp) (by simp) (putFD_new (by rfl))
        obtain ⟨S4, q4, h4, K4, l4⟩ := fld_step (cs := ["Yard"]) (f := "units_paid") (fo := fVar 0) (fe := fVar 6) (ρ := [some (.oid q), some (.int (m : Nat)), some (.int (a' : Nat)), some (.int (b' : Nat)), some kd, some g, some y, some (.lst L), none]) (d := y) (fs' := [("stands", .oid sd), ("queue", .oid qu), ("floor", .oid S1.length), ("units_paid", y)]) (S := S3) rfl rfl h3 (by simp) (by simp) (putFD_new (by rfl))
        have K34 := K3.trans K4
        have l1 : (S1 ++ [SO.ins "Floor" []]).length = S1.length + 1 := by simp
        rw [l1] at lst lgr lfa lti lla lnw
        refine ⟨m, a', b', S4, sd, qu, S1.length, st, gr, fa, ti, la, nw, rfl, rfl, rfl, m2, by omega, by omega, ⟨h4, K34.old _ _ (by omega) s2, K34.old _ _ (by omega) u2, ⟨K34.old _ _ (by omega) F.fl, K34.old _ _ (by omega) F.so, K34.old _ _ (by omega) F.go, K34.old _ _ (by omega) F.fo, K34.old _ _ (by omega) F.to, K34.old _ _ (by omega) F.lo, K34.old _ _ (by omega) F.no⟩, ⟨by omega, by omega, by omega⟩, ⟨by omega, by omega, by omega, by omega, by omega, by omega⟩⟩, ?_, ?_⟩
        · refine K1.trans (Kn.trans ⟨by have := K2.len; omega, fun j o hj h => ?_⟩ K34)
          have := lt_of h
          exact K2.old _ _ (by omega) (app_old h)
        · have v4 : zyi4 [some (.oid q), some (.int (m : Nat)), some (.int (a' : Nat)), some (.int (b' : Nat)), some kd, some g, some y, some (.lst L), none] S1 = .nx [some (.oid q), some (.int (m : Nat)), some (.int (a' : Nat)), some (.int (b' : Nat)), some kd, some g, some y, some (.lst L), none] S3 := q3
          have v5 : zyi5 [some (.oid q), some (.int (m : Nat)), some (.int (a' : Nat)), some (.int (b' : Nat)), some kd, some g, some y, some (.lst L), none] S3 = .nx [some (.oid q), some (.int (m : Nat)), some (.int (a' : Nat)), some (.int (b' : Nat)), some kd, some g, some y, some (.lst L), none] S4 := q4
          rw [v4, Out.seq_nx, v5]
          rfl
end K03

/-! What a new yard tells: pegs, made, news. -/
namespace K03
open PySem L2 DL
noncomputable def zgp0 : FS := (gRet (fCB gLen (fCons (fFld ["Yard"] "stands" (fVar 0)) (fun _ S => .ok [] S))))
theorem zgp_eq : m_Ground_pegs = zgp0 := rfl
noncomputable def zym0 : FS := (gRet (fFld ["Floor"] "serials_made" (fFld ["Yard"] "floor" (fVar 0))))
theorem zym_eq : m_Yard_made = zym0 := rfl
noncomputable def zyn0 : FS := (gNameFld 1 ["Floor"] "told_news" (fFld ["Yard"] "floor" (fVar 0)) (fTup (fCons (fFld ["Floor"] "told_news" (fFld ["Yard"] "floor" (fVar 0))) (fCons (fLstO (fun _ S => .ok [] S)) (fun _ S => .ok [] S)))))
noncomputable def zyn1 : FS := (gRet (fVar 1))
noncomputable def zyn : FS := (gSeq zyn0 zyn1)
theorem zyn_eq : m_Yard_news = zyn := rfl
/-- everything that lay there stays -/
structure Ext (S S' : Store) : Prop where
  len : S.length ≤ S'.length
  old : ∀ (j : Nat) (o : SO), S[j]? = some o → S'[j]? = some o
theorem Ext.refl (S : Store) : Ext S S := ⟨Nat.le_refl _, fun _ _ h => h⟩
theorem Ext.trans {S T U : Store} (a : Ext S T) (b : Ext T U) : Ext S U := ⟨Nat.le_trans a.len b.len, fun j o h => b.old j o (a.old j o h)⟩
theorem Ext.app (S T : Store) : Ext S (S ++ T) := ⟨by rw [List.length_append]; omega, fun j x h => app_old h⟩
theorem Ext.set {S S' : Store} (e : Ext S S') {j : Nat} (hj : S.length ≤ j) (o : SO) : Ext S (S'.set j o) := ⟨by rw [List.length_set]; exact e.len, fun i x h => by
  have := lt_of h
  rw [set_ne (by omega)]
  exact e.old i x h⟩
abbrev yF (sd qu n : Nat) (y : D) : List (Str × D) := [("stands", .oid sd), ("queue", .oid qu), ("floor", .oid n), ("units_paid", y)]
section
variable {S : Store} {q sd qu n st gr fa ti la nw m a b : Nat} {kd g y : D}
theorem YardAt.ext {S' : Store} (Y : YardAt S q sd qu n st gr fa ti la nw m a b kd g y) (e : Ext S S') : YardAt S' q sd qu n st gr fa ti la nw m a b kd g y :=
  ⟨e.old _ _ Y.yd, e.old _ _ Y.sO, e.old _ _ Y.qO, ⟨e.old _ _ Y.fl.fl, e.old _ _ Y.fl.so, e.old _ _ Y.fl.go, e.old _ _ Y.fl.fo, e.old _ _ Y.fl.to, e.old _ _ Y.fl.lo, e.old _ _ Y.fl.no⟩, Y.dq, Y.dn⟩
theorem YardAt.ai (Y : YardAt S q sd qu n st gr fa ti la nw m a b kd g y) : asI S (.oid q) = some (("Yard" : Str), yF sd qu n y) := by simp [asI, Y.yd]
theorem YardAt.af (Y : YardAt S q sd qu n st gr fa ti la nw m a b kd g y) : asI S (.oid n) = some (("Floor" : Str), fF st gr fa ti la nw a b kd g) := by simp [asI, Y.fl.fl]
theorem yl_sd : (yF sd qu n y).lookup ("stands" : Str) = some (.oid sd) := rfl
theorem yl_qu : (yF sd qu n y).lookup ("queue" : Str) = some (.oid qu) := rfl
theorem yl_fl : (yF sd qu n y).lookup ("floor" : Str) = some (.oid n) := rfl
theorem yl_no : (yF sd qu n y).lookup ("pegs" : Str) = none ∧ (yF sd qu n y).lookup ("made" : Str) = none ∧ (yF sd qu n y).lookup ("news" : Str) = none ∧ (yF sd qu n y).lookup ("picture" : Str) = none ∧ (yF sd qu n y).lookup ("serials" : Str) = none ∧ (yF sd qu n y).lookup ("seen_places" : Str) = none ∧ (yF sd qu n y).lookup ("step" : Str) = none ∧ (yF sd qu n y).lookup ("what" : Str) = none ∧ (yF sd qu n y).lookup ("sure_pegs" : Str) = none ∧ (yF sd qu n y).lookup ("goal" : Str) = none := ⟨rfl, rfl, rfl, rfl, rfl, rfl, rfl, rfl, rfl, rfl⟩
theorem fl_no : (fF st gr fa ti la nw a b kd g).lookup ("places" : Str) = none ∧ (fF st gr fa ti la nw a b kd g).lookup ("there_word" : Str) = none ∧ (fF st gr fa ti la nw a b kd g).lookup ("serial_of" : Str) = none := ⟨rfl, rfl, rfl⟩
theorem fl_news : (fF st gr fa ti la nw a b kd g).lookup ("told_news" : Str) = some (.oid nw) := rfl
theorem fl_made : (fF st gr fa ti la nw a b kd g).lookup ("serials_made" : Str) = some (.int 0) := rfl
theorem fl_phase : (fF st gr fa ti la nw a b kd g).lookup ("phase" : Str) = some (.str "rest") := rfl
theorem len_oY {S : Store} {n : Nat} {xs : List D} (h : S[n]? = some (.lst xs)) (hl : xs.length ≤ 100000) : gLen [.oid n] S = .ok (.int xs.length) S := by
  have e1 : isDic1 [.oid n] S = false := by simp [isDic1, asD, h]
  have e2 : isStr1 [.oid n] S = false := by simp [isStr1]
  have sh : short xs.length = true := short_le (by omega)
  simp [gLen, e1, e2, gLenQ, asQ, asL, h, sh]
theorem pegs_y (Y : YardAt S q sd qu n st gr fa ti la nw m a b kd g y) (hm : m ≤ 40) : S_Ground_pegs [.oid q] S = .ok (.int (m : Nat)) S := by
  have l := len_oY Y.sO (by simp; omega)
  rw [List.length_replicate] at l
  have ai := Y.ai
  unfold S_Ground_pegs
  rw [zgp_eq]
  unfold zgp0
  simp [List.replicate, ai, yl_sd, l]
theorem made_y (Y : YardAt S q sd qu n st gr fa ti la nw m a b kd g y) : S_Yard_made [.oid q] S = .ok (.int 0) S := by
  have ai := Y.ai
  have af := Y.af
  unfold S_Yard_made
  rw [zym_eq]
  unfold zym0
  simp [List.replicate, ai, af, yl_fl, fl_made]
theorem news_put (w : Nat) : putFD "told_news" (.oid w) (fF st gr fa ti la nw a b kd g) = fF st gr fa ti la w a b kd g := by rfl
theorem news_y (Y : YardAt S q sd qu n st gr fa ti la nw m a b kd g y) : ∃ S', S_Yard_news [.oid q] S = .ok (.oid nw) S' ∧ YardAt S' q sd qu n st gr fa ti la S.length m a b kd g y ∧ S'[nw]? = some (.lst []) ∧ Kn n S S' := by
  have ai := Y.ai
  have af := Y.af
  have ln := lt_of Y.fl.fl
  have ai1 : asI (S ++ [SO.lst []]) (.oid q) = some (("Yard" : Str), yF sd qu n y) := by simp [asI, app_old Y.yd]
  have k2 : short 2 = true := short_le (by omega)
  have fn : (S ++ [SO.lst []])[n]? = some (.ins "Floor" (fF st gr fa ti la nw a b kd g)) := app_old Y.fl.fl
  have sf : stFld ["Floor"] "told_news" (.oid n) (.oid S.length) (S ++ [SO.lst []]) = some ((S ++ [SO.lst []]).set n (.ins "Floor" (fF st gr fa ti la S.length a b kd g))) := by
    unfold stFld
    simp only [fn]
    rw [if_pos ⟨by simp, by simp [fF]⟩, news_put]
  have kn : Kn n S ((S ++ [SO.lst []]).set n (.ins "Floor" (fF st gr fa ti la S.length a b kd g))) := (Kn.app n S _).trans (.set _ _ _)
  obtain ⟨d1, d2, d3, d4, d5, d6⟩ := Y.dn
  obtain ⟨c1, c2, c3⟩ := Y.dq
  have lsd := lt_of Y.sO
  have lqu := lt_of Y.qO
  refine ⟨_, ?_, ⟨kn.old _ _ c3 Y.yd, kn.old _ _ ?_ Y.sO, kn.old _ _ ?_ Y.qO, ⟨set_eq fn, kn.old _ _ (Ne.symm d1) Y.fl.so, kn.old _ _ (Ne.symm d2) Y.fl.go, kn.old _ _ (Ne.symm d3) Y.fl.fo, kn.old _ _ (Ne.symm d4) Y.fl.to, kn.old _ _ (Ne.symm d5) Y.fl.lo, ?_⟩, Y.dq, ⟨d1, d2, d3, d4, d5, by omega⟩⟩, kn.old _ _ (Ne.symm d6) Y.fl.no, kn⟩
  · unfold S_Yard_news
    rw [zyn_eq]
    unfold zyn zyn0 zyn1 gNameFld
    generalize hF : fF st gr fa ti la S.length a b kd g = F2 at *
    simp [List.replicate, ai, af, yl_fl, fl_news, k2, ai1, sf]
  · intro e
    have := Y.sO
    rw [e, Y.fl.fl] at this
    cases this
  · intro e
    have := Y.qO
    rw [e, Y.fl.fl] at this
    cases this
  · rw [set_ne (by omega), List.getElem?_append_right (Nat.le_refl _), Nat.sub_self]
    rfl
end
end K03

/-! The picture of a new yard. -/
namespace K03
open PySem L2 DL
noncomputable def zfp0 : FS := (gSet 3 (fLstO (fun _ S => .ok [] S)))
noncomputable def zfp1b0 : FS := (gExpr (fBM "list" gApp (fVar 3) (fCons (fVar 1) (fun _ S => .ok [] S))))
noncomputable def zfp1b1 : FS := (gAug 1 (fMeth S_Floor_size (fun ds es => pick [(0, 0), (0, 1)] ds es []) "Floor" "size" 2 0 2 (fVar 0) (fCons (fVar 1) (fun _ S => .ok [] S)) (fun _ S => .ok [] S)) (gIp fun i j => i + j))
noncomputable def zfp1b : FS := (gSeq zfp1b0 zfp1b1)
noncomputable def zfp1c : FT := (toB (fBin gLt (fVar 1) (fVar 2)))
noncomputable def zfp1 : FS := (whileF zfp1c zfp1b 100000)
noncomputable def zfp2 : FS := (gRet (fFrz (fVar 3)))
noncomputable def zfp : FS := (gSeq zfp0 (gSeq zfp1 zfp2))
theorem zfp_eq : m_Floor_places = zfp := rfl
noncomputable def zyp0 : FS := (gSet 1 (fFld ["Yard"] "floor" (fVar 0)))
noncomputable def zyp1 : FS := (gSet 2 (fDisp (fPs (fC (.str "young")) (fTup (fCons (fFld ["Floor"] "young_first" (fVar 1)) (fCons (fFld ["Floor"] "young_top" (fVar 1)) (fCons (fBin gAdd (fFld ["Floor"] "young_first" (fVar 1)) (fFld ["Floor"] "young_places" (fVar 1))) (fun _ S => .ok [] S))))) (fPs (fC (.str "old")) (fTup (fCons (fFld ["Floor"] "old_first" (fVar 1)) (fCons (fFld ["Floor"] "old_top" (fVar 1)) (fCons (fBin gAdd (fFld ["Floor"] "old_first" (fVar 1)) (fFld ["Floor"] "half_places" (fVar 1))) (fun _ S => .ok [] S))))) (fPs (fC (.str "new")) (fTup (fCons (fFld ["Floor"] "new_first" (fVar 1)) (fCons (fFld ["Floor"] "new_top" (fVar 1)) (fCons (fBin gAdd (fFld ["Floor"] "new_first" (fVar 1)) (fFld ["Floor"] "half_places" (fVar 1))) (fun _ S => .ok [] S))))) fPs0)))))
noncomputable def zyp2 : FS := (gSet 3 (fDisp (fPs (fC (.str "kind")) (fFld ["Floor"] "barrier" (fVar 1)) (fPs (fC (.str "phase")) (fFld ["Floor"] "phase" (fVar 1)) (fPs (fC (.str "ages")) (fFld ["Floor"] "most_age" (fVar 1)) (fPs (fC (.str "next")) (fFld ["Floor"] "cursor" (fVar 1)) fPs0))))))
noncomputable def zyp3 : FS := (gExpr (fBM "dict" gUpd (fVar 3) (fCons (fVar 2) (fun _ S => .ok [] S))))
noncomputable def zyp4 : FS := (gSet 4 (fCB gSorted (fCons (fComp2 (fValsJ (fVar 2)) (mTup 3 (mCons (mName 5) (mCons (mName 6) (mCons (mName 7) (fun ds ρ _ => match ds with | [] => some ρ | _ => none))))) fYes (fSeq (fMeth S_Floor_places (fun ds es => pick [(0, 0), (0, 1), (0, 2)] ds es []) "Floor" "places" 3 0 3 (fVar 1) (fCons (fVar 5) (fCons (fVar 6) (fun _ S => .ok [] S))) (fun _ S => .ok [] S))) (mName 8) fYes (fVar 8) ([("first", 5), ("top", 6), ("end", 7), ("place", 8)].map (·.2)) [8] finL) (fun _ S => .ok [] S))))
noncomputable def zyp5 : FS := (gPut (fVar 3) (fC (.str "cells")) (fComp (fSeq (fVar 4)) (mName 8) fYes (fCall (callSub S_pictured) (fun ds es => pick [(0, 0), (0, 1)] ds es []) 2 0 2 (fCons (fVar 1) (fCons (fVar 8) (fun _ S => .ok [] S))) (fun _ S => .ok [] S)) ([("place", 8)].map (·.2)) finL))
noncomputable def zyp6 : FS := (gPut (fVar 3) (fC (.str "pegs")) (fCB gList (fCons (fFld ["Yard"] "stands" (fVar 0)) (fun _ S => .ok [] S))))
noncomputable def zyp7 : FS := (gPut (fVar 3) (fC (.str "due")) (fCB gList (fCons (fFld ["Yard"] "queue" (fVar 0)) (fun _ S => .ok [] S))))
noncomputable def zyp8 : FS := (gPut (fVar 3) (fC (.str "far")) (fCB gSortDI (fCons (fFld ["Floor"] "far_places" (fVar 1)) (fun _ S => .ok [] S))))
noncomputable def zyp9 : FS := (gPut (fVar 3) (fC (.str "ties")) (fCB gSortDI (fCons (fFld ["Floor"] "tie_places" (fVar 1)) (fun _ S => .ok [] S))))
noncomputable def zyp10 : FS := (gPut (fVar 3) (fC (.str "lasts")) (fCB gSortDI (fCons (fFld ["Floor"] "last_places" (fVar 1)) (fun _ S => .ok [] S))))
noncomputable def zyp11 : FS := (gRet (fFrz (fVar 3)))
noncomputable def zyp : FS := (gSeq zyp0 (gSeq zyp1 (gSeq zyp2 (gSeq zyp3 (gSeq zyp4 (gSeq zyp5 (gSeq zyp6 (gSeq zyp7 (gSeq zyp8 (gSeq zyp9 (gSeq zyp10 zyp11)))))))))))
theorem zyp_eq : m_Yard_picture = zyp := rfl
theorem put_new {ks : List (Key × D)} {k : Key} {d : D} (h : k ∉ ks.map (·.1)) : putKD ks k d = ks ++ [(k, d)] := by
  have any : (ks.any fun q => decide (q.1 = k)) = false := by
    rw [List.any_eq_false]
    intro q hq
    have : q.1 ≠ k := fun e => h (e ▸ List.mem_map.mpr ⟨q, hq, rfl⟩)
    simpa using this
  unfold putKD
  rw [any]
  simp
theorem merge_new : ∀ (ms ks : List (Key × D)), ((ks ++ ms).map (·.1)).Nodup → mergeD ks ms = ks ++ ms
  | [], ks, _ => by simp [mergeD]
  | q :: ms, ks, nd => by
    have nk : q.1 ∉ ks.map (·.1) := fun h => by
      rw [List.map_append, List.nodup_append] at nd
      exact nd.2.2 _ h _ (by simp) rfl
    have ih := merge_new ms (ks ++ [q]) (by rw [List.append_assoc]; exact nd)
    unfold mergeD at ih ⊢
    rw [List.foldl_cons, put_new nk]
    rw [ih, List.append_assoc]
    rfl
theorem disp_run {l : List (D × D)} {ks : List (Key × D)} (hk : keysK l = some ks) (h15 : ks.length ≤ 15) (hm : mergeD [] ks = ks) (S : Store) : dispAt S.length l (S ++ [.dic []]) = .ok (.oid S.length) (S ++ [.dic ks]) := by
  unfold dispAt
  have g : (S ++ [SO.dic []])[S.length]? = some (.dic []) := by
    rw [List.getElem?_append_right (Nat.le_refl _), Nat.sub_self]
    rfl
  rw [hk, g]
  simp only
  rw [if_pos h15, hm, List.set_append_right _ _ (Nat.le_refl _), Nat.sub_self]
  rfl
theorem new_at (S : Store) (o : SO) : (S ++ [o])[S.length]? = some o := by
  rw [List.getElem?_append_right (Nat.le_refl _), Nat.sub_self]
  rfl
section
variable {S : Store} {q sd qu n st gr fa ti la nw m a b : Nat} {kd g y : D}
theorem places_y (x : D) (f : Int) (S : Store) : S_Floor_places [x, .int f, .int f] S = .ok (.lst []) (S ++ [.frz (.lst [])]) := by
  have st : startD 4 [x, .int f, .int f] = [some x, some (.int f), some (.int f), none] := rfl
  unfold S_Floor_places
  rw [zfp_eq, e_semOf, st]
  unfold zfp
  have v0 : zfp0 [some x, some (.int f), some (.int f), none] S = .nx [some x, some (.int f), some (.int f), some (.oid S.length)] (S ++ [.lst []]) := by
    unfold zfp0
    simp
  have vc : zfp1c [some x, some (.int f), some (.int f), some (.oid S.length)] (S ++ [SO.lst []]) = .ok false (S ++ [.lst []]) := by
    unfold zfp1c
    simp
  have v1 : zfp1 [some x, some (.int f), some (.int f), some (.oid S.length)] (S ++ [SO.lst []]) = .nx [some x, some (.int f), some (.int f), some (.oid S.length)] (S ++ [.lst []]) := by
    unfold zfp1
    exact whileF_end (n := 99999) vc
  rw [e_gSeq, v0, Out.seq_nx, e_gSeq, v1, Out.seq_nx]
  have nt := new_at S (.lst [])
  have st2 : (S ++ [SO.lst []]).set S.length (.frz (.lst [])) = S ++ [.frz (.lst [])] := by
    rw [List.set_append_right _ _ (Nat.le_refl _), Nat.sub_self]
    rfl
  unfold zfp2
  rw [e_gRet]
  have fv : fVar 3 [some x, some (.int f), some (.int f), some (.oid S.length)] (S ++ [SO.lst []]) = .ok (.oid S.length) (S ++ [.lst []]) := rfl
  unfold fFrz
  rw [fv]
  simp only [Res.bind_ok, nt, st2]
  rfl
def partsK (a b : Nat) : List (Key × D) := [(.inr "young", .tup [.int 1, .int 1, .int (1 + (a : Nat))]), (.inr "old", .tup [.int (1 + 2 * (a : Nat)), .int (1 + 2 * (a : Nat)), .int (1 + 2 * (a : Nat) + (b : Nat))]), (.inr "new", .tup [.int (1 + 2 * (a : Nat) + (b : Nat)), .int (1 + 2 * (a : Nat) + (b : Nat)), .int (1 + 2 * (a : Nat) + (b : Nat) + (b : Nat))])]
def headK (kd g : D) : List (Key × D) := [(.inr "kind", kd), (.inr "phase", .str "rest"), (.inr "ages", g), (.inr "next", .int 0)]
def picK (m a b : Nat) (kd g : D) : List (Key × D) := headK kd g ++ partsK a b ++ [(.inr "cells", .lst []), (.inr "pegs", .lst (List.replicate m .non)), (.inr "due", .lst []), (.inr "far", .lst []), (.inr "ties", .lst []), (.inr "lasts", .lst [])]
theorem put_step {k : Str} {fe : FE} {ρ : EnvD} {T : Store} {F : Nat} {d : D} {ks : List (Key × D)} (he : fe ρ T = .ok d T) (ho : ρ[3]? = some (some (.oid F))) (hF : T[F]? = some (.dic ks)) (hl : ks.length ≤ 1000) (hn : (Sum.inr k : Key) ∉ ks.map (·.1)) :
    gPut (fVar 3) (fC (.str k)) fe ρ T = .nx ρ (T.set F (.dic (ks ++ [(.inr k, d)]))) := by
  have sz : ks.length < sizeLine := by rw [sizeLine_eq]; omega
  have fv : fVar 3 ρ T = .ok (.oid F) T := by simp [ho]
  have fc : fC (.str k) ρ T = .ok (.str k) T := rfl
  have kd : keyD (.str k) = some (.inr k) := rfl
  unfold gPut
  rw [he]
  simp only [Res.into_ok, fv, fc]
  unfold storeAt
  simp only [hF, kd]
  rw [if_pos sz, put_new hn]
theorem sortDI_nil {j : Nat} {T : Store} (h : T[j]? = some (.dic [])) : gSortDI [.oid j] T = .ok (.lst []) T := by
  have e : asD T (.oid j) = some [] := by simp [asD, h]
  simp [gSortDI, e, keysI]
  rfl
end
end K03

/-! The picture of a new yard: all of it. -/
namespace K03
open PySem L2 DL
section
variable {S : Store} {q sd qu n st gr fa ti la nw m a b : Nat} {kd g y : D}
noncomputable abbrev tg3 : FG := (mTup 3 (mCons (mName 5) (mCons (mName 6) (mCons (mName 7) (fun ds ρ _ => match ds with | [] => some ρ | _ => none)))))
noncomputable abbrev fi3 : FI := (fSeq (fMeth S_Floor_places (fun ds es => pick [(0, 0), (0, 1), (0, 2)] ds es []) "Floor" "places" 3 0 3 (fVar 1) (fCons (fVar 5) (fCons (fVar 6) (fun _ S => .ok [] S))) (fun _ S => .ok [] S)))
theorem comp2_e (x0 x2 x3 : Option D) (hn : n < S.length) (hF : S[n]? = some (.ins "Floor" (fF st gr fa ti la nw a b kd g))) : ∀ (its : List (Int × Int)) (T : Store), Ext S T → ∃ T', comp2F none tg3 fYes fi3 (mName 8) fYes (fVar 8) [8] (its.map fun z => D.tup [.int z.1, .int z.1, .int z.2]) [x0, some (.oid n), x2, x3, none, none, none, none, none] T = .ok [] T' ∧ Ext T T'
  | [], T, e => ⟨T, by rw [List.map_nil, comp2F, if_pos (by trivial)], .refl T⟩
  | z :: its, T, e => by
    have af : asI T (.oid n) = some (("Floor" : Str), fF st gr fa ti la nw a b kd g) := by
      have := e.old _ _ hF
      simp [asI, this]
    have pl := places_y (.oid n) z.1 T
    have no := (fl_no (st := st) (gr := gr) (fa := fa) (ti := ti) (la := la) (nw := nw) (a := a) (b := b) (kd := kd) (g := g)).1
    obtain ⟨T', e1, E1⟩ := comp2_e x0 x2 x3 hn hF its (T ++ [.frz (.lst [])]) (e.trans (.app _ _))
    refine ⟨T', ?_, (Ext.app _ _).trans E1⟩
    have tgv : tg3 (.tup [.int z.1, .int z.1, .int z.2]) [x0, some (.oid n), x2, x3, none, none, none, none, none] T = some [x0, some (.oid n), x2, x3, none, some (.int z.1), some (.int z.1), some (.int z.2), none] := rfl
    have fv : fi3 [x0, some (.oid n), x2, x3, none, some (.int z.1), some (.int z.1), some (.int z.2), none] T = .ok ⟨[], none⟩ (T ++ [.frz (.lst [])]) := by
      generalize fF st gr fa ti la nw a b kd g = F at *
      unfold fi3
      simp [fMeth, af, no, pl]
    have cn : ∀ ρ S, compF none (mName 8) fYes (fVar 8) [] ρ S = .ok [] S := fun ρ S => by unfold compF; rw [if_pos (by trivial)]
    rw [List.map_cons, comp2F, if_pos (by trivial), tgv]
    simp only [fYes, Res.noEx_ok, Res.bind_ok, if_true, fv, cn, e1, List.append_nil]
theorem pic_y (Y : YardAt S q sd qu n st gr fa ti la nw m a b kd g y) (hm : m ≤ 40) : ∃ S', S_Yard_picture [.oid q] S = .ok (.dic (picK m a b kd g)) S' ∧ Ext S S' := by
  have st0 : startD 9 [.oid q] = [some (.oid q), none, none, none, none, none, none, none, none] := rfl
  have un : S_Yard_picture [.oid q] S = (zyp [some (.oid q), none, none, none, none, none, none, none, none] S).res := by
    unfold S_Yard_picture
    rw [zyp_eq, e_semOf, st0]
  rw [un]
  have ai := Y.ai
  have v0 : zyp0 [some (.oid q), none, none, none, none, none, none, none, none] S = .nx [some (.oid q), some (.oid n), none, none, none, none, none, none, none] S := by
    unfold zyp0
    simp [ai, yl_fl]
  obtain ⟨T1, hT1⟩ : ∃ T1, T1 = S ++ [SO.dic (partsK a b)] := ⟨_, rfl⟩
  have E1 : Ext S T1 := by rw [hT1]; exact .app _ _
  have l1 : T1.length = S.length + 1 := by rw [hT1]; simp
  have k3 : short 3 = true := short_le (by omega)
  have af0 : asI (S ++ [SO.dic []]) (.oid n) = some (("Floor" : Str), fF st gr fa ti la nw a b kd g) := by simp [asI, app_old Y.fl.fl]
  have L : ∀ x d, (fF st gr fa ti la nw a b kd g).lookup x = some d → (fF st gr fa ti la nw a b kd g).lookup x = some d := fun _ _ h => h
  have f1 : (fF st gr fa ti la nw a b kd g).lookup ("young_first" : Str) = some (.int 1) := rfl
  have f2 : (fF st gr fa ti la nw a b kd g).lookup ("young_top" : Str) = some (.int 1) := rfl
  have f3 : (fF st gr fa ti la nw a b kd g).lookup ("young_places" : Str) = some (.int (a : Nat)) := rfl
  have f4 : (fF st gr fa ti la nw a b kd g).lookup ("old_first" : Str) = some (.int (1 + 2 * (a : Nat))) := rfl
  have f5 : (fF st gr fa ti la nw a b kd g).lookup ("old_top" : Str) = some (.int (1 + 2 * (a : Nat))) := rfl
  have f6 : (fF st gr fa ti la nw a b kd g).lookup ("half_places" : Str) = some (.int (b : Nat)) := rfl
  have f7 : (fF st gr fa ti la nw a b kd g).lookup ("new_first" : Str) = some (.int (1 + 2 * (a : Nat) + (b : Nat))) := rfl
  have f8 : (fF st gr fa ti la nw a b kd g).lookup ("new_top" : Str) = some (.int (1 + 2 * (a : Nat) + (b : Nat))) := rfl
  have f9 : (fF st gr fa ti la nw a b kd g).lookup ("barrier" : Str) = some kd := rfl
  have f10 : (fF st gr fa ti la nw a b kd g).lookup ("most_age" : Str) = some g := rfl
  have f11 : (fF st gr fa ti la nw a b kd g).lookup ("cursor" : Str) = some (.int 0) := rfl
  have f12 : (fF st gr fa ti la nw a b kd g).lookup ("phase" : Str) = some (.str "rest") := rfl
  have f13 : (fF st gr fa ti la nw a b kd g).lookup ("far_places" : Str) = some (.oid fa) := rfl
  have f14 : (fF st gr fa ti la nw a b kd g).lookup ("tie_places" : Str) = some (.oid ti) := rfl
  have f15 : (fF st gr fa ti la nw a b kd g).lookup ("last_places" : Str) = some (.oid la) := rfl
  have v1 : zyp1 [some (.oid q), some (.oid n), none, none, none, none, none, none, none] S = .nx [some (.oid q), some (.oid n), some (.oid S.length), none, none, none, none, none, none] T1 := by
    have dr := disp_run (l := [(.str "young", .tup [.int 1, .int 1, .int (1 + (a : Nat))]), (.str "old", .tup [.int (1 + 2 * (a : Nat)), .int (1 + 2 * (a : Nat)), .int (1 + 2 * (a : Nat) + (b : Nat))]), (.str "new", .tup [.int (1 + 2 * (a : Nat) + (b : Nat)), .int (1 + 2 * (a : Nat) + (b : Nat)), .int (1 + 2 * (a : Nat) + (b : Nat) + (b : Nat))])]) (ks := partsK a b) rfl (by simp [partsK]) (merge_new _ [] (by
      have e : (([] : List (Key × D)) ++ partsK a b).map (·.1) = [.inr "young", .inr "old", .inr "new"] := rfl
      rw [e]
      decide +kernel)) S
    rw [hT1]
    generalize partsK a b = PK at *
    generalize fF st gr fa ti la nw a b kd g = F at *
    unfold zyp1 fDisp fPs fPs0
    simp [af0, f1, f2, f3, f4, f5, f6, f7, f8, k3, dr]
  obtain ⟨T2, hT2⟩ : ∃ T2, T2 = T1 ++ [SO.dic (headK kd g)] := ⟨_, rfl⟩
  have af1 : asI (T1 ++ [SO.dic []]) (.oid n) = some (("Floor" : Str), fF st gr fa ti la nw a b kd g) := by simp [asI, app_old (E1.old _ _ Y.fl.fl)]
  have v2 : zyp2 [some (.oid q), some (.oid n), some (.oid S.length), none, none, none, none, none, none] T1 = .nx [some (.oid q), some (.oid n), some (.oid S.length), some (.oid T1.length), none, none, none, none, none] T2 := by
    have dr := disp_run (l := [(.str "kind", kd), (.str "phase", .str "rest"), (.str "ages", g), (.str "next", .int 0)]) (ks := headK kd g) rfl (by simp [headK]) (merge_new _ [] (by
      have e : (([] : List (Key × D)) ++ headK kd g).map (·.1) = [.inr "kind", .inr "phase", .inr "ages", .inr "next"] := rfl
      rw [e]
      decide +kernel)) T1
    rw [hT2]
    generalize headK kd g = PK at *
    generalize fF st gr fa ti la nw a b kd g = F at *
    unfold zyp2 fDisp fPs fPs0
    simp [af1, f9, f10, f11, f12, dr]
  have g1 : T2[S.length]? = some (.dic (partsK a b)) := by rw [hT2, hT1]; exact app_old (new_at S _)
  have g2 : T2[T1.length]? = some (.dic (headK kd g)) := by rw [hT2]; exact new_at T1 _
  have E2 : Ext S T2 := by rw [hT2]; exact E1.trans (.app _ _)
  have mg : mergeD (headK kd g) (partsK a b) = headK kd g ++ partsK a b := merge_new _ _ (by
    have e : (headK kd g ++ partsK a b).map (·.1) = [.inr "kind", .inr "phase", .inr "ages", .inr "next", .inr "young", .inr "old", .inr "new"] := rfl
    rw [e]
    decide +kernel)
  obtain ⟨T3, hT3⟩ : ∃ T3, T3 = T2.set T1.length (.dic (headK kd g ++ partsK a b)) := ⟨_, rfl⟩
  have E3 : Ext S T3 := by rw [hT3]; exact E2.set (by omega) _
  have g3 : T3[S.length]? = some (.dic (partsK a b)) := by rw [hT3, set_ne (by omega)]; exact g1
  have g4 : T3[T1.length]? = some (.dic (headK kd g ++ partsK a b)) := by rw [hT3]; exact set_eq g2
  have ups : gUpd (.oid T1.length) [.oid S.length] T2 = .ok .non T3 := by
    have lk : (headK kd g).length + (partsK a b).length ≤ sizeLine := by rw [sizeLine_eq]; simp [headK, partsK]
    unfold gUpd
    simp only [g2, g1]
    rw [if_pos ⟨by omega, lk⟩, mg, hT3]
  have ty2 : tyS T2 (.oid T1.length) = some "dict" := by simp [tyS, g2]
  have v3 : zyp3 [some (.oid q), some (.oid n), some (.oid S.length), some (.oid T1.length), none, none, none, none, none] T2 = .nx [some (.oid q), some (.oid n), some (.oid S.length), some (.oid T1.length), none, none, none, none, none] T3 := by
    unfold zyp3
    simp [ty2, ups]
  obtain ⟨T4, hT4⟩ : ∃ T4, T4 = T3.set S.length (.frz (.oid S.length)) := ⟨_, rfl⟩
  have E4 : Ext S T4 := by rw [hT4]; exact E3.set (Nat.le_refl _) _
  have g5 : T4[T1.length]? = some (.dic (headK kd g ++ partsK a b)) := by rw [hT4, set_ne (by omega)]; exact g4
  obtain ⟨T5, c5, E45⟩ := comp2_e (n := n) (st := st) (gr := gr) (fa := fa) (ti := ti) (la := la) (nw := nw) (a := a) (b := b) (kd := kd) (g := g) (some (.oid q)) (some (.oid S.length)) (some (.oid T1.length)) (lt_of Y.fl.fl) Y.fl.fl [(1, 1 + (a : Nat)), (1 + 2 * (a : Nat), 1 + 2 * (a : Nat) + (b : Nat)), (1 + 2 * (a : Nat) + (b : Nat), 1 + 2 * (a : Nat) + (b : Nat) + (b : Nat))] T4 E4
  have E5 : Ext S T5 := E4.trans E45
  have g6 : T5[T1.length]? = some (.dic (headK kd g ++ partsK a b)) := E45.old _ _ g5
  have k0 : short 0 = true := short_le (by omega)
  have so0 : gSorted [.lst []] T5 = .ok (.lst []) T5 := by
    have e : seqInts T5 (.lst []) = some [] := rfl
    simp [gSorted, e]
    rfl
  have vj : valsJ (.oid S.length) T3 = .ok ⟨(partsK a b).map (·.2), none⟩ T4 := by
    unfold valsJ
    simp only [g3, hT4]
  have v4 : zyp4 [some (.oid q), some (.oid n), some (.oid S.length), some (.oid T1.length), none, none, none, none, none] T3 = .nx [some (.oid q), some (.oid n), some (.oid S.length), some (.oid T1.length), some (.lst []), none, none, none, none] T5 := by
    have fc : fComp2 (fValsJ (fVar 2)) tg3 fYes fi3 (mName 8) fYes (fVar 8) ([("first", 5), ("top", 6), ("end", 7), ("place", 8)].map (·.2)) [8] finL [some (.oid q), some (.oid n), some (.oid S.length), some (.oid T1.length), none, none, none, none, none] T3 = .ok (.lst []) T5 := by
      have fj : fValsJ (fVar 2) [some (.oid q), some (.oid n), some (.oid S.length), some (.oid T1.length), none, none, none, none, none] T3 = .ok ⟨(partsK a b).map (·.2), none⟩ T4 := vj
      unfold fComp2
      rw [fj]
      simp only [Res.bind_ok]
      have wp : wipeD [some (.oid q), some (.oid n), some (.oid S.length), some (.oid T1.length), none, none, none, none, none] ([("first", 5), ("top", 6), ("end", 7), ("place", 8)].map (·.2)) = [some (.oid q), some (.oid n), some (.oid S.length), some (.oid T1.length), none, none, none, none, none] := rfl
      have it : (partsK a b).map (·.2) = ([(1, 1 + (a : Nat)), (1 + 2 * (a : Nat), 1 + 2 * (a : Nat) + (b : Nat)), (1 + 2 * (a : Nat) + (b : Nat), 1 + 2 * (a : Nat) + (b : Nat) + (b : Nat))] : List (Int × Int)).map fun z => D.tup [.int z.1, .int z.1, .int z.2] := rfl
      rw [wp, it]
      erw [c5]
      simp [finL, k0]
    unfold zyp4
    rw [e_gSet, e_fCB, e_fCons]
    erw [fc]
    simp [so0]
  obtain ⟨ρ, hρ⟩ : ∃ ρ : EnvD, ρ = [some (.oid q), some (.oid n), some (.oid S.length), some (.oid T1.length), some (.lst []), none, none, none, none] := ⟨_, rfl⟩
  have r3 : ρ[3]? = some (some (.oid T1.length)) := by rw [hρ]; rfl
  have r1 : ρ[1]? = some (some (.oid n)) := by rw [hρ]; rfl
  have r0 : ρ[0]? = some (some (.oid q)) := by rw [hρ]; rfl
  have L1 : S.length ≤ T1.length := by omega
  have e5 : (fComp (fSeq (fVar 4)) (mName 8) fYes (fCall (callSub S_pictured) (fun ds es => pick [(0, 0), (0, 1)] ds es []) 2 0 2 (fCons (fVar 1) (fCons (fVar 8) (fun _ S => .ok [] S))) (fun _ S => .ok [] S)) ([("place", 8)].map (·.2)) finL) ρ T5 = .ok (.lst []) T5 := by
    have sq : fSeq (fVar 4) ρ T5 = .ok ⟨[], none⟩ T5 := by rw [hρ]; rfl
    have cn : ∀ ft fe ρ S, compF none (mName 8) ft fe [] ρ S = .ok [] S := fun ft fe ρ S => by rw [compF, if_pos (by trivial)]
    rw [e_fComp, sq]
    simp only [Res.bind_ok]
    rw [cn]
    simp [finL, k0]
  have p5 := put_step (k := "cells") e5 r3 g6 (by simp [headK, partsK]) (by
    have e : ((headK kd g ++ partsK a b)).map (·.1) = [.inr "kind", .inr "phase", .inr "ages", .inr "next", .inr "young", .inr "old", .inr "new"] := rfl
    rw [e]
    simp
    decide +kernel)
  obtain ⟨T6, hT6⟩ : ∃ T, T = T5.set T1.length (.dic ((headK kd g ++ partsK a b) ++ [((Sum.inr "cells" : Key), D.lst [])])) := ⟨_, rfl⟩
  rw [← hT6] at p5
  have E6 : Ext S T6 := by rw [hT6]; exact E5.set L1 _
  have g7 : T6[T1.length]? = some (.dic ((headK kd g ++ partsK a b) ++ [((Sum.inr "cells" : Key), D.lst [])])) := by rw [hT6]; exact set_eq g6
  have v5 : zyp5 ρ T5 = .nx ρ T6 := p5
  have e6 : (fCB gList (fCons (fFld ["Yard"] "stands" (fVar 0)) (fun _ S => .ok [] S))) ρ T6 = .ok (.lst (List.replicate m .non)) T6 := by
    have af : asI T6 (.oid q) = some (("Yard" : Str), yF sd qu n y) := by simp [asI, E6.old _ _ Y.yd]
    have hs := E6.old _ _ Y.sO
    have gl : gList [.oid sd] T6 = .ok (.lst (List.replicate m .non)) T6 := by simp [gList, isDic1, asD, gToL, asQ, asL, hs]
    generalize hY : yF sd qu n y = Fy at *
    have lk : Fy.lookup ("stands" : Str) = some (.oid sd) := by rw [← hY]; rfl
    simp [r0, af, lk, gl]
  have p6 := put_step (k := "pegs") e6 r3 g7 (by simp [headK, partsK]) (by
    have e : (((headK kd g ++ partsK a b) ++ [((Sum.inr "cells" : Key), D.lst [])])).map (·.1) = [.inr "kind", .inr "phase", .inr "ages", .inr "next", .inr "young", .inr "old", .inr "new", .inr "cells"] := rfl
    rw [e]
    simp
    decide +kernel)
  obtain ⟨T7, hT7⟩ : ∃ T, T = T6.set T1.length (.dic (((headK kd g ++ partsK a b) ++ [((Sum.inr "cells" : Key), D.lst [])]) ++ [((Sum.inr "pegs" : Key), D.lst (List.replicate m .non))])) := ⟨_, rfl⟩
  rw [← hT7] at p6
  have E7 : Ext S T7 := by rw [hT7]; exact E6.set L1 _
  have g8 : T7[T1.length]? = some (.dic (((headK kd g ++ partsK a b) ++ [((Sum.inr "cells" : Key), D.lst [])]) ++ [((Sum.inr "pegs" : Key), D.lst (List.replicate m .non))])) := by rw [hT7]; exact set_eq g7
  have v6 : zyp6 ρ T6 = .nx ρ T7 := p6
  have e7 : (fCB gList (fCons (fFld ["Yard"] "queue" (fVar 0)) (fun _ S => .ok [] S))) ρ T7 = .ok (.lst []) T7 := by
    have af : asI T7 (.oid q) = some (("Yard" : Str), yF sd qu n y) := by simp [asI, E7.old _ _ Y.yd]
    have hs := E7.old _ _ Y.qO
    have gl : gList [.oid qu] T7 = .ok (.lst []) T7 := by simp [gList, isDic1, asD, gToL, asQ, asL, hs]
    generalize hY : yF sd qu n y = Fy at *
    have lk : Fy.lookup ("queue" : Str) = some (.oid qu) := by rw [← hY]; rfl
    simp [r0, af, lk, gl]
  have p7 := put_step (k := "due") e7 r3 g8 (by simp [headK, partsK]) (by
    have e : ((((headK kd g ++ partsK a b) ++ [((Sum.inr "cells" : Key), D.lst [])]) ++ [((Sum.inr "pegs" : Key), D.lst (List.replicate m .non))])).map (·.1) = [.inr "kind", .inr "phase", .inr "ages", .inr "next", .inr "young", .inr "old", .inr "new", .inr "cells", .inr "pegs"] := rfl
    rw [e]
    simp
    decide +kernel)
  obtain ⟨T8, hT8⟩ : ∃ T, T = T7.set T1.length (.dic ((((headK kd g ++ partsK a b) ++ [((Sum.inr "cells" : Key), D.lst [])]) ++ [((Sum.inr "pegs" : Key), D.lst (List.replicate m .non))]) ++ [((Sum.inr "due" : Key), D.lst [])])) := ⟨_, rfl⟩
  rw [← hT8] at p7
  have E8 : Ext S T8 := by rw [hT8]; exact E7.set L1 _
  have g9 : T8[T1.length]? = some (.dic ((((headK kd g ++ partsK a b) ++ [((Sum.inr "cells" : Key), D.lst [])]) ++ [((Sum.inr "pegs" : Key), D.lst (List.replicate m .non))]) ++ [((Sum.inr "due" : Key), D.lst [])])) := by rw [hT8]; exact set_eq g8
  have v7 : zyp7 ρ T7 = .nx ρ T8 := p7
  have e8 : (fCB gSortDI (fCons (fFld ["Floor"] "far_places" (fVar 1)) (fun _ S => .ok [] S))) ρ T8 = .ok (.lst []) T8 := by
    have af : asI T8 (.oid n) = some (("Floor" : Str), fF st gr fa ti la nw a b kd g) := by simp [asI, E8.old _ _ Y.fl.fl]
    have gl := sortDI_nil (E8.old _ _ Y.fl.fo)
    generalize fF st gr fa ti la nw a b kd g = F at *
    simp [r1, af, f13, gl]
  have p8 := put_step (k := "far") e8 r3 g9 (by simp [headK, partsK]) (by
    have e : (((((headK kd g ++ partsK a b) ++ [((Sum.inr "cells" : Key), D.lst [])]) ++ [((Sum.inr "pegs" : Key), D.lst (List.replicate m .non))]) ++ [((Sum.inr "due" : Key), D.lst [])])).map (·.1) = [.inr "kind", .inr "phase", .inr "ages", .inr "next", .inr "young", .inr "old", .inr "new", .inr "cells", .inr "pegs", .inr "due"] := rfl
    rw [e]
    simp
    decide +kernel)
  obtain ⟨T9, hT9⟩ : ∃ T, T = T8.set T1.length (.dic (((((headK kd g ++ partsK a b) ++ [((Sum.inr "cells" : Key), D.lst [])]) ++ [((Sum.inr "pegs" : Key), D.lst (List.replicate m .non))]) ++ [((Sum.inr "due" : Key), D.lst [])]) ++ [((Sum.inr "far" : Key), D.lst [])])) := ⟨_, rfl⟩
  rw [← hT9] at p8
  have E9 : Ext S T9 := by rw [hT9]; exact E8.set L1 _
  have g10 : T9[T1.length]? = some (.dic (((((headK kd g ++ partsK a b) ++ [((Sum.inr "cells" : Key), D.lst [])]) ++ [((Sum.inr "pegs" : Key), D.lst (List.replicate m .non))]) ++ [((Sum.inr "due" : Key), D.lst [])]) ++ [((Sum.inr "far" : Key), D.lst [])])) := by rw [hT9]; exact set_eq g9
  have v8 : zyp8 ρ T8 = .nx ρ T9 := p8
  have e9 : (fCB gSortDI (fCons (fFld ["Floor"] "tie_places" (fVar 1)) (fun _ S => .ok [] S))) ρ T9 = .ok (.lst []) T9 := by
    have af : asI T9 (.oid n) = some (("Floor" : Str), fF st gr fa ti la nw a b kd g) := by simp [asI, E9.old _ _ Y.fl.fl]
    have gl := sortDI_nil (E9.old _ _ Y.fl.to)
    generalize fF st gr fa ti la nw a b kd g = F at *
    simp [r1, af, f14, gl]
  have p9 := put_step (k := "ties") e9 r3 g10 (by simp [headK, partsK]) (by
    have e : ((((((headK kd g ++ partsK a b) ++ [((Sum.inr "cells" : Key), D.lst [])]) ++ [((Sum.inr "pegs" : Key), D.lst (List.replicate m .non))]) ++ [((Sum.inr "due" : Key), D.lst [])]) ++ [((Sum.inr "far" : Key), D.lst [])])).map (·.1) = [.inr "kind", .inr "phase", .inr "ages", .inr "next", .inr "young", .inr "old", .inr "new", .inr "cells", .inr "pegs", .inr "due", .inr "far"] := rfl
    rw [e]
    simp
    decide +kernel)
  obtain ⟨T10, hT10⟩ : ∃ T, T = T9.set T1.length (.dic ((((((headK kd g ++ partsK a b) ++ [((Sum.inr "cells" : Key), D.lst [])]) ++ [((Sum.inr "pegs" : Key), D.lst (List.replicate m .non))]) ++ [((Sum.inr "due" : Key), D.lst [])]) ++ [((Sum.inr "far" : Key), D.lst [])]) ++ [((Sum.inr "ties" : Key), D.lst [])])) := ⟨_, rfl⟩
  rw [← hT10] at p9
  have E10 : Ext S T10 := by rw [hT10]; exact E9.set L1 _
  have g11 : T10[T1.length]? = some (.dic ((((((headK kd g ++ partsK a b) ++ [((Sum.inr "cells" : Key), D.lst [])]) ++ [((Sum.inr "pegs" : Key), D.lst (List.replicate m .non))]) ++ [((Sum.inr "due" : Key), D.lst [])]) ++ [((Sum.inr "far" : Key), D.lst [])]) ++ [((Sum.inr "ties" : Key), D.lst [])])) := by rw [hT10]; exact set_eq g10
  have v9 : zyp9 ρ T9 = .nx ρ T10 := p9
  have e10 : (fCB gSortDI (fCons (fFld ["Floor"] "last_places" (fVar 1)) (fun _ S => .ok [] S))) ρ T10 = .ok (.lst []) T10 := by
    have af : asI T10 (.oid n) = some (("Floor" : Str), fF st gr fa ti la nw a b kd g) := by simp [asI, E10.old _ _ Y.fl.fl]
    have gl := sortDI_nil (E10.old _ _ Y.fl.lo)
    generalize fF st gr fa ti la nw a b kd g = F at *
    simp [r1, af, f15, gl]
  have p10 := put_step (k := "lasts") e10 r3 g11 (by simp [headK, partsK]) (by
    have e : (((((((headK kd g ++ partsK a b) ++ [((Sum.inr "cells" : Key), D.lst [])]) ++ [((Sum.inr "pegs" : Key), D.lst (List.replicate m .non))]) ++ [((Sum.inr "due" : Key), D.lst [])]) ++ [((Sum.inr "far" : Key), D.lst [])]) ++ [((Sum.inr "ties" : Key), D.lst [])])).map (·.1) = [.inr "kind", .inr "phase", .inr "ages", .inr "next", .inr "young", .inr "old", .inr "new", .inr "cells", .inr "pegs", .inr "due", .inr "far", .inr "ties"] := rfl
    rw [e]
    simp
    decide +kernel)
  obtain ⟨T11, hT11⟩ : ∃ T, T = T10.set T1.length (.dic (((((((headK kd g ++ partsK a b) ++ [((Sum.inr "cells" : Key), D.lst [])]) ++ [((Sum.inr "pegs" : Key), D.lst (List.replicate m .non))]) ++ [((Sum.inr "due" : Key), D.lst [])]) ++ [((Sum.inr "far" : Key), D.lst [])]) ++ [((Sum.inr "ties" : Key), D.lst [])]) ++ [((Sum.inr "lasts" : Key), D.lst [])])) := ⟨_, rfl⟩
  rw [← hT11] at p10
  have E11 : Ext S T11 := by rw [hT11]; exact E10.set L1 _
  have g12 : T11[T1.length]? = some (.dic (((((((headK kd g ++ partsK a b) ++ [((Sum.inr "cells" : Key), D.lst [])]) ++ [((Sum.inr "pegs" : Key), D.lst (List.replicate m .non))]) ++ [((Sum.inr "due" : Key), D.lst [])]) ++ [((Sum.inr "far" : Key), D.lst [])]) ++ [((Sum.inr "ties" : Key), D.lst [])]) ++ [((Sum.inr "lasts" : Key), D.lst [])])) := by rw [hT11]; exact set_eq g11
  have v10 : zyp10 ρ T10 = .nx ρ T11 := p10
  have pk : (((((((headK kd g ++ partsK a b) ++ [((Sum.inr "cells" : Key), D.lst [])]) ++ [((Sum.inr "pegs" : Key), D.lst (List.replicate m .non))]) ++ [((Sum.inr "due" : Key), D.lst [])]) ++ [((Sum.inr "far" : Key), D.lst [])]) ++ [((Sum.inr "ties" : Key), D.lst [])]) ++ [((Sum.inr "lasts" : Key), D.lst [])]) = picK m a b kd g := by
    unfold picK
    simp
  rw [pk] at g12
  refine ⟨T11.set T1.length (.frz (.dic (picK m a b kd g))), ?_, E11.set L1 _⟩
  unfold zyp
  rw [e_gSeq, v0, Out.seq_nx, e_gSeq, v1, Out.seq_nx, e_gSeq, v2, Out.seq_nx, e_gSeq, v3, Out.seq_nx, e_gSeq, v4, Out.seq_nx, ← hρ, e_gSeq, v5, Out.seq_nx, e_gSeq, v6, Out.seq_nx, e_gSeq, v7, Out.seq_nx, e_gSeq, v8, Out.seq_nx, e_gSeq, v9, Out.seq_nx, e_gSeq, v10, Out.seq_nx]
  unfold zyp11
  rw [e_gRet]
  have fv : fVar 3 ρ T11 = .ok (.oid T1.length) T11 := by simp [r3]
  unfold fFrz
  rw [fv]
  simp only [Res.bind_ok, g12]
  rfl
end
end K03

/-! A new yard: no cells seen, nothing in its pegs, at rest. -/
namespace K03
open PySem L2 DL
noncomputable def zip0 : FS := (gRet (fAndV (fBin gNe (fVar 0) (fC (.int 0))) (fBin gEq (fBin gAndM (fVar 0) (fC (.int 1))) (fC (.int 0)))))
theorem zip_eq : m_is_place = zip0 := rfl
noncomputable def zvo0 : FS := (gIf (toB (fBin gEq (fVar 0) (fC (.int 0)))) (gRet (fC .non)) gNil)
noncomputable def zvo1 : FS := (gIf (toB (fCall (callSub S_is_place) (fun ds es => pick [(0, 0)] ds es []) 1 0 1 (fCons (fVar 0) (fun _ S => .ok [] S)) (fun _ S => .ok [] S))) (gRet (fTup (fCons (fC (.str "at")) (fCons (fBin gShr (fVar 0) (fC (.int 1))) (fun _ S => .ok [] S))))) gNil)
noncomputable def zvo2 : FS := (gRet (fBin gShr (fVar 0) (fC (.int 1))))
noncomputable def zvo : FS := (gSeq zvo0 (gSeq zvo1 zvo2))
theorem zvo_eq : m_value_of = zvo := rfl
noncomputable def zwo0 : FS := (gIf (toB (fBin gIs (fVar 0) (fC .non))) (gRet (fC (.int 0))) gNil)
noncomputable def zwo1 : FS := (gIf (toB (fCB gIsi (fCons (fVar 0) (fCons (fC (.ty "tuple")) (fun _ S => .ok [] S))))) (gRet (fBin gShl (fBin gIx (fVar 0) (fC (.int 1))) (fC (.int 1)))) gNil)
noncomputable def zwo2 : FS := (gRet (fBin gAdd (fBin gShl (fVar 0) (fC (.int 1))) (fC (.int 1))))
noncomputable def zwo : FS := (gSeq zwo0 (gSeq zwo1 zwo2))
theorem zwo_eq : m_word_of = zwo := rfl
noncomputable def ztw0 : FS := (gIf (fNotT (toB (fCall (callSub S_is_place) (fun ds es => pick [(0, 0)] ds es []) 1 0 1 (fCons (fVar 1) (fun _ S => .ok [] S)) (fun _ S => .ok [] S)))) (gRet (fVar 1)) gNil)
noncomputable def ztw1 : FS := (gRet (fBin gShl (fMeth S_Floor_there (fun ds es => pick [(0, 0), (0, 1)] ds es []) "Floor" "there" 2 0 2 (fVar 0) (fCons (fBin gShr (fVar 1) (fC (.int 1))) (fun _ S => .ok [] S)) (fun _ S => .ok [] S)) (fC (.int 1))))
noncomputable def ztw : FS := (gSeq ztw0 ztw1)
theorem ztw_eq : m_Floor_there_word = ztw := rfl
noncomputable def zse0 : FS := (gSet 1 fDict0)
noncomputable def zse1 : FS := (gSet 2 (fComp (fSeq (fBin gAdd (fFld ["Yard"] "stands" (fVar 0)) (fFld ["Yard"] "queue" (fVar 0)))) (mName 6) fYes (fCall (callSub S_word_of) (fun ds es => pick [(0, 0)] ds es []) 1 0 1 (fCons (fVar 6) (fun _ S => .ok [] S)) (fun _ S => .ok [] S)) ([("value", 6)].map (·.2)) finL))
noncomputable def zse2b0 : FS := (gSet 3 (fLstO (fun _ S => .ok [] S)))
noncomputable def zse2b1b0 : FS := (gSet 5 (fBin gShr (fMeth S_Floor_there_word (fun ds es => pick [(0, 0), (0, 1)] ds es []) "Floor" "there_word" 2 0 2 (fFld ["Yard"] "floor" (fVar 0)) (fCons (fVar 4) (fun _ S => .ok [] S)) (fun _ S => .ok [] S)) (fC (.int 1))))
noncomputable def zse2b1b1 : FS := (gIf (fAndT (toB (fCall (callSub S_is_place) (fun ds es => pick [(0, 0)] ds es []) 1 0 1 (fCons (fVar 4) (fun _ S => .ok [] S)) (fun _ S => .ok [] S))) (toB (fBin gNotIn (fVar 5) (fVar 1)))) (gSeq (gPut (fVar 1) (fVar 5) (fCB gLen (fCons (fVar 1) (fun _ S => .ok [] S)))) (gExpr (fBM "list" gExt (fVar 3) (fCons (fMeth S_Floor_words_at (fun ds es => pick [(0, 0), (0, 1)] ds es []) "Floor" "words_at" 2 0 2 (fFld ["Yard"] "floor" (fVar 0)) (fCons (fVar 5) (fun _ S => .ok [] S)) (fun _ S => .ok [] S)) (fun _ S => .ok [] S))))) gNil)
noncomputable def zse2b1b : FS := (gSeq zse2b1b0 zse2b1b1)
noncomputable def zse2b1 : FS := (gFor (fSeq (fVar 2)) (mName 4) zse2b1b)
noncomputable def zse2b2 : FS := (gSet 2 (fVar 3))
noncomputable def zse2b : FS := (gSeq zse2b0 (gSeq zse2b1 zse2b2))
noncomputable def zse2c : FT := (toB (fBin gNe (fVar 2) (fLst (fun _ S => .ok [] S))))
noncomputable def zse2 : FS := (whileF zse2c zse2b 100000)
noncomputable def zse3 : FS := (gRet (fVar 1))
noncomputable def zse : FS := (gSeq zse0 (gSeq zse1 (gSeq zse2 zse3)))
theorem zse_eq : m_Yard_seen_places_o = zse := rfl
noncomputable def zys0 : FS := (gRet (fComp (fKeysJ (fMeth S_Yard_seen_places_o (fun ds es => pick [(0, 0)] ds es []) "Yard" "seen_places" 1 0 1 (fVar 0) (fun _ S => .ok [] S) (fun _ S => .ok [] S))) (mName 1) fYes (fMeth S_Floor_serial_of (fun ds es => pick [(0, 0), (0, 1)] ds es []) "Floor" "serial_of" 2 0 2 (fFld ["Yard"] "floor" (fVar 0)) (fCons (fVar 1) (fun _ S => .ok [] S)) (fun _ S => .ok [] S)) ([("place", 1)].map (·.2)) finL))
theorem zys_eq : m_Yard_serials = zys0 := rfl
noncomputable def zyt0 : FS := (gIf (fNotT (toB (fCall (callSub S_is_whole) (fun ds es => pick [(0, 0), (0, 1), (0, 2)] ds es []) 3 0 3 (fCons (fVar 1) (fCons (fC (.int 0)) (fCons (fC (.int (1000))) (fun _ S => .ok [] S)))) (fun _ S => .ok [] S)))) (fun ρ S => .ex "BadNumber" [] ρ S) gNil)
noncomputable def zyt1b0 : FS := (gIf (toB (fBin gIn (fFld ["Floor"] "phase" (fFld ["Yard"] "floor" (fVar 0))) (fTup (fCons (fC (.str "mark")) (fCons (fC (.str "back")) (fun _ S => .ok [] S)))))) (fun _ _ => .stuck) (gIf (toB (fBin gEq (fFld ["Floor"] "phase" (fFld ["Yard"] "floor" (fVar 0))) (fC (.str "move")))) (fun _ _ => .stuck) (gIf (toB (fBin gEq (fFld ["Floor"] "phase" (fFld ["Yard"] "floor" (fVar 0))) (fC (.str "mend")))) (fun _ _ => .stuck) gNil)))
noncomputable def zyt1 : FS := (gFor (fRng1 (fCons (fVar 1) (fun _ S => .ok [] S))) (mName 2) zyt1b0)
noncomputable def zyt2 : FS := (gRet (fFld ["Floor"] "phase" (fFld ["Yard"] "floor" (fVar 0))))
noncomputable def zyt : FS := (gSeq zyt0 (gSeq zyt1 zyt2))
theorem zyt_eq : m_Yard_step = zyt := rfl
noncomputable def zsu0 : FS := (gIf (fNotT (toB (fCB (gAllAny true) (fCons (fComp (fSeq (fVar 1)) (mName 2) fYes (fCall (callSub S_is_whole) (fun ds es => pick [(0, 0), (0, 1), (0, 2)] ds es []) 3 0 3 (fCons (fVar 2) (fCons (fC (.int 0)) (fCons (fBin gSub (fCB gLen (fCons (fFld ["Yard"] "stands" (fVar 0)) (fun _ S => .ok [] S))) (fC (.int 1))) (fun _ S => .ok [] S)))) (fun _ S => .ok [] S)) ([("p", 2)].map (·.2)) finL) (fun _ S => .ok [] S))))) (fun _ _ => .stuck) gNil)
theorem zsu_eq : m_Ground_sure_pegs = zsu0 := rfl
noncomputable def zyg0 : FS := (gRet (fCall (callSub S_value_of) (fun ds es => pick [(0, 0)] ds es []) 1 0 1 (fCons (fMeth S_Floor_there_word (fun ds es => pick [(0, 0), (0, 1)] ds es []) "Floor" "there_word" 2 0 2 (fFld ["Yard"] "floor" (fVar 0)) (fCons (fCall (callSub S_word_of) (fun ds es => pick [(0, 0)] ds es []) 1 0 1 (fCons (fVar 1) (fun _ S => .ok [] S)) (fun _ S => .ok [] S)) (fun _ S => .ok [] S)) (fun _ S => .ok [] S)) (fun _ S => .ok [] S)) (fun _ S => .ok [] S)))
theorem zyg_eq : m_Yard_goal = zyg0 := rfl
noncomputable def zlt0 : FS := (gRet (fIf (toB (fCB gIsi (fCons (fVar 0) (fCons (fC (.ty "tuple")) (fun _ S => .ok [] S))))) (fBin gIx (fVar 0) (fC (.int 1))) (fC .non)))
theorem zlt_eq : m_led_to_webs = zlt0 := rfl
noncomputable def zgw0 : FS := (gExpr (fMeth S_Ground_sure_pegs (fun ds es => pick [(0, 0), (0, 1)] ds es []) "Yard" "sure_pegs" 2 0 2 (fVar 0) (fCons (fLst (fCons (fVar 1) (fun _ S => .ok [] S))) (fun _ S => .ok [] S)) (fun _ S => .ok [] S)))
noncomputable def zgw1 : FS := (gSet 2 (fMeth S_Yard_goal (fun ds es => pick [(0, 0), (0, 1)] ds es []) "Yard" "goal" 2 0 2 (fVar 0) (fCons (fBin gIx (fFld ["Yard"] "stands" (fVar 0)) (fVar 1)) (fun _ S => .ok [] S)) (fun _ S => .ok [] S)))
noncomputable def zgw2 : FS := (gIf (toB (fBin gIs (fCall (callSub S_led_to_webs) (fun ds es => pick [(0, 0)] ds es []) 1 0 1 (fCons (fVar 2) (fun _ S => .ok [] S)) (fun _ S => .ok [] S)) (fC .non))) (gRet (fVar 2)) gNil)
noncomputable def zgw3 : FS := (gRet (fIf (toB (fBin gEq (fMeth S_Yard_sort_at (fun ds es => pick [(0, 0), (0, 1)] ds es []) "Yard" "sort_at" 2 0 2 (fVar 0) (fCons (fVar 2) (fun _ S => .ok [] S)) (fun _ S => .ok [] S)) (fC (.str "tie")))) (fC (.str "tie")) (fC (.str "cell"))))
noncomputable def zgw : FS := (gSeq zgw0 (gSeq zgw1 (gSeq zgw2 zgw3)))
theorem zgw_eq : m_Ground_what = zgw := rfl
theorem isplace0 (S : Store) : callSub S_is_place [.int 0] S = .ok (.bl false) S := by
  refine callSub_ok (S' := []) (by rfl) ?_ (by rfl)
  unfold S_is_place
  rw [zip_eq]
  unfold zip0
  simp [List.replicate]
theorem word0 (S : Store) : callSub S_word_of [.non] S = .ok (.int 0) S := by
  refine callSub_ok (S' := []) (by rfl) ?_ (by rfl)
  unfold S_word_of
  rw [zwo_eq]
  unfold zwo zwo0
  simp [List.replicate, D.isNon]
theorem value0 (S : Store) : callSub S_value_of [.int 0] S = .ok .non S := by
  refine callSub_ok (S' := []) (by rfl) ?_ (by rfl)
  unfold S_value_of
  rw [zvo_eq]
  unfold zvo zvo0
  simp [List.replicate]
theorem led0 (S : Store) : callSub S_led_to_webs [.non] S = .ok .non S := by
  refine callSub_ok (S' := []) (by rfl) ?_ (by rfl)
  unfold S_led_to_webs
  rw [zlt_eq]
  unfold zlt0
  simp [List.replicate, tyS, isiT]
theorem there0 (x : D) (S : Store) : S_Floor_there_word [x, .int 0] S = .ok (.int 0) S := by
  have ip := isplace0
  unfold S_Floor_there_word
  rw [ztw_eq]
  unfold ztw ztw0
  simp [List.replicate, ip]
section
variable {S : Store} {q sd qu n st gr fa ti la nw m a b : Nat} {kd g y : D}
theorem goal0 (Y : YardAt S q sd qu n st gr fa ti la nw m a b kd g y) : S_Yard_goal [.oid q, .non] S = .ok .non S := by
  have ai := Y.ai
  have af := Y.af
  have w0 := word0
  have t0 := there0 (.oid n)
  have v0 := value0
  have no := (fl_no (st := st) (gr := gr) (fa := fa) (ti := ti) (la := la) (nw := nw) (a := a) (b := b) (kd := kd) (g := g)).2.1
  unfold S_Yard_goal
  rw [zyg_eq]
  unfold zyg0
  generalize fF st gr fa ti la nw a b kd g = F at *
  simp [List.replicate, ai, af, fMeth, yl_fl, no, w0, t0, v0]
theorem what0 (Y : YardAt S q sd qu n st gr fa ti la nw m a b kd g y) (hm : m ≤ 40) {p : Nat} (hp : p < m) : S_Ground_what [.oid q, .int (p : Nat)] S = .ok .non S := by
  have ai := Y.ai
  have ln := len_oY Y.sO (by simp; omega)
  rw [List.length_replicate] at ln
  have cw := c_whole (d := .int (p : Nat)) rfl rfl 0 ((m : Int) - 1) S
  have wt : whl (.int (p : Nat)) 0 ((m : Int) - 1) = true := by
    simp only [whl, Bool.and_eq_true, decide_eq_true_eq]
    omega
  rw [wt] at cw
  have k1 : short 1 = true := short_le (by omega)
  have al := all_bl (fun _ : D => true) [.int (p : Nat)] S
  simp only [List.map_cons, List.map_nil, List.all_cons, List.all_nil, Bool.and_self] at al
  have sp : S_Ground_sure_pegs [.oid q, .lst [.int (p : Nat)]] S = .ok .non S := by
    unfold S_Ground_sure_pegs
    rw [zsu_eq]
    unfold zsu0
    have cm := fun ρ => DL.comp_map (m := mName 2) (fe := fCall (callSub S_is_whole) (fun ds es => pick [(0, 0), (0, 1), (0, 2)] ds es []) 3 0 3 (fCons (fVar 2) (fCons (fC (.int 0)) (fCons (fBin gSub (fCB gLen (fCons (fFld ["Yard"] "stands" (fVar 0)) (fun _ S => .ok [] S))) (fC (.int 1))) (fun _ S => .ok [] S)))) (fun _ S => .ok [] S)) (f := fun _ => D.bl true) (ρ := [some (.oid q), ρ, none]) (S := S) [.int (p : Nat)] (fun d hd => by
      rw [List.mem_singleton.mp hd]
      refine ⟨_, rfl, ?_⟩
      simp [ai, yl_sd, ln, cw])
    have cm := cm (some (.lst [.int (p : Nat)]))
    have fc : fComp (fSeq (fVar 1)) (mName 2) fYes (fCall (callSub S_is_whole) (fun ds es => pick [(0, 0), (0, 1), (0, 2)] ds es []) 3 0 3 (fCons (fVar 2) (fCons (fC (.int 0)) (fCons (fBin gSub (fCB gLen (fCons (fFld ["Yard"] "stands" (fVar 0)) (fun _ S => .ok [] S))) (fC (.int 1))) (fun _ S => .ok [] S)))) (fun _ S => .ok [] S)) ([("p", 2)].map (·.2)) finL [some (.oid q), some (.lst [.int (p : Nat)]), none] S = .ok (.lst [.bl true]) S := by
      simp only [e_fComp, e_fSeq, e_fVar, List.getElem?_cons_succ, List.getElem?_cons_zero, Res.bind_ok, e_seqD_l, List.map_cons, List.map_nil, e_wipe1, e_wipe0, List.set_cons_succ, List.set_cons_zero]
      rw [cm]
      simp [finL, k1]
    have st0 : startD 3 [.oid q, .lst [.int (p : Nat)]] = [some (.oid q), some (.lst [.int (p : Nat)]), none] := rfl
    rw [e_semOf, st0, e_gIf, e_fNotT, e_toB, e_fCB, e_fCons, fc]
    simp [al]
  have g0 := goal0 Y
  have ix : gIx (.oid sd) (.int (p : Nat)) S = .ok .non S := by
    have aL : asQ S (.oid sd) = some (List.replicate m .non) := by simp [asQ, asL, Y.sO]
    have a1 : asD S (.oid sd) = none := by simp [asD, Y.sO]
    have a2 : isS (.oid sd) (.int (p : Nat)) S = false := rfl
    have ea : atI (List.replicate m D.non) (p : Nat) = some .non := by rw [at_nat _ _ (by simpa using hp)]; simp [hp]
    simp [gIx, pDic1, a1, a2, gIxQ, aL, ea]
  have l0 := led0
  have st0 : startD 3 [.oid q, .int (p : Nat)] = [some (.oid q), some (.int (p : Nat)), none] := rfl
  have no := yl_no (sd := sd) (qu := qu) (n := n) (y := y)
  unfold S_Ground_what
  rw [zgw_eq, e_semOf, st0]
  unfold zgw
  have v0 : zgw0 [some (.oid q), some (.int (p : Nat)), none] S = .nx [some (.oid q), some (.int (p : Nat)), none] S := by
    unfold zgw0
    simp [ai, fMeth, no, k1, sp]
  have v1 : zgw1 [some (.oid q), some (.int (p : Nat)), none] S = .nx [some (.oid q), some (.int (p : Nat)), some .non] S := by
    unfold zgw1
    simp [ai, fMeth, no, yl_sd, ix, g0]
  rw [e_gSeq, v0, Out.seq_nx, e_gSeq, v1, Out.seq_nx]
  unfold zgw2
  simp [l0, D.isNon]
theorem step_y (Y : YardAt S q sd qu n st gr fa ti la nw m a b kd g y) {u : D} (hu : Nd u) : (whl u 0 1000 = false → S_Yard_step [.oid q, u] S = .ex "BadNumber" [] S) ∧ (whl u 0 1000 = true → S_Yard_step [.oid q, u] S = .ok (.str "rest") S) := by
  have ai := Y.ai
  have af := Y.af
  have cw := c_whole hu.ok hu.pu 0 1000 S
  have st0 : startD 3 [.oid q, u] = [some (.oid q), some u, none] := rfl
  have k2 : short 2 = true := short_le (by omega)
  constructor
  · intro h
    rw [h] at cw
    unfold S_Yard_step
    rw [zyt_eq, e_semOf, st0]
    unfold zyt
    have v0 : zyt0 [some (.oid q), some u, none] S = .ex "BadNumber" [] [some (.oid q), some u, none] S := by
      unfold zyt0
      simp [cw]
    rw [e_gSeq, v0]
    rfl
  · intro h
    rw [h] at cw
    obtain ⟨k, rfl, _, hk⟩ := whl_nat h (by decide)
    unfold S_Yard_step
    rw [zyt_eq, e_semOf, st0]
    unfold zyt
    have v0 : zyt0 [some (.oid q), some (.int (k : Nat)), none] S = .nx [some (.oid q), some (.int (k : Nat)), none] S := by
      unfold zyt0
      simp [cw]
    have ph := fl_phase (st := st) (gr := gr) (fa := fa) (ti := ti) (la := la) (nw := nw) (a := a) (b := b) (kd := kd) (g := g)
    have bd : ∀ e, zyt1b0 [some (.oid q), some (.int (k : Nat)), e] S = .nx [some (.oid q), some (.int (k : Nat)), e] S := fun e => by
      have nq : gInQ false (.str "rest") (.tup [.str "mark", .str "back"]) S = .ok (.bl false) S := by
        have e : asQ S (.tup [.str "mark", .str "back"]) = some [.str "mark", .str "back"] := rfl
        have i : inF (.str "rest") [.str "mark", .str "back"] = false := by decide +kernel
        simp [gInQ, e, D.flat, i]
      have e1 : ¬ (("rest" : Str) = "move") := by decide +kernel
      have e2 : ¬ (("rest" : Str) = "mend") := by decide +kernel
      unfold zyt1b0
      generalize fF st gr fa ti la nw a b kd g = F at *
      simp [ai, af, yl_fl, ph, k2, nq, e1, e2]
    obtain ⟨ρ', S', lo, z, rfl, rfl⟩ := loop_inv (m := mName 2) (b := zyt1b0) (fun j ρ S' => ∃ z, ρ = [some (.oid q), some (.int (k : Nat)), z] ∧ S = S') (rng 0 (k : Nat)) 0 [some (.oid q), some (.int (k : Nat)), none] S ⟨none, rfl, rfl⟩ (by
      rintro j e ρ T hd ⟨z, rfl, rfl⟩
      exact ⟨_, _, _, rfl, .inl (bd (some e)), some e, rfl, rfl⟩)
    have v1 : zyt1 [some (.oid q), some (.int (k : Nat)), none] S = .nx [some (.oid q), some (.int (k : Nat)), z] S := by
      rw [← lo]
      have c : cRng (k : Int) = true := cRng_nat (by omega)
      unfold zyt1
      simp [c]
    rw [e_gSeq, v0, Out.seq_nx, e_gSeq, v1, Out.seq_nx]
    unfold zyt2
    generalize fF st gr fa ti la nw a b kd g = F at *
    simp [ai, af, yl_fl, ph]
end
end K03

/-! A new yard: what is seen. -/
namespace K03
open PySem L2 DL
section
variable {S : Store} {q sd qu n st gr fa ti la nw m a b : Nat} {kd g y : D}
theorem addO {x z : Nat} {xs ys : List D} {S : Store} (h1 : S[x]? = some (.lst xs)) (h2 : S[z]? = some (.lst ys)) (hl : xs.length + ys.length ≤ 10000) : gAdd (.oid x) (.oid z) S = .ok (.lst (xs ++ ys)) S := by
  have a1 : asLt S (.oid x) = some xs := by simp [asLt, asL, h1]
  have a2 : asLt S (.oid z) = some ys := by simp [asLt, asL, h2]
  have sh : short (xs.length + ys.length) = true := short_le (by omega)
  simp [gAdd, isI, isS, isT, gAddL, a1, a2, sh]
theorem seen_y (Y : YardAt S q sd qu n st gr fa ti la nw m a b kd g y) (h1 : 1 ≤ m) (hm : m ≤ 40) : ∃ S', S_Yard_seen_places_o [.oid q] S = .ok (.oid S.length) S' ∧ Ext S S' ∧ S'[S.length]? = some (.dic []) := by
  have st0 : startD 7 [.oid q] = [some (.oid q), none, none, none, none, none, none] := rfl
  obtain ⟨T, hT⟩ : ∃ T, T = S ++ [SO.dic []] := ⟨_, rfl⟩
  have E1 : Ext S T := by rw [hT]; exact .app _ _
  have gT : T[S.length]? = some (.dic []) := by rw [hT]; exact new_at S _
  have YT := Y.ext E1
  have ai := YT.ai
  have ad := addO YT.sO YT.qO (by simp; omega)
  rw [List.append_nil] at ad
  have w0 := word0
  have cm := DL.comp_map (m := mName 6) (fe := fCall (callSub S_word_of) (fun ds es => pick [(0, 0)] ds es []) 1 0 1 (fCons (fVar 6) (fun _ S => .ok [] S)) (fun _ S => .ok [] S)) (f := fun _ => D.int 0) (ρ := [some (.oid q), some (.oid S.length), none, none, none, none, none]) (S := T) (List.replicate m .non) (fun d hd => by
    rw [List.eq_of_mem_replicate hd]
    refine ⟨_, rfl, ?_⟩
    simp [w0])
  have mr : (List.replicate m D.non).map (fun _ => D.int 0) = List.replicate m (D.int 0) := by simp
  rw [mr] at cm
  have sh : short (List.replicate m (D.int 0)).length = true := short_le (by simp; omega)
  have v0 : zse0 [some (.oid q), none, none, none, none, none, none] S = .nx [some (.oid q), some (.oid S.length), none, none, none, none, none] T := by
    rw [hT]
    unfold zse0
    simp
  have v1 : zse1 [some (.oid q), some (.oid S.length), none, none, none, none, none] T = .nx [some (.oid q), some (.oid S.length), some (.lst (List.replicate m (.int 0))), none, none, none, none] T := by
    have fs : (fSeq (fBin gAdd (fFld ["Yard"] "stands" (fVar 0)) (fFld ["Yard"] "queue" (fVar 0)))) [some (.oid q), some (.oid S.length), none, none, none, none, none] T = .ok ⟨List.replicate m .non, none⟩ T := by
      generalize hX : List.replicate m D.non = X at *
      simp [ai, yl_sd, yl_qu, ad]
    unfold zse1
    rw [e_gSet, e_fComp, fs]
    simp only [Res.bind_ok, List.map_cons, List.map_nil, e_wipe1, e_wipe0, List.set_cons_succ, List.set_cons_zero]
    rw [cm]
    generalize List.replicate m (D.int 0) = X at *
    simp [finL, sh]
  -- first round
  have c1 : zse2c [some (.oid q), some (.oid S.length), some (.lst (List.replicate m (.int 0))), none, none, none, none] T = .ok true T := by
    obtain ⟨m', rfl⟩ : ∃ m', m = m' + 1 := ⟨m - 1, by omega⟩
    have simL0 : simL (List.replicate (m' + 1) (D.int 0)) = true := simL_all.mpr fun d hd => by rw [List.eq_of_mem_replicate hd]; rfl
    have dep0 : depL (List.replicate (m' + 1) (D.int 0)) ≤ 0 := depL_le.mpr fun d hd => by rw [List.eq_of_mem_replicate hd]; simp [D.dep]
    have ne : gNe (.lst (List.replicate (m' + 1) (.int 0))) (.lst []) T = .ok (.bl true) T := by
      rw [ne_D (by simpa only [D.sim] using simL0) rfl (by simp only [D.dep]; omega) (by decide)]
      simp [D.py, pyL, List.replicate_succ, PyData.eqv, PyData.eqvAll]
    have k0 : short 0 = true := short_le (by omega)
    unfold zse2c
    generalize List.replicate (m' + 1) (D.int 0) = X at *
    simp [k0, ne]
  obtain ⟨T2, hT2⟩ : ∃ T2, T2 = T ++ [SO.lst []] := ⟨_, rfl⟩
  have E2 : Ext T T2 := by rw [hT2]; exact .app _ _
  have Y2 := YT.ext E2
  have ai2 := Y2.ai
  have af2 := Y2.af
  have lT : T[T.length]? = none := List.getElem?_eq_none (Nat.le_refl _)
  have gl : T2[T.length]? = some (.lst []) := by rw [hT2]; exact new_at T _
  have t0 := there0 (.oid n)
  have ip := isplace0
  have no := (fl_no (st := st) (gr := gr) (fa := fa) (ti := ti) (la := la) (nw := nw) (a := a) (b := b) (kd := kd) (g := g)).2.1
  obtain ⟨W, hW⟩ : ∃ W, W = some (D.lst (List.replicate m (.int 0))) := ⟨_, rfl⟩
  obtain ⟨ρ', S', lo, z4, z5, rfl, rfl⟩ := loop_inv (m := mName 4) (b := zse2b1b) (fun j ρ S' => ∃ z4 z5, ρ = [some (.oid q), some (.oid S.length), W, some (.oid T.length), z4, z5, none] ∧ T2 = S') (List.replicate m (.int 0)) 0 [some (.oid q), some (.oid S.length), W, some (.oid T.length), none, none, none] T2 ⟨none, none, rfl, rfl⟩ (by
    rintro j e ρ U hd ⟨z4, z5, rfl, rfl⟩
    have he : e = .int 0 := List.eq_of_mem_replicate (List.mem_of_getElem? hd)
    subst he
    refine ⟨_, _, _, rfl, .inl (?_ : zse2b1b [some (.oid q), some (.oid S.length), W, some (.oid T.length), some (.int 0), z5, none] T2 = .nx [some (.oid q), some (.oid S.length), W, some (.oid T.length), some (.int 0), some (.int 0), none] T2), _, _, rfl, rfl⟩
    have sr : gShr (.int 0) (.int 1) T2 = .ok (.int 0) T2 := rfl
    unfold zse2b1b zse2b1b0 zse2b1b1
    generalize fF st gr fa ti la nw a b kd g = F at *
    simp [ai2, af2, yl_fl, fMeth, no, t0, sr, ip])
  have b1 : zse2b [some (.oid q), some (.oid S.length), W, none, none, none, none] T = .nx [some (.oid q), some (.oid S.length), some (.oid T.length), some (.oid T.length), z4, z5, none] T2 := by
    have w0 : zse2b0 [some (.oid q), some (.oid S.length), W, none, none, none, none] T = .nx [some (.oid q), some (.oid S.length), W, some (.oid T.length), none, none, none] T2 := by
      rw [hT2]
      unfold zse2b0
      simp
    have w1 : zse2b1 [some (.oid q), some (.oid S.length), W, some (.oid T.length), none, none, none] T2 = .nx [some (.oid q), some (.oid S.length), W, some (.oid T.length), z4, z5, none] T2 := by
      rw [← lo]
      have fs : (fSeq (fVar 2)) [some (.oid q), some (.oid S.length), W, some (.oid T.length), none, none, none] T2 = .ok ⟨List.replicate m (.int 0), none⟩ T2 := by rw [hW]; rfl
      unfold zse2b1
      rw [e_gFor, fs]
      rfl
    unfold zse2b
    rw [e_gSeq, w0, Out.seq_nx, e_gSeq, w1, Out.seq_nx]
    unfold zse2b2
    simp
  have c2 : zse2c [some (.oid q), some (.oid S.length), some (.oid T.length), some (.oid T.length), z4, z5, none] T2 = .ok false T2 := by
    have k0 : short 0 = true := short_le (by omega)
    have ne : gNe (.oid T.length) (.lst []) T2 = .ok (.bl false) T2 := by
      have p1 : pyOf T2 (.oid T.length) = some (.list []) := by simp [pyOf, asL, gl, toPyL]
      have p2 : pyOf T2 (.lst []) = some (.list []) := by simp [pyOf, toPy, toPyL]
      have e3 : SeqAt.shaped (.list []) = true := by simp [SeqAt.shaped, PyData.canLay0, PyData.canLayAll0, PyData.depth, PyData.depthAll]
      show (if pScal (.oid T.length) (.lst []) T2 then _ else gEqD true (.oid T.length) (.lst []) T2) = _
      rw [if_neg (by simp [pScal, scalD])]
      simp [gEqD, p1, p2, e3, PyData.eqv, PyData.eqvAll]
    unfold zse2c
    simp [k0, ne]
  have v2 : zse2 [some (.oid q), some (.oid S.length), W, none, none, none, none] T = .nx [some (.oid q), some (.oid S.length), some (.oid T.length), some (.oid T.length), z4, z5, none] T2 := by
    unfold zse2
    rw [← hW] at c1
    rw [whileF_go (n := 99999) c1 b1]
    exact whileF_end (n := 99998) c2
  refine ⟨T2, ?_, E1.trans E2, E2.old _ _ gT⟩
  unfold S_Yard_seen_places_o
  rw [zse_eq, e_semOf, st0]
  unfold zse
  rw [e_gSeq, v0, Out.seq_nx, e_gSeq, v1, Out.seq_nx, e_gSeq, ← hW, v2, Out.seq_nx]
  unfold zse3
  simp
theorem serials_y (Y : YardAt S q sd qu n st gr fa ti la nw m a b kd g y) (h1 : 1 ≤ m) (hm : m ≤ 40) : ∃ S', S_Yard_serials [.oid q] S = .ok (.lst []) S' ∧ Ext S S' := by
  obtain ⟨S1, e1, E1, g1⟩ := seen_y Y h1 hm
  have ai := Y.ai
  have no := (yl_no (sd := sd) (qu := qu) (n := n) (y := y)).2.2.2.2.2.1
  have k0 : short 0 = true := short_le (by omega)
  refine ⟨S1.set S.length (.frz (.oid S.length)), ?_, E1.set (Nat.le_refl _) _⟩
  unfold S_Yard_serials
  rw [zys_eq]
  have st0 : startD 2 [.oid q] = [some (.oid q), none] := rfl
  rw [e_semOf, st0]
  have fk : (fKeysJ (fMeth S_Yard_seen_places_o (fun ds es => pick [(0, 0)] ds es []) "Yard" "seen_places" 1 0 1 (fVar 0) (fun _ S => .ok [] S) (fun _ S => .ok [] S))) [some (.oid q), none] S = .ok ⟨[], none⟩ (S1.set S.length (.frz (.oid S.length))) := by
    have mm : (fMeth S_Yard_seen_places_o (fun ds es => pick [(0, 0)] ds es []) "Yard" "seen_places" 1 0 1 (fVar 0) (fun _ S => .ok [] S) (fun _ S => .ok [] S)) [some (.oid q), none] S = .ok (.oid S.length) S1 := by
      simp [fMeth, ai, no, e1]
    unfold fKeysJ
    rw [mm]
    simp only [Res.bind_ok, keysJ, g1]
    rfl
  unfold zys0
  rw [e_gRet, e_fComp, fk]
  have cn : ∀ ft fe ρ S, compF none (mName 1) ft fe [] ρ S = .ok [] S := fun ft fe ρ S => by rw [compF, if_pos (by trivial)]
  simp only [Res.bind_ok]
  rw [cn]
  simp [finL, k0]
end
end K03

/-! The law's look at a new yard. -/
namespace K03
open PySem L2 DL
noncomputable def zsr0b0 : FS := (gSet 2 (fC (.str "none")))
noncomputable def zsr0b1 : FS := (gTry (gExpr (fMeth S_Yard_step (fun ds es => pick [(0, 0), (1, 0)] ds es []) "Yard" "step" 1 1 2 (fVar 0) (fun _ S => .ok [] S) (fCons (fVar 1) (fun _ S => .ok [] S)))) (⟨tb_BadNumber, none, (gSet 2 (fC (.str "number")))⟩ :: (⟨tb_YardError, none, (gSet 2 (fC (.str "other")))⟩ :: [])))
noncomputable def zsr0b2 : FS := (gIf (toB (fBin gNe (fVar 2) (fC (.str "number")))) (gRet (fC (.bl false))) gNil)
noncomputable def zsr0b : FS := (gSeq zsr0b0 (gSeq zsr0b1 zsr0b2))
noncomputable def zsr0 : FS := (gFor (fSeq (fLst (fCons (fUn gNeg (fC (.int 1))) (fCons (fC (.int 1001)) (fCons (fC .non) (fCons (fC (.bl true)) (fCons (fC (.str "1")) (fCons (fTup (fCons (fC (.int 1)) (fun _ S => .ok [] S))) (fCons (fBin gPow (fC (.int 10)) (fC (.int 9))) (fun _ S => .ok [] S)))))))))) (mName 1) zsr0b)
noncomputable def zsr1 : FS := (gRet (fBin gEq (fLst (fCons (fMeth S_Yard_step (fun ds es => pick [(0, 0), (1, 0)] ds es []) "Yard" "step" 1 1 2 (fVar 0) (fun _ S => .ok [] S) (fCons (fC (.int 0)) (fun _ S => .ok [] S))) (fCons (fMeth S_Yard_step (fun ds es => pick [(0, 0), (1, 0)] ds es []) "Yard" "step" 1 1 2 (fVar 0) (fun _ S => .ok [] S) (fCons (fC (.int 1000)) (fun _ S => .ok [] S))) (fun _ S => .ok [] S)))) (fLst (fCons (fC (.str "rest")) (fCons (fC (.str "rest")) (fun _ S => .ok [] S))))))
noncomputable def zsr : FS := (gSeq zsr0 zsr1)
theorem zsr_eq : m_p_law_steps_right = zsr := rfl
noncomputable def znw0 : FS := (gIf (fOrT (fNotT (toB (fCB (gIsiC "Yard") (fCons (fVar 0) (fCons (fC (.cls "Yard")) (fun _ S => .ok [] S)))))) (fOrT (toB (fBin gNe (fMeth S_Ground_pegs (fun ds es => pick [(0, 0)] ds es []) "Yard" "pegs" 1 0 1 (fVar 0) (fun _ S => .ok [] S) (fun _ S => .ok [] S)) (fVar 1))) (fOrT (toB (fBin gNe (fMeth S_Yard_made (fun ds es => pick [(0, 0)] ds es []) "Yard" "made" 1 0 1 (fVar 0) (fun _ S => .ok [] S) (fun _ S => .ok [] S)) (fC (.int 0)))) (toB (fBin gNe (fMeth S_Yard_news (fun ds es => pick [(0, 0)] ds es []) "Yard" "news" 1 0 1 (fVar 0) (fun _ S => .ok [] S) (fun _ S => .ok [] S)) (fLst (fun _ S => .ok [] S))))))) (gRet (fC (.bl false))) gNil)
noncomputable def znw1 : FS := (gSet 5 (fMeth S_Yard_picture (fun ds es => pick [(0, 0)] ds es []) "Yard" "picture" 1 0 1 (fVar 0) (fun _ S => .ok [] S) (fun _ S => .ok [] S)))
noncomputable def znw2 : FS := (gIf (toB (fBin gNe (fLst (fCons (fBin gIx (fVar 5) (fC (.str "kind"))) (fCons (fBin gIx (fVar 5) (fC (.str "phase"))) (fCons (fBin gIx (fVar 5) (fC (.str "ages"))) (fCons (fBin gIx (fVar 5) (fC (.str "next"))) (fun _ S => .ok [] S)))))) (fLst (fCons (fVar 3) (fCons (fC (.str "rest")) (fCons (fVar 4) (fCons (fC (.int 0)) (fun _ S => .ok [] S)))))))) (gRet (fC (.bl false))) gNil)
noncomputable def znw3b0 : FS := (gAsg (mTup 3 (mCons (mName 8) (mCons (mName 9) (mCons (mName 10) (fun ds ρ _ => match ds with | [] => some ρ | _ => none))))) (fBin gIx (fVar 5) (fVar 6)))
noncomputable def znw3b1 : FS := (gIf (fOrT (toB (fBin gNe (fVar 9) (fVar 8))) (fOrT (toB (fBin gNe (fBin gSub (fVar 10) (fVar 8)) (fVar 7))) (toB (fBin gLt (fVar 8) (fC (.int 1)))))) (gRet (fC (.bl false))) gNil)
noncomputable def znw3b : FS := (gSeq znw3b0 znw3b1)
noncomputable def znw3 : FS := (gFor (fSeq (fLst (fCons (fTup (fCons (fC (.str "young")) (fCons (fBin gIx (fVar 2) (fC (.int 0))) (fun _ S => .ok [] S)))) (fCons (fTup (fCons (fC (.str "old")) (fCons (fBin gIx (fVar 2) (fC (.int 1))) (fun _ S => .ok [] S)))) (fCons (fTup (fCons (fC (.str "new")) (fCons (fBin gIx (fVar 2) (fC (.int 1))) (fun _ S => .ok [] S)))) (fun _ S => .ok [] S)))))) (mTup 2 (mCons (mName 6) (mCons (mName 7) (fun ds ρ _ => match ds with | [] => some ρ | _ => none)))) znw3b)
noncomputable def znw4 : FS := (gSet 11 (fLst (fCons (fBin gIx (fVar 5) (fC (.str "cells"))) (fCons (fBin gIx (fVar 5) (fC (.str "due"))) (fCons (fBin gIx (fVar 5) (fC (.str "far"))) (fCons (fBin gIx (fVar 5) (fC (.str "ties"))) (fCons (fBin gIx (fVar 5) (fC (.str "lasts"))) (fCons (fMeth S_Yard_serials (fun ds es => pick [(0, 0)] ds es []) "Yard" "serials" 1 0 1 (fVar 0) (fun _ S => .ok [] S) (fun _ S => .ok [] S)) (fun _ S => .ok [] S)))))))))
noncomputable def znw5 : FS := (gIf (fOrT (toB (fBin gNe (fVar 11) (fBin gRepL (fLst (fCons (fLst (fun _ S => .ok [] S)) (fun _ S => .ok [] S))) (fC (.int 6))))) (fOrT (toB (fBin gNe (fBin gIx (fVar 5) (fC (.str "pegs"))) (fBin gRepL (fLst (fCons (fC .non) (fun _ S => .ok [] S))) (fVar 1)))) (toB (fBin gNe (fMeth S_Yard_step (fun ds es => pick [(0, 0), (2, 0)] ds es [.int 1]) "Yard" "step" 1 0 2 (fVar 0) (fun _ S => .ok [] S) (fun _ S => .ok [] S)) (fC (.str "rest")))))) (gRet (fC (.bl false))) gNil)
noncomputable def znw6 : FS := (gRet (fAndV (fBin gEq (fComp (fRng1 (fCons (fVar 1) (fun _ S => .ok [] S))) (mName 12) fYes (fMeth S_Ground_what (fun ds es => pick [(0, 0), (0, 1)] ds es []) "Yard" "what" 2 0 2 (fVar 0) (fCons (fVar 12) (fun _ S => .ok [] S)) (fun _ S => .ok [] S)) ([("_law_p", 12)].map (·.2)) finL) (fBin gRepL (fLst (fCons (fC .non) (fun _ S => .ok [] S))) (fVar 1))) (fCall S_p_law_steps_right (fun ds es => pick [(0, 0)] ds es []) 1 0 1 (fCons (fVar 0) (fun _ S => .ok [] S)) (fun _ S => .ok [] S))))
noncomputable def znw : FS := (gSeq znw0 (gSeq znw1 (gSeq znw2 (gSeq znw3 (gSeq znw4 (gSeq znw5 znw6))))))
theorem znw_eq : m_p_law_new_right = znw := rfl
section
variable {S : Store} {q sd qu n st gr fa ti la nw m a b : Nat} {kd g y : D}
theorem steps_y (Y : YardAt S q sd qu n st gr fa ti la nw m a b kd g y) : S_p_law_steps_right [.oid q] S = .ok (.bl true) S := by
  have ai := Y.ai
  have no := (yl_no (sd := sd) (qu := qu) (n := n) (y := y)).2.2.2.2.2.2.1
  have st0 : startD 3 [.oid q] = [some (.oid q), none, none] := rfl
  have tl : tb_BadNumber.lookup ("BadNumber" : Str) = some true := by decide +kernel
  obtain ⟨L, hL⟩ : ∃ L : List D, L = [.int (-1), .int 1001, .non, .bl true, .str "1", .tup [.int 1], .int 1000000000] := ⟨_, rfl⟩
  have bad : ∀ d ∈ L, Nd d ∧ whl d 0 1000 = false := fun d hd => by
    rw [hL] at hd
    simp only [List.mem_cons, List.not_mem_nil, or_false] at hd
    rcases hd with rfl | rfl | rfl | rfl | rfl | rfl | rfl <;> exact ⟨⟨rfl, rfl⟩, by decide⟩
  obtain ⟨ρ', S', lo, z1, z2, rfl, rfl⟩ := loop_inv (m := mName 1) (b := zsr0b) (fun j ρ S' => ∃ z1 z2, ρ = [some (.oid q), z1, z2] ∧ S = S') L 0 [some (.oid q), none, none] S ⟨none, none, rfl, rfl⟩ (by
    rintro j e ρ U hd ⟨z1, z2, rfl, rfl⟩
    obtain ⟨ne, we⟩ := bad e (List.mem_of_getElem? hd)
    have se := (step_y Y ne).1 we
    refine ⟨_, _, _, rfl, .inl (?_ : zsr0b [some (.oid q), some e, z2] S = .nx [some (.oid q), some e, some (.str "number")] S), _, _, rfl, rfl⟩
    have b0 : zsr0b0 [some (.oid q), some e, z2] S = .nx [some (.oid q), some e, some (.str "none")] S := by
      unfold zsr0b0
      simp
    have b1 : zsr0b1 [some (.oid q), some e, some (.str "none")] S = .nx [some (.oid q), some e, some (.str "number")] S := by
      unfold zsr0b1 gTry
      simp [fMeth, ai, no, se]
      unfold hdM
      simp [tl, Out.calm]
    unfold zsr0b
    rw [e_gSeq, b0, Out.seq_nx, e_gSeq, b1, Out.seq_nx]
    unfold zsr0b2
    simp)
  have k7 : short 7 = true := short_le (by omega)
  have k1 : short 1 = true := short_le (by omega)
  have k2 : short 2 = true := short_le (by omega)
  have v0 : zsr0 [some (.oid q), none, none] S = .nx [some (.oid q), z1, z2] S := by
    rw [← lo]
    have fl : fSeq (fLst (fCons (fUn gNeg (fC (.int 1))) (fCons (fC (.int 1001)) (fCons (fC .non) (fCons (fC (.bl true)) (fCons (fC (.str "1")) (fCons (fTup (fCons (fC (.int 1)) (fun _ S => .ok [] S))) (fCons (fBin gPow (fC (.int 10)) (fC (.int 9))) (fun _ S => .ok [] S))))))))) [some (.oid q), none, none] S = .ok ⟨L, none⟩ S := by
      rw [hL]
      simp [k7, k1, p109]
    unfold zsr0
    rw [e_gFor, fl]
    rfl
  have s0 := (step_y Y (u := .int 0) ⟨rfl, rfl⟩).2 (by decide)
  have s1 := (step_y Y (u := .int 1000) ⟨rfl, rfl⟩).2 (by decide)
  have eq : gEq (.lst [.str "rest", .str "rest"]) (.lst [.str "rest", .str "rest"]) S = .ok (.bl true) S := eq_self (by decide +kernel) (by decide +kernel) S
  unfold S_p_law_steps_right
  rw [zsr_eq, e_semOf, st0]
  unfold zsr
  rw [e_gSeq, v0, Out.seq_nx]
  unfold zsr1
  simp [fMeth, ai, no, s0, s1, k2, eq]
theorem ix_pic {k : Str} {d : D} (h : valD (picK m a b kd g) (.inr k) = some d) (S : Store) : gIx (.dic (picK m a b kd g)) (.str k) S = .ok d S := by
  generalize picK m a b kd g = P at *
  simp [gIx, pDic1, gIxD, asD, keyD, h]
end
end K03

/-! The law's look at a new yard: all of it. -/
namespace K03
open PySem L2 DL
section
variable {S : Store} {q sd qu n st gr fa ti la nw m a b : Nat} {kd g y : D}
theorem eqi (i : Int) (S : Store) : gNe (.int i) (.int i) S = .ok (.bl false) S := by
  simp [gNe, pScal, scalD, gEqS, eqS]
theorem new_y (Y : YardAt S q sd qu n st gr fa ti la nw m a b kd g y) (h1 : 1 ≤ m) (hm : m ≤ 40) (hk : kdOk kd = true) (hg : ∃ i, g = .int i ∧ 1 ≤ i ∧ i ≤ 3) : ∃ S', S_p_law_new_right [.oid q, .int (m : Nat), .tup [.int (a : Nat), .int (b : Nat)], kd, g] S = .ok (.bl true) S' ∧ Kn n S S' := by
  have st0 : startD 13 [.oid q, .int (m : Nat), .tup [.int (a : Nat), .int (b : Nat)], kd, g] = [some (.oid q), some (.int (m : Nat)), some (.tup [.int (a : Nat), .int (b : Nat)]), some kd, some g, none, none, none, none, none, none, none, none] := rfl
  obtain ⟨i, rfl, hi1, hi2⟩ := hg
  obtain ⟨x, rfl, hx⟩ : ∃ x, kd = .str x ∧ PyData.strOk x = true := by
    cases kd with
    | str x =>
      refine ⟨x, rfl, ?_⟩
      simp only [kdOk, Bool.or_eq_true, beq_iff_eq] at hk
      rcases hk with rfl | rfl <;> decide +kernel
    | _ => cases hk
  have ai := Y.ai
  have no := yl_no (sd := sd) (qu := qu) (n := n) (y := y)
  have pg := pegs_y Y hm
  have md := made_y Y
  obtain ⟨S1, nwE, Y1, g1, KN⟩ := news_y Y
  have ai1 := Y1.ai
  have ne1 : gNe (.oid nw) (.lst []) S1 = .ok (.bl false) S1 := by
    have p1 : pyOf S1 (.oid nw) = some (.list []) := by simp [pyOf, asL, g1, toPyL]
    have p2 : pyOf S1 (.lst []) = some (.list []) := by simp [pyOf, toPy, toPyL]
    have e3 : SeqAt.shaped (.list []) = true := by simp [SeqAt.shaped, PyData.canLay0, PyData.canLayAll0, PyData.depth, PyData.depthAll]
    show (if pScal (.oid nw) (.lst []) S1 then _ else gEqD true (.oid nw) (.lst []) S1) = _
    rw [if_neg (by simp [pScal, scalD])]
    simp [gEqD, p1, p2, e3, PyData.eqv, PyData.eqvAll]
  have k0 : short 0 = true := short_le (by omega)
  have k1 : short 1 = true := short_le (by omega)
  have k2 : short 2 = true := short_le (by omega)
  have k3 : short 3 = true := short_le (by omega)
  have k4 : short 4 = true := short_le (by omega)
  have k6 : short 6 = true := short_le (by omega)
  have nm := eqi (m : Nat)
  have n0 := eqi 0
  have ic : gIsiC "Yard" [.oid q, .cls "Yard"] S = .ok (.bl true) S := by simp [gIsiC, ai]
  have v0 : znw0 [some (.oid q), some (.int (m : Nat)), some (.tup [.int (a : Nat), .int (b : Nat)]), some (.str x), some (.int i), none, none, none, none, none, none, none, none] S = .nx [some (.oid q), some (.int (m : Nat)), some (.tup [.int (a : Nat), .int (b : Nat)]), some (.str x), some (.int i), none, none, none, none, none, none, none, none] S1 := by
    unfold znw0
    simp [ic, fMeth, ai, no, pg, md, nwE, k0, ne1]
  obtain ⟨S2, pc, E2⟩ := pic_y Y1 hm
  obtain ⟨P, hP⟩ : ∃ P, P = D.dic (picK m a b (.str x) (.int i)) := ⟨_, rfl⟩
  have ix := fun (k : Str) (d : D) (h : valD (picK m a b (.str x) (.int i)) (.inr k) = some d) (S : Store) => ix_pic h S
  rw [← hP] at pc ix
  have v1 : znw1 [some (.oid q), some (.int (m : Nat)), some (.tup [.int (a : Nat), .int (b : Nat)]), some (.str x), some (.int i), none, none, none, none, none, none, none, none] S1 = .nx [some (.oid q), some (.int (m : Nat)), some (.tup [.int (a : Nat), .int (b : Nat)]), some (.str x), some (.int i), some P, none, none, none, none, none, none, none] S2 := by
    unfold znw1
    simp [fMeth, ai1, no, pc]
  have Y2 := Y1.ext E2
  have i1 := ix "kind" (.str x) rfl
  have i2 := ix "phase" (.str "rest") rfl
  have i3 := ix "ages" (.int i) rfl
  have i4 := ix "next" (.int 0) rfl
  have i5 := ix "young" (.tup [.int 1, .int 1, .int (1 + (a : Nat))]) rfl
  have i6 := ix "old" (.tup [.int (1 + 2 * (a : Nat)), .int (1 + 2 * (a : Nat)), .int (1 + 2 * (a : Nat) + (b : Nat))]) rfl
  have i7 := ix "new" (.tup [.int (1 + 2 * (a : Nat) + (b : Nat)), .int (1 + 2 * (a : Nat) + (b : Nat)), .int (1 + 2 * (a : Nat) + (b : Nat) + (b : Nat))]) rfl
  have i8 := ix "cells" (.lst []) rfl
  have i9 := ix "due" (.lst []) rfl
  have i10 := ix "far" (.lst []) rfl
  have i11 := ix "ties" (.lst []) rfl
  have i12 := ix "lasts" (.lst []) rfl
  have i13 := ix "pegs" (.lst (List.replicate m .non)) rfl
  clear hP ix
  have ne4 : ∀ S, gNe (.lst [.str x, .str "rest", .int i, .int 0]) (.lst [.str x, .str "rest", .int i, .int 0]) S = .ok (.bl false) S := fun S => ne_self (by
    have h2 : PyData.strOk ("rest" : Str) = true := by decide +kernel
    simp [D.sim, simL, hx, h2]
    omega) (by simp [D.dep, depL]) S
  have v2 : znw2 [some (.oid q), some (.int (m : Nat)), some (.tup [.int (a : Nat), .int (b : Nat)]), some (.str x), some (.int i), some P, none, none, none, none, none, none, none] S2 = .nx [some (.oid q), some (.int (m : Nat)), some (.tup [.int (a : Nat), .int (b : Nat)]), some (.str x), some (.int i), some P, none, none, none, none, none, none, none] S2 := by
    unfold znw2
    simp [i1, i2, i3, i4, k4, ne4]
  -- the parts
  obtain ⟨L, hL⟩ : ∃ L : List D, L = [.tup [.str "young", .int (a : Nat)], .tup [.str "old", .int (b : Nat)], .tup [.str "new", .int (b : Nat)]] := ⟨_, rfl⟩
  have each : ∀ d ∈ L, ∃ (nm : Str) (z : Nat) (f : Int), d = .tup [.str nm, .int (z : Nat)] ∧ 1 ≤ f ∧ ∀ S, gIx P (.str nm) S = .ok (.tup [.int f, .int f, .int (f + (z : Nat))]) S := fun d hd => by
    rw [hL] at hd
    simp only [List.mem_cons, List.not_mem_nil, or_false] at hd
    rcases hd with rfl | rfl | rfl
    · exact ⟨_, a, 1, rfl, by omega, i5⟩
    · exact ⟨_, b, _, rfl, by omega, i6⟩
    · exact ⟨_, b, _, rfl, by omega, i7⟩
  obtain ⟨ρ', S', lo, z6, z7, z8, z9, z10, rfl, rfl⟩ := loop_inv (m := (mTup 2 (mCons (mName 6) (mCons (mName 7) (fun ds ρ _ => match ds with | [] => some ρ | _ => none))))) (b := znw3b) (fun j ρ S' => ∃ z6 z7 z8 z9 z10, ρ = [some (.oid q), some (.int (m : Nat)), some (.tup [.int (a : Nat), .int (b : Nat)]), some (.str x), some (.int i), some P, z6, z7, z8, z9, z10, none, none] ∧ S2 = S') L 0 [some (.oid q), some (.int (m : Nat)), some (.tup [.int (a : Nat), .int (b : Nat)]), some (.str x), some (.int i), some P, none, none, none, none, none, none, none] S2 ⟨none, none, none, none, none, rfl, rfl⟩ (by
    rintro j e ρ U hd ⟨z6, z7, z8, z9, z10, rfl, rfl⟩
    obtain ⟨nm2, z, f, rfl, hf, hix⟩ := each e (List.mem_of_getElem? hd)
    refine ⟨_, _, _, rfl, .inl (?_ : znw3b [some (.oid q), some (.int (m : Nat)), some (.tup [.int (a : Nat), .int (b : Nat)]), some (.str x), some (.int i), some P, some (.str nm2), some (.int (z : Nat)), z8, z9, z10, none, none] S2 = .nx [some (.oid q), some (.int (m : Nat)), some (.tup [.int (a : Nat), .int (b : Nat)]), some (.str x), some (.int i), some P, some (.str nm2), some (.int (z : Nat)), some (.int f), some (.int f), some (.int (f + (z : Nat))), none, none] S2), _, _, _, _, _, rfl, rfl⟩
    have b0 : znw3b0 [some (.oid q), some (.int (m : Nat)), some (.tup [.int (a : Nat), .int (b : Nat)]), some (.str x), some (.int i), some P, some (.str nm2), some (.int (z : Nat)), z8, z9, z10, none, none] S2 = .nx [some (.oid q), some (.int (m : Nat)), some (.tup [.int (a : Nat), .int (b : Nat)]), some (.str x), some (.int i), some P, some (.str nm2), some (.int (z : Nat)), some (.int f), some (.int f), some (.int (f + (z : Nat))), none, none] S2 := by
      unfold znw3b0
      simp [hix]
    unfold znw3b
    rw [e_gSeq, b0, Out.seq_nx]
    have e1 : f + (z : Nat) - f = (z : Nat) := by omega
    have e2 : ¬ f < 1 := by omega
    unfold znw3b1
    simp [e1, e2])
  have v3 : znw3 [some (.oid q), some (.int (m : Nat)), some (.tup [.int (a : Nat), .int (b : Nat)]), some (.str x), some (.int i), some P, none, none, none, none, none, none, none] S2 = .nx [some (.oid q), some (.int (m : Nat)), some (.tup [.int (a : Nat), .int (b : Nat)]), some (.str x), some (.int i), some P, z6, z7, z8, z9, z10, none, none] S2 := by
    rw [← lo]
    have a0 : atI [D.int (a : Nat), D.int (b : Nat)] 0 = some (.int (a : Nat)) := by
      have e0 : (0 : Int) = ((0 : Nat) : Int) := rfl
      rw [e0, at_nat _ _ (by simp)]
      rfl
    have a1 : atI [D.int (a : Nat), D.int (b : Nat)] 1 = some (.int (b : Nat)) := by
      have e0 : (1 : Int) = ((1 : Nat) : Int) := rfl
      rw [e0, at_nat _ _ (by simp)]
      rfl
    unfold znw3
    rw [e_gFor]
    have fs : (fSeq (fLst (fCons (fTup (fCons (fC (.str "young")) (fCons (fBin gIx (fVar 2) (fC (.int 0))) (fun _ S => .ok [] S)))) (fCons (fTup (fCons (fC (.str "old")) (fCons (fBin gIx (fVar 2) (fC (.int 1))) (fun _ S => .ok [] S)))) (fCons (fTup (fCons (fC (.str "new")) (fCons (fBin gIx (fVar 2) (fC (.int 1))) (fun _ S => .ok [] S)))) (fun _ S => .ok [] S)))))) [some (.oid q), some (.int (m : Nat)), some (.tup [.int (a : Nat), .int (b : Nat)]), some (.str x), some (.int i), some P, none, none, none, none, none, none, none] S2 = .ok ⟨L, none⟩ S2 := by
      rw [hL]
      simp [k3, k2, a0, a1]
    rw [fs]
    rfl
  obtain ⟨S3, se, E3⟩ := serials_y Y2 h1 hm
  have Y3 := Y2.ext E3
  have ai2 := Y2.ai
  have ai3 := Y3.ai
  have v4 : znw4 [some (.oid q), some (.int (m : Nat)), some (.tup [.int (a : Nat), .int (b : Nat)]), some (.str x), some (.int i), some P, z6, z7, z8, z9, z10, none, none] S2 = .nx [some (.oid q), some (.int (m : Nat)), some (.tup [.int (a : Nat), .int (b : Nat)]), some (.str x), some (.int i), some P, z6, z7, z8, z9, z10, some (.lst [.lst [], .lst [], .lst [], .lst [], .lst [], .lst []]), none] S3 := by
    unfold znw4
    simp [i8, i9, i10, i11, i12, fMeth, ai2, no, se, k6]
  have r6 : gRepL (.lst [.lst []]) (.int 6) S3 = .ok (.lst [.lst [], .lst [], .lst [], .lst [], .lst [], .lst []]) S3 := by
    have el : asLt S3 (.lst [.lst []]) = some [.lst []] := rfl
    simp only [gRepL, el]
    rw [if_pos ⟨by decide, by decide, by decide⟩]
    rfl
  have rm : ∀ S, gRepL (.lst [.non]) (.int (m : Nat)) S = .ok (.lst (List.replicate m .non)) S := fun S => by
    have el : asLt S (.lst [.non]) = some [.non] := rfl
    simp only [gRepL, el]
    rw [if_pos ⟨by omega, by omega, by simp⟩, rep1]
  have sN : simL (List.replicate m D.non) = true := simL_all.mpr fun d hd => by rw [List.eq_of_mem_replicate hd]; rfl
  have dN : depL (List.replicate m D.non) ≤ 0 := depL_le.mpr fun d hd => by rw [List.eq_of_mem_replicate hd]; simp [D.dep]
  have ne6 : gNe (.lst [.lst [], .lst [], .lst [], .lst [], .lst [], .lst []]) (.lst [.lst [], .lst [], .lst [], .lst [], .lst [], .lst []]) S3 = .ok (.bl false) S3 := ne_self (by rfl) (by simp [D.dep, depL]) S3
  have neN : ∀ S, gNe (.lst (List.replicate m .non)) (.lst (List.replicate m .non)) S = .ok (.bl false) S := fun S => ne_self (by simpa only [D.sim] using sN) (by simp only [D.dep]; omega) S
  have eqN : ∀ S, gEq (.lst (List.replicate m .non)) (.lst (List.replicate m .non)) S = .ok (.bl true) S := fun S => eq_self (by simpa only [D.sim] using sN) (by simp only [D.dep]; omega) S
  have stp := (step_y Y3 (u := .int 1) ⟨rfl, rfl⟩).2 (by decide)
  have v5 : znw5 [some (.oid q), some (.int (m : Nat)), some (.tup [.int (a : Nat), .int (b : Nat)]), some (.str x), some (.int i), some P, z6, z7, z8, z9, z10, some (.lst [.lst [], .lst [], .lst [], .lst [], .lst [], .lst []]), none] S3 = .nx [some (.oid q), some (.int (m : Nat)), some (.tup [.int (a : Nat), .int (b : Nat)]), some (.str x), some (.int i), some P, z6, z7, z8, z9, z10, some (.lst [.lst [], .lst [], .lst [], .lst [], .lst [], .lst []]), none] S3 := by
    generalize List.replicate m D.non = RM at *
    unfold znw5
    simp [k0, k1, r6, ne6, i13, rm, neN, fMeth, ai3, no, stp]
  have wh : ∀ p, p < m → S_Ground_what [.oid q, .int (p : Nat)] S3 = .ok .non S3 := fun p hp => what0 Y3 hm hp
  have cm := DL.comp_map (m := mName 12) (fe := fMeth S_Ground_what (fun ds es => pick [(0, 0), (0, 1)] ds es []) "Yard" "what" 2 0 2 (fVar 0) (fCons (fVar 12) (fun _ S => .ok [] S)) (fun _ S => .ok [] S)) (f := fun _ => D.non) (ρ := [some (.oid q), some (.int (m : Nat)), some (.tup [.int (a : Nat), .int (b : Nat)]), some (.str x), some (.int i), some P, z6, z7, z8, z9, z10, some (.lst [.lst [], .lst [], .lst [], .lst [], .lst [], .lst []]), none]) (S := S3) (rng 0 (m : Nat)) (fun d hd => by
    obtain ⟨j, hj⟩ := List.mem_iff_getElem?.mp hd
    obtain ⟨rfl, hj2⟩ := rng_get hj
    have e : (0 : Int) + (j : Nat) = (j : Nat) := by omega
    rw [e]
    have w := wh j (by omega)
    refine ⟨_, rfl, ?_⟩
    simp [fMeth, ai3, no, w])
  have mr : (rng 0 (m : Nat)).map (fun _ => D.non) = List.replicate m .non := by
    have mc : ∀ l : List D, l.map (fun _ => D.non) = List.replicate l.length .non := fun l => by
      induction l with
      | nil => rfl
      | cons _ _ ih => simp [ih, List.replicate_succ]
    rw [mc, rng_length]
    congr 1
  rw [mr] at cm
  have c : cRng (m : Int) = true := cRng_nat (by omega)
  have shm : short (List.replicate m D.non).length = true := short_le (by simp; omega)
  have sr := steps_y Y3
  refine ⟨S3, ?_, KN.trans ⟨(E2.trans E3).len, fun j o _ h => (E2.trans E3).old j o h⟩⟩
  unfold S_p_law_new_right
  rw [znw_eq, e_semOf, st0]
  unfold znw
  rw [e_gSeq, v0, Out.seq_nx, e_gSeq, v1, Out.seq_nx, e_gSeq, v2, Out.seq_nx, e_gSeq, v3, Out.seq_nx, e_gSeq, v4, Out.seq_nx, e_gSeq, v5, Out.seq_nx]
  have fc : fComp (fRng1 (fCons (fVar 1) (fun _ S => .ok [] S))) (mName 12) fYes (fMeth S_Ground_what (fun ds es => pick [(0, 0), (0, 1)] ds es []) "Yard" "what" 2 0 2 (fVar 0) (fCons (fVar 12) (fun _ S => .ok [] S)) (fun _ S => .ok [] S)) ([("_law_p", 12)].map (·.2)) finL [some (.oid q), some (.int (m : Nat)), some (.tup [.int (a : Nat), .int (b : Nat)]), some (.str x), some (.int i), some P, z6, z7, z8, z9, z10, some (.lst [.lst [], .lst [], .lst [], .lst [], .lst [], .lst []]), none] S3 = .ok (.lst (List.replicate m .non)) S3 := by
    rw [e_fComp, e_fRng1]
    simp only [e_fCons, e_fVar, List.getElem?_cons_succ, List.getElem?_cons_zero, Res.bind_ok, c, if_true, List.map_cons, List.map_nil, e_wipe1, e_wipe0, List.set_cons_succ, List.set_cons_zero]
    rw [cm]
    generalize List.replicate m D.non = RM at *
    simp [finL, shm]
  unfold znw6
  generalize List.replicate m D.non = RM at *
  generalize fComp (fRng1 (fCons (fVar 1) (fun _ S => .ok [] S))) (mName 12) fYes (fMeth S_Ground_what (fun ds es => pick [(0, 0), (0, 1)] ds es []) "Yard" "what" 2 0 2 (fVar 0) (fCons (fVar 12) (fun _ S => .ok [] S)) (fun _ S => .ok [] S)) ([("_law_p", 12)].map (·.2)) finL = FC at *
  simp [fc, k1, rm, eqN, sr]
end
end K03

/-! A yard made as the law makes it. -/
namespace K03
open PySem L2 DL
noncomputable def zma0 : FS := (gIf (toB (fBin gEq (fVar 5) (fC (.int 0)))) (gRet (fMake (makeO S_Yard_init (fun ds es => pick [(0, 0), (0, 1), (1, 0), (1, 1), (1, 2), (1, 3), (1, 4)] ds es []) "Yard" 7) 1 5 (fCons (fVar 0) (fun _ S => .ok [] S)) (fCons (fBin gIx (fVar 1) (fC (.int 0))) (fCons (fBin gIx (fVar 1) (fC (.int 1))) (fCons (fVar 2) (fCons (fVar 3) (fCons (fVar 4) (fun _ S => .ok [] S)))))))) gNil)
noncomputable def zma1 : FS := (gIf (toB (fBin gEq (fVar 5) (fC (.int 1)))) (gRet (fMake (makeO S_Yard_init (fun ds es => pick [(0, 0), (0, 1), (1, 4), (1, 3), (1, 2), (1, 1), (1, 0)] ds es []) "Yard" 7) 1 5 (fCons (fVar 0) (fun _ S => .ok [] S)) (fCons (fVar 4) (fCons (fVar 3) (fCons (fVar 2) (fCons (fBin gIx (fVar 1) (fC (.int 1))) (fCons (fBin gIx (fVar 1) (fC (.int 0))) (fun _ S => .ok [] S)))))))) gNil)
noncomputable def zma2 : FS := (gIf (toB (fBin gEq (fVar 5) (fC (.int 2)))) (gRet (fMake (makeO S_Yard_init (fun ds es => pick [(0, 0), (0, 1), (2, 0), (1, 1), (1, 0), (2, 1), (2, 2)] ds es [.int 24, .int 2, .int 0]) "Yard" 7) 1 2 (fCons (fVar 0) (fun _ S => .ok [] S)) (fCons (fVar 2) (fCons (fBin gIx (fVar 1) (fC (.int 1))) (fun _ S => .ok [] S))))) gNil)
noncomputable def zma3 : FS := (gIf (toB (fBin gEq (fVar 5) (fC (.int 3)))) (gRet (fMake (makeO S_Yard_init (fun ds es => pick [(0, 0), (0, 1), (1, 1), (2, 0), (2, 1), (1, 0), (2, 2)] ds es [.int 96, .str "first", .int 0]) "Yard" 7) 1 2 (fCons (fVar 0) (fun _ S => .ok [] S)) (fCons (fVar 3) (fCons (fBin gIx (fVar 1) (fC (.int 0))) (fun _ S => .ok [] S))))) gNil)
noncomputable def zma4 : FS := (gRet (fMake (makeO S_Yard_init (fun ds es => pick [(0, 0), (0, 1), (2, 0), (2, 1), (2, 2), (2, 3), (2, 4)] ds es [.int 24, .int 96, .str "first", .int 2, .int 0]) "Yard" 7) 1 0 (fCons (fVar 0) (fun _ S => .ok [] S)) (fun _ S => .ok [] S)))
noncomputable def zma : FS := (gSeq zma0 (gSeq zma1 (gSeq zma2 (gSeq zma3 zma4))))
theorem zma_eq : m_p_law_made = zma := rfl
/-- a yard where one may be, else a refusal -/
def MadeP (S : Store) (p A B kd g y : D) (R : Res D) : Prop :=
    (gdY p A B kd g y = false → ∃ S', (∀ (j : Nat) (o : SO), S[j]? = some o → S'[j]? = some o) ∧ R = .ex "BadGround" [] S') ∧
    (gdY p A B kd g y = true → ∃ (m a b : Nat) (S' : Store) (sd qu n st gr fa ti la nw : Nat), p = .int (m : Nat) ∧ A = .int (a : Nat) ∧ B = .int (b : Nat) ∧ m ≤ 40 ∧ YardAt S' S.length sd qu n st gr fa ti la nw m a b kd g y ∧ (∀ (j : Nat) (o : SO), S[j]? = some o → S'[j]? = some o) ∧ R = .ok (.oid S.length) S')
theorem mk_y {S : Store} {p A B kd g y : D} {gD : List D → List D → List D} {ds es : List D} (hp : Nd p) (hA : Nd A) (hB : Nd B) (hk : Nd kd) (hg : Nd g) (hy : Nd y) (pk : gD (.oid S.length :: ds) es = [.oid S.length, p, A, B, kd, g, y]) :
    MadeP S p A B kd g y (makeO S_Yard_init gD "Yard" 7 ds es S) := by
  obtain ⟨b1, b2⟩ := yard_init (new_at S (.ins "Yard" [])) hp hA hB hk hg hy
  have mk : makeO S_Yard_init gD "Yard" 7 ds es S = (S_Yard_init [.oid S.length, p, A, B, kd, g, y] (S ++ [.ins "Yard" []])).bind fun d S' => if d.isNon then .ok (.oid S.length) S' else .stuck := by
    simp only [makeO, pk]
    rfl
  rw [mk]
  refine ⟨fun h => ?_, fun h => ?_⟩
  · obtain ⟨S', K, e⟩ := b1 h
    refine ⟨S', fun j o hj => ?_, by rw [e]; rfl⟩
    have := lt_of hj
    exact K.old _ _ (by omega) (app_old hj)
  · obtain ⟨m, a, b, S', sd, qu, n, st, gr, fa, ti, la, nw, r1, r2, r3, m2, _, _, Y, K, e⟩ := b2 h
    refine ⟨m, a, b, S', sd, qu, n, st, gr, fa, ti, la, nw, r1, r2, r3, m2, Y, fun j o hj => ?_, by rw [e]; rfl⟩
    have := lt_of hj
    exact K.old _ _ (by omega) (app_old hj)
/-- what is handed in, the told defaults where it is left out -/
def wA (w : Nat) (a : D) : D := if w = 2 ∨ w = 4 then .int 24 else a
def wB (w : Nat) (b : D) : D := if w = 3 ∨ w = 4 then .int 96 else b
def wK (w : Nat) (k : D) : D := if w = 3 ∨ w = 4 then .str "first" else k
def wG (w : Nat) (g : D) : D := if w = 2 ∨ w = 4 then .int 2 else g
def wY (w : Nat) (y : D) : D := if 2 ≤ w then .int 0 else y
theorem made_ok {S : Store} {p a b kd g y : D} (w : Nat) (hw : w < 5) (hp : Nd p) (ha : Nd a) (hb : Nd b) (hk : Nd kd) (hg : Nd g) (hy : Nd y) :
    MadeP S p (wA w a) (wB w b) (wK w kd) (wG w g) (wY w y) (S_p_law_made [p, .tup [a, b], kd, g, y, .int (w : Nat)] S) := by
  have st0 : startD 6 [p, .tup [a, b], kd, g, y, .int (w : Nat)] = [some p, some (.tup [a, b]), some kd, some g, some y, some (.int (w : Nat))] := rfl
  have n24 : Nd (.int 24) := ⟨rfl, rfl⟩
  have n96 : Nd (.int 96) := ⟨rfl, rfl⟩
  have n2 : Nd (.int 2) := ⟨rfl, rfl⟩
  have n0 : Nd (.int 0) := ⟨rfl, rfl⟩
  have nf : Nd (.str "first") := ⟨rfl, rfl⟩
  have a0 : atI [a, b] 0 = some a := by
    have e0 : (0 : Int) = ((0 : Nat) : Int) := rfl
    rw [e0, at_nat _ _ (by simp)]
    rfl
  have a1 : atI [a, b] 1 = some b := by
    have e0 : (1 : Int) = ((1 : Nat) : Int) := rfl
    rw [e0, at_nat _ _ (by simp)]
    rfl
  -- whatever is made, the law gives back
  have key : ∀ (A B K G Y : D) (gD : List D → List D → List D) (ds es : List D), Nd A → Nd B → Nd K → Nd G → Nd Y → A = wA w a → B = wB w b → K = wK w kd → G = wG w g → Y = wY w y →
      gD (.oid S.length :: ds) es = [.oid S.length, p, A, B, K, G, Y] → S_p_law_made [p, .tup [a, b], kd, g, y, .int (w : Nat)] S = makeO S_Yard_init gD "Yard" 7 ds es S → MadeP S p (wA w a) (wB w b) (wK w kd) (wG w g) (wY w y) (S_p_law_made [p, .tup [a, b], kd, g, y, .int (w : Nat)] S) := fun A B K G Y gD ds es h1 h2 h3 h4 h5 e1 e2 e3 e4 e5 pk hm => by
    have q := mk_y (S := S) hp h1 h2 h3 h4 h5 pk
    rw [hm, ← e1, ← e2, ← e3, ← e4, ← e5]
    exact q
  have sem : S_p_law_made [p, .tup [a, b], kd, g, y, .int (w : Nat)] S = (zma [some p, some (.tup [a, b]), some kd, some g, some y, some (.int (w : Nat))] S).res := by
    unfold S_p_law_made
    rw [zma_eq, e_semOf, st0]
  have rr : ∀ (R : Res D) (ρ : EnvD), (R.into ρ fun d S => Out.rt d S).res = R := fun R ρ => by cases R <;> rfl
  rcases (by omega : w = 0 ∨ w = 1 ∨ w = 2 ∨ w = 3 ∨ w = 4) with rfl | rfl | rfl | rfl | rfl
  · refine key a b kd g y (fun ds es => pick [(0, 0), (0, 1), (1, 0), (1, 1), (1, 2), (1, 3), (1, 4)] ds es []) [p] [a, b, kd, g, y] ha hb hk hg hy rfl rfl rfl rfl rfl rfl ?_
    rw [sem]
    unfold zma zma0
    generalize makeO S_Yard_init (fun ds es => pick [(0, 0), (0, 1), (1, 0), (1, 1), (1, 2), (1, 3), (1, 4)] ds es []) "Yard" 7 = M
    simp [fMake, a0, a1]
    cases M [p] [a, b, kd, g, y] S <;> rfl
  · refine key a b kd g y (fun ds es => pick [(0, 0), (0, 1), (1, 4), (1, 3), (1, 2), (1, 1), (1, 0)] ds es []) [p] [y, g, kd, b, a] ha hb hk hg hy rfl rfl rfl rfl rfl rfl ?_
    rw [sem]
    unfold zma zma0 zma1
    generalize makeO S_Yard_init (fun ds es => pick [(0, 0), (0, 1), (1, 4), (1, 3), (1, 2), (1, 1), (1, 0)] ds es []) "Yard" 7 = M
    simp [fMake, a0, a1]
    cases M [p] [y, g, kd, b, a] S <;> rfl
  · refine key (.int 24) b kd (.int 2) (.int 0) (fun ds es => pick [(0, 0), (0, 1), (2, 0), (1, 1), (1, 0), (2, 1), (2, 2)] ds es [.int 24, .int 2, .int 0]) [p] [kd, b] n24 hb hk n2 n0 rfl rfl rfl rfl rfl rfl ?_
    rw [sem]
    unfold zma zma0 zma1 zma2
    generalize makeO S_Yard_init (fun ds es => pick [(0, 0), (0, 1), (2, 0), (1, 1), (1, 0), (2, 1), (2, 2)] ds es [.int 24, .int 2, .int 0]) "Yard" 7 = M
    simp [fMake, a0, a1]
    cases M [p] [kd, b] S <;> rfl
  · refine key a (.int 96) (.str "first") g (.int 0) (fun ds es => pick [(0, 0), (0, 1), (1, 1), (2, 0), (2, 1), (1, 0), (2, 2)] ds es [.int 96, .str "first", .int 0]) [p] [g, a] ha n96 nf hg n0 rfl rfl rfl rfl rfl rfl ?_
    rw [sem]
    unfold zma zma0 zma1 zma2 zma3
    generalize makeO S_Yard_init (fun ds es => pick [(0, 0), (0, 1), (1, 1), (2, 0), (2, 1), (1, 0), (2, 2)] ds es [.int 96, .str "first", .int 0]) "Yard" 7 = M
    simp [fMake, a0, a1]
    cases M [p] [g, a] S <;> rfl
  · refine key (.int 24) (.int 96) (.str "first") (.int 2) (.int 0) (fun ds es => pick [(0, 0), (0, 1), (2, 0), (2, 1), (2, 2), (2, 3), (2, 4)] ds es [.int 24, .int 96, .str "first", .int 2, .int 0]) [p] [] n24 n96 nf n2 n0 rfl rfl rfl rfl rfl rfl ?_
    rw [sem]
    unfold zma zma0 zma1 zma2 zma3 zma4
    generalize makeO S_Yard_init (fun ds es => pick [(0, 0), (0, 1), (2, 0), (2, 1), (2, 2), (2, 3), (2, 4)] ds es [.int 24, .int 96, .str "first", .int 2, .int 0]) "Yard" 7 = M
    simp [fMake]
    cases M [p] [] S <;> rfl
theorem got_ok {th : Store → Res D} {S S' : Store} {d : D} (h : th S = .ok d S') : (m_p_law_got th [none, none, none, none] S).res = .ok d S' := by
  unfold m_p_law_got gTry gActSet
  simp [h, D.isNon]
theorem got_bad {th : Store → Res D} {S S' : Store} (h : th S = .ex "BadGround" [] S') : (m_p_law_got th [none, none, none, none] S).res = .ok (.str "ground") S' := by
  have tl : tb_BadGround.lookup ("BadGround" : Str) = some true := by decide +kernel
  have tv : tb_ValueError.lookup ("BadGround" : Str) = some true := by decide +kernel
  unfold m_p_law_got gTry gActSet
  simp [h]
  unfold hdM
  simp [tl, tv, Out.undo, gIsX, isArg, D.isNon]
end K03

/-! The law. -/
namespace K03
open PySem L2 DL
noncomputable def zla0b0 : FS := (gSet 2 (fCall S_p_law_state (fun ds es => pick [(0, 0), (0, 1)] ds es []) 2 0 2 (fCons (fVar 0) (fCons (fVar 1) (fun _ S => .ok [] S))) (fun _ S => .ok [] S)))
noncomputable def zla0b1 : FS := (gSet 3 (fCall S_p_law_next (fun ds es => pick [(0, 0), (0, 1)] ds es []) 2 0 2 (fCons (fVar 2) (fCons (fC (.int 5)) (fun _ S => .ok [] S))) (fun _ S => .ok [] S)))
noncomputable def zla0b2 : FS := (gAsg (mTup 2 (mCons (mName 4) (mCons (mName 5) (fun ds ρ _ => match ds with | [] => some ρ | _ => none)))) (fTup (fCons (fCall S_p_law_near (fun ds es => pick [(0, 0), (0, 1), (0, 2)] ds es []) 3 0 3 (fCons (fVar 2) (fCons (fC (.int 1)) (fCons (fC (.int 40)) (fun _ S => .ok [] S)))) (fun _ S => .ok [] S)) (fCons (fTup (fCons (fCall S_p_law_near (fun ds es => pick [(0, 0), (0, 1), (0, 2)] ds es []) 3 0 3 (fCons (fVar 2) (fCons (fC (.int 7)) (fCons (fC (.int 400)) (fun _ S => .ok [] S)))) (fun _ S => .ok [] S)) (fCons (fCall S_p_law_near (fun ds es => pick [(0, 0), (0, 1), (0, 2)] ds es []) 3 0 3 (fCons (fVar 2) (fCons (fC (.int 7)) (fCons (fC (.int 400)) (fun _ S => .ok [] S)))) (fun _ S => .ok [] S)) (fun _ S => .ok [] S)))) (fun _ S => .ok [] S)))))
noncomputable def zla0b3 : FS := (gSet 6 (fCall S_p_law_pick (fun ds es => pick [(0, 0), (0, 1)] ds es []) 2 0 2 (fCons (fVar 2) (fCons (fLst (fCons (fC (.str "first")) (fCons (fC (.str "last")) (fCons (fC (.str "first")) (fCons (fC (.str "last")) (fCons (fC (.str "First")) (fCons (fC (.str "")) (fCons (fC .non) (fCons (fC (.int 1)) (fCons (fTup (fCons (fC (.str "first")) (fun _ S => .ok [] S))) (fCons (fLst (fCons (fC (.str "last")) (fun _ S => .ok [] S))) (fun _ S => .ok [] S)))))))))))) (fun _ S => .ok [] S))) (fun _ S => .ok [] S)))
noncomputable def zla0b4 : FS := (gAsg (mTup 2 (mCons (mName 7) (mCons (mName 8) (fun ds ρ _ => match ds with | [] => some ρ | _ => none)))) (fTup (fCons (fCall S_p_law_near (fun ds es => pick [(0, 0), (0, 1), (0, 2)] ds es []) 3 0 3 (fCons (fVar 2) (fCons (fC (.int 1)) (fCons (fC (.int 3)) (fun _ S => .ok [] S)))) (fun _ S => .ok [] S)) (fCons (fCall S_p_law_near (fun ds es => pick [(0, 0), (0, 1), (0, 2)] ds es []) 3 0 3 (fCons (fVar 2) (fCons (fC (.int 0)) (fCons (fC (.int 100)) (fun _ S => .ok [] S)))) (fun _ S => .ok [] S)) (fun _ S => .ok [] S)))))
noncomputable def zla0b5 : FS := (gSet 9 (fTold ("law", none) ((("law" : Str) ++ ".<locals>.") ++ "<lambda>") 4 m_p_law_got (fCall S_p_law_made (fun ds es => pick [(0, 0), (0, 1), (0, 2), (0, 3), (0, 4), (0, 5)] ds es []) 6 0 6 (fCons (fVar 4) (fCons (fVar 5) (fCons (fVar 6) (fCons (fVar 7) (fCons (fVar 8) (fCons (fVar 3) (fun _ S => .ok [] S))))))) (fun _ S => .ok [] S))))
noncomputable def zla0b6 : FS := (gIf (toB (fBin gGt (fVar 3) (fC (.int 1)))) (gSet 8 (fC (.int 0))) gNil)
noncomputable def zla0b7 : FS := (gIf (toB (fBin gGt (fVar 3) (fC (.int 2)))) (gSet 6 (fC (.str "first"))) gNil)
noncomputable def zla0b8 : FS := (gIf (toB (fBin gEq (fVar 3) (fC (.int 2)))) (gAsg (mTup 2 (mCons (mName 5) (mCons (mName 7) (fun ds ρ _ => match ds with | [] => some ρ | _ => none)))) (fTup (fCons (fTup (fCons (fC (.int 24)) (fCons (fBin gIx (fVar 5) (fC (.int 1))) (fun _ S => .ok [] S)))) (fCons (fC (.int 2)) (fun _ S => .ok [] S))))) gNil)
noncomputable def zla0b9 : FS := (gIf (toB (fBin gEq (fVar 3) (fC (.int 3)))) (gSet 5 (fTup (fCons (fBin gIx (fVar 5) (fC (.int 0))) (fCons (fC (.int 96)) (fun _ S => .ok [] S))))) gNil)
noncomputable def zla0b10 : FS := (gIf (toB (fBin gEq (fVar 3) (fC (.int 4)))) (gAsg (mTup 2 (mCons (mName 5) (mCons (mName 7) (fun ds ρ _ => match ds with | [] => some ρ | _ => none)))) (fTup (fCons (fTup (fCons (fC (.int 24)) (fCons (fC (.int 96)) (fun _ S => .ok [] S)))) (fCons (fC (.int 2)) (fun _ S => .ok [] S))))) gNil)
noncomputable def zla0b11 : FS := (gSet 10 (fBin gAdd (fLst (fCons (fCall (callSub S_p_law_good) (fun ds es => pick [(0, 0), (0, 1), (0, 2)] ds es []) 3 0 3 (fCons (fVar 4) (fCons (fC (.int 1)) (fCons (fC (.int 40)) (fun _ S => .ok [] S)))) (fun _ S => .ok [] S)) (fun _ S => .ok [] S))) (fComp (fSeq (fVar 5)) (mName 11) fYes (fCall (callSub S_p_law_good) (fun ds es => pick [(0, 0), (0, 1), (0, 2)] ds es []) 3 0 3 (fCons (fVar 11) (fCons (fC (.int 7)) (fCons (fC (.int 400)) (fun _ S => .ok [] S)))) (fun _ S => .ok [] S)) ([("_law_size", 11)].map (·.2)) finL)))
noncomputable def zla0b12 : FS := (gSet 10 (fBin gAdd (fVar 10) (fLst (fCons (fBin gInTD (fVar 6) (fTup (fCons (fC (.str "first")) (fCons (fC (.str "last")) (fun _ S => .ok [] S))))) (fCons (fCall (callSub S_p_law_good) (fun ds es => pick [(0, 0), (0, 1), (0, 2)] ds es []) 3 0 3 (fCons (fVar 7) (fCons (fC (.int 1)) (fCons (fC (.int 3)) (fun _ S => .ok [] S)))) (fun _ S => .ok [] S)) (fCons (fCall (callSub S_p_law_good) (fun ds es => pick [(0, 0), (0, 1), (0, 2)] ds es []) 3 0 3 (fCons (fVar 8) (fCons (fC (.int 0)) (fCons (fC (.int 100)) (fun _ S => .ok [] S)))) (fun _ S => .ok [] S)) (fun _ S => .ok [] S)))))))
noncomputable def zla0b13 : FS := (gIf (fAndT (toB (fBin gIn (fC (.bl false)) (fVar 10))) (toB (fBin gNe (fVar 9) (fC (.str "ground"))))) (gRet (fC (.bl false))) gNil)
noncomputable def zla0b14 : FS := (gIf (toB (fBin gIn (fC (.bl false)) (fVar 10))) (fun ρ S => .ct ρ S) gNil)
noncomputable def zla0b15 : FS := (gIf (fOrT (toB (fCB (gIsiY "Yard" "str") (fCons (fVar 9) (fCons (fC (.ty "str")) (fun _ S => .ok [] S))))) (fNotT (toB (fCall S_p_law_new_right (fun ds es => pick [(0, 0), (0, 1), (0, 2), (0, 3), (0, 4)] ds es []) 5 0 5 (fCons (fVar 9) (fCons (fVar 4) (fCons (fVar 5) (fCons (fVar 6) (fCons (fVar 7) (fun _ S => .ok [] S)))))) (fun _ S => .ok [] S))))) (gRet (fC (.bl false))) gNil)
noncomputable def zla0b : FS := (gSeq zla0b0 (gSeq zla0b1 (gSeq zla0b2 (gSeq zla0b3 (gSeq zla0b4 (gSeq zla0b5 (gSeq zla0b6 (gSeq zla0b7 (gSeq zla0b8 (gSeq zla0b9 (gSeq zla0b10 (gSeq zla0b11 (gSeq zla0b12 (gSeq zla0b13 (gSeq zla0b14 zla0b15)))))))))))))))
noncomputable def zla0 : FS := (gFor (fRng1 (fCons (fCB gMax (fCons (fC (.int 1)) (fCons (fCB gMin (fCons (fC (.int 8)) (fCons (fCB gLen (fCons (fVar 0) (fun _ S => .ok [] S))) (fun _ S => .ok [] S)))) (fun _ S => .ok [] S)))) (fun _ S => .ok [] S))) (mName 1) zla0b)
noncomputable def zla1 : FS := (gRet (fC (.bl true)))
noncomputable def zla : FS := (gSeq zla0 zla1)
theorem zla_eq : m_law = zla := rfl
def sorts : List D := [.str "first", .str "last", .str "first", .str "last", .str "First", .str "", .non, .int 1, .tup [.str "first"], .lst [.str "last"]]
theorem sort_nd : ∀ d ∈ sorts, Nd d := fun d hd => by
  simp only [sorts, List.mem_cons, List.not_mem_nil, or_false] at hd
  rcases hd with rfl | rfl | rfl | rfl | rfl | rfl | rfl | rfl | rfl | rfl <;> exact ⟨rfl, rfl⟩
theorem sort_in : ∀ d ∈ sorts, ∀ S, gInTD d (.tup [.str "first", .str "last"]) S = .ok (.bl (kdOk d)) S := fun d hd S => by
  have e2 : ∀ S, pyOf S (.tup [.str "first", .str "last"]) = some (.tuple [.str "first", .str "last"]) := fun S => by simp [pyOf, toPy, toPyL]
  have sh : SeqAt.shaped (.tuple [.str "first", .str "last"]) = true := by decide +kernel
  simp only [sorts, List.mem_cons, List.not_mem_nil, or_false] at hd
  rcases hd with rfl | rfl | rfl | rfl | rfl | rfl | rfl | rfl | rfl | rfl
  all_goals (simp only [gInTD, e2]; simp [pyOf, toPy, toPyL, sh, SeqAt.shaped, PyData.canLay0, PyData.canLayAll0, PyData.depth, PyData.depthAll, PyData.eqv, PyData.eqvAll, kdOk])
  all_goals (first | decide +kernel | (rw [if_pos ⟨by decide +kernel, by decide +kernel, by decide +kernel⟩]; exact congrArg (fun b => Res.ok (D.bl b) S) (by decide +kernel)))
def pL : He.Defn := ("law", none)
def qL : Str := (("law" : Str) ++ ".<locals>.") ++ "<lambda>"
theorem any_tab {T : Store} (h : T[0]? = some (.tbl pL qL)) : T.any (isTab pL qL) = true := List.any_eq_true.mpr ⟨_, List.mem_of_getElem? h, by simp [isTab]⟩
theorem told_eq {n : Nat} {m : (Store → Res D) → FS} {fb : FE} {ρ : EnvD} {S : Store} (h : S[0]? = some (.tbl pL qL)) : fTold ("law", none) ((("law" : Str) ++ ".<locals>.") ++ "<lambda>") n m fb ρ S = (m (fun S => fb ρ S) (List.replicate n none) S).res := by
  have a := any_tab h
  have a : S.any (isTab ("law", none) ((("law" : Str) ++ ".<locals>.") ++ "<lambda>")) = true := a
  unfold fTold
  rw [if_pos a]
/-- what must be good -/
def goods (p A B kd g y : D) : List D := [.bl (whl p 1 40), .bl (whl A 7 400), .bl (whl B 7 400), .bl (kdOk kd), .bl (whl g 1 3), .bl (whl y 0 100)]
theorem goods_in (p A B kd g y : D) (S : Store) : gIn (.bl false) (.lst (goods p A B kd g y)) S = .ok (.bl (!gdY p A B kd g y)) S := by
  have e : asQ S (.lst (goods p A B kd g y)) = some (goods p A B kd g y) := rfl
  have pd : pDic (.bl false) (.lst (goods p A B kd g y)) S = false := rfl
  simp only [gIn, pd, gInQ, e]
  unfold goods gdY
  generalize whl p 1 40 = b1
  generalize whl A 7 400 = b2
  generalize whl B 7 400 = b3
  generalize kdOk kd = b4
  generalize whl g 1 3 = b5
  generalize whl y 0 100 = b6
  cases b1 <;> cases b2 <;> cases b3 <;> cases b4 <;> cases b5 <;> cases b6 <;> rfl
end K03

/-! The law: its loop. -/
namespace K03
open PySem L2 DL
theorem nd_A {w : Nat} {a : D} (h : Nd a) : Nd (wA w a) := by unfold wA; split; exact ⟨rfl, rfl⟩; exact h
theorem nd_B {w : Nat} {a : D} (h : Nd a) : Nd (wB w a) := by unfold wB; split; exact ⟨rfl, rfl⟩; exact h
theorem nd_G {w : Nat} {a : D} (h : Nd a) : Nd (wG w a) := by unfold wG; split; exact ⟨rfl, rfl⟩; exact h
theorem nd_Y {w : Nat} {a : D} (h : Nd a) : Nd (wY w a) := by unfold wY; split; exact ⟨rfl, rfl⟩; exact h
theorem mem_K {w : Nat} {k : D} (h : k ∈ sorts) : wK w k ∈ sorts := by
  unfold wK
  split
  · simp [sorts]
  · exact h
theorem body_ok (ns : List Int) (sc : Option D) (hsc : sc = some (.scr (ns.map D.int))) (idx : Nat) (hi : idx < 1000) {T : Store} (hT : T[0]? = some (.tbl pL qL)) (y2 y3 y4 y5 y6 y7 y8 y9 y10 y11 : Option D) :
    ∃ (z2 z3 z4 z5 z6 z7 z8 z9 z10 z11 : Option D) (T' : Store), T'[0]? = some (.tbl pL qL) ∧ (zla0b [sc, some (.int (idx : Nat)), y2, y3, y4, y5, y6, y7, y8, y9, y10, y11] T = .nx [sc, some (.int (idx : Nat)), z2, z3, z4, z5, z6, z7, z8, z9, z10, z11] T' ∨ zla0b [sc, some (.int (idx : Nat)), y2, y3, y4, y5, y6, y7, y8, y9, y10, y11] T = .ct [sc, some (.int (idx : Nat)), z2, z3, z4, z5, z6, z7, z8, z9, z10, z11] T') := by
  obtain ⟨v, e0⟩ := state_ok ns idx (by omega) T
  have tp : 0 < T.length := lt_of hT
  obtain ⟨T1, hT1⟩ : ∃ T1, T1 = T ++ [SO.lst [.int v]] := ⟨_, rfl⟩
  rw [← hT1] at e0
  have s1 : St T.length T1 := ⟨v, by rw [hT1]; exact new_at T _⟩
  have t1 : T1[0]? = some (.tbl pL qL) := by rw [hT1]; exact app_old hT
  obtain ⟨w0, T2, w1, w2, e1, d1⟩ := draw s1 5 (by decide) (by decide)
  obtain ⟨w, rfl⟩ : ∃ w : Nat, w0 = (w : Int) := ⟨w0.toNat, by omega⟩
  obtain ⟨p, T3, np, e2, d2⟩ := near_ok d1.st (a := 1) (b := 40) (by decide) (by decide) (by decide)
  obtain ⟨a, T4, na, e3, d3⟩ := near_ok d2.st (a := 7) (b := 400) (by decide) (by decide) (by decide)
  obtain ⟨b, T5, nb, e4, d4⟩ := near_ok d3.st (a := 7) (b := 400) (by decide) (by decide) (by decide)
  obtain ⟨kd, T6, hk, e5, d5⟩ := pick_st d4.st (xs := sorts) (by simp [sorts]) (by simp [sorts])
  obtain ⟨g, T7, ng, e6, d6⟩ := near_ok d5.st (a := 1) (b := 3) (by decide) (by decide) (by decide)
  obtain ⟨y, T8, ny, e7, d7⟩ := near_ok d6.st (a := 0) (b := 100) (by decide) (by decide) (by decide)
  have t8 : T8[0]? = some (.tbl pL qL) := by rw [((((((d1.trans d2).trans d3).trans d4).trans d5).trans d6).trans d7).z (by omega)]; exact t1
  have k1 : short 1 = true := short_le (by omega)
  have k2 : short 2 = true := short_le (by omega)
  have k10 : short 10 = true := short_le (by omega)
  have v0 : zla0b0 [sc, some (.int (idx : Nat)), y2, y3, y4, y5, y6, y7, y8, y9, y10, y11] T = .nx [sc, some (.int (idx : Nat)), some (.oid T.length), y3, y4, y5, y6, y7, y8, y9, y10, y11] T1 := by
    rw [hsc]
    generalize D.scr (ns.map D.int) = X at *
    unfold zla0b0
    simp [e0]
  have v1 : zla0b1 [sc, some (.int (idx : Nat)), some (.oid T.length), y3, y4, y5, y6, y7, y8, y9, y10, y11] T1 = .nx [sc, some (.int (idx : Nat)), some (.oid T.length), some (.int (w : Nat)), y4, y5, y6, y7, y8, y9, y10, y11] T2 := by
    unfold zla0b1
    simp [e1]
  have v2 : zla0b2 [sc, some (.int (idx : Nat)), some (.oid T.length), some (.int (w : Nat)), y4, y5, y6, y7, y8, y9, y10, y11] T2 = .nx [sc, some (.int (idx : Nat)), some (.oid T.length), some (.int (w : Nat)), some p, some (.tup [a, b]), y6, y7, y8, y9, y10, y11] T5 := by
    unfold zla0b2
    simp [e2, e3, e4, k2]
  have v3 : zla0b3 [sc, some (.int (idx : Nat)), some (.oid T.length), some (.int (w : Nat)), some p, some (.tup [a, b]), y6, y7, y8, y9, y10, y11] T5 = .nx [sc, some (.int (idx : Nat)), some (.oid T.length), some (.int (w : Nat)), some p, some (.tup [a, b]), some kd, y7, y8, y9, y10, y11] T6 := by
    unfold sorts at e5
    unfold zla0b3
    simp [k10, k1, e5]
  have v4 : zla0b4 [sc, some (.int (idx : Nat)), some (.oid T.length), some (.int (w : Nat)), some p, some (.tup [a, b]), some kd, y7, y8, y9, y10, y11] T6 = .nx [sc, some (.int (idx : Nat)), some (.oid T.length), some (.int (w : Nat)), some p, some (.tup [a, b]), some kd, some g, some y, y9, y10, y11] T8 := by
    unfold zla0b4
    simp [e6, e7, k2]
  have MP := made_ok (S := T8) w (by omega) np na nb (sort_nd kd hk) ng ny
  have a0 : atI [a, b] 0 = some a := by
    have e0 : (0 : Int) = ((0 : Nat) : Int) := rfl
    rw [e0, at_nat _ _ (by simp)]
    rfl
  have a1 : atI [a, b] 1 = some b := by
    have e0 : (1 : Int) = ((1 : Nat) : Int) := rfl
    rw [e0, at_nat _ _ (by simp)]
    rfl
  -- what is left out is as told
  have vr : ∀ (f : D) (S : Store) (R : FS), (gSeq zla0b6 (gSeq zla0b7 (gSeq zla0b8 (gSeq zla0b9 (gSeq zla0b10 R))))) [sc, some (.int (idx : Nat)), some (.oid T.length), some (.int (w : Nat)), some p, some (.tup [a, b]), some kd, some g, some y, some f, y10, y11] S = R [sc, some (.int (idx : Nat)), some (.oid T.length), some (.int (w : Nat)), some p, some (.tup [wA w a, wB w b]), some (wK w kd), some (wG w g), some (wY w y), some f, y10, y11] S := fun f S R => by
    rcases (by omega : w = 0 ∨ w = 1 ∨ w = 2 ∨ w = 3 ∨ w = 4) with rfl | rfl | rfl | rfl | rfl
    all_goals (unfold zla0b6 zla0b7 zla0b8 zla0b9 zla0b10; simp [wA, wB, wK, wG, wY, a0, a1, k2])
  have nA : Nd (wA w a) := nd_A na
  have nB : Nd (wB w b) := nd_B nb
  have nG : Nd (wG w g) := nd_G ng
  have nY : Nd (wY w y) := nd_Y ny
  have mK : wK w kd ∈ sorts := mem_K hk
  generalize wA w a = A at *
  generalize wB w b = B at *
  generalize wK w kd = K at *
  generalize wG w g = G at *
  generalize wY w y = Y at *
  -- the goods
  have vg : ∀ (f : D) (S : Store) (R : FS), (gSeq zla0b11 (gSeq zla0b12 R)) [sc, some (.int (idx : Nat)), some (.oid T.length), some (.int (w : Nat)), some p, some (.tup [A, B]), some K, some G, some Y, some f, y10, y11] S = R [sc, some (.int (idx : Nat)), some (.oid T.length), some (.int (w : Nat)), some p, some (.tup [A, B]), some K, some G, some Y, some f, some (.lst (goods p A B K G Y)), y11] S := fun f S R => by
    have c1 := c_lwhole np.ok np.pu 1 40 S
    have c2 := c_lwhole nG.ok nG.pu 1 3 S
    have c3 := c_lwhole nY.ok nY.pu 0 100 S
    have cm := DL.comp_map (m := mName 11) (fe := fCall (callSub S_p_law_good) (fun ds es => pick [(0, 0), (0, 1), (0, 2)] ds es []) 3 0 3 (fCons (fVar 11) (fCons (fC (.int 7)) (fCons (fC (.int 400)) (fun _ S => .ok [] S)))) (fun _ S => .ok [] S)) (f := fun d => D.bl (whl d 7 400)) (ρ := [sc, some (.int (idx : Nat)), some (.oid T.length), some (.int (w : Nat)), some p, some (.tup [A, B]), some K, some G, some Y, some f, y10, none]) (S := S) [A, B] (fun d hd => by
      have nd : Nd d := by
        simp only [List.mem_cons, List.not_mem_nil, or_false] at hd
        rcases hd with rfl | rfl <;> assumption
      have c := c_lwhole nd.ok nd.pu 7 400 S
      refine ⟨_, rfl, ?_⟩
      simp [c])
    simp only [List.map_cons, List.map_nil] at cm
    have fc : fComp (fSeq (fVar 5)) (mName 11) fYes (fCall (callSub S_p_law_good) (fun ds es => pick [(0, 0), (0, 1), (0, 2)] ds es []) 3 0 3 (fCons (fVar 11) (fCons (fC (.int 7)) (fCons (fC (.int 400)) (fun _ S => .ok [] S)))) (fun _ S => .ok [] S)) ([("_law_size", 11)].map (·.2)) finL [sc, some (.int (idx : Nat)), some (.oid T.length), some (.int (w : Nat)), some p, some (.tup [A, B]), some K, some G, some Y, some f, y10, y11] S = .ok (.lst [.bl (whl A 7 400), .bl (whl B 7 400)]) S := by
      simp only [e_fComp, e_fSeq, e_fVar, List.getElem?_cons_succ, List.getElem?_cons_zero, Res.bind_ok, e_seqD_t, List.map_cons, List.map_nil, e_wipe1, e_wipe0, List.set_cons_succ, List.set_cons_zero]
      rw [cm]
      simp [finL, k2]
    have ad1 := e_addl [.bl (whl p 1 40)] [.bl (whl A 7 400), .bl (whl B 7 400)] S (short_le (by simp))
    have si := sort_in K mK S
    have ad2 := e_addl [.bl (whl p 1 40), .bl (whl A 7 400), .bl (whl B 7 400)] [.bl (kdOk K), .bl (whl G 1 3), .bl (whl Y 0 100)] S (short_le (by simp))
    have k3 : short 3 = true := short_le (by omega)
    have u11 : zla0b11 [sc, some (.int (idx : Nat)), some (.oid T.length), some (.int (w : Nat)), some p, some (.tup [A, B]), some K, some G, some Y, some f, y10, y11] S = .nx [sc, some (.int (idx : Nat)), some (.oid T.length), some (.int (w : Nat)), some p, some (.tup [A, B]), some K, some G, some Y, some f, some (.lst [.bl (whl p 1 40), .bl (whl A 7 400), .bl (whl B 7 400)]), y11] S := by
      unfold zla0b11
      generalize fComp (fSeq (fVar 5)) (mName 11) fYes (fCall (callSub S_p_law_good) (fun ds es => pick [(0, 0), (0, 1), (0, 2)] ds es []) 3 0 3 (fCons (fVar 11) (fCons (fC (.int 7)) (fCons (fC (.int 400)) (fun _ S => .ok [] S)))) (fun _ S => .ok [] S)) ([("_law_size", 11)].map (·.2)) finL = FC at *
      simp [c1, fc, k1]
      rw [show ([D.bl (whl p 1 40)] ++ [D.bl (whl A 7 400), D.bl (whl B 7 400)]) = [D.bl (whl p 1 40), D.bl (whl A 7 400), D.bl (whl B 7 400)] from rfl] at ad1
      simp [ad1]
    rw [e_gSeq, u11, Out.seq_nx, e_gSeq]
    have u12 : zla0b12 [sc, some (.int (idx : Nat)), some (.oid T.length), some (.int (w : Nat)), some p, some (.tup [A, B]), some K, some G, some Y, some f, some (.lst [.bl (whl p 1 40), .bl (whl A 7 400), .bl (whl B 7 400)]), y11] S = .nx [sc, some (.int (idx : Nat)), some (.oid T.length), some (.int (w : Nat)), some p, some (.tup [A, B]), some K, some G, some Y, some f, some (.lst (goods p A B K G Y)), y11] S := by
      unfold goods
      rw [show ([D.bl (whl p 1 40), D.bl (whl A 7 400), D.bl (whl B 7 400)] ++ [D.bl (kdOk K), D.bl (whl G 1 3), D.bl (whl Y 0 100)]) = [D.bl (whl p 1 40), D.bl (whl A 7 400), D.bl (whl B 7 400), D.bl (kdOk K), D.bl (whl G 1 3), D.bl (whl Y 0 100)] from rfl] at ad2
      unfold zla0b12
      simp [k2, k3, si, c2, c3, ad2]
    rw [u12, Out.seq_nx]
  have gi := goods_in p A B K G Y
  have st : ∀ (f : D) (S : Store), fTold ("law", none) ((("law" : Str) ++ ".<locals>.") ++ "<lambda>") 4 m_p_law_got (fCall S_p_law_made (fun ds es => pick [(0, 0), (0, 1), (0, 2), (0, 3), (0, 4), (0, 5)] ds es []) 6 0 6 (fCons (fVar 4) (fCons (fVar 5) (fCons (fVar 6) (fCons (fVar 7) (fCons (fVar 8) (fCons (fVar 3) (fun _ S => .ok [] S))))))) (fun _ S => .ok [] S)) [sc, some (.int (idx : Nat)), some (.oid T.length), some (.int (w : Nat)), some p, some (.tup [a, b]), some kd, some g, some y, y9, y10, y11] T8 = .ok f S → ∀ R, zla0b [sc, some (.int (idx : Nat)), y2, y3, y4, y5, y6, y7, y8, y9, y10, y11] T = R → R = (gSeq zla0b13 (gSeq zla0b14 zla0b15)) [sc, some (.int (idx : Nat)), some (.oid T.length), some (.int (w : Nat)), some p, some (.tup [A, B]), some K, some G, some Y, some f, some (.lst (goods p A B K G Y)), y11] S := fun f S e R hR => by
    have v5 : zla0b5 [sc, some (.int (idx : Nat)), some (.oid T.length), some (.int (w : Nat)), some p, some (.tup [a, b]), some kd, some g, some y, y9, y10, y11] T8 = .nx [sc, some (.int (idx : Nat)), some (.oid T.length), some (.int (w : Nat)), some p, some (.tup [a, b]), some kd, some g, some y, some f, y10, y11] S := by
      unfold zla0b5
      rw [e_gSet, e]
      simp
    rw [← hR]
    unfold zla0b
    rw [e_gSeq, v0, Out.seq_nx, e_gSeq, v1, Out.seq_nx, e_gSeq, v2, Out.seq_nx, e_gSeq, v3, Out.seq_nx, e_gSeq, v4, Out.seq_nx, e_gSeq, v5, Out.seq_nx, vr, vg]
  have th : ∀ S, (fCall S_p_law_made (fun ds es => pick [(0, 0), (0, 1), (0, 2), (0, 3), (0, 4), (0, 5)] ds es []) 6 0 6 (fCons (fVar 4) (fCons (fVar 5) (fCons (fVar 6) (fCons (fVar 7) (fCons (fVar 8) (fCons (fVar 3) (fun _ S => .ok [] S))))))) (fun _ S => .ok [] S)) [sc, some (.int (idx : Nat)), some (.oid T.length), some (.int (w : Nat)), some p, some (.tup [a, b]), some kd, some g, some y, y9, y10, y11] S = S_p_law_made [p, .tup [a, b], kd, g, y, .int (w : Nat)] S := fun S => by simp
  cases hG : gdY p A B K G Y with
  | false =>
    obtain ⟨S', K1, em⟩ := MP.1 hG
    have tb : S'[0]? = some (.tbl pL qL) := K1 _ _ t8
    have go := st (.str "ground") S' (by rw [told_eq t8]; exact got_bad (by rw [th]; exact em))
    rw [hG] at gi
    refine ⟨some (.oid T.length), some (.int (w : Nat)), some p, some (.tup [A, B]), some K, some G, some Y, some (.str "ground"), some (.lst (goods p A B K G Y)), y11, S', tb, .inr ?_⟩
    rw [go _ rfl]
    have u13 : zla0b13 [sc, some (.int (idx : Nat)), some (.oid T.length), some (.int (w : Nat)), some p, some (.tup [A, B]), some K, some G, some Y, some (.str "ground"), some (.lst (goods p A B K G Y)), y11] S' = .nx [sc, some (.int (idx : Nat)), some (.oid T.length), some (.int (w : Nat)), some p, some (.tup [A, B]), some K, some G, some Y, some (.str "ground"), some (.lst (goods p A B K G Y)), y11] S' := by
      have gi := gi S'
      generalize goods p A B K G Y = L at *
      have gq : gInQ false (.bl false) (.lst L) S' = .ok (.bl (!false)) S' := gi
      unfold zla0b13
      simp [gi, gq]
    have u14 : zla0b14 [sc, some (.int (idx : Nat)), some (.oid T.length), some (.int (w : Nat)), some p, some (.tup [A, B]), some K, some G, some Y, some (.str "ground"), some (.lst (goods p A B K G Y)), y11] S' = .ct [sc, some (.int (idx : Nat)), some (.oid T.length), some (.int (w : Nat)), some p, some (.tup [A, B]), some K, some G, some Y, some (.str "ground"), some (.lst (goods p A B K G Y)), y11] S' := by
      have gi := gi S'
      generalize goods p A B K G Y = L at *
      have gq : gInQ false (.bl false) (.lst L) S' = .ok (.bl (!false)) S' := gi
      unfold zla0b14
      simp [gi, gq]
    rw [e_gSeq, u13, Out.seq_nx, e_gSeq, u14]
    rfl
  | true =>
    obtain ⟨m, a', b', S', sd, qu, n, sto, gr, fa, ti, la, nw, rfl, rfl, rfl, m2, YA, K1, em⟩ := MP.2 hG
    have tb : S'[0]? = some (.tbl pL qL) := K1 _ _ t8
    have go := st (.oid T8.length) S' (by rw [told_eq t8]; exact got_ok (by rw [th]; exact em))
    rw [hG] at gi
    have hh := hG
    simp only [gdY, Bool.and_eq_true] at hh
    obtain ⟨⟨⟨⟨hp1, hA1, hB1⟩, hK1⟩, hG1⟩, hY1⟩ := hh
    have m1 : 1 ≤ m := by
      simp only [whl, Bool.and_eq_true, decide_eq_true_eq] at hp1
      omega
    obtain ⟨gi1, rfl, gl, gh⟩ := whl_int hG1
    obtain ⟨S2, en, KN⟩ := new_y YA m1 m2 hK1 ⟨gi1, rfl, gl, gh⟩
    have n0 : 0 ≠ n := fun e => by
      have := YA.fl.fl
      rw [← e, tb] at this
      cases this
    have tb2 : S2[0]? = some (.tbl pL qL) := KN.old _ _ n0 tb
    refine ⟨some (.oid T.length), some (.int (w : Nat)), some (.int (m : Nat)), some (.tup [.int (a' : Nat), .int (b' : Nat)]), some K, some (.int gi1), some Y, some (.oid T8.length), some (.lst (goods (.int (m : Nat)) (.int (a' : Nat)) (.int (b' : Nat)) K (.int gi1) Y)), y11, S2, tb2, .inl ?_⟩
    rw [go _ rfl]
    have gi := gi S'
    have iy : gIsiY "Yard" "str" [.oid T8.length, .ty "str"] S' = .ok (.bl false) S' := by
      have ai := YA.ai
      simp [gIsiY, isIns, ai, gIsiN1]
    generalize goods (.int (m : Nat)) (.int (a' : Nat)) (.int (b' : Nat)) K (.int gi1) Y = L at *
    have gq : gInQ false (.bl false) (.lst L) S' = .ok (.bl (!true)) S' := gi
    have u13 : zla0b13 [sc, some (.int (idx : Nat)), some (.oid T.length), some (.int (w : Nat)), some (.int (m : Nat)), some (.tup [.int (a' : Nat), .int (b' : Nat)]), some K, some (.int gi1), some Y, some (.oid T8.length), some (.lst L), y11] S' = .nx [sc, some (.int (idx : Nat)), some (.oid T.length), some (.int (w : Nat)), some (.int (m : Nat)), some (.tup [.int (a' : Nat), .int (b' : Nat)]), some K, some (.int gi1), some Y, some (.oid T8.length), some (.lst L), y11] S' := by
      unfold zla0b13
      simp [gi, gq]
    have u14 : zla0b14 [sc, some (.int (idx : Nat)), some (.oid T.length), some (.int (w : Nat)), some (.int (m : Nat)), some (.tup [.int (a' : Nat), .int (b' : Nat)]), some K, some (.int gi1), some Y, some (.oid T8.length), some (.lst L), y11] S' = .nx [sc, some (.int (idx : Nat)), some (.oid T.length), some (.int (w : Nat)), some (.int (m : Nat)), some (.tup [.int (a' : Nat), .int (b' : Nat)]), some K, some (.int gi1), some Y, some (.oid T8.length), some (.lst L), y11] S' := by
      unfold zla0b14
      simp [gi, gq]
    rw [e_gSeq, u13, Out.seq_nx, e_gSeq, u14, Out.seq_nx]
    unfold zla0b15
    simp [iy, en]
theorem good (ns : List Int) (hn : ns.length ≤ 63) : ∃ S, S_law [.scr (ns.map D.int)] (tabS tq) = .ok (.bl true) S := by
  obtain ⟨sc, hsc⟩ : ∃ sc, sc = some (D.scr (ns.map D.int)) := ⟨_, rfl⟩
  have hT : (tabS tq)[0]? = some (.tbl pL qL) := rfl
  have st0 : startD 12 [.scr (ns.map D.int)] = [some (.scr (ns.map D.int)), none, none, none, none, none, none, none, none, none, none, none] := rfl
  obtain ⟨m, hm, hm2⟩ : ∃ m : Nat, (if (if (ns.length : Int) < 8 then (ns.length : Int) else 8) > 1 then (if (ns.length : Int) < 8 then (ns.length : Int) else 8) else 1) = (m : Int) ∧ m ≤ 8 := by
    by_cases h : (ns.length : Int) < 8
    · rw [if_pos h]
      by_cases h1 : (ns.length : Int) > 1
      · rw [if_pos h1]
        exact ⟨ns.length, rfl, by omega⟩
      · rw [if_neg h1]
        exact ⟨1, rfl, by decide⟩
    · rw [if_neg h]
      exact ⟨8, rfl, by decide⟩
  obtain ⟨T0, hT0⟩ : ∃ T0, T0 = tabS tq := ⟨_, rfl⟩
  rw [← hT0] at hT ⊢
  obtain ⟨ρ', S', lo, z1, z2, z3, z4, z5, z6, z7, z8, z9, z10, z11, rfl, tb⟩ := loop_inv (m := mName 1) (b := zla0b) (fun j ρ S => ∃ z1 z2 z3 z4 z5 z6 z7 z8 z9 z10 z11, ρ = [sc, z1, z2, z3, z4, z5, z6, z7, z8, z9, z10, z11] ∧ S[0]? = some (.tbl pL qL)) (rng 0 (m : Nat)) 0 [sc, none, none, none, none, none, none, none, none, none, none, none] T0 ⟨none, none, none, none, none, none, none, none, none, none, none, rfl, hT⟩ (by
    rintro j e ρ S hd ⟨z1, z2, z3, z4, z5, z6, z7, z8, z9, z10, z11, rfl, tb⟩
    obtain ⟨rfl, hj⟩ := rng_get hd
    have e : (0 : Int) + (j : Nat) = (j : Nat) := by omega
    rw [e]
    obtain ⟨x2, x3, x4, x5, x6, x7, x8, x9, x10, x11, T', tb', hb⟩ := body_ok ns sc hsc j (by omega) tb z2 z3 z4 z5 z6 z7 z8 z9 z10 z11
    exact ⟨_, _, T', rfl, hb, _, _, _, _, _, _, _, _, _, _, _, rfl, tb'⟩)
  refine ⟨S', ?_⟩
  have fr : fRng1 (fCons (fCB gMax (fCons (fC (.int 1)) (fCons (fCB gMin (fCons (fC (.int 8)) (fCons (fCB gLen (fCons (fVar 0) (fun _ S => .ok [] S))) (fun _ S => .ok [] S)))) (fun _ S => .ok [] S)))) (fun _ S => .ok [] S)) [sc, none, none, none, none, none, none, none, none, none, none, none] T0 = .ok ⟨rng 0 (m : Nat), none⟩ T0 := by
    have c : cRng (m : Int) = true := cRng_nat (by omega)
    rw [hsc, e_fRng1]
    simp only [e_fCons, e_fCB, e_fC, e_fVar, List.getElem?_cons_zero, Res.bind_ok, e_len_s, List.length_map, e_max2, e_min2, hm, c, if_true]
  unfold S_law
  rw [zla_eq, e_semOf, st0, ← hsc]
  unfold zla
  have v0 : zla0 [sc, none, none, none, none, none, none, none, none, none, none, none] T0 = .nx [sc, z1, z2, z3, z4, z5, z6, z7, z8, z9, z10, z11] S' := by
    rw [← lo]
    unfold zla0
    rw [e_gFor, fr]
    rfl
  rw [e_gSeq, v0, Out.seq_nx]
  unfold zla1
  simp
end K03

open PySem PySem.W PySem.Calls PyProof.Rows
theorem PySem.Challenge.cw_reachyard_k47_yards_made_holds : PySem.Challenge.rw_reachyard_k47_yards_made.Holds := by
  w_on; o_law
  refine HandSHeadRun.head_any (r := OpenLaw.row PySem.Challenge.rw_reachyard_k47_yards_made) (q := view (OpenLaw.row PySem.Challenge.rw_reachyard_k47_yards_made).prog [99]) (H := K03.hk) (ob := K03.ob) (M := 40000) (loose := K03.loose) (d := HandSHeadRun.topDef (OpenLaw.row PySem.Challenge.rw_reachyard_k47_yards_made).prog 99) (kwd := []) K03.ob_eq
    (by kernel_rfl) (fun s => by kernel_rfl) K03.run (by kernel_rfl) (by kernel_rfl) (by kernel_rfl) (by rfl) (by first | assumption | decide +kernel) (by decide +kernel) ⟨rfl, rfl, rfl, rfl, rfl, by decide +kernel⟩ ?hw ?hc
  case hw => w_witness2
  case hc =>
    refine DL.walk_ofGT (l := PySem.Challenge.rw_reachyard_k47_yards_made) (n := 63) (k := 33) (x := "_law_script") (sem := K03.S_law) (tq := K03.tq) rfl (by decide) (by kernel_rfl) ⟨rfl, by decide, by decide⟩ K03.good ?F
    intro w mg fa h Y G hmg0
    obtain ⟨K, KX, Sy⟩ := Y
    have hmg : mg ("law" : PySem.Str) = some (.ref fa) := by
      have e : (HandSHeadRun.topDef (OpenLaw.row PySem.Challenge.rw_reachyard_k47_yards_made).prog 99).name = ("law" : PySem.Str) := by kernel_rfl
      rw [← e]
      exact hmg0
    have T := K03.txt_of KX G Sy.says Sy.ex
    have e := hmg.symm.trans (K03.glo_law T)
    cases e
    obtain ⟨fd, F⟩ := K03.fun_law T
    refine ⟨K, fd, KX, Sy.tabs, Sy.out, Sy.hd, Sy.nd, fun s v => L2.FunD.bindsA (ps := ["_law_script"]) F (fun _ _ _ _ _ _ us hl => match us, hl with | [_], _ => rfl) s [v] rfl, fun base kb gb TB => ?_⟩
    obtain ⟨fd2, F2, G2⟩ := K03.ok_law (P := (PySem.Challenge.rw_reachyard_k47_yards_made).prog) (w := w) (base := base) T TB
    have ed : fd2 = fd := by
      obtain ⟨_, _, _, _, _, _, _, _, _, _, e1, l1, _⟩ := F.ex
      obtain ⟨_, _, _, _, _, _, _, _, _, _, e2, l2, _⟩ := F2.ex
      rw [l1] at l2
      cases l2
      rfl
    rw [ed] at G2
    exact G2

