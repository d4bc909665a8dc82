import PyProof.Rows.All
import Wide.All
import OpenK.AllK
import Wide.FinOn
import HandS.ForMost
import HandS.ForExc
import HandS.Exc
import HandS.TryOnly
import HandS.ExcOwn
import HandS.Defaults
import HandS.IsInst
import HandS.Flow
import HandS.Wide
import HandS.Lambda
import HandS.HeadHook4
import HandS.MakeKwOnly
import HandS.Small
import HandS.SortInts
import HandS.Conv
import HandS.SetFor
import KE.GoesEnum
import KE.KDictZip
import KE.KDictItemsList
import KE.KUnpackStar
import HandS.Ends
import HandS.HeadEnd
import HandS.Head0
import HandS.Head1
import HandS.Head2
import HandS.HeadHook1
import HandS.HeadHook2
import HandS.DictComp
import HandS.Deep
import HandS.OwnEq
import HandS.Style
import HandS.Text
import HandS.FStr
import PyProof.StrOps2
import HandS.ExcIs
import HandS.TryMany
import HandS.EndTab
import KE.DataMinMax
import KE.SortData
import HandS.NoneIn
import PySem.Challenge.RW_reachyard_k66_enough
import PyProof.Rows.StrDigitsNeg
set_option Elab.async false
set_option maxRecDepth 100000
set_option maxHeartbeats 0
set_option linter.all false
/-! The data layer, part 1: data, stores, the relation to the abstract heap, the judgements. -/
namespace DL
open PySem L2

/-- data: what a value is worth; oid: an object of the store -/
inductive D where
  | non | bl (b : Bool) | int (i : Int) | str (x : Str) | ty (n : String)
  | cls (c : Str) | tup (xs : List D) | lst (xs : List D) | scr (xs : List D) | dic (kvs : List (Key × D)) | ins (C : Str) (fs : List (Str × D)) | oid (n : Nat) | exc (C : Str) (fs : List (Str × D))
/-- objects that may change; frz: one that changes no more -/
inductive SO where
  | lst (ds : List D) | dic (ks : List (Key × D)) | ins (C : Str) (fs : List (Str × D)) | frz (d : D) | tbl (p : Str × Option Str) (q : Str)
def SO.live : SO → Bool
  | .frz _ => false
  | _ => true
abbrev Store := List SO
/-- a caught exception: of the class cls, its dict dd -/
def ExcV (cls : Value) (dd : Option Addr) (a : Addr) : HO := .ext fun hp => ∃ (ob : Obj) (fs : Array Value), hp.get? a = some ob ∧ Zc cls dd ob ∧ ob.data = .fields fs

section
variable (K : PySem.W.Frag) (mg : Str → Option Value) (φ : List Addr) (G : Hp)
mutual
def Dat : D → V → Prop
  | .non, v => v = .non
  | .bl b, v => v = .bl b
  | .int i, v => v = .int i
  | .str x, v => v = .str x
  | .ty n, v => v = .ty n
  | .tup ds, v => ∃ a vs, v = .ref a ∧ SqT K G a vs ∧ DatL ds vs
  | .lst ds, v => ∃ a vs, v = .ref a ∧ G a = some (.lst vs) ∧ DatL ds vs
  | .scr ds, v => ∃ a vs, v = .ref a ∧ SqL K G a vs ∧ DatL ds vs
  | .cls c, v => ∃ A, v = .ref A ∧ mg c = some (.ref A)
  | .dic ks, v => ∃ a kvs, v = .ref a ∧ G a = some (.dK kvs) ∧ DatK ks kvs
  | .ins C fs, v => ∃ a A dx fvs, v = .ref a ∧ mg C = some (.ref A) ∧ G a = some (.ins A dx fvs) ∧ DatF fs fvs
  | .oid n, v => ∃ a, v = .ref a ∧ φ[n]? = some a
  | .exc C fs, v => ∃ a A dx, v = .ref a ∧ mg C = some (.ref A) ∧ G a = some (ExcV (.ref A) dx a) ∧ ((fs = [] ∧ dx = none) ∨ fs ≠ [] ∧ ∃ b fvs, dx = some b ∧ G b = some (.xd fvs) ∧ DatF fs fvs)
def DatL : List D → List V → Prop
  | [], vs => vs = []
  | d :: ds, vs => ∃ v r, vs = v :: r ∧ Dat d v ∧ DatL ds r
def DatK : List (Key × D) → List (Key × V) → Prop
  | [], vs => vs = []
  | (k, d) :: ds, vs => ∃ v r, vs = (k, v) :: r ∧ Dat d v ∧ DatK ds r
def DatF : List (Str × D) → List (Str × V) → Prop
  | [], vs => vs = []
  | (k, d) :: ds, vs => ∃ v r, vs = (k, v) :: r ∧ Dat d v ∧ DatF ds r
end
end

theorem sqt_mono {K : PySem.W.Frag} {G G' : Hp} (e : Same G G') {a : Addr} {xs : List V} (h : SqT K G a xs) : SqT K G' a xs :=
  h.imp (fun r => r.imp (e _ _) fun ⟨o, q⟩ => ⟨o, e _ _ q⟩) id
theorem rd_mono {G G' : Hp} (e : Same G G') {a : Addr} {o : HO} (h : Rd G a o) : Rd G' a o := h.imp (e _ _) fun ⟨u, q⟩ => ⟨u, e _ _ q⟩

section
variable {K : PySem.W.Frag} {mg : Str → Option Value} {φ φ' : List Addr} {G G' : Hp}
theorem pre_get {φ φ' : List Addr} (p : φ <+: φ') {n : Nat} {a : Addr} (h : φ[n]? = some a) : φ'[n]? = some a := by
  obtain ⟨t, rfl⟩ := p
  rw [List.getElem?_append_left (List.getElem?_eq_some_iff.mp h).1]
  exact h
mutual
theorem Dat.mono (p : φ <+: φ') (e : Same G G') : ∀ (d : D) (v : V), Dat K mg φ G d v → Dat K mg φ' G' d v
  | .non, _, h => h
  | .bl _, _, h => h
  | .int _, _, h => h
  | .str _, _, h => h
  | .ty _, _, h => h
  | .tup ds, _, h => by
    unfold Dat at h ⊢
    obtain ⟨a, vs, rfl, h1, h2⟩ := h
    exact ⟨a, vs, rfl, sqt_mono e h1, DatL.mono p e ds vs h2⟩
  | .lst ds, _, h => by
    unfold Dat at h ⊢
    obtain ⟨a, vs, rfl, h1, h2⟩ := h
    exact ⟨a, vs, rfl, e _ _ h1, DatL.mono p e ds vs h2⟩
  | .scr ds, _, h => by
    unfold Dat at h ⊢
    obtain ⟨a, vs, rfl, h1, h2⟩ := h
    exact ⟨a, vs, rfl, Same.seq e h1, DatL.mono p e ds vs h2⟩
  | .cls c, _, h => by
    unfold Dat at h ⊢
    exact h
  | .dic ks, _, h => by
    unfold Dat at h ⊢
    obtain ⟨a, vs, rfl, h1, h2⟩ := h
    exact ⟨a, vs, rfl, e _ _ h1, DatK.mono p e ks vs h2⟩
  | .ins C fs, _, h => by
    unfold Dat at h ⊢
    obtain ⟨a, A, dx, fvs, rfl, h0, h1, h2⟩ := h
    exact ⟨a, A, dx, fvs, rfl, h0, e _ _ h1, DatF.mono p e fs fvs h2⟩
  | .oid n, _, h => by
    unfold Dat at h ⊢
    obtain ⟨a, rfl, h⟩ := h
    exact ⟨a, rfl, pre_get p h⟩
  | .exc C fs, _, h => by
    unfold Dat at h ⊢
    obtain ⟨a, A, dx, rfl, h0, h1, h2⟩ := h
    exact ⟨a, A, dx, rfl, h0, e _ _ h1, h2.imp id fun ⟨z, b, fvs, q0, q1, q2⟩ => ⟨z, b, fvs, q0, e _ _ q1, DatF.mono p e fs fvs q2⟩⟩
theorem DatL.mono (p : φ <+: φ') (e : Same G G') : ∀ (ds : List D) (vs : List V), DatL K mg φ G ds vs → DatL K mg φ' G' ds vs
  | [], _, h => by
    unfold DatL at h ⊢
    exact h
  | d :: ds, _, h => by
    unfold DatL at h ⊢
    obtain ⟨v, r, rfl, h1, h2⟩ := h
    exact ⟨v, r, rfl, Dat.mono p e d v h1, DatL.mono p e ds r h2⟩
theorem DatK.mono (p : φ <+: φ') (e : Same G G') : ∀ (ds : List (Key × D)) (vs : List (Key × V)), DatK K mg φ G ds vs → DatK K mg φ' G' ds vs
  | [], _, h => by
    unfold DatK at h ⊢
    exact h
  | (k, d) :: ds, _, h => by
    unfold DatK at h ⊢
    obtain ⟨v, r, rfl, h1, h2⟩ := h
    exact ⟨v, r, rfl, Dat.mono p e d v h1, DatK.mono p e ds r h2⟩
theorem DatF.mono (p : φ <+: φ') (e : Same G G') : ∀ (ds : List (Str × D)) (vs : List (Str × V)), DatF K mg φ G ds vs → DatF K mg φ' G' ds vs
  | [], _, h => by
    unfold DatF at h ⊢
    exact h
  | (k, d) :: ds, _, h => by
    unfold DatF at h ⊢
    obtain ⟨v, r, rfl, h1, h2⟩ := h
    exact ⟨v, r, rfl, Dat.mono p e d v h1, DatF.mono p e ds r h2⟩
end
theorem DatL.length : ∀ {ds : List D} {vs : List V}, DatL K mg φ G ds vs → vs.length = ds.length
  | [], _, h => by unfold DatL at h; rw [h]; rfl
  | d :: ds, _, h => by
    unfold DatL at h
    obtain ⟨v, r, rfl, _, h2⟩ := h
    rw [List.length_cons, List.length_cons, DatL.length h2]
theorem DatL.get : ∀ {ds : List D} {vs : List V} {i : Nat} {d : D}, DatL K mg φ G ds vs → ds[i]? = some d → ∃ v, vs[i]? = some v ∧ Dat K mg φ G d v
  | [], _, _, _, _, e => by cases e
  | d :: ds, _, 0, _, h, e => by
    unfold DatL at h
    obtain ⟨v, r, rfl, h1, _⟩ := h
    cases e
    exact ⟨v, rfl, h1⟩
  | d :: ds, _, i + 1, _, h, e => by
    unfold DatL at h
    obtain ⟨v, r, rfl, _, h2⟩ := h
    obtain ⟨w, a, b⟩ := DatL.get (i := i) h2 e
    exact ⟨w, a, b⟩
theorem DatL.nil : DatL K mg φ G [] [] := by unfold DatL; rfl
theorem DatL.cons {d : D} {v : V} {ds : List D} {vs : List V} (h : Dat K mg φ G d v) (t : DatL K mg φ G ds vs) : DatL K mg φ G (d :: ds) (v :: vs) := by
  unfold DatL
  exact ⟨v, vs, rfl, h, t⟩
theorem DatL.uncons {d : D} {ds : List D} {vs : List V} (h : DatL K mg φ G (d :: ds) vs) : ∃ v r, vs = v :: r ∧ Dat K mg φ G d v ∧ DatL K mg φ G ds r := by
  unfold DatL at h
  exact h
theorem DatL.append : ∀ {ds es : List D} {vs us : List V}, DatL K mg φ G ds vs → DatL K mg φ G es us → DatL K mg φ G (ds ++ es) (vs ++ us)
  | [], _, _, _, h, t => by
    unfold DatL at h
    subst h
    exact t
  | d :: ds, _, _, _, h, t => by
    obtain ⟨v, r, rfl, h1, h2⟩ := h.uncons
    exact .cons h1 (DatL.append h2 t)
theorem DatL.set : ∀ {ds : List D} {vs : List V} {d : D} {v : V} (i : Nat), DatL K mg φ G ds vs → Dat K mg φ G d v → DatL K mg φ G (ds.set i d) (vs.set i v)
  | [], _, _, _, _, h, _ => by
    unfold DatL at h
    subst h
    exact DatL.nil
  | e :: ds, _, _, _, 0, h, q => by
    obtain ⟨w, r, rfl, _, h2⟩ := h.uncons
    exact .cons q h2
  | e :: ds, _, _, _, i + 1, h, q => by
    obtain ⟨w, r, rfl, h1, h2⟩ := h.uncons
    exact .cons h1 (DatL.set i h2 q)
theorem DatL.map {α : Type} {f : α → D} {g : α → V} : ∀ {l : List α}, (∀ x ∈ l, Dat K mg φ G (f x) (g x)) → DatL K mg φ G (l.map f) (l.map g)
  | [], _ => DatL.nil
  | x :: l, h => .cons (h x List.mem_cons_self) (DatL.map fun y hy => h y (List.mem_cons_of_mem _ hy))
theorem DatL.take : ∀ {ds : List D} {vs : List V} (n : Nat), DatL K mg φ G ds vs → DatL K mg φ G (ds.take n) (vs.take n)
  | _, _, 0, _ => by rw [List.take_zero, List.take_zero]; exact DatL.nil
  | [], _, n + 1, h => by
    unfold DatL at h
    subst h
    exact DatL.nil
  | d :: ds, _, n + 1, h => by
    obtain ⟨v, r, rfl, h1, h2⟩ := h.uncons
    exact .cons h1 (DatL.take n h2)
theorem DatL.drop : ∀ {ds : List D} {vs : List V} (n : Nat), DatL K mg φ G ds vs → DatL K mg φ G (ds.drop n) (vs.drop n)
  | _, _, 0, h => h
  | [], _, n + 1, h => by
    unfold DatL at h
    subst h
    exact DatL.nil
  | d :: ds, _, n + 1, h => by
    obtain ⟨v, r, rfl, h1, h2⟩ := h.uncons
    exact DatL.drop n h2
end

/-! ### the store over the abstract heap -/
def liveA : List Addr → Store → List Addr
  | a :: φ, o :: S => if o.live then a :: liveA φ S else liveA φ S
  | _, _ => []
/-- H without the addresses of l -/
def without (l : List Addr) (H : Hp) : Hp := fun a => if a ∈ l then none else H a
/-- the ground: what changes no more; Z: hidden addresses -/
def gnd (Z : List Addr) (φ : List Addr) (S : Store) (H : Hp) : Hp := without (Z ++ liveA φ S) H
theorem without_some {l : List Addr} {H : Hp} {a : Addr} {o : HO} : without l H a = some o ↔ a ∉ l ∧ H a = some o := by
  unfold without
  by_cases h : a ∈ l
  · rw [if_pos h]
    exact ⟨fun z => (nomatch z), fun z => absurd h z.1⟩
  · rw [if_neg h]
    exact ⟨fun z => ⟨h, z⟩, fun z => z.2⟩
theorem liveA_mem : ∀ {φ : List Addr} {S : Store} {a : Addr}, a ∈ liveA φ S → ∃ (n : Nat) (o : SO), φ[n]? = some a ∧ S[n]? = some o ∧ o.live = true
  | [], _, _, h => by simp [liveA] at h
  | _ :: _, [], _, h => by simp [liveA] at h
  | b :: φ, o :: S, a, h => by
    unfold liveA at h
    have step : a ∈ liveA φ S → ∃ (n : Nat) (o' : SO), (b :: φ)[n]? = some a ∧ (o :: S)[n]? = some o' ∧ o'.live = true := fun q => by
      obtain ⟨n, u, h1, h2, h3⟩ := liveA_mem q
      exact ⟨n + 1, u, h1, h2, h3⟩
    cases hl : o.live with
    | false =>
      rw [hl] at h
      exact step h
    | true =>
      rw [hl] at h
      rcases List.mem_cons.mp h with rfl | q
      · exact ⟨0, o, rfl, rfl, hl⟩
      · exact step q
theorem mem_liveA : ∀ {φ : List Addr} {S : Store} {a : Addr} {n : Nat} {o : SO}, φ[n]? = some a → S[n]? = some o → o.live = true → a ∈ liveA φ S
  | [], _, _, _, _, h, _, _ => by cases h
  | _ :: _, [], _, _, _, _, h, _ => by cases h
  | b :: φ, u :: S, a, 0, o, h1, h2, h3 => by
    cases h1
    cases h2
    unfold liveA
    rw [h3]
    exact List.mem_cons_self
  | b :: φ, u :: S, a, n + 1, o, h1, h2, h3 => by
    have q := mem_liveA (n := n) (φ := φ) (S := S) h1 h2 h3
    unfold liveA
    split
    · exact List.mem_cons_of_mem _ q
    · exact q
theorem liveA_sub {φ : List Addr} {S : Store} {a : Addr} (h : a ∈ liveA φ S) : a ∈ φ := by
  obtain ⟨n, o, h1, _⟩ := liveA_mem h
  exact List.mem_of_getElem? h1
theorem liveA_snoc : ∀ {φ : List Addr} {S : Store} {p : Addr} {o : SO}, φ.length = S.length → liveA (φ ++ [p]) (S ++ [o]) = liveA φ S ++ (if o.live then [p] else [])
  | [], [], p, o, _ => by cases h : o.live <;> simp [liveA, h]
  | a :: φ, u :: S, p, o, h => by
    have q := liveA_snoc (φ := φ) (S := S) (p := p) (o := o) (by simpa using h)
    simp only [List.cons_append, liveA, q]
    split <;> rfl
theorem liveA_set : ∀ {φ : List Addr} {S : Store} {n : Nat} {o u : SO}, S[n]? = some o → u.live = o.live → liveA φ (S.set n u) = liveA φ S
  | [], _, _, _, _, _, _ => by simp [liveA]
  | _ :: _, [], _, _, _, h, _ => by cases h
  | a :: φ, x :: S, 0, o, u, h, e => by
    cases h
    simp only [List.set_cons_zero, liveA, e]
  | a :: φ, x :: S, n + 1, o, u, h, e => by
    have q := liveA_set (φ := φ) (S := S) (n := n) h e
    simp only [List.set_cons_succ, liveA, q]

section
variable (K : PySem.W.Frag) (mg : Str → Option Value)
def SOk (φ : List Addr) (G H : Hp) (a : Addr) : SO → Prop
  | .lst ds => ∃ vs, H a = some (.lst vs) ∧ DatL K mg φ G ds vs
  | .dic ks => ∃ kvs, H a = some (.dK kvs) ∧ DatK K mg φ G ks kvs
  | .ins C fs => ∃ A dx fvs, mg C = some (.ref A) ∧ H a = some (.ins A dx fvs) ∧ DatF K mg φ G fs fvs
  | .frz d => Dat K mg φ G d (.ref a)
  | .tbl p q => a = (He.cT K p).2 ∧ ∃ ps, H a = some (.tbl ps) ∧ TriplesOk ps.toList ∧ ∀ (pos : Pos) (cv : Value), codeAmong pos ps.toList = some cv → ∃ c, cv = .ref c ∧ G c = some (LamX.CodeO c q)
structure Rel (Z : List Addr) (φ : List Addr) (S : Store) (H : Hp) : Prop where
  len : φ.length = S.length
  nd : φ.Nodup
  zd : ∀ a ∈ φ, a ∉ Z
  zh : ∀ a ∈ Z, H a ≠ none
  ph : ∀ a ∈ φ, H a ≠ none
  ob : ∀ (n : Nat) (a : Addr) (o : SO), φ[n]? = some a → S[n]? = some o → SOk K mg φ (gnd Z φ S H) H a o
end
/-- how a state goes on -/
structure Evo (Z : List Addr) (φ : List Addr) (S : Store) (H : Hp) (φ' : List Addr) (S' : Store) (H' : Hp) : Prop where
  pre : φ <+: φ'
  ext : Same (gnd Z φ S H) (gnd Z φ' S' H')
  out : ∀ a o, H a = some o → a ∉ liveA φ S → H' a = some o
  lv : ∀ a ∈ liveA φ' S', H a ≠ none → a ∈ liveA φ S
theorem Evo.refl {Z φ : List Addr} {S : Store} {H : Hp} : Evo Z φ S H φ S H := ⟨List.prefix_refl _, Same.refl _, fun _ _ h _ => h, fun _ h _ => h⟩
theorem Evo.trans {Z φ φ1 φ2 : List Addr} {S S1 S2 : Store} {H H1 H2 : Hp} (a : Evo Z φ S H φ1 S1 H1) (b : Evo Z φ1 S1 H1 φ2 S2 H2) : Evo Z φ S H φ2 S2 H2 := by
  refine ⟨a.pre.trans b.pre, a.ext.trans b.ext, fun c o h n => ?_, fun c h hn => ?_⟩
  · exact b.out c o (a.out c o h n) fun q => n (a.lv c q (by rw [h]; exact fun z => nomatch z))
  · by_cases q : c ∈ liveA φ S
    · exact q
    · obtain ⟨o, ho⟩ := Option.ne_none_iff_exists'.mp hn
      exact a.lv c (b.lv c h (by rw [a.out c o ho q]; exact fun z => nomatch z)) hn
end DL

/-! The data layer, part 2: how stores change; results; the judgements. -/
namespace DL
open PySem L2

section
variable {K : PySem.W.Frag} {mg : Str → Option Value} {Z φ φ' : List Addr} {S S' : Store} {H H' : Hp}
theorem gnd_same (e : Same H H') : Same (gnd Z φ S H) (gnd Z φ S H') := fun a o h => by
  obtain ⟨h1, h2⟩ := without_some.mp h
  exact without_some.mpr ⟨h1, e a o h2⟩
theorem SOk.mono {φ φ' : List Addr} {G G' H H' : Hp} {a : Addr} (p : φ <+: φ') (e : Same G G') (hl : ∀ o : HO, H a = some o → H' a = some o) : ∀ {o : SO}, SOk K mg φ G H a o → SOk K mg φ' G' H' a o
  | .lst ds, ⟨vs, h1, h2⟩ => ⟨vs, hl _ h1, h2.mono p e⟩
  | .dic ks, ⟨vs, h1, h2⟩ => ⟨vs, hl _ h1, h2.mono p e⟩
  | .ins C fs, ⟨A, dx, fvs, h0, h1, h2⟩ => ⟨A, dx, fvs, h0, hl _ h1, h2.mono p e⟩
  | .frz d, h => Dat.mono p e d _ h
  | .tbl _ _, ⟨h0, ps, h1, h2, h3⟩ => ⟨h0, ps, hl _ h1, h2, fun pos cv hc => by
    obtain ⟨c, q1, q2⟩ := h3 pos cv hc
    exact ⟨c, q1, e _ _ q2⟩⟩
/-- all that stood stands -/
theorem Rel.same (R : Rel K mg Z φ S H) (e : Same H H') : Rel K mg Z φ S H' ∧ Evo Z φ S H φ S H' := by
  have some_of : ∀ a, H a ≠ none → H' a ≠ none := fun a h => by
    obtain ⟨o, ho⟩ := Option.ne_none_iff_exists'.mp h
    rw [e a o ho]
    exact fun z => nomatch z
  exact ⟨⟨R.len, R.nd, R.zd, fun a h => some_of a (R.zh a h), fun a h => some_of a (R.ph a h), fun n a o h1 h2 => (R.ob n a o h1 h2).mono (List.prefix_refl _) (gnd_same e) (e a)⟩,
    ⟨List.prefix_refl _, gnd_same e, fun a o h _ => e a o h, fun a h _ => h⟩⟩
theorem Rel.out_gnd (R : Rel K mg Z φ S H) {p : Addr} (hp : H p = none) : p ∉ Z ++ liveA φ S := fun q => by
  rcases List.mem_append.mp q with z | z
  · exact R.zh p z hp
  · exact R.ph p (liveA_sub z) hp
theorem same_upd {p : Addr} {o : HO} (hp : H p = none) : Same H (upd H p o) := fun b u e => by
  rw [upd_ne (ne_of_none e hp)]
  exact e
/-- a new object that changes no more -/
theorem Rel.fresh (R : Rel K mg Z φ S H) {p : Addr} {o : HO} (hp : H p = none) : Rel K mg Z φ S (upd H p o) ∧ Evo Z φ S H φ S (upd H p o) ∧ gnd Z φ S (upd H p o) p = some o := by
  obtain ⟨a, b⟩ := R.same (same_upd (o := o) hp)
  exact ⟨a, b, without_some.mpr ⟨R.out_gnd hp, upd_same⟩⟩
/-- a new object that may change -/
theorem Rel.newOid (R : Rel K mg Z φ S H) {p : Addr} {so : SO} (e : Same H H') (hp : H p = none) (hp' : H' p ≠ none) (hl : so.live = true) (ok : SOk K mg (φ ++ [p]) (gnd Z (φ ++ [p]) (S ++ [so]) H') H' p so) :
    Rel K mg Z (φ ++ [p]) (S ++ [so]) H' ∧ Evo Z φ S H (φ ++ [p]) (S ++ [so]) H' := by
  have hn := R.out_gnd hp
  have pφ : p ∉ φ := fun q => R.ph p q hp
  have lv : liveA (φ ++ [p]) (S ++ [so]) = liveA φ S ++ [p] := by rw [liveA_snoc R.len, hl]; rfl
  have ext : Same (gnd Z φ S H) (gnd Z (φ ++ [p]) (S ++ [so]) H') := fun a o h => by
    obtain ⟨h1, h2⟩ := without_some.mp h
    refine without_some.mpr ⟨fun q => h1 ?_, e a o h2⟩
    rw [lv] at q
    rcases List.mem_append.mp q with z | z
    · exact List.mem_append_left _ z
    · rcases List.mem_append.mp z with z | z
      · exact List.mem_append_right _ z
      · rw [List.mem_singleton.mp z, hp] at h2
        cases h2
  have some_of : ∀ a, H a ≠ none → H' a ≠ none := fun a h => by
    obtain ⟨o, ho⟩ := Option.ne_none_iff_exists'.mp h
    rw [e a o ho]
    exact fun z => nomatch z
  refine ⟨⟨by rw [List.length_append, List.length_append, R.len]; rfl, List.nodup_append.mpr ⟨R.nd, by simp, fun a ha b hb => ?_⟩, fun a ha => ?_, fun a h => some_of a (R.zh a h), fun a ha => ?_, fun n a o h1 h2 => ?_⟩,
    ⟨⟨[p], rfl⟩, ext, fun a o h _ => e a o h, fun a h hn => ?_⟩⟩
  · rw [List.mem_singleton.mp hb]
    intro z
    rw [z] at ha
    exact pφ ha
  · rcases List.mem_append.mp ha with z | z
    · exact R.zd a z
    · rw [List.mem_singleton.mp z]
      exact fun q => hn (List.mem_append_left _ q)
  · rcases List.mem_append.mp ha with z | z
    · exact some_of a (R.ph a z)
    · rw [List.mem_singleton.mp z]
      exact hp'
  · by_cases hlt : n < φ.length
    · rw [List.getElem?_append_left hlt] at h1
      rw [List.getElem?_append_left (by rw [← R.len]; exact hlt)] at h2
      exact (R.ob n a o h1 h2).mono ⟨[p], rfl⟩ ext (e a)
    · have hlt' : φ.length ≤ n := Nat.le_of_not_lt hlt
      rw [List.getElem?_append_right hlt'] at h1
      rw [List.getElem?_append_right (by rw [← R.len]; exact hlt')] at h2
      have e0 : n - φ.length = 0 := by
        have := (List.getElem?_eq_some_iff.mp h1).1
        simp only [List.length_singleton] at this
        omega
      rw [← R.len] at h2
      rw [e0] at h1 h2
      cases h1
      cases h2
      exact ok
  · rw [lv] at h
    rcases List.mem_append.mp h with z | z
    · exact z
    · rw [List.mem_singleton.mp z] at hn
      exact absurd hp hn
theorem gnd_mut {n : Nat} {a : Addr} {o u : SO} {ho : HO} (h1 : φ[n]? = some a) (h2 : S[n]? = some o) (l1 : o.live = true) (l2 : u.live = true) : gnd Z φ (S.set n u) (upd H a ho) = gnd Z φ S H := by
  funext b
  unfold gnd without
  rw [liveA_set h2 (l2.trans l1.symm)]
  by_cases hb : b = a
  · subst hb
    rw [if_pos (List.mem_append_right _ (mem_liveA h1 h2 l1)), if_pos (List.mem_append_right _ (mem_liveA h1 h2 l1))]
  · rw [upd_ne hb]
/-- an object changes -/
theorem Rel.mutate (R : Rel K mg Z φ S H) {n : Nat} {a : Addr} {o u : SO} {ho : HO} (h1 : φ[n]? = some a) (h2 : S[n]? = some o) (l1 : o.live = true) (l2 : u.live = true) (ok : SOk K mg φ (gnd Z φ S H) (upd H a ho) a u) :
    Rel K mg Z φ (S.set n u) (upd H a ho) ∧ Evo Z φ S H φ (S.set n u) (upd H a ho) := by
  have eg := gnd_mut (Z := Z) (H := H) (ho := ho) h1 h2 l1 l2
  have lv : liveA φ (S.set n u) = liveA φ S := liveA_set h2 (l2.trans l1.symm)
  have some_of : ∀ b, H b ≠ none → upd H a ho b ≠ none := fun b h => by
    by_cases hb : b = a
    · subst hb
      rw [upd_same]
      exact fun z => nomatch z
    · rw [upd_ne hb]
      exact h
  refine ⟨⟨by rw [List.length_set, R.len], R.nd, R.zd, fun b h => some_of b (R.zh b h), fun b h => some_of b (R.ph b h), fun m b w q1 q2 => ?_⟩,
    ⟨List.prefix_refl _, by rw [eg]; exact Same.refl _, fun b w h hn => ?_, fun b h _ => by rw [lv] at h; exact h⟩⟩
  · rw [eg]
    by_cases hm : m = n
    · subst hm
      rw [h1] at q1
      cases q1
      rw [List.getElem?_set_self (List.getElem?_eq_some_iff.mp h2).1] at q2
      cases q2
      exact ok
    · rw [List.getElem?_set_ne (fun z => hm z.symm)] at q2
      refine (R.ob m b w q1 q2).mono (List.prefix_refl _) (Same.refl _) fun ob hb => ?_
      rw [upd_ne]
      · exact hb
      · intro z
        subst z
        exact hm (nd_ix R.nd q1 h1)
  · rw [upd_ne]
    · exact h
    · intro z
      subst z
      exact hn (mem_liveA h1 h2 l1)
theorem liveA_set_sub : ∀ {φ : List Addr} {S : Store} {n : Nat} {u : SO} {a : Addr}, u.live = false → a ∈ liveA φ (S.set n u) → a ∈ liveA φ S
  | [], _, _, _, _, _, h => by simp [liveA] at h
  | _ :: _, [], _, _, _, _, h => by simp [liveA] at h
  | b :: φ, x :: S, 0, u, a, e, h => by
    simp only [List.set_cons_zero, liveA, e] at h
    unfold liveA
    split
    · exact List.mem_cons_of_mem _ h
    · exact h
  | b :: φ, x :: S, n + 1, u, a, e, h => by
    simp only [List.set_cons_succ, liveA] at h
    unfold liveA
    split at h
    · rename_i hx
      rw [if_pos hx]
      rcases List.mem_cons.mp h with rfl | q
      · exact List.mem_cons_self
      · exact List.mem_cons_of_mem _ (liveA_set_sub e q)
    · rename_i hx
      rw [if_neg hx]
      exact liveA_set_sub e h
theorem live_set_not {φ : List Addr} {S : Store} (nd : φ.Nodup) {n : Nat} {u : SO} {a : Addr} (h1 : φ[n]? = some a) (e : u.live = false) : a ∉ liveA φ (S.set n u) := fun q => by
  obtain ⟨m, o, q1, q2, q3⟩ := liveA_mem q
  have hm : m = n := nd_ix nd q1 h1
  subst hm
  have hl := (List.getElem?_eq_some_iff.mp q2).1
  rw [List.getElem?_set_self (by rw [List.length_set] at hl; exact hl)] at q2
  cases q2
  rw [e] at q3
  cases q3
/-- an object changes no more -/
theorem Rel.freeze (R : Rel K mg Z φ S H) {n : Nat} {a : Addr} {d : D} (h1 : φ[n]? = some a) (ok : Dat K mg φ (gnd Z φ (S.set n (.frz d)) H) d (.ref a)) :
    Rel K mg Z φ (S.set n (.frz d)) H ∧ Evo Z φ S H φ (S.set n (.frz d)) H := by
  have ext : Same (gnd Z φ S H) (gnd Z φ (S.set n (.frz d)) H) := fun b o h => by
    obtain ⟨q1, q2⟩ := without_some.mp h
    refine without_some.mpr ⟨fun q => q1 ?_, q2⟩
    rcases List.mem_append.mp q with z | z
    · exact List.mem_append_left _ z
    · exact List.mem_append_right _ (liveA_set_sub rfl z)
  refine ⟨⟨by rw [List.length_set, R.len], R.nd, R.zd, R.zh, R.ph, fun m b w q1 q2 => ?_⟩, ⟨List.prefix_refl _, ext, fun b w h _ => h, fun b h _ => liveA_set_sub rfl h⟩⟩
  by_cases hm : m = n
  · subst hm
    rw [h1] at q1
    cases q1
    have hl := (List.getElem?_eq_some_iff.mp q2).1
    rw [List.getElem?_set_self (by rw [List.length_set] at hl; exact hl)] at q2
    cases q2
    exact ok
  · rw [List.getElem?_set_ne (fun z => hm z.symm)] at q2
    exact (R.ob m b w q1 q2).mono (List.prefix_refl _) ext fun _ z => z
theorem gnd_frz (R : Rel K mg Z φ S H) {n : Nat} {a : Addr} {d : D} (h1 : φ[n]? = some a) {o : HO} (ho : H a = some o) : gnd Z φ (S.set n (.frz d)) H a = some o :=
  without_some.mpr ⟨fun q => (List.mem_append.mp q).elim (R.zd a (List.mem_of_getElem? h1)) (live_set_not R.nd h1 rfl), ho⟩
theorem evo_frz {n : Nat} {d : D} : Same (gnd Z φ S H) (gnd Z φ (S.set n (.frz d)) H) := fun b o h => by
  obtain ⟨q1, q2⟩ := without_some.mp h
  refine without_some.mpr ⟨fun q => q1 ?_, q2⟩
  rcases List.mem_append.mp q with z | z
  · exact List.mem_append_left _ z
  · exact List.mem_append_right _ (liveA_set_sub rfl z)
theorem Dat.evo {d : D} {v : V} (E : Evo Z φ S H φ' S' H') (h : Dat K mg φ (gnd Z φ S H) d v) : Dat K mg φ' (gnd Z φ' S' H') d v := Dat.mono E.pre E.ext d v h
theorem DatL.evo {d : List D} {v : List V} (E : Evo Z φ S H φ' S' H') (h : DatL K mg φ (gnd Z φ S H) d v) : DatL K mg φ' (gnd Z φ' S' H') d v := DatL.mono E.pre E.ext d v h
end

/-! ### results -/
inductive Res (α : Type) where
  | ok (a : α) (S : Store) | ex (C : Str) (fs : List (Str × D)) (S : Store) | stuck
def Res.bind {α β : Type} (r : Res α) (k : α → Store → Res β) : Res β := match r with
  | .ok a S => k a S
  | .ex C fs S => .ex C fs S
  | .stuck => .stuck
@[simp] theorem Res.bind_ok {α β : Type} (a : α) (S : Store) (k : α → Store → Res β) : (Res.ok a S).bind k = k a S := rfl
@[simp] theorem Res.bind_ex {α β : Type} (C : Str) (fs : List (Str × D)) (S : Store) (k : α → Store → Res β) : (Res.ex C fs S).bind k = .ex C fs S := rfl
@[simp] theorem Res.bind_stuck {α β : Type} (k : α → Store → Res β) : (Res.stuck : Res α).bind k = .stuck := rfl
abbrev EnvD := List (Option D)

section
variable (K : PySem.W.Frag) (mg : Str → Option Value)
def ExD (φ : List Addr) (G : Hp) (fs : List (Str × D)) (dx : Option Addr) : Prop := (fs = [] ∧ dx = none) ∨ fs ≠ [] ∧ ∃ a fvs, dx = some a ∧ G a = some (.xd fvs) ∧ DatF K mg φ G fs fvs
/-- what is wanted behind a result -/
def Want {α β : Type} (R : List Addr → Hp → α → β → Prop) (Z φ : List Addr) (S : Store) (H : Hp) (r : Res α) (Q : β → Hp → Prop) (E : XK) : Prop := match r with
  | .ok a S' => ∀ b φ' H', Rel K mg Z φ' S' H' → Evo Z φ S H φ' S' H' → R φ' (gnd Z φ' S' H') a b → Q b H'
  | .ex C fs S' => ∀ A dx φ' H', mg C = some (.ref A) → Rel K mg Z φ' S' H' → Evo Z φ S H φ' S' H' → ExD K mg φ' (gnd Z φ' S' H') fs dx → E (.ref A) dx H'
  | .stuck => False
abbrev RDat : List Addr → Hp → D → V → Prop := fun φ G d v => Dat K mg φ G d v
abbrev RLst : List Addr → Hp → List D → List V → Prop := fun φ G d v => DatL K mg φ G d v
abbrev REq {α : Type} : List Addr → Hp → α → α → Prop := fun _ _ a b => a = b
def Slots (φ : List Addr) (G : Hp) (ρ : EnvD) (σ : L2.St) : Prop := ρ.length = σ.length ∧ ∀ (i : Nat) (d : D), ρ[i]? = some (some d) → ∃ v, σ[i]? = some (some v) ∧ Dat K mg φ G d v
end
section
variable {K : PySem.W.Frag} {mg : Str → Option Value} {Z φ φ' : List Addr} {S S' : Store} {H H' : Hp} {α β γ δ : Type}
theorem Want.go {R : List Addr → Hp → α → β → Prop} {r : Res α} {Q : β → Hp → Prop} {E : XK} (e : Evo Z φ S H φ' S' H') (h : Want K mg R Z φ S H r Q E) : Want K mg R Z φ' S' H' r Q E := by
  cases r with
  | ok a S1 => exact fun b φ1 H1 r1 e1 d => h b φ1 H1 r1 (e.trans e1) d
  | ex C fs S1 => exact fun A dx φ1 H1 m r1 e1 d => h A dx φ1 H1 m r1 (e.trans e1) d
  | stuck => exact h
theorem Want.bind {R : List Addr → Hp → α → β → Prop} {R' : List Addr → Hp → γ → δ → Prop} {r : Res α} {k : α → Store → Res γ} {Q : δ → Hp → Prop} {Q1 : β → Hp → Prop} {E : XK} (h : Want K mg R' Z φ S H (r.bind k) Q E)
    (f : ∀ a S1 b φ1 H1, Rel K mg Z φ1 S1 H1 → Evo Z φ S H φ1 S1 H1 → R φ1 (gnd Z φ1 S1 H1) a b → Want K mg R' Z φ1 S1 H1 (k a S1) Q E → Q1 b H1) : Want K mg R Z φ S H r Q1 E := by
  cases r with
  | ok a S1 => exact fun b φ1 H1 r1 e1 d => f a S1 b φ1 H1 r1 e1 d (h.go e1)
  | ex C fs S1 => exact h
  | stuck => exact h
theorem Want.imp {R : List Addr → Hp → α → β → Prop} {r : Res α} {Q Q1 : β → Hp → Prop} {E : XK} (h : Want K mg R Z φ S H r Q E) (f : ∀ b H', Q b H' → Q1 b H') : Want K mg R Z φ S H r Q1 E := by
  cases r with
  | ok a S1 => exact fun b φ1 H1 r1 e1 d => f _ _ (h b φ1 H1 r1 e1 d)
  | ex C fs S1 => exact h
  | stuck => exact h
/-- the result stands -/
theorem Want.now {R : List Addr → Hp → α → β → Prop} {a : α} {b : β} {Q : β → Hp → Prop} {E : XK} (h : Want K mg R Z φ S H (.ok a S) Q E) (r : Rel K mg Z φ S H) (d : R φ (gnd Z φ S H) a b) : Q b H := h b φ H r Evo.refl d
theorem Slots.evo {ρ : EnvD} {σ : L2.St} (e : Evo Z φ S H φ' S' H') (h : Slots K mg φ (gnd Z φ S H) ρ σ) : Slots K mg φ' (gnd Z φ' S' H') ρ σ := ⟨h.1, fun i d q => by
  obtain ⟨v, a, b⟩ := h.2 i d q
  exact ⟨v, a, b.evo e⟩⟩
theorem Slots.set {G : Hp} {ρ : EnvD} {σ : L2.St} {i : Nat} {d : D} {v : V} (h : Slots K mg φ G ρ σ) (hd : Dat K mg φ G d v) : Slots K mg φ G (ρ.set i (some d)) (σ.set i (some v)) := by
  refine ⟨by rw [List.length_set, List.length_set, h.1], fun j e q => ?_⟩
  by_cases hj : j = i
  · subst hj
    have hl := (List.getElem?_eq_some_iff.mp q).1
    rw [List.length_set] at hl
    rw [List.getElem?_set_self hl] at q
    cases q
    exact ⟨v, by rw [List.getElem?_set_self (by rw [← h.1]; exact hl)], hd⟩
  · rw [List.getElem?_set_ne (fun z => hj z.symm)] at q
    obtain ⟨w, a, b⟩ := h.2 j e q
    exact ⟨w, by rw [List.getElem?_set_ne (fun z => hj z.symm)]; exact a, b⟩
end

/-! ### the judgements -/
section
variable (X : Cx) (W : WX)
abbrev FE := EnvD → Store → Res D
abbrev FT := EnvD → Store → Res Bool
abbrev FA := EnvD → Store → Res (List D)
variable {X W}
/-- the canonical readings of mirrors -/
def tD (K : PySem.W.Frag) (mg : Str → Option Value) (W : WX) (f : FE) : TE := fun σ H Q => ∃ Z φ S ρ, Rel K mg Z φ S H ∧ Slots K mg φ (gnd Z φ S H) ρ σ ∧ Want K mg (RDat K mg) Z φ S H (f ρ S) Q (WE W σ)
def tDT (K : PySem.W.Frag) (mg : Str → Option Value) (W : WX) (f : FT) : TT := fun σ H Q => ∃ Z φ S ρ, Rel K mg Z φ S H ∧ Slots K mg φ (gnd Z φ S H) ρ σ ∧ Want K mg REq Z φ S H (f ρ S) Q (WE W σ)
def tDA (K : PySem.W.Frag) (mg : Str → Option Value) (W : WX) (f : FA) : TA := fun σ H Q => ∃ Z φ S ρ, Rel K mg Z φ S H ∧ Slots K mg φ (gnd Z φ S H) ρ σ ∧ Want K mg (RLst K mg) Z φ S H (f ρ S) Q (WE W σ)
theorem PE.weak {e : Expr} {t t' : TE} (h : PE X e t) (i : ∀ σ H Q, t' σ H Q → t σ H Q) : PE X e t' := ⟨fun pins s σ H Q I q => h.run pins s σ H Q I (i _ _ _ q)⟩
theorem PT.weak {e : Expr} {t t' : TT} (h : PT X e t) (i : ∀ σ H Q, t' σ H Q → t σ H Q) : PT X e t' := ⟨fun pins s σ H Q I q => h.run pins s σ H Q I (i _ _ _ q)⟩
theorem PW.weak {e : Expr} {t t' : TT} (h : L2.PW X e t) (i : ∀ σ H Q, t' σ H Q → t σ H Q) : L2.PW X e t' := ⟨fun wh pins s σ H Q I q => h.run wh pins s σ H Q I (i _ _ _ q)⟩
theorem PA.weak {e : List Expr} {t t' : TA} (h : PA X e t) (i : ∀ σ H Q, t' σ H Q → t σ H Q) : PA X e t' := ⟨fun po pins s σ H Q I q => h.run po pins s σ H Q I (i _ _ _ q)⟩
theorem PK.weak {e : List Keyword} {t t' : TA} (h : L2.PK X e t) (i : ∀ σ H Q, t' σ H Q → t σ H Q) : L2.PK X e t' := ⟨fun po pins s σ H Q I q => h.run po pins s σ H Q I (i _ _ _ q)⟩
theorem PS.weak {e : Stmt} {t t' : TS} (h : PS X e t) (i : ∀ D σ H, t' D σ H → t D σ H) : PS X e t' := ⟨fun pins s σ H D I q => h.run pins s σ H D I (i _ _ _ q)⟩
theorem PSs.weak {e : List Stmt} {t t' : TS} (h : PSs X e t) (i : ∀ D σ H, t' D σ H → t D σ H) : PSs X e t' := ⟨fun pins s σ H D I q => h.run pins s σ H D I (i _ _ _ q)⟩
variable (X W)
abbrev IsE (t : TE) (f : FE) : Prop := ∀ Z φ S ρ σ H (Q : VK), Rel X.K X.mg Z φ S H → Slots X.K X.mg φ (gnd Z φ S H) ρ σ → Want X.K X.mg (RDat X.K X.mg) Z φ S H (f ρ S) Q (WE W σ) → t σ H Q
abbrev IsT (t : TT) (f : FT) : Prop := ∀ Z φ S ρ σ H (Q : Bool → Hp → Prop), Rel X.K X.mg Z φ S H → Slots X.K X.mg φ (gnd Z φ S H) ρ σ → Want X.K X.mg REq Z φ S H (f ρ S) Q (WE W σ) → t σ H Q
abbrev IsA (t : TA) (f : FA) : Prop := ∀ Z φ S ρ σ H (Q : List V → Hp → Prop), Rel X.K X.mg Z φ S H → Slots X.K X.mg φ (gnd Z φ S H) ρ σ → Want X.K X.mg (RLst X.K X.mg) Z φ S H (f ρ S) Q (WE W σ) → t σ H Q
def DE (e : Expr) (f : FE) : Prop := PE X e (tD X.K X.mg W f)
def DT (e : Expr) (f : FT) : Prop := PT X e (tDT X.K X.mg W f)
def DW (e : Expr) (f : FT) : Prop := L2.PW X e (tDT X.K X.mg W f)
def DA (es : List Expr) (f : FA) : Prop := PA X es (tDA X.K X.mg W f)
def DKw (ks : List Keyword) (f : FA) : Prop := L2.PK X ks (tDA X.K X.mg W f)
variable {X W}
theorem DE.mk {e : Expr} {f : FE} {t : TE} (p : PE X e t) (h : IsE X W t f) : DE X W e f := PE.weak p fun σ H Q ⟨Z, φ, S, ρ, R, sl, w⟩ => h Z φ S ρ σ H Q R sl w
theorem DE.ex {e : Expr} {f : FE} (h : DE X W e f) : ∃ t : TE, PE X e t ∧ IsE X W t f := ⟨_, h, fun Z φ S ρ σ H Q R sl w => ⟨Z, φ, S, ρ, R, sl, w⟩⟩
theorem DT.mk {e : Expr} {f : FT} {t : TT} (p : PT X e t) (h : IsT X W t f) : DT X W e f := PT.weak p fun σ H Q ⟨Z, φ, S, ρ, R, sl, w⟩ => h Z φ S ρ σ H Q R sl w
theorem DT.ex {e : Expr} {f : FT} (h : DT X W e f) : ∃ t : TT, PT X e t ∧ IsT X W t f := ⟨_, h, fun Z φ S ρ σ H Q R sl w => ⟨Z, φ, S, ρ, R, sl, w⟩⟩
theorem DW.mk {e : Expr} {f : FT} {t : TT} (p : L2.PW X e t) (h : IsT X W t f) : DW X W e f := PW.weak p fun σ H Q ⟨Z, φ, S, ρ, R, sl, w⟩ => h Z φ S ρ σ H Q R sl w
theorem DW.ex {e : Expr} {f : FT} (h : DW X W e f) : ∃ t : TT, L2.PW X e t ∧ IsT X W t f := ⟨_, h, fun Z φ S ρ σ H Q R sl w => ⟨Z, φ, S, ρ, R, sl, w⟩⟩
theorem DA.mk {e : List Expr} {f : FA} {t : TA} (p : PA X e t) (h : IsA X W t f) : DA X W e f := PA.weak p fun σ H Q ⟨Z, φ, S, ρ, R, sl, w⟩ => h Z φ S ρ σ H Q R sl w
theorem DA.ex {e : List Expr} {f : FA} (h : DA X W e f) : ∃ t : TA, PA X e t ∧ IsA X W t f := ⟨_, h, fun Z φ S ρ σ H Q R sl w => ⟨Z, φ, S, ρ, R, sl, w⟩⟩
theorem DKw.mk {e : List Keyword} {f : FA} {t : TA} (p : L2.PK X e t) (h : IsA X W t f) : DKw X W e f := PK.weak p fun σ H Q ⟨Z, φ, S, ρ, R, sl, w⟩ => h Z φ S ρ σ H Q R sl w
theorem DKw.ex {e : List Keyword} {f : FA} (h : DKw X W e f) : ∃ t : TA, L2.PK X e t ∧ IsA X W t f := ⟨_, h, fun Z φ S ρ σ H Q R sl w => ⟨Z, φ, S, ρ, R, sl, w⟩⟩
variable (X W)
/-- a statement's result -/
inductive Out where
  | nx (ρ : EnvD) (S : Store) | rt (d : D) (S : Store) | bk (ρ : EnvD) (S : Store) | ct (ρ : EnvD) (S : Store) | ex (C : Str) (fs : List (Str × D)) (ρ : EnvD) (S : Store) | stuck
abbrev FS := EnvD → Store → Out
def WantS (Z φ : List Addr) (S : Store) (H : Hp) (o : Out) (Dd : Ends) : Prop := match o with
  | .nx ρ S' => ∀ σ φ' H', Rel X.K X.mg Z φ' S' H' → Evo Z φ S H φ' S' H' → Slots X.K X.mg φ' (gnd Z φ' S' H') ρ σ → Dd.nx σ H'
  | .rt d S' => ∀ v φ' H', Rel X.K X.mg Z φ' S' H' → Evo Z φ S H φ' S' H' → Dat X.K X.mg φ' (gnd Z φ' S' H') d v → Dd.rt v H'
  | .bk ρ S' => ∀ σ φ' H', Rel X.K X.mg Z φ' S' H' → Evo Z φ S H φ' S' H' → Slots X.K X.mg φ' (gnd Z φ' S' H') ρ σ → Dd.bk σ H'
  | .ct ρ S' => ∀ σ φ' H', Rel X.K X.mg Z φ' S' H' → Evo Z φ S H φ' S' H' → Slots X.K X.mg φ' (gnd Z φ' S' H') ρ σ → Dd.ct σ H'
  | .ex C fs ρ S' => ∀ A dx σ φ' H', X.mg C = some (.ref A) → Rel X.K X.mg Z φ' S' H' → Evo Z φ S H φ' S' H' → Slots X.K X.mg φ' (gnd Z φ' S' H') ρ σ → ExD X.K X.mg φ' (gnd Z φ' S' H') fs dx → W (.ref A) dx σ H'
  | .stuck => False
def tDS (g : FS) : TS := fun Dd σ H => ∃ Z φ S ρ, Rel X.K X.mg Z φ S H ∧ Slots X.K X.mg φ (gnd Z φ S H) ρ σ ∧ WantS X W Z φ S H (g ρ S) Dd
abbrev IsS (t : TS) (g : FS) : Prop := ∀ Z φ S ρ σ H Dd, Rel X.K X.mg Z φ S H → Slots X.K X.mg φ (gnd Z φ S H) ρ σ → WantS X W Z φ S H (g ρ S) Dd → t Dd σ H
def DS (st : Stmt) (g : FS) : Prop := PS X st (tDS X W g)
def DSs (sts : List Stmt) (g : FS) : Prop := PSs X sts (tDS X W g)
variable {X W}
theorem DS.mk {e : Stmt} {f : FS} {t : TS} (p : PS X e t) (h : IsS X W t f) : DS X W e f := PS.weak p fun D σ H ⟨Z, φ, S, ρ, R, sl, w⟩ => h Z φ S ρ σ H D R sl w
theorem DS.ex {e : Stmt} {f : FS} (h : DS X W e f) : ∃ t : TS, PS X e t ∧ IsS X W t f := ⟨_, h, fun Z φ S ρ σ H D R sl w => ⟨Z, φ, S, ρ, R, sl, w⟩⟩
theorem DSs.mk {e : List Stmt} {f : FS} {t : TS} (p : PSs X e t) (h : IsS X W t f) : DSs X W e f := PSs.weak p fun D σ H ⟨Z, φ, S, ρ, R, sl, w⟩ => h Z φ S ρ σ H D R sl w
theorem DSs.ex {e : List Stmt} {f : FS} (h : DSs X W e f) : ∃ t : TS, PSs X e t ∧ IsS X W t f := ⟨_, h, fun Z φ S ρ σ H D R sl w => ⟨Z, φ, S, ρ, R, sl, w⟩⟩
end
section
variable {X : Cx} {W : WX} {Z φ φ' : List Addr} {S S' : Store} {H H' : Hp} {Dd : Ends}
theorem WantS.go {o : Out} (e : Evo Z φ S H φ' S' H') (h : WantS X W Z φ S H o Dd) : WantS X W Z φ' S' H' o Dd := by
  cases o with
  | nx ρ S1 => exact fun σ φ1 H1 r1 e1 d => h σ φ1 H1 r1 (e.trans e1) d
  | rt d S1 => exact fun σ φ1 H1 r1 e1 d => h σ φ1 H1 r1 (e.trans e1) d
  | bk ρ S1 => exact fun σ φ1 H1 r1 e1 d => h σ φ1 H1 r1 (e.trans e1) d
  | ct ρ S1 => exact fun σ φ1 H1 r1 e1 d => h σ φ1 H1 r1 (e.trans e1) d
  | ex C fs ρ S1 => exact fun A dx σ φ1 H1 m r1 e1 sl d => h A dx σ φ1 H1 m r1 (e.trans e1) sl d
  | stuck => exact h
/-- an expression's result within a statement -/
def Res.into {α : Type} (r : Res α) (ρ : EnvD) (k : α → Store → Out) : Out := match r with
  | .ok a S => k a S
  | .ex C fs S => .ex C fs ρ S
  | .stuck => .stuck
@[simp] theorem Res.into_ok {α : Type} (a : α) (S : Store) (ρ : EnvD) (k : α → Store → Out) : (Res.ok a S).into ρ k = k a S := rfl
@[simp] theorem Res.into_ex {α : Type} (C : Str) (fs : List (Str × D)) (S : Store) (ρ : EnvD) (k : α → Store → Out) : (Res.ex C fs S).into ρ k = .ex C fs ρ S := rfl
@[simp] theorem Res.into_stuck {α : Type} (ρ : EnvD) (k : α → Store → Out) : (Res.stuck : Res α).into ρ k = .stuck := rfl
theorem WantS.into {α β : Type} {R : List Addr → Hp → α → β → Prop} {r : Res α} {ρ : EnvD} {σ : L2.St} {k : α → Store → Out} {Q1 : β → Hp → Prop} (sl : Slots X.K X.mg φ (gnd Z φ S H) ρ σ) (h : WantS X W Z φ S H (r.into ρ k) Dd)
    (f : ∀ a S1 b φ1 H1, Rel X.K X.mg Z φ1 S1 H1 → Evo Z φ S H φ1 S1 H1 → R φ1 (gnd Z φ1 S1 H1) a b → WantS X W Z φ1 S1 H1 (k a S1) Dd → Q1 b H1) : Want X.K X.mg R Z φ S H r Q1 (WE W σ) := by
  cases r with
  | ok a S1 => exact fun b φ1 H1 r1 e1 d => f a S1 b φ1 H1 r1 e1 d (h.go e1)
  | ex C fs S1 => exact fun A dx φ1 H1 m r1 e1 d => h A dx σ φ1 H1 m r1 e1 (sl.evo e1) d
  | stuck => exact h
end
end DL

/-! The data layer, part 3: names, constants, operators, tests, displays, items, built-ins. -/
namespace DL
open PySem L2

section
variable {K : PySem.W.Frag} {mg : Str → Option Value} {Z φ : List Addr} {S : Store} {H : Hp}
theorem gnd_sub : Same (gnd Z φ S H) H := fun a o h => (without_some.mp h).2
/-- the items of a list, wherever it lies -/
def asL (S : Store) : D → Option (List D)
  | .lst ds => some ds
  | .scr ds => some ds
  | .oid n => match S[n]? with
    | some (.lst ds) => some ds
    | some (.frz (.lst ds)) => some ds
    | _ => none
  | _ => none
/-- the items of a list or a tuple -/
def asQ (S : Store) : D → Option (List D)
  | .tup ds => some ds
  | d => asL S d
theorem asL_ok (R : Rel K mg Z φ S H) {d : D} {v : V} {ds : List D} (h : Dat K mg φ (gnd Z φ S H) d v) (e : asL S d = some ds) : ∃ a vs, v = .ref a ∧ SqL K H a vs ∧ DatL K mg φ (gnd Z φ S H) ds vs := by
  cases d with
  | lst es =>
    cases e
    unfold Dat at h
    obtain ⟨a, vs, rfl, h1, h2⟩ := h
    exact ⟨a, vs, rfl, .of (gnd_sub _ _ h1), h2⟩
  | scr es =>
    cases e
    unfold Dat at h
    obtain ⟨a, vs, rfl, h1, h2⟩ := h
    exact ⟨a, vs, rfl, Same.seq gnd_sub h1, h2⟩
  | oid n =>
    unfold Dat at h
    obtain ⟨a, rfl, h1⟩ := h
    cases q : S[n]? with
    | none => simp [asL, q] at e
    | some o =>
      simp only [asL, q] at e
      have ok := R.ob n a o h1 q
      cases o with
      | lst es =>
        cases e
        obtain ⟨vs, q1, q2⟩ := ok
        exact ⟨a, vs, rfl, .of q1, q2⟩
      | frz d =>
        cases d with
        | lst es =>
          cases e
          have ok' : Dat K mg φ (gnd Z φ S H) (.lst _) (.ref a) := ok
          unfold Dat at ok'
          obtain ⟨b, vs, e1, q1, q2⟩ := ok'
          cases e1
          exact ⟨a, vs, rfl, .of (gnd_sub _ _ q1), q2⟩
        | _ => cases e
      | _ => cases e
  | _ => cases e
theorem asQ_ok (R : Rel K mg Z φ S H) {d : D} {v : V} {ds : List D} (h : Dat K mg φ (gnd Z φ S H) d v) (e : asQ S d = some ds) : ∃ a vs, v = .ref a ∧ (SqL K H a vs ∨ SqT K H a vs) ∧ DatL K mg φ (gnd Z φ S H) ds vs := by
  cases d with
  | tup es =>
    cases e
    unfold Dat at h
    obtain ⟨a, vs, rfl, h1, h2⟩ := h
    exact ⟨a, vs, rfl, .inr (sqt_mono gnd_sub h1), h2⟩
  | _ =>
    obtain ⟨a, vs, e1, h1, h2⟩ := asL_ok R h e
    exact ⟨a, vs, e1, .inl h1, h2⟩
end

section
variable {X : Cx} {W : WX} {a b c e : Expr} {es : List Expr} {fa fb fc fe : FE} {pos : Pos}

/-! ### names and constants -/
def fVar (i : Nat) : FE := fun ρ S => match ρ[i]? with
  | some (some d) => .ok d S
  | _ => .stuck
def fC (d : D) : FE := fun _ S => .ok d S
theorem de_var {i : Nat} {x : Str} (p : PE X (.Name x pos) (tVar i)) : DE X W (.Name x pos) (fVar i) :=
  .mk p (fun Z φ S ρ σ H Q R sl w => by
    unfold fVar at w
    cases h : ρ[i]? with
    | none => rw [h] at w; exact w.elim
    | some o =>
      cases o with
      | none => rw [h] at w; exact w.elim
      | some d =>
        rw [h] at w
        obtain ⟨v, h1, h2⟩ := sl.2 i d h
        exact ⟨v, h1, w.now R h2⟩)
theorem de_c {t : TE} {v : V} {d : D} (p : PE X e t) (ht : t = tC v) (hd : ∀ φ G, Dat X.K X.mg φ G d v) : DE X W e (fC d) := by
  subst ht
  exact .mk p (fun Z φ S ρ σ H Q R sl w => w.now R (hd _ _))
theorem de_int {i : Int} {j} : DE X W (.Constant (.int i) j pos) (fC (.int i)) := de_c pe_int rfl fun _ _ => by unfold Dat; rfl
theorem de_bl {i : Bool} {j} : DE X W (.Constant (.bool i) j pos) (fC (.bl i)) := de_c pe_bl rfl fun _ _ => by unfold Dat; rfl
theorem de_non {j} : DE X W (.Constant .none j pos) (fC .non) := de_c pe_non rfl fun _ _ => by unfold Dat; rfl
theorem de_str {i : Str} {j} : DE X W (.Constant (.str i) j pos) (fC (.str i)) := de_c pe_str rfl fun _ _ => by unfold Dat; rfl
/-- a module's int -/
theorem de_globI {x : Str} {i : Int} {t : Tok} (hg : Gl X x) (hm : X.mg x = some (.int i t)) (hd : (x == ("__debug__" : Str)) = false := by decide) : DE X W (.Name x pos) (fC (.int i)) :=
  de_c (pe_glob (v := .int i) hg hm ⟨t, rfl⟩ hd) rfl fun _ _ => by unfold Dat; rfl
/-- a module's text -/
theorem de_globS {x y : Str} {t : Tok} (hg : Gl X x) (hm : X.mg x = some (.str y t)) (hd : (x == ("__debug__" : Str)) = false := by decide) : DE X W (.Name x pos) (fC (.str y)) :=
  de_c (pe_glob (v := .str y) hg hm ⟨t, rfl⟩ hd) rfl fun _ _ => by unfold Dat; rfl
/-- a built-in class as a value -/
theorem de_ty {x : Str} {n : String} (hg : Gl X x) (hm : X.mg x = none) (hv : bootBuiltins x = some (.type n)) (hn : x ≠ "__name__" := by decide) (hd : (x == ("__debug__" : Str)) = false := by decide) : DE X W (.Name x pos) (fC (.ty n)) :=
  de_c (pe_bltn (v := .ty n) hg hm hv rfl hn hd) rfl fun _ _ => by unfold Dat; rfl

/-! ### operators -/
abbrev G2 := D → D → Store → Res D
def OpD (X : Cx) (r : R2) (g : G2) : Prop := ∀ (Z φ : List Addr) (S : Store) (H : Hp) (x y : D) (u v : V) (Q : VK) (E : XK), Rel X.K X.mg Z φ S H → Dat X.K X.mg φ (gnd Z φ S H) x u → Dat X.K X.mg φ (gnd Z φ S H) y v →
  Want X.K X.mg (RDat X.K X.mg) Z φ S H (g x y S) Q E → r u v H Q
def fBin (g : G2) (fa fb : FE) : FE := fun ρ S => (fa ρ S).bind fun x S => (fb ρ S).bind fun y S => g x y S
theorem dbin {ta tb : TE} {r : R2} {g : G2} (hg : OpD X r g)
    (ha : ∀ Z φ S ρ σ H (Q : VK), Rel X.K X.mg Z φ S H → Slots X.K X.mg φ (gnd Z φ S H) ρ σ → Want X.K X.mg (RDat X.K X.mg) Z φ S H (fa ρ S) Q (WE W σ) → ta σ H Q)
    (hb : ∀ Z φ S ρ σ H (Q : VK), Rel X.K X.mg Z φ S H → Slots X.K X.mg φ (gnd Z φ S H) ρ σ → Want X.K X.mg (RDat X.K X.mg) Z φ S H (fb ρ S) Q (WE W σ) → tb σ H Q)
    (Z φ S ρ σ H) (Q : VK) (R : Rel X.K X.mg Z φ S H) (sl : Slots X.K X.mg φ (gnd Z φ S H) ρ σ) (w : Want X.K X.mg (RDat X.K X.mg) Z φ S H (fBin g fa fb ρ S) Q (WE W σ)) : tOp r ta tb σ H Q :=
  ha Z φ S ρ σ H _ R sl (w.bind fun x S1 u φ1 H1 R1 E1 d1 w1 => hb Z φ1 S1 ρ σ H1 _ R1 (sl.evo E1) (w1.bind fun y S2 v φ2 H2 R2 E2 d2 w2 => hg Z φ2 S2 H2 x y u v Q _ R2 (Dat.evo E2 d1) d2 w2))
theorem de_bin {op : Operator} {r : R2} {g : G2} (ho : OpR X (binaryOp op) r) (hg : OpD X r g) (ha : DE X W a fa) (hb : DE X W b fb) : DE X W (.BinOp a op b pos) (fBin g fa fb) := by
  obtain ⟨ta, pa, qa⟩ := (ha).ex
  obtain ⟨tb, pb, qb⟩ := (hb).ex
  exact .mk (pe_op ho pa pb) (dbin hg qa qb)
theorem de_cmp {op : CmpOp} {r : R2} {g : G2} (ho : OpR X (compareOp op) r) (hg : OpD X r g) (ha : DE X W a fa) (hb : DE X W b fb) (hm : behindInMarks op b = false) : DE X W (.Compare a [op] [b] pos) (fBin g fa fb) := by
  obtain ⟨ta, pa, qa⟩ := (ha).ex
  obtain ⟨tb, pb, qb⟩ := (hb).ex
  exact .mk (pe_cmpR ho pa pb hm) (dbin hg qa qb)
theorem de_ix {r : R2} {g : G2} (ho : IxR X r) (hg : OpD X r g) (ha : DE X W a fa) (hb : DE X W b fb) (hs : PlainIx b) : DE X W (.Subscript a b pos) (fBin g fa fb) := by
  obtain ⟨ta, pa, qa⟩ := (ha).ex
  obtain ⟨tb, pb, qb⟩ := (hb).ex
  exact .mk (pe_ix ho pa pb hs) (dbin hg qa qb)
/-- the answer as a test -/
def toB (f : FE) : FT := fun ρ S => (f ρ S).bind fun d S => match d with
  | .bl k => .ok k S
  | _ => .stuck
theorem toB_ok {t : TE} {f : FE}
    (ha : ∀ Z φ S ρ σ H (Q : VK), Rel X.K X.mg Z φ S H → Slots X.K X.mg φ (gnd Z φ S H) ρ σ → Want X.K X.mg (RDat X.K X.mg) Z φ S H (f ρ S) Q (WE W σ) → t σ H Q)
    (Z φ S ρ σ H) (Q : Bool → Hp → Prop) (R : Rel X.K X.mg Z φ S H) (sl : Slots X.K X.mg φ (gnd Z φ S H) ρ σ) (w : Want X.K X.mg REq Z φ S H (toB f ρ S) Q (WE W σ)) : t σ H fun x H' => ∃ k, x = .bl k ∧ Q k H' :=
  ha Z φ S ρ σ H _ R sl (w.bind fun x S1 u φ1 H1 R1 E1 d1 w1 => by
    cases x with
    | bl k =>
      unfold RDat Dat at d1
      exact ⟨k, d1, w1.now R1 rfl⟩
    | _ => exact w1.elim)
theorem dt_cmp {op : CmpOp} {r : R2} {g : G2} (ho : OpR X (compareOp op) r) (hg : OpD X r g) (ha : DE X W a fa) (hb : DE X W b fb) (hm : behindInMarks op b = false) : DT X W (.Compare a [op] [b] pos) (toB (fBin g fa fb)) := by
  obtain ⟨ta, pa, qa⟩ := (ha).ex
  obtain ⟨tb, pb, qb⟩ := (hb).ex
  exact .mk (pt_cmpR ho pa pb hm) (toB_ok (dbin hg qa qb))
theorem dt_val (ha : DE X W a fa) (he : ∀ whole, isTrue a X.env whole = (do let v ← whole; standAt a.pos; holding [v] (truthy v)) := by intro _; rfl) : DT X W a (toB fa) := by
  obtain ⟨ta, pa, qa⟩ := (ha).ex
  exact .mk (pt_val pa he) (toB_ok qa)
def fUn (g : D → Store → Res D) (fa : FE) : FE := fun ρ S => (fa ρ S).bind g
def UnD (X : Cx) (r : V → Hp → VK → Prop) (g : D → Store → Res D) : Prop := ∀ (Z φ : List Addr) (S : Store) (H : Hp) (x : D) (u : V) (Q : VK) (E : XK), Rel X.K X.mg Z φ S H → Dat X.K X.mg φ (gnd Z φ S H) x u →
  Want X.K X.mg (RDat X.K X.mg) Z φ S H (g x S) Q E → r u H Q
theorem de_un {op : UnaryOp} {r : V → Hp → VK → Prop} {g : D → Store → Res D} (ho : UnR X (unaryOp op) r) (hg : UnD X r g) (ha : DE X W a fa) : DE X W (.UnaryOp op a pos) (fUn g fa) := by
  obtain ⟨ta, pa, qa⟩ := (ha).ex
  exact .mk (pe_un ho pa) (fun Z φ S ρ σ H Q R sl w => qa Z φ S ρ σ H _ R sl (w.bind fun x S1 u φ1 H1 R1 E1 d1 w1 => hg Z φ1 S1 H1 x u Q _ R1 d1 w1))
theorem OpD.or {r r' : R2} {g g' : G2} (p : D → D → Store → Bool) (h : OpD X r g) (h' : OpD X r' g') : OpD X (fun x y H Q => r x y H Q ∨ r' x y H Q) (fun x y S => if p x y S then g x y S else g' x y S) := fun Z φ S H x y u v Q E R dx dy w => by
  by_cases q : p x y S = true
  · exact .inl (h Z φ S H x y u v Q E R dx dy (by simpa only [q, if_true] using w))
  · exact .inr (h' Z φ S H x y u v Q E R dx dy (by simpa [q] using w))

/-! ints -/
def gI (C : Int → Int → Bool) (f : Int → Int → D) : G2 := fun x y S => match x, y with
  | .int i, .int j => if C i j then .ok (f i j) S else .stuck
  | _, _ => .stuck
theorem gI_inv {C : Int → Int → Bool} {f : Int → Int → D} {x y : D} {S : Store} {Z φ : List Addr} {H : Hp} {Q : VK} {E : XK} (w : Want X.K X.mg (RDat X.K X.mg) Z φ S H (gI C f x y S) Q E) :
    ∃ i j, x = .int i ∧ y = .int j ∧ C i j = true ∧ Want X.K X.mg (RDat X.K X.mg) Z φ S H (.ok (f i j) S) Q E := by
  unfold gI at w
  cases x with
  | int i =>
    cases y with
    | int j =>
      by_cases q : C i j = true
      · simp only [q, if_true] at w
        exact ⟨i, j, rfl, rfl, q, w⟩
      · simp only [q] at w
        exact w.elim
    | _ => exact w.elim
  | _ => exact w.elim
theorem opd_I {C : Int → Int → Prop} {c : Int → Int → Bool} {g : Int → Int → V} {f : Int → Int → D} (hc : ∀ i j, c i j = true → C i j) (hf : ∀ i j φ G, Dat X.K X.mg φ G (f i j) (g i j)) : OpD X (rI C g) (gI c f) :=
  fun Z φ S H x y u v Q E R dx dy w => by
    obtain ⟨i, j, rfl, rfl, q, w⟩ := gI_inv w
    unfold Dat at dx dy
    exact ⟨i, j, dx, dy, hc i j q, w.now R (hf i j _ _)⟩
theorem opd_I0 {g : Int → Int → V} {f : Int → Int → D} (hf : ∀ i j φ G, Dat X.K X.mg φ G (f i j) (g i j)) : OpD X (rI0 g) (gI (fun _ _ => true) f) :=
  fun Z φ S H x y u v Q E R dx dy w => by
    obtain ⟨i, j, rfl, rfl, q, w⟩ := gI_inv w
    unfold Dat at dx dy
    exact ⟨i, j, dx, dy, w.now R (hf i j _ _)⟩
theorem dat_int {φ : List Addr} {G : Hp} (i : Int) : Dat X.K X.mg φ G (.int i) (.int i) := by unfold Dat; rfl
theorem dat_bl {φ : List Addr} {G : Hp} (i : Bool) : Dat X.K X.mg φ G (.bl i) (.bl i) := by unfold Dat; rfl
theorem dat_str {φ : List Addr} {G : Hp} (i : Str) : Dat X.K X.mg φ G (.str i) (.str i) := by unfold Dat; rfl
theorem dat_non {φ : List Addr} {G : Hp} : Dat X.K X.mg φ G .non .non := by unfold Dat; rfl
def gSub : G2 := gI (fun _ _ => true) fun i j => .int (i - j)
noncomputable def cMul (i j : Int) : Bool := @decide ((-18446744073709551616 < i ∧ i < 18446744073709551616) ∨ (-18446744073709551616 < j ∧ j < 18446744073709551616)) (Classical.propDecidable _)
noncomputable def gMul : G2 := gI cMul fun i j => .int (i * j)
def gMod : G2 := gI (fun _ j => decide (0 < j)) fun i j => .int (i % j)
noncomputable def cDiv (_ j : Int) : Bool := @decide (0 < j ∧ j < 1073741824) (Classical.propDecidable _)
noncomputable def gDiv : G2 := gI cDiv fun i j => .int (i / j)
noncomputable def cPow (i j : Int) : Bool := @decide (0 ≤ j ∧ j ≤ 1000000 ∧ i.natAbs < 18446744073709551616) (Classical.propDecidable _)
noncomputable def gPow : G2 := gI cPow fun i j => .int (i ^ j.toNat)
theorem de_sub (ha : DE X W a fa) (hb : DE X W b fb) : DE X W (.BinOp a .Sub b pos) (fBin gSub fa fb) := de_bin op_sub (opd_I0 fun _ _ _ _ => dat_int _) ha hb
theorem de_mul (ha : DE X W a fa) (hb : DE X W b fb) : DE X W (.BinOp a .Mult b pos) (fBin gMul fa fb) :=
  de_bin op_mul (opd_I (fun i j h => by simpa [cMul, CMul] using h) fun _ _ _ _ => dat_int _) ha hb
theorem de_mod (ha : DE X W a fa) (hb : DE X W b fb) : DE X W (.BinOp a .Mod b pos) (fBin gMod fa fb) := de_bin op_mod (opd_I (fun i j h => by simpa using h) fun _ _ _ _ => dat_int _) ha hb
theorem de_fdiv (ha : DE X W a fa) (hb : DE X W b fb) : DE X W (.BinOp a .FloorDiv b pos) (fBin gDiv fa fb) := de_bin op_fdiv (opd_I (fun i j h => by simpa [cDiv, CDiv] using h) fun _ _ _ _ => dat_int _) ha hb
theorem de_pow (ha : DE X W a fa) (hb : DE X W b fb) : DE X W (.BinOp a .Pow b pos) (fBin gPow fa fb) := de_bin op_pow (opd_I (fun i j h => by simpa [cPow, CPow, and_assoc] using h) fun _ _ _ _ => dat_int _) ha hb
def gNeg : D → Store → Res D := fun x S => match x with
  | .int i => .ok (.int (-i)) S
  | _ => .stuck
theorem de_neg (ha : DE X W a fa) : DE X W (.UnaryOp .USub a pos) (fUn gNeg fa) := de_un un_neg (fun Z φ S H x u Q E R dx w => by
  cases x with
  | int i =>
    unfold Dat at dx
    exact ⟨i, dx, w.now R (dat_int _)⟩
  | _ => exact w.elim) ha
def gLt : G2 := gI (fun _ _ => true) fun i j => .bl (decide (i < j))
def gLe : G2 := gI (fun _ _ => true) fun i j => .bl (decide (i ≤ j))
def gGt : G2 := gI (fun _ _ => true) fun i j => .bl (decide (j < i))
def gGe : G2 := gI (fun _ _ => true) fun i j => .bl (decide (j ≤ i))
theorem opd_lt : OpD X (rI0 fun i j => .bl (decide (i < j))) gLt := opd_I0 fun _ _ _ _ => dat_bl _
theorem opd_le : OpD X (rI0 fun i j => .bl (decide (i ≤ j))) gLe := opd_I0 fun _ _ _ _ => dat_bl _
theorem opd_gt : OpD X (rI0 fun i j => .bl (decide (j < i))) gGt := opd_I0 fun _ _ _ _ => dat_bl _
theorem opd_ge : OpD X (rI0 fun i j => .bl (decide (j ≤ i))) gGe := opd_I0 fun _ _ _ _ => dat_bl _
/-! is None -/
def D.isNon : D → Bool
  | .non => true
  | _ => false
theorem isNon_V {φ : List Addr} {G : Hp} {K : PySem.W.Frag} {mg : Str → Option Value} {d : D} {v : V} (h : Dat K mg φ G d v) : decide (v = .non) = d.isNon := by
  cases d <;> unfold Dat at h <;> first
    | (subst h; rfl)
    | (obtain ⟨_, _, rfl, _⟩ := h; rfl)
    | (obtain ⟨_, rfl, _⟩ := h; rfl)
    | (obtain ⟨_, _, _, _, rfl, _⟩ := h; rfl)
    | (obtain ⟨_, _, _, rfl, _⟩ := h; rfl)
def gIs : G2 := fun x y S => if y.isNon then .ok (.bl x.isNon) S else .stuck
def gIsNot : G2 := fun x y S => if y.isNon then .ok (.bl (!x.isNon)) S else .stuck
theorem opd_is : OpD X (fun x y H Q => y = .non ∧ Q (.bl (decide (x = .non))) H) gIs := fun Z φ S H x y u v Q E R dx dy w => by
  unfold gIs at w
  by_cases q : y.isNon = true
  · rw [if_pos q] at w
    have e := isNon_V dy
    rw [q] at e
    refine ⟨of_decide_eq_true e, ?_⟩
    rw [isNon_V dx]
    exact w.now R (dat_bl _)
  · rw [if_neg q] at w
    exact w.elim
theorem opd_isnot : OpD X (fun x y H Q => y = .non ∧ Q (.bl (!decide (x = .non))) H) gIsNot := fun Z φ S H x y u v Q E R dx dy w => by
  unfold gIsNot at w
  by_cases q : y.isNon = true
  · rw [if_pos q] at w
    have e := isNon_V dy
    rw [q] at e
    refine ⟨of_decide_eq_true e, ?_⟩
    rw [isNon_V dx]
    exact w.now R (dat_bl _)
  · rw [if_neg q] at w
    exact w.elim

/-! ### and, or, not, if -/
def fAndT (ta tb : FT) : FT := fun ρ S => (ta ρ S).bind fun k S => if k then tb ρ S else .ok false S
def fOrT (ta tb : FT) : FT := fun ρ S => (ta ρ S).bind fun k S => if k then .ok true S else tb ρ S
def fNotT (ta : FT) : FT := fun ρ S => (ta ρ S).bind fun k S => .ok (!k) S
variable {ga gb : FT} {rest : List Expr}
theorem dw_and1 (ha : DT X W a ga) : DW X W (.BoolOp .And [a] pos) ga := by
  obtain ⟨t, p, q⟩ := (ha).ex
  exact .mk (pw_and1 p) q
theorem dw_or1 (ha : DT X W a ga) : DW X W (.BoolOp .Or [a] pos) ga := by
  obtain ⟨t, p, q⟩ := (ha).ex
  exact .mk (pw_or1 p) q
theorem dw_and (ha : DT X W a ga) (hb : DW X W (.BoolOp .And (b :: rest) pos) gb) : DW X W (.BoolOp .And (a :: b :: rest) pos) (fAndT ga gb) := by
  obtain ⟨t, p, q⟩ := (ha).ex
  obtain ⟨u, p', q'⟩ := (hb).ex
  refine .mk (pw_and p p') (fun Z φ S ρ σ H Q R sl w => q Z φ S ρ σ H _ R sl (w.bind fun k S1 k' φ1 H1 R1 E1 e w1 => ?_))
  cases e
  cases k with
  | true => exact iteT (q' Z φ1 S1 ρ σ H1 Q R1 (sl.evo E1) w1)
  | false => exact iteF (w1.now R1 rfl)
theorem dw_or (ha : DT X W a ga) (hb : DW X W (.BoolOp .Or (b :: rest) pos) gb) : DW X W (.BoolOp .Or (a :: b :: rest) pos) (fOrT ga gb) := by
  obtain ⟨t, p, q⟩ := (ha).ex
  obtain ⟨u, p', q'⟩ := (hb).ex
  refine .mk (pw_or p p') (fun Z φ S ρ σ H Q R sl w => q Z φ S ρ σ H _ R sl (w.bind fun k S1 k' φ1 H1 R1 E1 e w1 => ?_))
  cases e
  cases k with
  | true => exact iteT (w1.now R1 rfl)
  | false => exact iteF (q' Z φ1 S1 ρ σ H1 Q R1 (sl.evo E1) w1)
theorem DW.dt (h : DW X W a ga) : DT X W a ga := by
  obtain ⟨t, p, q⟩ := (h).ex
  exact .mk (p.pt) q
theorem dt_not (h : DT X W a ga) : DT X W (.UnaryOp .Not a pos) (fNotT ga) := by
  obtain ⟨t, p, q⟩ := (h).ex
  refine .mk (pt_not p) (fun Z φ S ρ σ H Q R sl w => q Z φ S ρ σ H _ R sl (w.bind fun k S1 k' φ1 H1 R1 E1 e w1 => ?_))
  cases e
  exact w1.now R1 rfl
/-- and, or as values, all but the last a truth -/
def fAndV (fa fb : FE) : FE := fun ρ S => (fa ρ S).bind fun d S => match d with
  | .bl true => fb ρ S
  | .bl false => .ok (.bl false) S
  | _ => .stuck
def fOrV (fa fb : FE) : FE := fun ρ S => (fa ρ S).bind fun d S => match d with
  | .bl true => .ok (.bl true) S
  | .bl false => fb ρ S
  | _ => .stuck
theorem de_one {op} (h : DE X W a fa) : DE X W (.BoolOp op [a] pos) fa := by
  obtain ⟨t, p, q⟩ := (h).ex
  exact .mk (pe_one p) q
theorem de_and (ha : DE X W a fa) (hb : DE X W (.BoolOp .And (b :: rest) pos) fb) : DE X W (.BoolOp .And (a :: b :: rest) pos) (fAndV fa fb) := by
  obtain ⟨t, p, q⟩ := (ha).ex
  obtain ⟨u, p', q'⟩ := (hb).ex
  refine .mk (pe_and p p') (fun Z φ S ρ σ H Q R sl w => q Z φ S ρ σ H _ R sl (w.bind fun x S1 v φ1 H1 R1 E1 d w1 => ?_))
  cases x with
  | bl k =>
    unfold RDat Dat at d
    refine ⟨k, d, ?_⟩
    cases k with
    | true => exact iteT (q' Z φ1 S1 ρ σ H1 Q R1 (sl.evo E1) w1)
    | false => exact iteF (w1.now R1 (dat_bl _))
  | _ => exact w1.elim
theorem de_or (ha : DE X W a fa) (hb : DE X W (.BoolOp .Or (b :: rest) pos) fb) : DE X W (.BoolOp .Or (a :: b :: rest) pos) (fOrV fa fb) := by
  obtain ⟨t, p, q⟩ := (ha).ex
  obtain ⟨u, p', q'⟩ := (hb).ex
  refine .mk (pe_or p p') (fun Z φ S ρ σ H Q R sl w => q Z φ S ρ σ H _ R sl (w.bind fun x S1 v φ1 H1 R1 E1 d w1 => ?_))
  cases x with
  | bl k =>
    unfold RDat Dat at d
    refine ⟨k, d, ?_⟩
    cases k with
    | true => exact iteT (w1.now R1 (dat_bl _))
    | false => exact iteF (q' Z φ1 S1 ρ σ H1 Q R1 (sl.evo E1) w1)
  | _ => exact w1.elim
def fNotV (fa : FE) : FE := fun ρ S => (fa ρ S).bind fun d S => match d with
  | .bl k => .ok (.bl (!k)) S
  | _ => .stuck
theorem de_not (ha : DE X W a fa) : DE X W (.UnaryOp .Not a pos) (fNotV fa) := by
  obtain ⟨t, p, q⟩ := (ha).ex
  refine .mk (pe_not p) (fun Z φ S ρ σ H Q R sl w => q Z φ S ρ σ H _ R sl (w.bind fun x S1 v φ1 H1 R1 E1 d w1 => ?_))
  cases x with
  | bl k =>
    unfold RDat Dat at d
    exact ⟨k, d, w1.now R1 (dat_bl _)⟩
  | _ => exact w1.elim
def fIf (t : FT) (fa fb : FE) : FE := fun ρ S => (t ρ S).bind fun k S => if k then fa ρ S else fb ρ S
theorem de_ifExp (hc : DT X W c ga) (ha : DE X W a fa) (hb : DE X W b fb) : DE X W (.IfExp c a b pos) (fIf ga fa fb) := by
  obtain ⟨tc, pc, qc⟩ := (hc).ex
  obtain ⟨t, p, q⟩ := (ha).ex
  obtain ⟨u, p', q'⟩ := (hb).ex
  refine .mk (pe_ifExp pc p p') (fun Z φ S ρ σ H Q R sl w => qc Z φ S ρ σ H _ R sl (w.bind fun k S1 k' φ1 H1 R1 E1 e w1 => ?_))
  cases e
  cases k with
  | true => exact iteT (q Z φ1 S1 ρ σ H1 Q R1 (sl.evo E1) w1)
  | false => exact iteF (q' Z φ1 S1 ρ σ H1 Q R1 (sl.evo E1) w1)
/-- a < b < c -/
def fChain (g g' : G2) (fa fb fc : FE) : FE := fun ρ S => (fa ρ S).bind fun x S => (fb ρ S).bind fun y S => (g x y S).bind fun z S => match z with
  | .bl true => (fc ρ S).bind fun u S => g' y u S
  | .bl false => .ok (.bl false) S
  | _ => .stuck

/-! ### displays -/
theorem da_nil : DA X W [] (fun _ S => .ok [] S) := .mk pa_nil (fun Z φ S ρ σ H Q R sl w => w.now R DatL.nil)
def fCons (fa : FE) (fr : FA) : FA := fun ρ S => (fa ρ S).bind fun x S => (fr ρ S).bind fun xs S => .ok (x :: xs) S
theorem da_cons {fr : FA} (ha : DE X W e fe) (hr : DA X W es fr) (hs : starEach (e :: es) X.env = (false, eval e X.env) :: starEach es X.env := by rfl) : DA X W (e :: es) (fCons fe fr) := by
  obtain ⟨t, p, q⟩ := (ha).ex
  obtain ⟨u, p', q'⟩ := (hr).ex
  refine .mk (pa_cons p p' hs) (fun Z φ S ρ σ H Q R sl w => q Z φ S ρ σ H _ R sl (w.bind fun x S1 v φ1 H1 R1 E1 d w1 => ?_))
  exact q' Z φ1 S1 ρ σ H1 _ R1 (sl.evo E1) (w1.bind fun xs S2 vs φ2 H2 R2 E2 d2 w2 => w2.now R2 (.cons (Dat.evo E2 d) d2))
def short (n : Nat) : Bool := decide (n ≤ sizeLine)
def fTup (fa : FA) : FE := fun ρ S => (fa ρ S).bind fun xs S => if short xs.length then .ok (.tup xs) S else .stuck
def fLst (fa : FA) : FE := fun ρ S => (fa ρ S).bind fun xs S => if short xs.length then .ok (.lst xs) S else .stuck
def fLstO (fa : FA) : FE := fun ρ S => (fa ρ S).bind fun xs S => if short xs.length then .ok (.oid S.length) (S ++ [.lst xs]) else .stuck
section
variable {K : PySem.W.Frag} {mg : Str → Option Value} {Z φ : List Addr} {S : Store} {H : Hp}
theorem dat_newL (R : Rel K mg Z φ S H) {ds : List D} {vs : List V} (h : DatL K mg φ (gnd Z φ S H) ds vs) {p : Addr} (hp : H p = none) :
    Rel K mg Z φ S (upd H p (.lst vs)) ∧ Evo Z φ S H φ S (upd H p (.lst vs)) ∧ Dat K mg φ (gnd Z φ S (upd H p (.lst vs))) (.lst ds) (.ref p) := by
  obtain ⟨r, e, g⟩ := R.fresh (o := .lst vs) hp
  refine ⟨r, e, ?_⟩
  unfold Dat
  exact ⟨p, vs, rfl, g, DatL.evo e h⟩
theorem dat_newT (R : Rel K mg Z φ S H) {ds : List D} {vs : List V} (h : DatL K mg φ (gnd Z φ S H) ds vs) {p : Addr} (hp : H p = none) :
    Rel K mg Z φ S (upd H p (.tup vs)) ∧ Evo Z φ S H φ S (upd H p (.tup vs)) ∧ Dat K mg φ (gnd Z φ S (upd H p (.tup vs))) (.tup ds) (.ref p) := by
  obtain ⟨r, e, g⟩ := R.fresh (o := .tup vs) hp
  refine ⟨r, e, ?_⟩
  unfold Dat
  exact ⟨p, vs, rfl, .of g, DatL.evo e h⟩
theorem dat_newO (R : Rel K mg Z φ S H) {ds : List D} {vs : List V} (h : DatL K mg φ (gnd Z φ S H) ds vs) {p : Addr} (hp : H p = none) :
    Rel K mg Z (φ ++ [p]) (S ++ [.lst ds]) (upd H p (.lst vs)) ∧ Evo Z φ S H (φ ++ [p]) (S ++ [.lst ds]) (upd H p (.lst vs)) ∧ Dat K mg (φ ++ [p]) (gnd Z (φ ++ [p]) (S ++ [.lst ds]) (upd H p (.lst vs))) (.oid S.length) (.ref p) := by
  have lv : liveA (φ ++ [p]) (S ++ [.lst ds]) = liveA φ S ++ [p] := by rw [liveA_snoc R.len]; rfl
  have ext : Same (gnd Z φ S H) (gnd Z (φ ++ [p]) (S ++ [.lst ds]) (upd H p (.lst vs))) := fun a o h => by
    obtain ⟨h1, h2⟩ := without_some.mp h
    refine without_some.mpr ⟨fun q => h1 ?_, same_upd hp a o h2⟩
    rw [lv] at q
    rcases List.mem_append.mp q with z | z
    · exact List.mem_append_left _ z
    · rcases List.mem_append.mp z with z | z
      · exact List.mem_append_right _ z
      · rw [List.mem_singleton.mp z, hp] at h2
        cases h2
  obtain ⟨r, e⟩ := R.newOid (so := .lst ds) (same_upd (o := .lst vs) hp) hp (by rw [upd_same]; exact fun z => nomatch z) rfl ⟨vs, upd_same, DatL.mono ⟨[p], rfl⟩ ext _ _ h⟩
  refine ⟨r, e, ?_⟩
  unfold Dat
  exact ⟨p, rfl, by rw [List.getElem?_append_right (by rw [R.len]; exact Nat.le_refl _), ← R.len, Nat.sub_self]; rfl⟩
end
theorem de_tup {x1} {fr : FA} (h : DA X W es fr) : DE X W (.Tuple es x1 pos) (fTup fr) := by
  obtain ⟨t, p, q⟩ := (h).ex
  refine .mk (pe_tup p) (fun Z φ S ρ σ H Q R sl w => q Z φ S ρ σ H _ R sl (w.bind fun xs S1 vs φ1 H1 R1 E1 d w1 => ?_))
  by_cases hs : short xs.length = true
  · rw [if_pos hs] at w1
    refine ⟨by rw [DatL.length d]; exact of_decide_eq_true hs, fun p hp => ?_⟩
    obtain ⟨r, e, g⟩ := dat_newT R1 d hp
    exact w1 _ _ _ r e g
  · rw [if_neg hs] at w1
    exact w1.elim
theorem de_lst {fr : FA} (h : DA X W es fr) : DE X W (.List es pos) (fLst fr) := by
  obtain ⟨t, p, q⟩ := (h).ex
  refine .mk (pe_lst p) (fun Z φ S ρ σ H Q R sl w => q Z φ S ρ σ H _ R sl (w.bind fun xs S1 vs φ1 H1 R1 E1 d w1 => ?_))
  by_cases hs : short xs.length = true
  · rw [if_pos hs] at w1
    refine ⟨by rw [DatL.length d]; exact of_decide_eq_true hs, fun p hp => ?_⟩
    obtain ⟨r, e, g⟩ := dat_newL R1 d hp
    exact w1 _ _ _ r e g
  · rw [if_neg hs] at w1
    exact w1.elim
theorem de_lstO {fr : FA} (h : DA X W es fr) : DE X W (.List es pos) (fLstO fr) := by
  obtain ⟨t, p, q⟩ := (h).ex
  refine .mk (pe_lst p) (fun Z φ S ρ σ H Q R sl w => q Z φ S ρ σ H _ R sl (w.bind fun xs S1 vs φ1 H1 R1 E1 d w1 => ?_))
  by_cases hs : short xs.length = true
  · rw [if_pos hs] at w1
    refine ⟨by rw [DatL.length d]; exact of_decide_eq_true hs, fun p hp => ?_⟩
    obtain ⟨r, e, g⟩ := dat_newO R1 d hp
    exact w1 _ _ _ r e g
  · rw [if_neg hs] at w1
    exact w1.elim
end
end DL

/-! The data layer, part 4: targets, what is walked, statements, comprehensions. -/
namespace DL
open PySem L2

/-! ### targets -/
abbrev FG := D → EnvD → Store → Option EnvD
def tG (K : PySem.W.Frag) (mg : Str → Option Value) (is : List Nat) (m : FG) : TG := fun v σ H Q => ∃ Z φ S ρ d ρ', Rel K mg Z φ S H ∧ Slots K mg φ (gnd Z φ S H) ρ σ ∧ Dat K mg φ (gnd Z φ S H) d v ∧ m d ρ S = some ρ' ∧
  ∀ σ', Slots K mg φ (gnd Z φ S H) ρ' σ' → (∀ vs : List Nat, (∀ i ∈ is, i ∈ vs) → wipe σ' vs = wipe σ vs) → Q σ' H
def tGs (K : PySem.W.Frag) (mg : Str → Option Value) (is : List Nat) (m : List D → EnvD → Store → Option EnvD) : TGs := fun vs σ H Q => ∃ Z φ S ρ ds ρ', Rel K mg Z φ S H ∧ Slots K mg φ (gnd Z φ S H) ρ σ ∧ DatL K mg φ (gnd Z φ S H) ds vs ∧ m ds ρ S = some ρ' ∧
  ∀ σ', Slots K mg φ (gnd Z φ S H) ρ' σ' → (∀ vs : List Nat, (∀ i ∈ is, i ∈ vs) → wipe σ' vs = wipe σ vs) → Q σ' H
def DG (X : Cx) (tg : Expr) (is : List Nat) (m : FG) : Prop := PG X tg (tG X.K X.mg is m)
def DGs (X : Cx) (tgs : List Expr) (is : List Nat) (m : List D → EnvD → Store → Option EnvD) : Prop := PGs X tgs (tGs X.K X.mg is m)
theorem PG.weak {X : Cx} {e : Expr} {t t' : TG} (h : PG X e t) (i : ∀ v σ H Q, t' v σ H Q → t v σ H Q) : PG X e t' := ⟨fun pins s σ H v u Q I r q => h.run pins s σ H v u Q I r (i _ _ _ _ q)⟩
theorem PGs.weak {X : Cx} {e : List Expr} {t t' : TGs} (h : PGs X e t) (i : ∀ v σ H Q, t' v σ H Q → t v σ H Q) : PGs X e t' := ⟨fun pins s σ H v u Q I r q => h.run pins s σ H v u Q I r (i _ _ _ _ q)⟩
theorem wipe_set {σ : L2.St} {x : Option V} {i : Nat} : ∀ {vs : List Nat}, i ∈ vs → wipe (σ.set i x) vs = wipe σ vs
  | [], h => absurd h (by simp)
  | v :: vs, h => by
    unfold wipe
    by_cases q : i ∈ vs
    · rw [wipe_set q]
    · have e : i = v := by
        rcases List.mem_cons.mp h with z | z
        · exact z
        · exact absurd z q
      subst e
      have aux : ∀ {vs : List Nat}, i ∉ vs → wipe (σ.set i x) vs = (wipe σ vs).set i x := by
        intro vs
        induction vs with
        | nil => intro _; rfl
        | cons w ws ih =>
          intro hn
          simp only [List.mem_cons, not_or] at hn
          unfold wipe
          rw [ih hn.2, List.set_comm _ _ (fun z => hn.1 z)]
      rw [aux q, List.set_set]
section
variable {X : Cx} {pos : Pos}
def mName (i : Nat) : FG := fun d ρ _ => some (ρ.set i (some d))
theorem dg_name {i : Nat} {x : Str} (p : PG X (.Name x pos) (gName i)) : DG X (.Name x pos) [i] (mName i) :=
  PG.weak p fun v σ H Q ⟨Z, φ, S, ρ, d, ρ', R, sl, hd, hm, q⟩ => by
    cases hm
    exact q _ (sl.set hd) fun vs h => wipe_set (h i (by simp))
theorem dgs_nil : DGs X [] [] (fun ds ρ _ => match ds with | [] => some ρ | _ => none) :=
  PGs.weak pgs_nil fun v σ H Q ⟨Z, φ, S, ρ, ds, ρ', R, sl, hd, hm, q⟩ => by
    cases ds with
    | nil =>
      cases hm
      unfold DatL at hd
      exact ⟨hd, q _ sl fun _ _ => rfl⟩
    | cons _ _ => cases hm
def mCons (m : FG) (ms : List D → EnvD → Store → Option EnvD) : List D → EnvD → Store → Option EnvD := fun ds ρ S => match ds with
  | d :: ds => (m d ρ S).bind fun ρ => ms ds ρ S
  | [] => none
theorem dgs_cons {e : Expr} {es : List Expr} {is js : List Nat} {m : FG} {ms : List D → EnvD → Store → Option EnvD} (h : DG X e is m) (r : DGs X es js ms)
    (hs : (assignEach (e :: es) X.env).map (·.2) = assign e X.env :: (assignEach es X.env).map (·.2) := by rfl) : DGs X (e :: es) (is ++ js) (mCons m ms) :=
  PGs.weak (pgs_cons h r hs) fun v σ H Q ⟨Z, φ, S, ρ, ds, ρ', R, sl, hd, hm, q⟩ => by
    cases ds with
    | nil => cases hm
    | cons d ds =>
      obtain ⟨u, us, rfl, h1, h2⟩ := hd.uncons
      unfold mCons at hm
      obtain ⟨ρ1, e1, e2⟩ := Option.bind_eq_some_iff.mp hm
      refine ⟨u, us, rfl, Z, φ, S, ρ, d, ρ1, R, sl, h1, e1, fun σ1 sl1 w1 => ?_⟩
      refine ⟨Z, φ, S, ρ1, ds, ρ', R, sl1, h2, e2, fun σ2 sl2 w2 => ?_⟩
      exact q σ2 sl2 fun vs hv => (w2 vs fun i hi => hv i (List.mem_append_right _ hi)).trans (w1 vs fun i hi => hv i (List.mem_append_left _ hi))
def mTup (n : Nat) (ms : List D → EnvD → Store → Option EnvD) : FG := fun d ρ S => match d with
  | .tup ds => if ds.length = n then ms ds ρ S else none
  | _ => none
theorem dg_tup {es : List Expr} {k n : Nat} {is : List Nat} {ms : List D → EnvD → Store → Option EnvD} (hc : X.calm = true) (h : DGs X es is ms)
    (hn : (assignEach es X.env).length = n := by rfl) (hst : (assignEach es X.env).findIdx? (·.1) = none := by rfl) : DG X (.Tuple es k pos) is (mTup n ms) :=
  PG.weak (pg_tup hc h hn hst) fun v σ H Q ⟨Z, φ, S, ρ, d, ρ', R, sl, hd, hm, q⟩ => by
    unfold mTup at hm
    cases d with
    | tup ds =>
      unfold Dat at hd
      obtain ⟨a, vs, rfl, h1, h2⟩ := hd
      by_cases hl : ds.length = n
      · simp only [hl, if_true] at hm
        exact ⟨a, vs, rfl, sqt_mono gnd_sub h1, h2.length.trans hl, Z, φ, S, ρ, ds, ρ', R, sl, h2, hm, q⟩
      · simp only [hl, if_false] at hm
        cases hm
    | _ => cases hm
end

/-! ### what is walked -/
/-- the items; of what may change: that it stays as it was -/
structure ItD where
  items : List D
  chk : Option (D × List D) := none
def okC : Option (D × List D) → Store → Prop
  | none, _ => True
  | some (d, ds), S => asL S d = some ds
section
variable (K : PySem.W.Frag) (mg : Str → Option Value)
def RI (Z φ : List Addr) (S : Store) (H : Hp) (it : ItD) (J : It) : Prop := ∀ (i : Nat) (Z' φ' : List Addr) (S' : Store) (H' : Hp), (∀ a ∈ Z, a ∈ Z') → Rel K mg Z' φ' S' H' → (φ <+: φ') → Same (gnd Z φ S H) (gnd Z' φ' S' H') → okC it.chk S' →
  (∀ d, it.items[i]? = some d → J.go i H' ∧ ∀ x H'', J.yld i H' x H'' → Rel K mg Z' φ' S' H'' ∧ Evo Z' φ' S' H' φ' S' H'' ∧ Dat K mg φ' (gnd Z' φ' S' H'') d x) ∧ (it.items.length ≤ i → J.stop i H')
def WantI (Z φ : List Addr) (S : Store) (H : Hp) (r : Res ItD) (Q : It → Hp → Prop) (E : XK) : Prop := match r with
  | .ok it S' => ∀ J φ' H', Rel K mg Z φ' S' H' → Evo Z φ S H φ' S' H' → RI K mg Z φ' S' H' it J → Q J H'
  | .ex C fs S' => ∀ A dx φ' H', mg C = some (.ref A) → Rel K mg Z φ' S' H' → Evo Z φ S H φ' S' H' → ExD K mg φ' (gnd Z φ' S' H') fs dx → E (.ref A) dx H'
  | .stuck => False
end
theorem WantI.go {K : PySem.W.Frag} {mg : Str → Option Value} {Z φ φ' : List Addr} {S S' : Store} {H H' : Hp} {r : Res ItD} {Q : It → Hp → Prop} {E : XK} (e : Evo Z φ S H φ' S' H') (h : WantI K mg Z φ S H r Q E) : WantI K mg Z φ' S' H' r Q E := by
  cases r with
  | ok a S1 => exact fun b φ1 H1 r1 e1 d => h b φ1 H1 r1 (e.trans e1) d
  | ex C fs S1 => exact fun A dx φ1 H1 m r1 e1 d => h A dx φ1 H1 m r1 (e.trans e1) d
  | stuck => exact h
theorem WantI.bind {α β : Type} {K : PySem.W.Frag} {mg : Str → Option Value} {Z φ : List Addr} {S : Store} {H : Hp} {R : List Addr → Hp → α → β → Prop} {r : Res α} {k : α → Store → Res ItD} {Q : It → Hp → Prop} {Q1 : β → Hp → Prop} {E : XK} (h : WantI K mg Z φ S H (r.bind k) Q E)
    (f : ∀ a S1 b φ1 H1, Rel K mg Z φ1 S1 H1 → Evo Z φ S H φ1 S1 H1 → R φ1 (gnd Z φ1 S1 H1) a b → WantI K mg Z φ1 S1 H1 (k a S1) Q E → Q1 b H1) : Want K mg R Z φ S H r Q1 E := by
  cases r with
  | ok a S1 => exact fun b φ1 H1 r1 e1 d => f a S1 b φ1 H1 r1 e1 d (h.go e1)
  | ex C fs S1 => exact h
  | stuck => exact h
abbrev FI := EnvD → Store → Res ItD
def tDI (K : PySem.W.Frag) (mg : Str → Option Value) (W : WX) (f : FI) : TI := fun σ H R => ∃ Z φ S ρ, Rel K mg Z φ S H ∧ Slots K mg φ (gnd Z φ S H) ρ σ ∧ WantI K mg Z φ S H (f ρ S) R (WE W σ)
def DI (X : Cx) (W : WX) (tg e : Expr) (f : FI) : Prop := PI X tg e (tDI X.K X.mg W f)
abbrev IsI (X : Cx) (W : WX) (t : TI) (f : FI) : Prop := ∀ Z φ S ρ σ H (Q : It → Hp → Prop), Rel X.K X.mg Z φ S H → Slots X.K X.mg φ (gnd Z φ S H) ρ σ → WantI X.K X.mg Z φ S H (f ρ S) Q (WE W σ) → t σ H Q
theorem PI.weak {X : Cx} {tg e : Expr} {t t' : TI} (h : PI X tg e t) (i : ∀ σ H R, t' σ H R → t σ H R) : PI X tg e t' := ⟨fun pins s σ H R I q => h.run pins s σ H R I (i _ _ _ q)⟩
theorem PI.or {X : Cx} {tg e : Expr} {t t' : TI} (h : PI X tg e t) (h' : PI X tg e t') : PI X tg e (fun σ H R => t σ H R ∨ t' σ H R) := ⟨fun pins s σ H R I q => q.elim (fun z => h.run pins s σ H R I z) fun z => h'.run pins s σ H R I z⟩
theorem DI.mk {X : Cx} {W : WX} {tg e : Expr} {f : FI} {t : TI} (p : PI X tg e t) (h : IsI X W t f) : DI X W tg e f := PI.weak p fun σ H Q ⟨Z, φ, S, ρ, R, sl, w⟩ => h Z φ S ρ σ H Q R sl w
theorem DI.is {X : Cx} {W : WX} {f : FI} : IsI X W (tDI X.K X.mg W f) f := fun Z φ S ρ σ H Q R sl w => ⟨Z, φ, S, ρ, R, sl, w⟩
section
variable {X : Cx} {W : WX} {tg e : Expr} {fe : FE} {pos p : Pos}
/-- over a list or a tuple -/
def fSeq (fe : FE) : FI := fun ρ S => (fe ρ S).bind fun d S => match d with
  | .tup ds => .ok ⟨ds, none⟩ S
  | .lst ds => .ok ⟨ds, none⟩ S
  | .scr ds => .ok ⟨ds, none⟩ S
  | d => match asL S d with
    | some ds => .ok ⟨ds, some (d, ds)⟩ S
    | none => .stuck
theorem ri_list {Z φ : List Addr} {S : Store} {H : Hp} {d : D} {a : Addr} {ds : List D} {c : Option (D × List D)} (hd : Dat X.K X.mg φ (gnd Z φ S H) d (.ref a)) (hc : ∀ S', okC c S' → asL S' d = some ds) : RI X.K X.mg Z φ S H ⟨ds, c⟩ (Itl X.K a) :=
  fun i Z' φ' S' H' hZ R hp hs ok => by
    have hd' := Dat.mono hp hs d _ hd
    obtain ⟨b, vs, e, h1, h2⟩ := asL_ok R hd' (hc S' ok)
    cases e
    refine ⟨fun x hx => ?_, fun hl => ⟨vs, h1, by rw [h2.length]; exact hl⟩⟩
    obtain ⟨u, hu, du⟩ := h2.get hx
    refine ⟨⟨vs, u, h1, hu⟩, fun y H'' yl => ?_⟩
    obtain ⟨rfl, q⟩ := yl
    have z := q vs h1
    rw [hu] at z
    cases z
    exact ⟨R, Evo.refl, du⟩
theorem ri_tup {Z φ : List Addr} {S : Store} {H : Hp} {a : Addr} {ds : List D} (hd : Dat X.K X.mg φ (gnd Z φ S H) (.tup ds) (.ref a)) : RI X.K X.mg Z φ S H ⟨ds, none⟩ (Itt X.K a) :=
  fun i Z' φ' S' H' hZ R hp hs ok => by
    have hd' := Dat.mono hp hs _ _ hd
    unfold Dat at hd'
    obtain ⟨b, vs, e, h1, h2⟩ := hd'
    cases e
    have h1' := sqt_mono gnd_sub h1
    refine ⟨fun x hx => ?_, fun hl => ⟨vs, h1', by rw [h2.length]; exact hl⟩⟩
    obtain ⟨u, hu, du⟩ := h2.get hx
    refine ⟨⟨vs, u, h1', hu⟩, fun y H'' yl => ?_⟩
    obtain ⟨rfl, q⟩ := yl
    have z := q vs h1'
    rw [hu] at z
    cases z
    exact ⟨R, Evo.refl, du⟩
theorem RI.evo {Z φ φ' : List Addr} {S S' : Store} {H H' : Hp} {it : ItD} {J : It} (e : Evo Z φ S H φ' S' H') (h : RI X.K X.mg Z φ S H it J) : RI X.K X.mg Z φ' S' H' it J := fun i Z1 φ1 S1 H1 hZ R hp hs ok =>
  h i Z1 φ1 S1 H1 hZ R (e.pre.trans hp) (e.ext.trans hs) ok
/-- the result of an expression, known -/
theorem Want.cases {α β : Type} {K : PySem.W.Frag} {mg : Str → Option Value} {Z φ : List Addr} {S : Store} {H : Hp} {R : List Addr → Hp → α → β → Prop} {r : Res α} {P : Prop} {Q : β → Hp → Prop} {E : XK}
    (hok : ∀ a S1, r = .ok a S1 → P) (hx : ∀ C fs S1, r = .ex C fs S1 → P) (hs : r = .stuck → P) : P := by
  cases r with
  | ok a S1 => exact hok a S1 rfl
  | ex C fs S1 => exact hx C fs S1 rfl
  | stuck => exact hs rfl
theorem asL_V {K : PySem.W.Frag} {mg : Str → Option Value} {φ : List Addr} {G : Hp} {S : Store} {d : D} {v : V} {ds : List D} (h : Dat K mg φ G d v) (e : asL S d = some ds) : ∃ a, v = .ref a := by
  cases d <;> first
    | (cases e; done)
    | (unfold Dat at h; obtain ⟨a, _, rfl, _⟩ := h; exact ⟨a, rfl⟩)
    | (unfold Dat at h; obtain ⟨a, rfl, _⟩ := h; exact ⟨a, rfl⟩)
theorem di_seq (he : DE X W e fe) : DI X W tg e (fSeq fe) := by
  refine PI.weak (PI.or (pi_list he) (pi_tup he)) fun σ H R ⟨Z, φ, S, ρ, R0, sl, w⟩ => ?_
  have run : ∀ {Q1 : VK}, (∀ d S1 v φ1 H1, Rel X.K X.mg Z φ1 S1 H1 → Evo Z φ S H φ1 S1 H1 → Dat X.K X.mg φ1 (gnd Z φ1 S1 H1) d v → fe ρ S = .ok d S1 → Q1 v H1) → (∀ r, r = fe ρ S → r ≠ .stuck) → Want X.K X.mg (RDat X.K X.mg) Z φ S H (fe ρ S) Q1 (WE W σ) := fun f hns => by
    unfold fSeq at w
    cases hr : fe ρ S with
    | ok d S1 => exact fun v φ1 H1 r1 e1 dd => f d S1 v φ1 H1 r1 e1 dd hr
    | ex C fs S1 => rw [hr] at w; exact w
    | stuck => exact absurd rfl (hns _ hr.symm)
  have ns : ∀ r, r = fe ρ S → r ≠ .stuck := fun r h z => by
    unfold fSeq at w
    rw [← h, z] at w
    exact w
  by_cases ht : ∃ ds S1, fe ρ S = .ok (.tup ds) S1
  · obtain ⟨ds, S1, ht⟩ := ht
    refine .inr ⟨Z, φ, S, ρ, R0, sl, run (fun d S2 v φ1 H1 r1 e1 dd hr => ?_) ns⟩
    rw [ht] at hr
    cases hr
    unfold fSeq at w
    rw [ht] at w
    have dd0 := dd
    unfold Dat at dd
    obtain ⟨a, vs, rfl, h1, h2⟩ := dd
    exact ⟨a, rfl, ⟨vs, sqt_mono gnd_sub h1⟩, w _ _ _ r1 e1 (ri_tup dd0)⟩
  · refine .inl ⟨Z, φ, S, ρ, R0, sl, run (fun d S1 v φ1 H1 r1 e1 dd hr => ?_) ns⟩
    unfold fSeq at w
    rw [hr] at w
    simp only [Res.bind_ok] at w
    cases d with
    | tup ds => exact absurd ⟨ds, S1, hr⟩ ht
    | lst ds =>
      obtain ⟨a, vs, rfl, h1, h2⟩ := asL_ok r1 dd rfl
      exact ⟨a, rfl, ⟨vs, h1⟩, w _ _ _ r1 e1 (ri_list (d := .lst ds) dd fun _ _ => rfl)⟩
    | scr ds =>
      obtain ⟨a, vs, rfl, h1, h2⟩ := asL_ok r1 dd rfl
      exact ⟨a, rfl, ⟨vs, h1⟩, w _ _ _ r1 e1 (ri_list (d := .scr ds) dd fun _ _ => rfl)⟩
    | oid n =>
      simp only at w
      cases hq : asL S1 (.oid n) with
      | none => rw [hq] at w; exact w.elim
      | some ds =>
        rw [hq] at w
        obtain ⟨a, vs, rfl, h1, h2⟩ := asL_ok r1 dd hq
        exact ⟨a, rfl, ⟨vs, h1⟩, w _ _ _ r1 e1 (ri_list (d := .oid n) dd fun _ ok => ok)⟩
    | _ => exact w.elim
/-- range(a), range(a, b) -/
def rng (lo hi : Int) : List D := (List.range (hi - lo).toNat).map fun i => .int (lo + (i : Nat))
noncomputable def cRng (i : Int) : Bool := @decide (-4611686018427387904 ≤ i ∧ i < 4611686018427387904) (Classical.propDecidable _)
noncomputable def fRng1 (fa : FA) : FI := fun ρ S => (fa ρ S).bind fun ds S => match ds with
  | [.int j] => if cRng j then .ok ⟨rng 0 j, none⟩ S else .stuck
  | _ => .stuck
noncomputable def fRng2 (fa : FA) : FI := fun ρ S => (fa ρ S).bind fun ds S => match ds with
  | [.int i, .int j] => if cRng i && cRng j then .ok ⟨rng i j, none⟩ S else .stuck
  | _ => .stuck
theorem ri_rng {Z φ : List Addr} {S : Store} {H : Hp} {lo hi : Int} : RI X.K X.mg Z φ S H ⟨rng lo hi, none⟩ (Itr lo (hi - lo).toNat) := fun i Z' φ' S' H' hZ R hp hs ok => by
  refine ⟨fun d hd => ?_, fun hl => ?_⟩
  · unfold rng at hd
    rw [List.getElem?_map] at hd
    have hi' : i < (hi - lo).toNat := by
      cases q : (List.range (hi - lo).toNat)[i]? with
      | none => rw [q] at hd; cases hd
      | some j => have := (List.getElem?_eq_some_iff.mp q).1; simpa using this
    rw [List.getElem?_range hi'] at hd
    cases hd
    refine ⟨hi', fun x H'' y => ?_⟩
    obtain ⟨rfl, rfl⟩ := y
    exact ⟨R, Evo.refl, dat_int _⟩
  · show (hi - lo).toNat ≤ i
    simpa [rng] using hl
theorem datL1 {φ : List Addr} {G : Hp} {d : D} {vs : List V} (h : DatL X.K X.mg φ G [d] vs) : ∃ v, vs = [v] ∧ Dat X.K X.mg φ G d v := by
  obtain ⟨v, r, rfl, h1, h2⟩ := h.uncons
  unfold DatL at h2
  subst h2
  exact ⟨v, rfl, h1⟩
theorem datL2 {φ : List Addr} {G : Hp} {d e : D} {vs : List V} (h : DatL X.K X.mg φ G [d, e] vs) : ∃ v u, vs = [v, u] ∧ Dat X.K X.mg φ G d v ∧ Dat X.K X.mg φ G e u := by
  obtain ⟨v, r, rfl, h1, h2⟩ := h.uncons
  obtain ⟨u, rfl, h3⟩ := datL1 h2
  exact ⟨v, u, rfl, h1, h3⟩
theorem dInt {φ : List Addr} {G : Hp} {i : Int} {v : V} (h : Dat X.K X.mg φ G (.int i) v) : v = .int i := by
  unfold Dat at h
  exact h
theorem dStr {φ : List Addr} {G : Hp} {i : Str} {v : V} (h : Dat X.K X.mg φ G (.str i) v) : v = .str i := by
  unfold Dat at h
  exact h
theorem dBl {φ : List Addr} {G : Hp} {i : Bool} {v : V} (h : Dat X.K X.mg φ G (.bl i) v) : v = .bl i := by
  unfold Dat at h
  exact h
theorem di_range1 {a : Expr} {fa : FA} (hg : Gl X "range") (hm : X.mg "range" = none) (ha : DA X W [a] fa) (hs : starEach [a] X.env = [(false, eval a X.env)] := by rfl) : DI X W tg (.Call (.Name "range" p) [a] [] pos) (fRng1 fa) := by
  obtain ⟨t, p, q⟩ := ha.ex
  refine .mk (pi_range1 hg hm p hs) fun Z φ S ρ σ H R R0 sl w => q Z φ S ρ σ H _ R0 sl (w.bind fun ds S1 vs φ1 H1 R1 E1 d w1 => ?_)
  split at w1
  · rename_i j
    obtain ⟨v, rfl, h1⟩ := datL1 d
    cases dInt h1
    by_cases hc : cRng j = true
    · simp only [hc, if_true] at w1
      unfold cRng at hc
      simp only [Bool.and_eq_true, decide_eq_true_eq] at hc
      refine ⟨j, rfl, hc.1, hc.2, w1 _ _ _ R1 Evo.refl ?_⟩
      have z := ri_rng (X := X) (Z := Z) (φ := φ1) (S := S1) (H := H1) (lo := 0) (hi := j)
      rw [Int.sub_zero] at z
      exact z
    · simp only [hc] at w1
      exact w1.elim
  · exact w1.elim
theorem di_range2 {a b : Expr} {fa : FA} (hg : Gl X "range") (hm : X.mg "range" = none) (ha : DA X W [a, b] fa) (hs : starEach [a, b] X.env = [(false, eval a X.env), (false, eval b X.env)] := by rfl) (hs2 : starEach [b] X.env = [(false, eval b X.env)] := by rfl) :
    DI X W tg (.Call (.Name "range" p) [a, b] [] pos) (fRng2 fa) := by
  obtain ⟨t, p, q⟩ := ha.ex
  refine .mk (pi_range2 hg hm p hs hs2) fun Z φ S ρ σ H R R0 sl w => q Z φ S ρ σ H _ R0 sl (w.bind fun ds S1 vs φ1 H1 R1 E1 d w1 => ?_)
  split at w1
  · rename_i i j
    obtain ⟨v, u, rfl, h1, h2⟩ := datL2 d
    cases dInt h1
    cases dInt h2
    by_cases hc : (cRng i && cRng j) = true
    · simp only [hc, if_true] at w1
      unfold cRng at hc
      simp only [Bool.and_eq_true, decide_eq_true_eq] at hc
      exact ⟨i, j, rfl, ⟨hc.1.1, hc.1.2, hc.2.1, hc.2.2⟩, w1 _ _ _ R1 Evo.refl ri_rng⟩
    · simp only [hc] at w1
      exact w1.elim
  · exact w1.elim
/-- enumerate(list) -/
def enumD : Nat → List D → List D
  | _, [] => []
  | n, d :: ds => .tup [.int (n : Nat), d] :: enumD (n + 1) ds
theorem enumD_get : ∀ {ds : List D} {n i : Nat}, (enumD n ds)[i]? = (ds[i]?).map fun d => .tup [.int ((n + i : Nat) : Int), d]
  | [], _, _ => rfl
  | d :: ds, n, 0 => rfl
  | d :: ds, n, i + 1 => by
    unfold enumD
    rw [List.getElem?_cons_succ, List.getElem?_cons_succ, enumD_get, Nat.add_right_comm, Nat.add_assoc]
theorem enumD_length : ∀ {ds : List D} {n : Nat}, (enumD n ds).length = ds.length
  | [], _ => rfl
  | d :: ds, n => by unfold enumD; rw [List.length_cons, List.length_cons, enumD_length]
def fEnum (fa : FA) : FI := fun ρ S => (fa ρ S).bind fun ds S => match ds with
  | [.lst ds] => .ok ⟨enumD 0 ds, none⟩ S
  | [d] => match asL S d with
    | some ds => .ok ⟨enumD 0 ds, some (d, ds)⟩ S
    | none => .stuck
  | _ => .stuck
theorem fresh_tup {Z φ : List Addr} {S : Store} {H : Hp} {T : Addr} {ds : List D} {vs : List V} (R : Rel X.K X.mg Z φ S H) (hT : H T = none) (d : DatL X.K X.mg φ (gnd Z φ S H) ds vs) :
    Rel X.K X.mg Z φ S (upd H T (.tup vs)) ∧ Evo Z φ S H φ S (upd H T (.tup vs)) ∧ Dat X.K X.mg φ (gnd Z φ S (upd H T (.tup vs))) (.tup ds) (.ref T) := dat_newT R d hT
theorem ri_enum {Z φ : List Addr} {S : Store} {H : Hp} {d : D} {a : Addr} {ds : List D} {c : Option (D × List D)} (hd : Dat X.K X.mg φ (gnd Z φ S H) d (.ref a)) (hc : ∀ S', okC c S' → asL S' d = some ds) : RI X.K X.mg Z φ S H ⟨enumD 0 ds, c⟩ (Ite X.K a) :=
  fun i Z' φ' S' H' hZ R hp hs ok => by
    have hd' := Dat.mono hp hs d _ hd
    obtain ⟨b, vs, e, h1, h2⟩ := asL_ok R hd' (hc S' ok)
    cases e
    refine ⟨fun x hx => ?_, fun hl => ⟨vs, h1, by rw [h2.length]; rw [enumD_length] at hl; exact hl⟩⟩
    have hx : (enumD 0 ds)[i]? = some x := hx
    rw [enumD_get] at hx
    cases q : ds[i]? with
    | none => rw [q] at hx; cases hx
    | some y =>
      rw [q] at hx
      cases hx
      obtain ⟨u, hu, du⟩ := h2.get q
      refine ⟨⟨vs, u, h1, hu⟩, fun y' H'' yl => ?_⟩
      obtain ⟨T, x', rfl, hT, rfl, q'⟩ := yl
      have z := q' vs h1
      rw [hu] at z
      cases z
      rw [Nat.zero_add]
      exact dat_newT R (.cons (dat_int _) (.cons du DatL.nil)) hT
theorem di_enum {a : Expr} {fa : FA} {elts : List Expr} {kk : Nat} {tpos : Pos} (hg : Gl X "enumerate") (hm : X.mg "enumerate" = none) (ha : DA X W [a] fa) (hs : starEach [a] X.env = [(false, eval a X.env)] := by rfl) :
    DI X W (.Tuple elts kk tpos) (.Call (.Name "enumerate" p) [a] [] pos) (fEnum fa) := by
  obtain ⟨t, p, q⟩ := ha.ex
  refine .mk (pi_enum hg hm p hs) fun Z φ S ρ σ H R R0 sl w => q Z φ S ρ σ H _ R0 sl (w.bind fun ds S1 vs φ1 H1 R1 E1 d w1 => ?_)
  split at w1
  · rename_i es
    obtain ⟨v, rfl, h1⟩ := datL1 d
    obtain ⟨a, us, rfl, h2, h3⟩ := asL_ok R1 h1 rfl
    exact ⟨a, us, rfl, h2, w1 _ _ _ R1 Evo.refl (ri_enum (d := .lst es) h1 fun _ _ => rfl)⟩
  · rename_i x _
    obtain ⟨v, rfl, h1⟩ := datL1 d
    cases hq : asL S1 x with
    | none => rw [hq] at w1; exact w1.elim
    | some es =>
      rw [hq] at w1
      obtain ⟨a, us, rfl, h2, h3⟩ := asL_ok R1 h1 hq
      exact ⟨a, us, rfl, h2, w1 _ _ _ R1 Evo.refl (ri_enum (d := x) h1 fun _ ok => ok)⟩
  · exact w1.elim
end

/-! ### the context of a body -/
structure Cn (X : Cx) (W : WX) (k : Nat) : Prop where
  room : Room k X.A
  gd : X.A.guards = some []
  calm : X.calm = true
  nd : X.N.Nodup
  po : PassesOwn (model X.prog X.w) X.A X.env X.xe
  tk : Takes X W
abbrev W0 : WX := fun _ _ _ _ => False

/-! ### statements -/
section
variable {X : Cx} {W : WX} {pos : Pos} {st : Stmt} {sts : List Stmt} {g g' : FS} {e : Expr} {fe : FE} {k : Nat}
def gNil : FS := fun ρ S => .nx ρ S
def Out.seq (o : Out) (k : EnvD → Store → Out) : Out := match o with
  | .nx ρ S => k ρ S
  | o => o
@[simp] theorem Out.seq_nx (ρ : EnvD) (S : Store) (k : EnvD → Store → Out) : (Out.nx ρ S).seq k = k ρ S := rfl
@[simp] theorem Out.seq_rt (d : D) (S : Store) (k : EnvD → Store → Out) : (Out.rt d S).seq k = .rt d S := rfl
@[simp] theorem Out.seq_bk (ρ : EnvD) (S : Store) (k : EnvD → Store → Out) : (Out.bk ρ S).seq k = .bk ρ S := rfl
@[simp] theorem Out.seq_ct (ρ : EnvD) (S : Store) (k : EnvD → Store → Out) : (Out.ct ρ S).seq k = .ct ρ S := rfl
@[simp] theorem Out.seq_ex (C fs) (ρ : EnvD) (S : Store) (k : EnvD → Store → Out) : (Out.ex C fs ρ S).seq k = .ex C fs ρ S := rfl
@[simp] theorem Out.seq_stuck (k : EnvD → Store → Out) : (Out.stuck).seq k = .stuck := rfl
def gSeq (g g' : FS) : FS := fun ρ S => (g ρ S).seq g'
theorem dss_nil : DSs X W [] gNil := .mk pss_nil fun Z φ S ρ σ H Dd R sl w => w σ φ H R Evo.refl sl
theorem dss_one (h : DS X W st g) : DSs X W [st] g := by
  obtain ⟨t, p, q⟩ := h.ex
  exact .mk (pss_one p) q
theorem dss_cons (h : DS X W st g) (r : DSs X W sts g') : DSs X W (st :: sts) (gSeq g g') := by
  obtain ⟨t, p, q⟩ := h.ex
  obtain ⟨u, p', q'⟩ := r.ex
  refine .mk (pss_cons p p') fun Z φ S ρ σ H Dd R sl w => q Z φ S ρ σ H _ R sl ?_
  unfold gSeq at w
  cases hr : g ρ S with
  | nx ρ1 S1 =>
    rw [hr] at w
    exact fun σ1 φ1 H1 R1 E1 sl1 => q' Z φ1 S1 ρ1 σ1 H1 Dd R1 sl1 (w.go E1)
  | _ => rw [hr] at w; exact w
theorem ds_pass : DS X W (.Pass pos) gNil := .mk ps_pass fun Z φ S ρ σ H Dd R sl w => w σ φ H R Evo.refl sl
theorem ds_break : DS X W (.Break pos) (fun ρ S => .bk ρ S) := .mk ps_break fun Z φ S ρ σ H Dd R sl w => w σ φ H R Evo.refl sl
theorem ds_continue : DS X W (.Continue pos) (fun ρ S => .ct ρ S) := .mk ps_continue fun Z φ S ρ σ H Dd R sl w => w σ φ H R Evo.refl sl
def gExpr (fe : FE) : FS := fun ρ S => (fe ρ S).into ρ fun _ S => .nx ρ S
theorem ds_expr (he : DE X W e fe) (hs : swapsWith e none pos.line X.env = pure false := by rfl) : DS X W (.Expr e pos) (gExpr fe) := by
  obtain ⟨t, p, q⟩ := he.ex
  exact .mk (ps_expr p hs) fun Z φ S ρ σ H Dd R sl w => q Z φ S ρ σ H _ R sl (w.into sl fun d S1 v φ1 H1 R1 E1 dd w1 => w1 σ φ1 H1 R1 Evo.refl (sl.evo E1))
def gRet (fe : FE) : FS := fun ρ S => (fe ρ S).into ρ fun d S => .rt d S
theorem ds_ret (he : DE X W e fe) : DS X W (.Return (some e) pos) (gRet fe) := by
  obtain ⟨t, p, q⟩ := he.ex
  exact .mk (ps_ret p) fun Z φ S ρ σ H Dd R sl w => q Z φ S ρ σ H _ R sl (w.into sl fun d S1 v φ1 H1 R1 E1 dd w1 => w1 v φ1 H1 R1 Evo.refl dd)
theorem ds_retN : DS X W (.Return none pos) (fun _ S => .rt .non S) := .mk ps_retN fun Z φ S ρ σ H Dd R sl w => w .non φ H R Evo.refl dat_non
def gIf (c : FT) (g g' : FS) : FS := fun ρ S => (c ρ S).into ρ fun k S => if k then g ρ S else g' ρ S
theorem ds_if {c : Expr} {fc : FT} {a b : List Stmt} (hc : DT X W c fc) (ha : DSs X W a g) (hb : DSs X W b g') : DS X W (.If c a b pos) (gIf fc g g') := by
  obtain ⟨t, p, q⟩ := hc.ex
  obtain ⟨ta, pa, qa⟩ := ha.ex
  obtain ⟨tb, pb, qb⟩ := hb.ex
  refine .mk (ps_if p pa pb) fun Z φ S ρ σ H Dd R sl w => q Z φ S ρ σ H _ R sl (w.into sl fun k S1 k' φ1 H1 R1 E1 e w1 => ?_)
  cases e
  cases k with
  | true => exact iteT (qa Z φ1 S1 ρ σ H1 Dd R1 (sl.evo E1) w1)
  | false => exact iteF (qb Z φ1 S1 ρ σ H1 Dd R1 (sl.evo E1) w1)
/-- name = value -/
def gSet (i : Nat) (fe : FE) : FS := fun ρ S => (fe ρ S).into ρ fun d S => .nx (ρ.set i (some d)) S
theorem ds_setP {i : Nat} {x : Str} {pos' : Pos} (hp : ∀ t, PE X e t → PS X (.Assign [.Name x pos'] e pos) (tAsg t (L2.gName i))) (he : DE X W e fe) : DS X W (.Assign [.Name x pos'] e pos) (gSet i fe) := by
  obtain ⟨t, p, q⟩ := he.ex
  exact .mk (hp _ p) fun Z φ S ρ σ H Dd R sl w => q Z φ S ρ σ H _ R sl (w.into sl fun d S1 v φ1 H1 R1 E1 dd w1 => w1 _ φ1 H1 R1 Evo.refl ((sl.evo E1).set dd))
theorem ds_set (C : Cn X W k) {i : Nat} {x : Str} {pos' : Pos} (hi : X.N[i]? = some x) (hx : Loc X.env.scope x) (he : DE X W e fe) (hs : swapsWith e (some (.Name x pos')) pos.line X.env = pure false := by rfl)
    (hf : X.fn x = true ∨ X.env.scope.names.lookup x = some .local := by first | exact .inl rfl | exact .inr rfl) : DS X W (.Assign [.Name x pos'] e pos) (gSet i fe) :=
  ds_setP (fun _ p => ps_set C.nd hi hx p hs hf) he
/-- target = value -/
def gAsg (m : FG) (fe : FE) : FS := fun ρ S => (fe ρ S).into ρ fun d S => match m d ρ S with
  | some ρ => .nx ρ S
  | none => .stuck
theorem ds_asg {tg : Expr} {is : List Nat} {m : FG} (he : DE X W e fe) (hg : DG X tg is m) (hs : swapsWithSole [tg] e pos.line X.env = pure false := by rfl) (hw : swappedStores [tg] e X.env = pure none := by rfl)
    (h1 : (assignEach [tg] X.env).map (·.2) = [assign tg X.env] := by rfl) : DS X W (.Assign [tg] e pos) (gAsg m fe) := by
  obtain ⟨t, p, q⟩ := he.ex
  refine .mk (ps_asg p hg hs hw h1) fun Z φ S ρ σ H Dd R sl w => q Z φ S ρ σ H _ R sl (w.into sl fun d S1 v φ1 H1 R1 E1 dd w1 => ?_)
  cases hm : m d ρ S1 with
  | none => rw [hm] at w1; exact w1.elim
  | some ρ1 =>
    rw [hm] at w1
    exact ⟨Z, φ1, S1, ρ, d, ρ1, R1, sl.evo E1, dd, hm, fun σ1 sl1 _ => w1 σ1 φ1 H1 R1 Evo.refl sl1⟩

/-! loops -/
open Classical in
noncomputable def loopF (c : Option (D × List D)) (m : FG) (body : FS) : List D → EnvD → Store → Out
  | [], ρ, S => if okC c S then .nx ρ S else .stuck
  | d :: ds, ρ, S => if okC c S then (match m d ρ S with
    | some ρ => (match body ρ S with
      | .nx ρ S => loopF c m body ds ρ S
      | .ct ρ S => loopF c m body ds ρ S
      | .bk ρ S => .nx ρ S
      | o => o)
    | none => .stuck) else .stuck
noncomputable def gFor (fi : FI) (m : FG) (body : FS) : FS := fun ρ S => (fi ρ S).into ρ fun it S => loopF it.chk m body it.items ρ S
theorem WantS.intoI {Z φ : List Addr} {S : Store} {H : Hp} {Dd : Ends} {r : Res ItD} {ρ : EnvD} {σ : L2.St} {k : ItD → Store → Out} {Q1 : It → Hp → Prop} (sl : Slots X.K X.mg φ (gnd Z φ S H) ρ σ) (h : WantS X W Z φ S H (r.into ρ k) Dd)
    (f : ∀ it S1 J φ1 H1, Rel X.K X.mg Z φ1 S1 H1 → Evo Z φ S H φ1 S1 H1 → RI X.K X.mg Z φ1 S1 H1 it J → WantS X W Z φ1 S1 H1 (k it S1) Dd → Q1 J H1) : WantI X.K X.mg Z φ S H r Q1 (WE W σ) := by
  cases r with
  | ok a S1 => exact fun b φ1 H1 r1 e1 d => f a S1 b φ1 H1 r1 e1 d (h.go e1)
  | ex C fs S1 => exact fun A dx φ1 H1 m r1 e1 d => h A dx σ φ1 H1 m r1 e1 (sl.evo e1) d
  | stuck => exact h
theorem ds_for (C : Cn X W k) {tg iter : Expr} {body : List Stmt} {fi : FI} {is : List Nat} {m : FG} (hi : DI X W tg iter fi) (hg : DG X tg is m) (hb : DSs X W body g) (hs : ∀ x, foldedSetIterable iter X.env x = pure x := by intro _; rfl) :
    DS X W (.For tg iter body [] pos) (gFor fi m g) := by
  obtain ⟨tb, pb, qb⟩ := hb.ex
  refine .mk (ps_for C.po C.calm hi hg pb hs) fun Z φ S ρ σ H Dd R sl w => DI.is Z φ S ρ σ H _ R sl (w.intoI sl fun it S1 J φ1 H1 R1 E1 rj w1 => ?_)
  refine ⟨fun i n σ' H' => n = it.items.length - i ∧ i ≤ it.items.length ∧ ∃ φ' S' ρ', Rel X.K X.mg Z φ' S' H' ∧ Evo Z φ1 S1 H1 φ' S' H' ∧ Slots X.K X.mg φ' (gnd Z φ' S' H') ρ' σ' ∧ WantS X W Z φ' S' H' (loopF it.chk m g (it.items.drop i) ρ' S') Dd,
    ⟨_, rfl, Nat.zero_le _, φ1, S1, ρ, R1, Evo.refl, sl.evo E1, w1⟩, ?_⟩
  rintro i n σ2 H2 ⟨rfl, hle, φ2, S2, ρ2, R2, E2, sl2, w2⟩
  by_cases hlt : i < it.items.length
  · obtain ⟨d, hd⟩ : ∃ d, it.items[i]? = some d := ⟨_, List.getElem?_eq_getElem hlt⟩
    have hdr : it.items.drop i = d :: it.items.drop (i + 1) := by
      rw [List.drop_eq_getElem_cons hlt]
      congr 1
      rw [List.getElem?_eq_getElem hlt] at hd
      exact Option.some.inj hd
    rw [hdr] at w2
    unfold loopF at w2
    by_cases hc : okC it.chk S2
    · rw [if_pos hc] at w2
      have rr := (rj i Z φ2 S2 H2 (fun _ h => h) R2 E2.pre E2.ext hc).1 d hd
      refine .inr ⟨rr.1, fun σ' H' => ∃ φ' S' ρ', Rel X.K X.mg Z φ' S' H' ∧ Evo Z φ1 S1 H1 φ' S' H' ∧ Slots X.K X.mg φ' (gnd Z φ' S' H') ρ' σ' ∧ WantS X W Z φ' S' H' (loopF it.chk m g (it.items.drop (i + 1)) ρ' S') Dd, fun σ' H' hN => ⟨_, by omega, rfl, hlt, hN⟩, fun x H3 y => ?_⟩
      obtain ⟨R3, E3, d3⟩ := rr.2 x H3 y
      cases hm : m d ρ2 S2 with
      | none => rw [hm] at w2; exact w2.elim
      | some ρ3 =>
        rw [hm] at w2
        refine ⟨Z, φ2, S2, ρ2, d, ρ3, R3, sl2.evo E3, d3, hm, fun σ3 sl3 _ => qb Z φ2 S2 ρ3 σ3 H3 _ R3 sl3 ?_⟩
        have w3 := w2.go E3
        cases hr : g ρ3 S2 with
        | nx ρ4 S4 =>
          simp only [hr] at w3
          exact fun σ4 φ4 H4 R4 E4 sl4 => ⟨φ4, S4, ρ4, R4, (E2.trans E3).trans E4, sl4, w3.go E4⟩
        | ct ρ4 S4 =>
          simp only [hr] at w3
          exact fun σ4 φ4 H4 R4 E4 sl4 => ⟨φ4, S4, ρ4, R4, (E2.trans E3).trans E4, sl4, w3.go E4⟩
        | bk ρ4 S4 =>
          simp only [hr] at w3
          exact w3
        | rt d4 S4 =>
          simp only [hr] at w3
          exact w3
        | ex C4 fs4 ρ4 S4 =>
          simp only [hr] at w3
          exact w3
        | stuck =>
          simp only [hr] at w3
          exact w3.elim
    · rw [if_neg hc] at w2
      exact w2.elim
  · have e : i = it.items.length := by omega
    subst e
    rw [List.drop_length] at w2
    unfold loopF at w2
    by_cases hc : okC it.chk S2
    · rw [if_pos hc] at w2
      exact .inl ⟨(rj _ Z φ2 S2 H2 (fun _ h => h) R2 E2.pre E2.ext hc).2 (Nat.le_refl _), w2 σ2 φ2 H2 R2 Evo.refl sl2⟩
    · rw [if_neg hc] at w2
      exact w2.elim
def whileF (c : FT) (body : FS) : Nat → EnvD → Store → Out
  | 0, _, _ => .stuck
  | n + 1, ρ, S => (c ρ S).into ρ fun k S => if k then (match body ρ S with
    | .nx ρ S => whileF c body n ρ S
    | .ct ρ S => whileF c body n ρ S
    | .bk ρ S => .nx ρ S
    | o => o) else .nx ρ S
theorem ds_while (C : Cn X W k) (fuel : Nat) {c : Expr} {fc : FT} {body : List Stmt} (hc : DT X W c fc) (hb : DSs X W body g) : DS X W (.While c body [] pos) (whileF fc g fuel) := by
  obtain ⟨tc, pc, qc⟩ := hc.ex
  obtain ⟨tb, pb, qb⟩ := hb.ex
  refine .mk (ps_while C.po pc pb) fun Z φ S ρ σ H Dd R sl w => ?_
  refine ⟨fun n σ' H' => ∃ φ' S' ρ', Rel X.K X.mg Z φ' S' H' ∧ Slots X.K X.mg φ' (gnd Z φ' S' H') ρ' σ' ∧ WantS X W Z φ' S' H' (whileF fc g n ρ' S') Dd, ⟨fuel, φ, S, ρ, R, sl, w⟩, ?_⟩
  rintro n σ2 H2 ⟨φ2, S2, ρ2, R2, sl2, w2⟩
  cases n with
  | zero => exact w2.elim
  | succ n =>
    unfold whileF at w2
    refine qc Z φ2 S2 ρ2 σ2 H2 _ R2 sl2 (w2.into sl2 fun k S3 k' φ3 H3 R3 E3 e w3 => ?_)
    cases e
    cases k with
    | false => exact iteF (w3 σ2 φ3 H3 R3 Evo.refl (sl2.evo E3))
    | true =>
      refine iteT ⟨fun σ' H' => ∃ φ' S' ρ', Rel X.K X.mg Z φ' S' H' ∧ Slots X.K X.mg φ' (gnd Z φ' S' H') ρ' σ' ∧ WantS X W Z φ' S' H' (whileF fc g n ρ' S') Dd, fun σ' H' hN => ⟨n, Nat.lt_succ_self _, hN⟩, qb Z φ3 S3 ρ2 σ2 H3 _ R3 (sl2.evo E3) ?_⟩
      simp only [if_true] at w3
      cases hr : g ρ2 S3 with
      | nx ρ4 S4 =>
        simp only [hr] at w3
        exact fun σ4 φ4 H4 R4 E4 sl4 => ⟨φ4, S4, ρ4, R4, sl4, w3.go E4⟩
      | ct ρ4 S4 =>
        simp only [hr] at w3
        exact fun σ4 φ4 H4 R4 E4 sl4 => ⟨φ4, S4, ρ4, R4, sl4, w3.go E4⟩
      | bk ρ4 S4 =>
        simp only [hr] at w3
        exact w3
      | rt d4 S4 =>
        simp only [hr] at w3
        exact w3
      | ex C4 fs4 ρ4 S4 =>
        simp only [hr] at w3
        exact w3
      | stuck =>
        simp only [hr] at w3
        exact w3.elim
end
end DL

/-! The data layer, part 5: comprehensions; defs, their calls; the law's end. -/
namespace DL
open PySem L2

def Res.noEx {α : Type} (r : Res α) : Res α := match r with
  | .ok a S => .ok a S
  | _ => .stuck
@[simp] theorem Res.noEx_ok {α : Type} (a : α) (S : Store) : (Res.ok a S).noEx = .ok a S := rfl
section
variable {K : PySem.W.Frag} {mg : Str → Option Value} {Z φ φ1 φ' φ2 : List Addr} {S S1 S' S2 : Store} {H H1 H' H2 : Hp} {p : Addr}
/-! hidden addresses -/
theorem gnd_hide : Same (gnd (p :: Z) φ S H) (gnd Z φ S H) := fun a o h => by
  obtain ⟨h1, h2⟩ := without_some.mp h
  exact without_some.mpr ⟨fun q => h1 (List.mem_cons_of_mem _ q), h2⟩
theorem Evo.hideExt (e : Evo Z φ1 S1 H1 φ S H) (hp : H1 p = none) : Same (gnd Z φ1 S1 H1) (gnd (p :: Z) φ S H) := fun a o h => by
  have q := (without_some.mp h).2
  obtain ⟨h1, h2⟩ := without_some.mp (e.ext a o h)
  refine without_some.mpr ⟨fun z => ?_, h2⟩
  rcases List.mem_cons.mp z with z | z
  · rw [z, hp] at q
    cases q
  · exact h1 z
theorem Evo.hide (e : Evo Z φ1 S1 H1 φ S H) (hp : H1 p = none) (f : Evo (p :: Z) φ S H φ2 S2 H2) : Evo Z φ1 S1 H1 φ2 S2 H2 := by
  refine ⟨e.pre.trans f.pre, ((e.hideExt hp).trans f.ext).trans gnd_hide, fun c o h n => ?_, fun c h hn => ?_⟩
  · exact f.out c o (e.out c o h n) fun q => n (e.lv c q (by rw [h]; exact fun z => nomatch z))
  · by_cases q : c ∈ liveA φ1 S1
    · exact q
    · obtain ⟨o, ho⟩ := Option.ne_none_iff_exists'.mp hn
      exact e.lv c (f.lv c h (by rw [e.out c o ho q]; exact fun z => nomatch z)) hn
theorem Rel.unhide (R : Rel K mg (p :: Z) φ S H) : Rel K mg Z φ S H :=
  ⟨R.len, R.nd, fun a h q => R.zd a h (List.mem_cons_of_mem _ q), fun a h => R.zh a (List.mem_cons_of_mem _ h), R.ph, fun n a o h1 h2 => (R.ob n a o h1 h2).mono (List.prefix_refl _) gnd_hide fun _ z => z⟩
/-- a new object is hidden -/
theorem Rel.hidden (R : Rel K mg Z φ S H) (hp : H p = none) {o : HO} : Rel K mg (p :: Z) φ S (upd H p o) := by
  obtain ⟨r, e, g⟩ := R.fresh (o := o) hp
  have pφ : p ∉ φ := fun q => R.ph p q hp
  have eg : gnd (p :: Z) φ S (upd H p o) = gnd Z φ S H := by
    funext a
    by_cases ha : a = p
    · subst ha
      have h1 : gnd (a :: Z) φ S (upd H a o) a = none := by
        unfold gnd without
        rw [if_pos (List.mem_append_left _ List.mem_cons_self)]
      have h2 : gnd Z φ S H a = none := by
        unfold gnd without
        rw [hp]
        split <;> rfl
      rw [h1, h2]
    · unfold gnd without
      rw [upd_ne ha]
      by_cases hq : a ∈ Z ++ liveA φ S
      · rw [if_pos hq, if_pos (by rw [List.cons_append]; exact List.mem_cons_of_mem _ hq)]
      · rw [if_neg hq, if_neg (by rw [List.cons_append]; exact fun z => (List.mem_cons.mp z).elim ha hq)]
  refine ⟨R.len, R.nd, fun a h q => ?_, fun a h => ?_, r.ph, fun n a u h1 h2 => ?_⟩
  · rcases List.mem_cons.mp q with z | z
    · rw [z] at h
      exact pφ h
    · exact R.zd a h z
  · rcases List.mem_cons.mp h with z | z
    · rw [z, upd_same]
      exact fun q => nomatch q
    · exact r.zh a z
  · rw [eg]
    refine (R.ob n a u h1 h2).mono (List.prefix_refl _) (Same.refl _) fun ob z => ?_
    rw [upd_ne (ne_of_none z hp)]
    exact z
/-- a hidden object changes -/
theorem Rel.hidMut (R : Rel K mg (p :: Z) φ S H) {o : HO} : Rel K mg (p :: Z) φ S (upd H p o) ∧ gnd (p :: Z) φ S (upd H p o) = gnd (p :: Z) φ S H := by
  have eg : gnd (p :: Z) φ S (upd H p o) = gnd (p :: Z) φ S H := by
    funext a
    unfold gnd without
    by_cases ha : a = p
    · rw [ha, if_pos (List.mem_append_left _ List.mem_cons_self), if_pos (List.mem_append_left _ List.mem_cons_self)]
    · rw [upd_ne ha]
  have some_of : ∀ b, H b ≠ none → upd H p o b ≠ none := fun b h => by
    by_cases hb : b = p
    · subst hb
      rw [upd_same]
      exact fun z => nomatch z
    · rw [upd_ne hb]
      exact h
  refine ⟨⟨R.len, R.nd, R.zd, fun b h => some_of b (R.zh b h), fun b h => some_of b (R.ph b h), fun n a u h1 h2 => ?_⟩, eg⟩
  rw [eg]
  refine (R.ob n a u h1 h2).mono (List.prefix_refl _) (Same.refl _) fun ob z => ?_
  rw [upd_ne]
  · exact z
  · intro q
    rw [q] at h1
    exact R.zd p (List.mem_of_getElem? h1) List.mem_cons_self
theorem Evo.hidMut (e : Evo Z φ1 S1 H1 φ S H) (hp : H1 p = none) {o : HO} : Evo Z φ1 S1 H1 φ S (upd H p o) := by
  refine ⟨e.pre, fun a u h => ?_, fun a u h n => ?_, e.lv⟩
  · have q := (without_some.mp h).2
    obtain ⟨h1, h2⟩ := without_some.mp (e.ext a u h)
    refine without_some.mpr ⟨h1, ?_⟩
    rw [upd_ne (ne_of_none q hp)]
    exact h2
  · rw [upd_ne (ne_of_none h hp)]
    exact e.out a u h n
/-- the hidden list becomes an object of the store -/
theorem Rel.shown (R : Rel K mg (p :: Z) φ S H) (pZ : p ∉ Z) {ds : List D} {vs : List V} (hp : H p = some (.lst vs)) (hd : DatL K mg φ (gnd (p :: Z) φ S H) ds vs) :
    Rel K mg Z (φ ++ [p]) (S ++ [.lst ds]) H ∧ gnd Z (φ ++ [p]) (S ++ [.lst ds]) H = gnd (p :: Z) φ S H := by
  have pφ : p ∉ φ := fun q => R.zd p q List.mem_cons_self
  have lv : liveA (φ ++ [p]) (S ++ [.lst ds]) = liveA φ S ++ [p] := by rw [liveA_snoc R.len]; rfl
  have eg : gnd Z (φ ++ [p]) (S ++ [.lst ds]) H = gnd (p :: Z) φ S H := by
    funext a
    unfold gnd without
    rw [lv]
    by_cases q : a ∈ p :: Z ++ liveA φ S
    · rw [if_pos q, if_pos]
      rw [List.cons_append] at q
      rcases List.mem_cons.mp q with z | z
      · exact List.mem_append_right _ (List.mem_append_right _ (by rw [z]; exact List.mem_singleton.mpr rfl))
      · rcases List.mem_append.mp z with z | z
        · exact List.mem_append_left _ z
        · exact List.mem_append_right _ (List.mem_append_left _ z)
    · rw [if_neg q, if_neg]
      intro z
      refine q ?_
      rw [List.cons_append]
      rcases List.mem_append.mp z with z | z
      · exact List.mem_cons_of_mem _ (List.mem_append_left _ z)
      · rcases List.mem_append.mp z with z | z
        · exact List.mem_cons_of_mem _ (List.mem_append_right _ z)
        · rw [List.mem_singleton.mp z]
          exact List.mem_cons_self
  refine ⟨⟨by rw [List.length_append, List.length_append, R.len]; rfl, List.nodup_append.mpr ⟨R.nd, by simp, fun a ha b hb => ?_⟩, fun a ha q => ?_, fun a h => R.zh a (List.mem_cons_of_mem _ h), fun a ha => ?_, fun n a o h1 h2 => ?_⟩, eg⟩
  · rw [List.mem_singleton.mp hb]
    intro z
    rw [z] at ha
    exact pφ ha
  · rcases List.mem_append.mp ha with z | z
    · exact R.zd a z (List.mem_cons_of_mem _ q)
    · rw [List.mem_singleton.mp z] at q
      exact pZ q
  · rcases List.mem_append.mp ha with z | z
    · exact R.ph a z
    · rw [List.mem_singleton.mp z, hp]
      exact fun q => nomatch q
  · rw [eg]
    by_cases hlt : n < φ.length
    · rw [List.getElem?_append_left hlt] at h1
      rw [List.getElem?_append_left (by rw [← R.len]; exact hlt)] at h2
      exact (R.ob n a o h1 h2).mono ⟨[p], rfl⟩ (Same.refl _) fun _ z => z
    · have hlt' : φ.length ≤ n := Nat.le_of_not_lt hlt
      rw [List.getElem?_append_right hlt'] at h1
      rw [List.getElem?_append_right (by rw [← R.len]; exact hlt')] at h2
      have e0 : n - φ.length = 0 := by
        have := (List.getElem?_eq_some_iff.mp h1).1
        simp only [List.length_singleton] at this
        omega
      rw [← R.len] at h2
      rw [e0] at h1 h2
      cases h1
      cases h2
      exact ⟨vs, hp, DatL.mono ⟨[p], rfl⟩ (Same.refl _) _ _ hd⟩
end

/-! ### comprehensions -/
open Classical in
noncomputable def compF (c : Option (D × List D)) (m : FG) (ft : FT) (fe : FE) : List D → EnvD → Store → Res (List D)
  | [], _, S => if okC c S then .ok [] S else .stuck
  | d :: ds, ρ, S => if okC c S then (match m d ρ S with
    | some ρ1 => (ft ρ1 S).noEx.bind fun b S => if b then (fe ρ1 S).noEx.bind fun y S => (compF c m ft fe ds ρ S).bind fun ys S => .ok (y :: ys) S else compF c m ft fe ds ρ S
    | none => .stuck) else .stuck
def wipeD (ρ : EnvD) : List Nat → EnvD
  | [] => ρ
  | v :: vs => (wipeD ρ vs).set v none
theorem slots_wipe {K : PySem.W.Frag} {mg : Str → Option Value} {φ : List Addr} {G : Hp} {ρ : EnvD} {σ : L2.St} (h : Slots K mg φ G ρ σ) : ∀ vs : List Nat, Slots K mg φ G (wipeD ρ vs) (wipe σ vs)
  | [] => h
  | v :: vs => by
    obtain ⟨a, b⟩ := slots_wipe h vs
    unfold wipeD wipe
    refine ⟨by rw [List.length_set, List.length_set, a], fun i d q => ?_⟩
    by_cases hi : v = i
    · subst hi
      have hl := (List.getElem?_eq_some_iff.mp q).1
      rw [List.length_set] at hl
      rw [List.getElem?_set_self hl] at q
      cases q
    · rw [List.getElem?_set_ne hi] at q
      obtain ⟨u, h1, h2⟩ := b i d q
      exact ⟨u, by rw [List.getElem?_set_ne hi]; exact h1, h2⟩
abbrev Fin' := List D → Store → Res D
noncomputable def fComp (fi : FI) (m : FG) (ft : FT) (fe : FE) (own : List Nat) (fin : Fin') : FE := fun ρ S => (fi ρ S).bind fun it S => (compF it.chk m ft fe it.items (wipeD ρ own) S).bind fin
def finL : Fin' := fun ds S => if short ds.length then .ok (.lst ds) S else .stuck
def finO : Fin' := fun ds S => if short ds.length then .ok (.oid S.length) (S ++ [.lst ds]) else .stuck
/-- what an end must be -/
def FinOk (fin : Fin') : Prop := (∀ ds S, fin ds S ≠ .stuck → ds.length ≤ sizeLine) ∧ ∀ (K : PySem.W.Frag) (mg : Str → Option Value) (Z φ1 φ : List Addr) (S1 S : Store) (H1 H : Hp) (p : Addr) (ds : List D) (vs : List V) (Q : VK) (E : XK),
  Rel K mg (p :: Z) φ S H → Evo Z φ1 S1 H1 φ S H → H1 p = none → p ∉ Z → H p = some (.lst vs) → DatL K mg φ (gnd (p :: Z) φ S H) ds vs → Want K mg (RDat K mg) Z φ1 S1 H1 (fin ds S) Q E → Q (.ref p) H
theorem finL_ok : FinOk finL := by
  refine ⟨fun ds S h => ?_, fun K mg Z φ1 φ S1 S H1 H p ds vs Q E R e hp pZ hH hd w => ?_⟩
  · unfold finL at h
    by_cases q : short ds.length = true
    · exact of_decide_eq_true q
    · rw [if_neg q] at h
      exact absurd rfl h
  · unfold finL at w
    by_cases q : short ds.length = true
    · rw [if_pos q] at w
      refine w _ φ H R.unhide e ?_
      unfold RDat Dat
      refine ⟨p, vs, rfl, without_some.mpr ⟨fun z => ?_, hH⟩, DatL.mono (List.prefix_refl _) gnd_hide _ _ hd⟩
      rcases List.mem_append.mp z with z | z
      · exact pZ z
      · exact R.zd p (liveA_sub z) List.mem_cons_self
    · rw [if_neg q] at w
      exact w.elim
theorem finO_ok : FinOk finO := by
  refine ⟨fun ds S h => ?_, fun K mg Z φ1 φ S1 S H1 H p ds vs Q E R e hp pZ hH hd w => ?_⟩
  · unfold finO at h
    by_cases q : short ds.length = true
    · exact of_decide_eq_true q
    · rw [if_neg q] at h
      exact absurd rfl h
  · unfold finO at w
    by_cases q : short ds.length = true
    · rw [if_pos q] at w
      obtain ⟨r, eg⟩ := R.shown pZ hH hd
      refine w _ (φ ++ [p]) H r ⟨e.pre.trans ⟨[p], rfl⟩, by rw [eg]; exact e.hideExt hp, e.out, fun a h hn => ?_⟩ ?_
      · rw [liveA_snoc R.len] at h
        rcases List.mem_append.mp h with z | z
        · exact e.lv a z hn
        · have z' : a ∈ [p] := z
          rw [List.mem_singleton.mp z'] at hn
          exact absurd hp hn
      · unfold RDat Dat
        exact ⟨p, rfl, by rw [List.getElem?_append_right (by rw [R.len]; exact Nat.le_refl _), ← R.len, Nat.sub_self]; rfl⟩
    · rw [if_neg q] at w
      exact w.elim
section
variable {X : Cx} {W : WX} {k : Nat}
theorem Want.noEx {α β : Type} {Z φ : List Addr} {S : Store} {H : Hp} {R : List Addr → Hp → α → β → Prop} {r : Res α} {Q : β → Hp → Prop} {E : XK} (hn : r.noEx ≠ .stuck)
    (f : ∀ a S1 b φ1 H1, r = .ok a S1 → Rel X.K X.mg Z φ1 S1 H1 → Evo Z φ S H φ1 S1 H1 → R φ1 (gnd Z φ1 S1 H1) a b → Q b H1) : Want X.K X.mg R Z φ S H r Q E := by
  cases r with
  | ok a S1 => exact fun b φ1 H1 r1 e1 d => f a S1 b φ1 H1 rfl r1 e1 d
  | _ => exact absurd rfl hn
theorem want_ns {α β γ δ : Type} {Z φ : List Addr} {S : Store} {H : Hp} {R : List Addr → Hp → γ → δ → Prop} {r : Res α} {k : α → Store → Res γ} {Q : δ → Hp → Prop} {E : XK} (w : Want X.K X.mg R Z φ S H (r.noEx.bind k) Q E) : r.noEx ≠ .stuck := fun z => by
  rw [z] at w
  exact w
theorem isE_lc {fi : FI} {is : List Nat} {m : FG} {ft : FT} {fe : FE} {own : List Nat} {fin : Fin'} (hf : FinOk fin) (hio : ∀ i ∈ is, i ∈ own) :
    IsE X W (tLc (tDI X.K X.mg W fi) (tG X.K X.mg is m) (tDT X.K X.mg W0 ft) (tD X.K X.mg W0 fe) own) (fComp fi m ft fe own fin) := fun Z φ S ρ σ H Q R sl w => by
  have wi : WantI X.K X.mg Z φ S H (fi ρ S) (fun J H1 => ∀ D, H1 D = none → ∃ W : Nat → Nat → Hp → Prop, (∃ m, W 0 m (upd H1 D (.lst []))) ∧ ∀ i mm H, W i mm H →
      (J.stop i H ∧ Q (.ref D) H) ∨ (J.go i H ∧ ∃ Nx : Hp → Prop, (∀ H', Nx H' → ∃ m', m' < mm ∧ W (i + 1) m' H') ∧ ∀ x H', J.yld i H x H' → tG X.K X.mg is m x (wipe σ own) H' fun σ2 H2 => wipe σ2 own = wipe σ own ∧ tDT X.K X.mg W0 ft σ2 H2 fun b H3 =>
        if b = true then tD X.K X.mg W0 fe σ2 H3 fun y H4 => ∃ acc, H4 D = some (.lst acc) ∧ acc.length < sizeLine ∧ Nx (upd H4 D (.lst (acc ++ [y]))) else Nx H3)) (WE W σ) := by
    have aux : ∀ it S1 J φ1 H1, Rel X.K X.mg Z φ1 S1 H1 → Evo Z φ S H φ1 S1 H1 → RI X.K X.mg Z φ1 S1 H1 it J → Want X.K X.mg (RDat X.K X.mg) Z φ1 S1 H1 ((compF it.chk m ft fe it.items (wipeD ρ own) S1).bind fin) Q (WE W σ) →
        ∀ D, H1 D = none → ∃ W : Nat → Nat → Hp → Prop, (∃ m, W 0 m (upd H1 D (.lst []))) ∧ ∀ i mm H, W i mm H →
      (J.stop i H ∧ Q (.ref D) H) ∨ (J.go i H ∧ ∃ Nx : Hp → Prop, (∀ H', Nx H' → ∃ m', m' < mm ∧ W (i + 1) m' H') ∧ ∀ x H', J.yld i H x H' → tG X.K X.mg is m x (wipe σ own) H' fun σ2 H2 => wipe σ2 own = wipe σ own ∧ tDT X.K X.mg W0 ft σ2 H2 fun b H3 =>
        if b = true then tD X.K X.mg W0 fe σ2 H3 fun y H4 => ∃ acc, H4 D = some (.lst acc) ∧ acc.length < sizeLine ∧ Nx (upd H4 D (.lst (acc ++ [y]))) else Nx H3) := by
      intro it S1 J φ1 H1 R1 E1 rj w1 p hp
      have pZ : p ∉ Z := fun q => R1.zh p q hp
      let Inv' : Nat → Hp → Prop := fun i H' => ∃ φ' S' acc vs, Rel X.K X.mg (p :: Z) φ' S' H' ∧ Evo Z φ1 S1 H1 φ' S' H' ∧ H' p = some (.lst vs) ∧ DatL X.K X.mg φ' (gnd (p :: Z) φ' S' H') acc vs ∧
        Want X.K X.mg (RDat X.K X.mg) Z φ1 S1 H1 ((compF it.chk m ft fe (it.items.drop i) (wipeD ρ own) S').bind fun ys S => fin (acc ++ ys) S) Q (WE W σ)
      refine ⟨fun i n H' => n = it.items.length - i ∧ i ≤ it.items.length ∧ Inv' i H', ⟨_, rfl, Nat.zero_le _, φ1, S1, [], [], R1.hidden hp, ?_, upd_same, DatL.nil, w1⟩, ?_⟩
      · exact (Evo.refl (Z := Z) (φ := φ1) (S := S1) (H := H1)).hidMut hp
      rintro i n H2 ⟨rfl, hle, φ2, S2, acc, vs, R2, E2, hH2, dv, w2⟩
      have slw : Slots X.K X.mg φ2 (gnd (p :: Z) φ2 S2 H2) (wipeD ρ own) (wipe σ own) := by
        refine slots_wipe ⟨sl.1, fun j d q => ?_⟩ own
        obtain ⟨u, h1, h2⟩ := sl.2 j d q
        exact ⟨u, h1, Dat.mono (E1.pre.trans E2.pre) (E1.ext.trans (E2.hideExt hp)) _ _ h2⟩
      by_cases hlt : i < it.items.length
      · obtain ⟨d, hd⟩ : ∃ d, it.items[i]? = some d := ⟨_, List.getElem?_eq_getElem hlt⟩
        have hdr : it.items.drop i = d :: it.items.drop (i + 1) := by
          rw [List.drop_eq_getElem_cons hlt]
          congr 1
          rw [List.getElem?_eq_getElem hlt] at hd
          exact Option.some.inj hd
        rw [hdr] at w2
        unfold compF at w2
        by_cases hc : okC it.chk S2
        · rw [if_pos hc] at w2
          have rr := (rj i (p :: Z) φ2 S2 H2 (fun _ h => List.mem_cons_of_mem _ h) R2 E2.pre (E2.hideExt hp) hc).1 d hd
          refine .inr ⟨rr.1, Inv' (i + 1), fun H' hN => ⟨_, by omega, rfl, hlt, hN⟩, fun x H3 y => ?_⟩
          obtain ⟨R3, E3, d3⟩ := rr.2 x H3 y
          cases hm : m d (wipeD ρ own) S2 with
          | none => rw [hm] at w2; exact w2.elim
          | some ρ3 =>
            simp only [hm] at w2
            refine ⟨p :: Z, φ2, S2, wipeD ρ own, d, ρ3, R3, slw.evo E3, d3, hm, fun σ3 sl3 hw => ⟨?_, p :: Z, φ2, S2, ρ3, R3, sl3, ?_⟩⟩
            · rw [hw own hio]
              have ww : ∀ vs : List Nat, (∀ i ∈ vs, i ∈ own) → wipe (wipe σ own) vs = wipe σ own := by
                intro vs
                induction vs with
                | nil => intro _; rfl
                | cons v vs ih =>
                  intro hv
                  show (wipe (wipe σ own) vs).set v none = wipe σ own
                  rw [ih fun i hi => hv i (List.mem_cons_of_mem _ hi)]
                  have hv' := hv v List.mem_cons_self
                  have gen : ∀ own : List Nat, v ∈ own → (wipe σ own).set v none = wipe σ own := by
                    intro own
                    induction own with
                    | nil => intro h; simp at h
                    | cons u us ih2 =>
                      intro h
                      unfold wipe
                      by_cases hu : v = u
                      · subst hu
                        rw [List.set_set]
                      · rw [List.set_comm _ _ (fun z => hu z.symm), ih2 ((List.mem_cons.mp h).resolve_left hu)]
                  exact gen own hv'
              exact ww own fun _ h => h
            have ev2 : Evo Z φ1 S1 H1 φ2 S2 H3 := E2.hide hp E3
            have stuckT : (ft ρ3 S2).noEx ≠ .stuck := fun z => by
              rw [z] at w2
              exact w2
            refine Want.noEx stuckT fun b S4 b' φ4 H4 hb R4 E4 eb => ?_
            cases eb
            rw [hb] at w2
            simp only [Res.noEx_ok, Res.bind_ok] at w2
            have ev4 := ev2.hide hp E4
            have hp3 : H3 p = some (.lst vs) := E3.out p _ hH2 fun q => R2.zd p (liveA_sub q) List.mem_cons_self
            have hp4 : H4 p = some (.lst vs) := E4.out p _ hp3 fun q => R3.zd p (liveA_sub q) List.mem_cons_self
            have dv4 := DatL.evo E4 (DatL.evo E3 dv)
            cases b with
            | false =>
              exact iteF ⟨φ4, S4, acc, vs, R4, ev4, hp4, dv4, w2⟩
            | true =>
              simp only [if_true] at w2
              refine iteT ⟨p :: Z, φ4, S4, ρ3, R4, sl3.evo E4, ?_⟩
              have stuckE : (fe ρ3 S4).noEx ≠ .stuck := fun z => by
                rw [z] at w2
                exact w2
              refine Want.noEx stuckE fun yd S5 yv φ5 H5 hy R5 E5 dy => ?_
              rw [hy] at w2
              simp only [Res.noEx_ok, Res.bind_ok] at w2
              have hp5 : H5 p = some (.lst vs) := E5.out p _ hp4 fun q => R4.zd p (liveA_sub q) List.mem_cons_self
              have dv5 := DatL.evo E5 dv4
              obtain ⟨R6, eg⟩ := R5.hidMut (o := .lst (vs ++ [yv]))
              have w3 : Want X.K X.mg (RDat X.K X.mg) Z φ1 S1 H1 ((compF it.chk m ft fe (it.items.drop (i + 1)) (wipeD ρ own) S5).bind fun ys S => fin ((acc ++ [yd]) ++ ys) S) Q (WE W σ) := by
                cases hq : compF it.chk m ft fe (it.items.drop (i + 1)) (wipeD ρ own) S5 with
                | ok ys S7 =>
                  rw [hq] at w2
                  simp only [Res.bind_ok] at w2 ⊢
                  rw [List.append_assoc]
                  exact w2
                | _ => rw [hq] at w2; exact w2
              refine ⟨vs, hp5, ?_, φ5, S5, acc ++ [yd], vs ++ [yv], R6, (ev4.hide hp E5).hidMut hp, upd_same, by rw [eg]; exact dv5.append (.cons dy DatL.nil), w3⟩
              cases hq : compF it.chk m ft fe (it.items.drop (i + 1)) (wipeD ρ own) S5 with
              | ok ys S7 =>
                rw [hq] at w3
                have ns : fin ((acc ++ [yd]) ++ ys) S7 ≠ .stuck := fun z => by
                  simp only [Res.bind_ok, z] at w3
                  exact w3
                have hl := hf.1 _ _ ns
                rw [dv5.length]
                simp only [List.length_append, List.length_singleton] at hl
                omega
              | ex C fs S7 =>
                exfalso
                have : ∀ (ds : List D) (ρ : EnvD) (S : Store) C fs S', compF it.chk m ft fe ds ρ S ≠ .ex C fs S' := by
                  intro ds
                  induction ds with
                  | nil =>
                    intro ρ S C fs S' z
                    unfold compF at z
                    split at z <;> cases z
                  | cons d ds ih =>
                    intro ρ S C fs S' z
                    unfold compF at z
                    split at z
                    · split at z
                      · rename_i ρ1 _
                        cases h1 : ft ρ1 S with
                        | ok b S2 =>
                          rw [h1] at z
                          simp only [Res.noEx_ok, Res.bind_ok] at z
                          cases b with
                          | false => exact ih _ _ _ _ _ z
                          | true =>
                            simp only [if_true] at z
                            cases h2 : fe ρ1 S2 with
                            | ok y S3 =>
                              rw [h2] at z
                              simp only [Res.noEx_ok, Res.bind_ok] at z
                              cases h3 : compF it.chk m ft fe ds ρ S3 with
                              | ex _ _ _ => exact ih _ _ _ _ _ h3
                              | _ => rw [h3] at z; cases z
                            | _ => rw [h2] at z; cases z
                        | _ => rw [h1] at z; cases z
                      · cases z
                    · cases z
                exact this _ _ _ _ _ _ hq
              | stuck =>
                rw [hq] at w3
                exact w3.elim
        · rw [if_neg hc] at w2
          exact w2.elim
      · have e : i = it.items.length := by omega
        subst e
        rw [List.drop_length] at w2
        unfold compF at w2
        by_cases hc : okC it.chk S2
        · rw [if_pos hc] at w2
          simp only [Res.bind_ok, List.append_nil] at w2
          exact .inl ⟨(rj _ (p :: Z) φ2 S2 H2 (fun _ h => List.mem_cons_of_mem _ h) R2 E2.pre (E2.hideExt hp) hc).2 (Nat.le_refl _), hf.2 X.K X.mg Z φ1 φ2 S1 S2 H1 H2 p acc vs Q _ R2 E2 hp pZ hH2 dv w2⟩
        · rw [if_neg hc] at w2
          exact w2.elim
    unfold fComp at w
    cases hr : fi ρ S with
    | ok it S1 =>
      rw [hr] at w
      exact fun J φ1 H1 R1 E1 rj => aux it S1 J φ1 H1 R1 E1 rj (w.go E1)
    | ex C fs S1 => rw [hr] at w; exact w
    | stuck => rw [hr] at w; exact w
  exact ⟨Z, φ, S, ρ, R, sl, wi⟩

/-! tests of a comprehension -/
def DTs (X : Cx) (W : WX) (ifs : List Expr) (ft : FT) : Prop := PTs X ifs (tDT X.K X.mg W ft)
def fYes : FT := fun _ S => .ok true S
theorem dts_nil : DTs X W [] fYes := ⟨fun pins s σ H Q I h => by
  obtain ⟨Z, φ, S, ρ, R, sl, w⟩ := h
  exact pts_nil.run pins s σ H Q I (w.now R rfl)⟩
theorem dts_one {c : Expr} {ft : FT} (h : DT X W c ft) : DTs X W [c] ft := pts_one h
theorem Cn.blk (C : Cn X W k) {s : Shared} {H : Hp} {scope : Scope} {ce : Env} {fp : List Addr} : Cn (X.blk s H scope ce fp) W0 k :=
  ⟨C.room, C.gd, C.calm, C.nd, PassesOwn.never, takes0⟩
theorem de_lc (C : Cn X W k) {fin : Fin'} (hf : FinOk fin) {elt tg iter : Expr} {ifs : List Expr} {scope : Scope} {own : List (Str × Nat)} {pos : Pos} {fi : FI} {is : List Nat} {m : FG} {ft : FT} {fe : FE} (hi : DI X W tg iter fi) (ok : BlkOk X.N X.env.scope scope own)
    (hg : ∀ (s : Shared) (H : Hp) (C : Addr) (cl : List (Str × Addr)) (fp : List Addr), DG (X.blk s H scope (compEnvC scope cl C X.env) fp) tg is m) (ht : ∀ (s : Shared) (H : Hp) (C : Addr) (cl : List (Str × Addr)) (fp : List Addr), DTs (X.blk s H scope (compEnvC scope cl C X.env) fp) W0 ifs ft)
    (he : ∀ (s : Shared) (H : Hp) (C : Addr) (cl : List (Str × Addr)) (fp : List Addr), DE (X.blk s H scope (compEnvC scope cl C X.env) fp) W0 elt fe) (hio : ∀ i ∈ is, i ∈ own.map (·.2) := by decide) (hs : ∀ x, foldedSetIterable iter X.env x = pure x := by intro _; rfl) :
    DE X W (.ListComp elt [⟨tg, iter, ifs, 0⟩] scope pos) (fComp fi m ft fe (own.map (·.2)) fin) :=
  .mk (pe_lc (g := tG X.K X.mg is m) (tt := tDT X.K X.mg W0 ft) (te := tD X.K X.mg W0 fe) C.calm C.nd hi ok hg ht he hs) (isE_lc hf hio)
theorem ds_setOf {t : TE} {fe : FE} {e : Expr} {x : Str} {i : Nat} {pos pos' : Pos} (p : PS X (.Assign [.Name x pos'] e pos) (tAsg t (L2.gName i))) (q : IsE X W t fe) : DS X W (.Assign [.Name x pos'] e pos) (gSet i fe) :=
  .mk p fun Z φ S ρ σ H Dd R sl w => q Z φ S ρ σ H _ R sl (w.into sl fun d S1 v φ1 H1 R1 E1 dd w1 => w1 _ φ1 H1 R1 Evo.refl ((sl.evo E1).set dd))
theorem ds_setLc (C : Cn X W k) {fin : Fin'} (hf : FinOk fin) {i : Nat} {y : Str} {py spos : Pos} {elt tg iter : Expr} {ifs : List Expr} {scope : Scope} {own : List (Str × Nat)} {pos : Pos} {fi : FI} {is : List Nat} {m : FG} {ft : FT} {fe : FE} (hy : X.N[i]? = some y) (hyl : X.env.scope.names.lookup y = some .local)
    (hsw : swapsWith (.ListComp elt [⟨tg, iter, ifs, 0⟩] scope pos) (some (.Name y py)) spos.line X.env = pure true) (hi : DI X W tg iter fi) (ok : BlkOk X.N X.env.scope scope own)
    (hg : ∀ (s : Shared) (H : Hp) (C : Addr) (cl : List (Str × Addr)) (fp : List Addr), DG (X.blk s H scope (compEnvC scope cl C X.env) fp) tg is m) (ht : ∀ (s : Shared) (H : Hp) (C : Addr) (cl : List (Str × Addr)) (fp : List Addr), DTs (X.blk s H scope (compEnvC scope cl C X.env) fp) W0 ifs ft)
    (he : ∀ (s : Shared) (H : Hp) (C : Addr) (cl : List (Str × Addr)) (fp : List Addr), DE (X.blk s H scope (compEnvC scope cl C X.env) fp) W0 elt fe) (hio : ∀ i ∈ is, i ∈ own.map (·.2) := by decide) (hs : ∀ x, foldedSetIterable iter X.env x = pure x := by intro _; rfl) :
    DS X W (.Assign [.Name y py] (.ListComp elt [⟨tg, iter, ifs, 0⟩] scope pos) spos) (gSet i (fComp fi m ft fe (own.map (·.2)) fin)) :=
  ds_setOf (ps_setLc (g := tG X.K X.mg is m) (tt := tDT X.K X.mg W0 ft) (te := tD X.K X.mg W0 fe) C.calm C.nd hy hyl hsw hi ok hg ht he hs) (isE_lc hf hio)
end

/-! ### defs -/
/-- a def's promise; what is under way around it is known -/
structure FnG (P : Program) (w : World) (K : PySem.W.Frag) (mg : Str → Option Value) (base : Heap) (k : Nat) (f : Addr) (fd : FuncData) (ps : List Str) (sp : Sp) : Prop where
  len : ∀ vs H Q E, sp vs H Q E → vs.length = ps.length
  run : ∀ (A : Around) (outer : List Env) (s : Shared) (H : Hp) (args : Args) (us : List Value) (vs : List V) (Q : VK) (E : XK), Room k A → A.guards = some [] → Env0 P w K mg base A outer s H → BindsTo s fd args (ps.zip us) → Vals vs us → sp vs H Q E →
    codeAny (model P w) A (.call (.ref f) args) (CR (L2.CX P w) outer P w H s Q E) s
abbrev Sem' := List D → Store → Res D
def spD (K : PySem.W.Frag) (mg : Str → Option Value) (n : Nat) (sem : Sem') : Sp := fun vs H Q E => vs.length = n ∧ ∃ Z φ S ds, Rel K mg Z φ S H ∧ DatL K mg φ (gnd Z φ S H) ds vs ∧ Want K mg (RDat K mg) Z φ S H (sem ds S) Q E
def startD (n : Nat) (ds : List D) : EnvD := ds.map some ++ List.replicate (n - ds.length) none
def Out.res (o : Out) : Res D := match o with
  | .nx _ S => .ok .non S
  | .rt d S => .ok d S
  | .ex C fs _ S => .ex C fs S
  | _ => .stuck
def semOf (n : Nat) (g : FS) : Sem' := fun ds S => (g (startD n ds) S).res
theorem slots_start {K : PySem.W.Frag} {mg : Str → Option Value} {φ : List Addr} {G : Hp} {N : List Str} {ds : List D} {vs : List V} (h : DatL K mg φ G ds vs) : Slots K mg φ G (startD N.length ds) (L2.start N vs) := by
  have hl := h.length
  unfold startD L2.start
  rw [hl]
  refine ⟨by simp [hl], fun i d q => ?_⟩
  by_cases hi : i < ds.length
  · rw [List.getElem?_append_left (by simpa using hi), List.getElem?_map] at q
    cases hq : ds[i]? with
    | none => rw [hq] at q; cases q
    | some e =>
      rw [hq] at q
      cases q
      obtain ⟨v, h1, h2⟩ := h.get hq
      exact ⟨v, by rw [List.getElem?_append_left (by simpa [hl] using hi), List.getElem?_map, h1]; rfl, h2⟩
  · rw [List.getElem?_append_right (by simpa using hi), List.getElem?_replicate] at q
    split at q <;> cases q
/-- THE RULE: a def by its body's mirror -/
theorem fnG {P : Program} {w : World} {K : PySem.W.Frag} {mg : Str → Option Value} {base : Heap} {x qual : Str} {params : Arguments} {body : List Stmt} {scope : Scope} {dvs : List V} {kws : List (Str × V)} {f : Addr} {fd : FuncData} {N ps : List Str} {k : Nat} {g : FS}
    (F : FunD K x qual params body scope dvs kws f fd) (S : FnScope N ps scope)
    (hb : ∀ (cdv : Value) (A : Around) (outer : List Env) (s : Shared) (H : Hp) (E : XK), Cn (cxOf (L2.CX P w) P w K mg base N qual scope f cdv A outer s H E) (fun c d _ H' => E c d H') k →
      DSs (cxOf (L2.CX P w) P w K mg base N qual scope f cdv A outer s H E) (fun c d _ H' => E c d H') body g) : FnG P w K mg base (k + 1) f fd ps (spD K mg ps.length (semOf N.length g)) := by
  obtain ⟨oc, od, dV, kV, doc, pm, an, cdv, ct, osl, rfl, lk, hcd, _, _⟩ := F.ex
  refine ⟨fun vs H Q E h => h.1, fun A outer s H args us vs Q E hr hgd e0 hbd r hsp => ?_⟩
  have hl : us.length = ps.length := r.length.symm.trans hsp.1
  have keep : ∀ b o, base.get? b = some o → s.heap.get? b = some o := fun b o e => (e0.bs b o e).1
  have inK : K.In s.heap := e0.mod.kin.keeps keep
  have par : ∀ y ∈ ps.zip us, scope.names.lookup y.1 = some .local ∨
      (scope.names.lookup y.1 = some .cell ∧ ((cellsFrom (s.heap.objs.size + 1) scope.names []).lookup y.1).isSome = true) := by
    rintro ⟨n, v⟩ hy
    exact (S.par n (List.of_mem_zip hy).1).imp id fun q => ⟨q, PySem.W.cellsFrom_some _ _ _ (.inl q)⟩
  refine codeAny_call_function hr.depth (inK _ _ lk) rfl S.co S.gen rfl
    (PySem.W.codeRec_of inK hcd) (hbd _ _ _ _ ?_)
  refine wpAny_newFunctionEnv_cells S.kind par fun env he s1 entered => ?_
  subst he
  refine ⟨(e0.mod.nolimit.keeps keep).keeps entered.toInCall.keep, codeAny_func ?_⟩
  -- the body's own context
  have body' := hb cdv A outer s H E ⟨hr.deeper _, hgd, rfl, S.nd, passes_of rfl, takes_of rfl rfl rfl rfl⟩
  obtain ⟨hlen, Z, φ, S0, ds, R, dl, w0⟩ := hsp
  have I0 := inv_start (CX := L2.CX P w) (mg := mg) (base := base) (cd := cdv) (qual := qual) (f := f) (E := E) S hr.hd e0 hlen r entered
  have q0 : tDS (cxOf (L2.CX P w) P w K mg base N qual scope f cdv A outer s H E) (fun c d _ H' => E c d H') g { nx := fun _ H' => Q .non H', rt := Q } (L2.start N vs) H := by
    refine ⟨Z, φ, S0, startD N.length ds, R, slots_start dl, ?_⟩
    unfold semOf at w0
    cases hg : g (startD N.length ds) S0 with
    | nx ρ S1 =>
      rw [hg] at w0
      exact fun σ φ1 H1 R1 E1 _ => w0 .non φ1 H1 R1 E1 (by unfold RDat Dat; rfl)
    | rt d S1 =>
      rw [hg] at w0
      exact w0
    | ex C fs ρ S1 =>
      rw [hg] at w0
      exact fun A1 dx σ φ1 H1 m R1 E1 _ x => w0 A1 dx φ1 H1 m R1 E1 x
    | _ =>
      rw [hg] at w0
      exact w0.elim
  refine wpAny_mono (PSs.run body' [] s1 (L2.start N vs) H _ I0 q0) (fun fl s' hs => ?_) fun _ _ z => z
  have fin : ∀ {σ' : L2.St} {H' : Hp} {v : V} {u : Value}, Inv (cxOf (L2.CX P w) P w K mg base N qual scope f cdv A outer s H E) [] σ' H' s' → RelV v u →
      Q v H' → CE outer P w H s Q u s' := fun J rv q => ⟨_, _, J.os, J.bare, J.base, J.hok, rv, q⟩
  cases fl with
  | ret u =>
    obtain ⟨v, σ', H', J, rv, q⟩ := hs
    exact fin J rv q
  | next =>
    obtain ⟨σ', H', J, q⟩ := hs
    exact fin (v := .non) J rfl q
  | brk => exact hs.choose_spec.choose_spec.2.elim
  | cont => exact hs.choose_spec.choose_spec.2.elim
end DL

/-! The data layer, part 6: calls. -/
namespace DL
open PySem L2

/-! ### data without objects of the store -/
mutual
def D.pure : D → Bool
  | .oid _ => false
  | .tup ds => pureL ds
  | .lst ds => pureL ds
  | .scr ds => pureL ds
  | .dic ks => pureK ks
  | .ins _ fs => pureF fs
  | .exc _ fs => pureF fs
  | _ => true
def pureL : List D → Bool
  | [] => true
  | d :: ds => d.pure && pureL ds
def pureK : List (Key × D) → Bool
  | [] => true
  | (_, d) :: ds => d.pure && pureK ds
def pureF : List (Str × D) → Bool
  | [] => true
  | (_, d) :: ds => d.pure && pureF ds
end
section
variable {K : PySem.W.Frag} {mg : Str → Option Value} {φ φ' : List Addr} {G : Hp}
mutual
theorem Dat.pure : ∀ {d : D} {v : V}, d.pure = true → Dat K mg φ G d v → Dat K mg φ' G d v
  | .non, _, _, h => h
  | .bl _, _, _, h => h
  | .int _, _, _, h => h
  | .str _, _, _, h => h
  | .ty _, _, _, h => h
  | .tup ds, _, p, h => by
    unfold Dat at h ⊢
    unfold D.pure at p
    obtain ⟨a, vs, rfl, h1, h2⟩ := h
    exact ⟨a, vs, rfl, h1, DatL.pure p h2⟩
  | .lst ds, _, p, h => by
    unfold Dat at h ⊢
    unfold D.pure at p
    obtain ⟨a, vs, rfl, h1, h2⟩ := h
    exact ⟨a, vs, rfl, h1, DatL.pure p h2⟩
  | .scr ds, _, p, h => by
    unfold Dat at h ⊢
    unfold D.pure at p
    obtain ⟨a, vs, rfl, h1, h2⟩ := h
    exact ⟨a, vs, rfl, h1, DatL.pure p h2⟩
  | .cls c, _, _, h => by
    unfold Dat at h ⊢
    exact h
  | .dic ks, _, p, h => by
    unfold Dat at h ⊢
    unfold D.pure at p
    obtain ⟨a, vs, rfl, h1, h2⟩ := h
    exact ⟨a, vs, rfl, h1, DatK.pure p h2⟩
  | .ins C fs, _, p, h => by
    unfold Dat at h ⊢
    unfold D.pure at p
    obtain ⟨a, A, dx, fvs, rfl, h0, h1, h2⟩ := h
    exact ⟨a, A, dx, fvs, rfl, h0, h1, DatF.pure p h2⟩
  | .oid n, _, p, h => by
    unfold D.pure at p
    cases p
  | .exc C fs, _, p, h => by
    unfold Dat at h ⊢
    unfold D.pure at p
    obtain ⟨a, A, dx, rfl, h0, h1, h2⟩ := h
    exact ⟨a, A, dx, rfl, h0, h1, h2.imp id fun ⟨z, b, fvs, q0, q1, q2⟩ => ⟨z, b, fvs, q0, q1, DatF.pure p q2⟩⟩
theorem DatL.pure : ∀ {ds : List D} {vs : List V}, pureL ds = true → DatL K mg φ G ds vs → DatL K mg φ' G ds vs
  | [], _, _, h => by
    unfold DatL at h ⊢
    exact h
  | d :: ds, _, p, h => by
    unfold DatL at h ⊢
    unfold pureL at p
    rw [Bool.and_eq_true] at p
    obtain ⟨v, r, rfl, h1, h2⟩ := h
    exact ⟨v, r, rfl, Dat.pure p.1 h1, DatL.pure p.2 h2⟩
theorem DatK.pure : ∀ {ds : List (Key × D)} {vs : List (Key × V)}, pureK ds = true → DatK K mg φ G ds vs → DatK K mg φ' G ds vs
  | [], _, _, h => by
    unfold DatK at h ⊢
    exact h
  | (k, d) :: ds, _, p, h => by
    unfold DatK at h ⊢
    unfold pureK at p
    rw [Bool.and_eq_true] at p
    obtain ⟨v, r, rfl, h1, h2⟩ := h
    exact ⟨v, r, rfl, Dat.pure p.1 h1, DatK.pure p.2 h2⟩
theorem DatF.pure : ∀ {ds : List (Str × D)} {vs : List (Str × V)}, pureF ds = true → DatF K mg φ G ds vs → DatF K mg φ' G ds vs
  | [], _, _, h => by
    unfold DatF at h ⊢
    exact h
  | (k, d) :: ds, _, p, h => by
    unfold DatF at h ⊢
    unfold pureF at p
    rw [Bool.and_eq_true] at p
    obtain ⟨v, r, rfl, h1, h2⟩ := h
    exact ⟨v, r, rfl, Dat.pure p.1 h1, DatF.pure p.2 h2⟩
end
end
def SO.pure : SO → Bool
  | .lst ds => pureL ds
  | .dic ks => pureK ks
  | .ins _ fs => pureF fs
  | .frz d => d.pure
  | .tbl _ _ => false
theorem SOk.pure {K : PySem.W.Frag} {mg : Str → Option Value} {φ φ' : List Addr} {G H : Hp} {a : Addr} : ∀ {o : SO}, o.pure = true → SOk K mg φ G H a o → SOk K mg φ' G H a o
  | .lst ds, p, ⟨vs, h1, h2⟩ => ⟨vs, h1, h2.pure p⟩
  | .dic ks, p, ⟨vs, h1, h2⟩ => ⟨vs, h1, h2.pure p⟩
  | .ins C fs, p, ⟨A, dx, fvs, h0, h1, h2⟩ => ⟨A, dx, fvs, h0, h1, h2.pure p⟩
  | .frz d, p, h => Dat.pure p h
  | .tbl _ _, p, _ => nomatch p

/-! ### a call with the objects that it is handed, and no others -/
def subArgs (S : Store) : List D → Nat → Option (List D × List Nat)
  | [], _ => some ([], [])
  | .oid k :: ds, n => match S[k]? with
    | some (.frz d) => if d.pure then (subArgs S ds n).map fun q => (d :: q.1, q.2) else none
    | some o => if o.pure then (subArgs S ds (n + 1)).map fun q => (.oid n :: q.1, k :: q.2) else none
    | none => none
  | d :: ds, n => if d.pure then (subArgs S ds n).map fun q => (d :: q.1, q.2) else none
def putBack (S : Store) : List Nat → Store → Store
  | k :: ks, o :: Sc => putBack (S.set k o) ks Sc
  | _, _ => S
def subOf (S : Store) (ks : List Nat) : Store := ks.map fun k => S.getD k (.frz .non)
def callSub (sem : Sem') : Sem' := fun args S => match subArgs S args 0 with
  | some (args', ks) => if ks.Nodup then (match sem args' (subOf S ks) with
    | .ok d Sc => if d.pure && ((Sc.take ks.length).all SO.pure && decide (ks.length ≤ Sc.length)) then .ok d (putBack S ks Sc) else .stuck
    | .ex C fs Sc => if pureF fs && ((Sc.take ks.length).all SO.pure && decide (ks.length ≤ Sc.length)) then .ex C fs (putBack S ks Sc) else .stuck
    | .stuck => .stuck) else .stuck
  | none => .stuck
theorem putBack_length : ∀ (ks : List Nat) (S Sc : Store), (putBack S ks Sc).length = S.length
  | [], _, _ => by simp [putBack]
  | k :: ks, S, [] => rfl
  | k :: ks, S, o :: Sc => by unfold putBack; rw [putBack_length, List.length_set]
theorem putBack_out : ∀ (ks : List Nat) (S Sc : Store) (n : Nat), n ∉ ks → (putBack S ks Sc)[n]? = S[n]?
  | [], _, _, _, _ => by simp [putBack]
  | k :: ks, S, [], _, _ => rfl
  | k :: ks, S, o :: Sc, n, h => by
    simp only [List.mem_cons, not_or] at h
    unfold putBack
    rw [putBack_out ks _ _ n h.2, List.getElem?_set_ne (fun z => h.1 z.symm)]
theorem putBack_in : ∀ (ks : List Nat) (S Sc : Store) (j n : Nat) (o : SO), ks.Nodup → ks[j]? = some n → n < S.length → Sc[j]? = some o → (putBack S ks Sc)[n]? = some o
  | [], _, _, _, _, _, _, h, _, _ => by cases h
  | k :: ks, S, [], _, _, _, _, _, _, h => by cases h
  | k :: ks, S, u :: Sc, 0, n, o, nd, h1, h2, h3 => by
    cases h1
    cases h3
    unfold putBack
    rw [putBack_out ks _ _ _ (List.nodup_cons.mp nd).1, List.getElem?_set_self h2]
  | k :: ks, S, u :: Sc, j + 1, n, o, nd, h1, h2, h3 => by
    unfold putBack
    exact putBack_in ks _ _ j n o (List.nodup_cons.mp nd).2 h1 (by rw [List.length_set]; exact h2) h3
section
variable {K : PySem.W.Frag} {mg : Str → Option Value} {Z φ : List Addr} {S : Store} {H : Hp}
def phiOf (φ : List Addr) (ks : List Nat) : List Addr := ks.map fun k => φ.getD k 0
theorem subArgs_ok (R : Rel K mg Z φ S H) : ∀ (ds : List D) (vs : List V) (n : Nat) (ds' : List D) (ks : List Nat) (pre : List Addr), pre.length = n → subArgs S ds n = some (ds', ks) → DatL K mg φ (gnd Z φ S H) ds vs →
    DatL K mg (pre ++ phiOf φ ks) (gnd Z φ S H) ds' vs ∧ ∀ k ∈ ks, ∃ o, S[k]? = some o ∧ o.pure = true ∧ o.live = true
  | [], vs, n, ds', ks, pre, hp, e, h => by
    cases e
    unfold DatL at h
    subst h
    exact ⟨DatL.nil, fun k hk => by simp at hk⟩
  | d :: ds, vs, n, ds', ks, pre, hp, e, h => by
    obtain ⟨v, r, rfl, h1, h2⟩ := h.uncons
    have plain : ∀ d' : D, d'.pure = true → Dat K mg φ (gnd Z φ S H) d' v → (subArgs S ds n).map (fun q => (d' :: q.1, q.2)) = some (ds', ks) →
        DatL K mg (pre ++ phiOf φ ks) (gnd Z φ S H) ds' (v :: r) ∧ ∀ k ∈ ks, ∃ o, S[k]? = some o ∧ o.pure = true ∧ o.live = true := fun d' p hd q => by
      cases hq : subArgs S ds n with
      | none => rw [hq] at q; cases q
      | some t =>
        rw [hq] at q
        cases q
        obtain ⟨a, b⟩ := subArgs_ok R ds r n t.1 t.2 pre hp hq h2
        exact ⟨.cons (Dat.pure p hd) a, b⟩
    cases d with
    | oid k =>
      unfold subArgs at e
      unfold Dat at h1
      obtain ⟨a, rfl, ha⟩ := h1
      cases hS : S[k]? with
      | none => simp [hS] at e
      | some o =>
        have ok := R.ob k a o ha hS
        have live : o.live = true → (if o.pure then (subArgs S ds (n + 1)).map (fun q => (D.oid n :: q.1, k :: q.2)) else none) = some (ds', ks) →
            DatL K mg (pre ++ phiOf φ ks) (gnd Z φ S H) ds' (.ref a :: r) ∧ ∀ k ∈ ks, ∃ o, S[k]? = some o ∧ o.pure = true ∧ o.live = true := fun hl q => by
          by_cases hp' : o.pure = true
          · rw [if_pos hp'] at q
            cases hq : subArgs S ds (n + 1) with
            | none => rw [hq] at q; cases q
            | some t =>
              rw [hq] at q
              cases q
              obtain ⟨A, B⟩ := subArgs_ok R ds r (n + 1) t.1 t.2 (pre ++ [a]) (by simp [hp]) hq h2
              have ea : φ.getD k 0 = a := by rw [List.getD_eq_getElem?_getD, ha]; rfl
              have ep : pre ++ phiOf φ (k :: t.2) = (pre ++ [a]) ++ phiOf φ t.2 := by
                unfold phiOf
                rw [List.map_cons, ea, List.append_assoc]
                rfl
              rw [ep]
              refine ⟨.cons ?_ A, fun j hj => ?_⟩
              · unfold Dat
                refine ⟨a, rfl, ?_⟩
                rw [List.append_assoc, List.getElem?_append_right (by omega), hp, Nat.sub_self]
                rfl
              · rcases List.mem_cons.mp hj with z | z
                · rw [z]
                  exact ⟨o, hS, hp', hl⟩
                · exact B j z
          · rw [if_neg hp'] at q
            cases q
        rw [hS] at e
        cases o with
        | frz d' =>
          simp only at e
          by_cases p : d'.pure = true
          · rw [if_pos p] at e
            exact plain d' p ok e
          · rw [if_neg p] at e
            cases e
        | _ => exact live rfl e
    | _ =>
      unfold subArgs at e
      split at e
      · rename_i p
        exact plain _ p h1 e
      · cases e

theorem rel_get (R : Rel K mg Z φ S H) {k : Nat} {o : SO} (h : S[k]? = some o) : ∃ a, φ[k]? = some a ∧ φ.getD k 0 = a := by
  have hl := (List.getElem?_eq_some_iff.mp h).1
  refine ⟨φ[k]'(by rw [R.len]; exact hl), List.getElem?_eq_getElem _, ?_⟩
  rw [List.getD_eq_getElem?_getD, List.getElem?_eq_getElem (by rw [R.len]; exact hl)]
  rfl
/-- the hidden ones of a call -/
def hidOf (Z φ : List Addr) (S : Store) (ks : List Nat) : List Addr := Z ++ (liveA φ S).filter fun a => decide (a ∉ phiOf φ ks)
theorem phiOf_get {ks : List Nat} {j k : Nat} (h : ks[j]? = some k) : (phiOf φ ks)[j]? = some (φ.getD k 0) := by
  unfold phiOf
  rw [List.getElem?_map, h]
  rfl
theorem subOf_get {ks : List Nat} {j k : Nat} {o : SO} (h : ks[j]? = some k) (hS : S[k]? = some o) : (subOf S ks)[j]? = some o := by
  unfold subOf
  rw [List.getElem?_map, h, Option.map_some, List.getD_eq_getElem?_getD, hS]
  rfl
theorem sub_mem (R : Rel K mg Z φ S H) {ks : List Nat} (nd : ks.Nodup) (hk : ∀ k ∈ ks, ∃ o, S[k]? = some o ∧ o.pure = true ∧ o.live = true) (a : Addr) : a ∈ hidOf Z φ S ks ++ liveA (phiOf φ ks) (subOf S ks) ↔ a ∈ Z ++ liveA φ S := by
  have live_of : ∀ b, b ∈ phiOf φ ks → b ∈ liveA φ S ∧ b ∈ liveA (phiOf φ ks) (subOf S ks) := fun b hb => by
    obtain ⟨j, hj⟩ := List.getElem?_of_mem hb
    unfold phiOf at hj
    rw [List.getElem?_map] at hj
    cases hq : ks[j]? with
    | none => rw [hq] at hj; cases hj
    | some k =>
      rw [hq] at hj
      cases hj
      obtain ⟨o, h1, h2, h3⟩ := hk k (List.mem_of_getElem? hq)
      obtain ⟨a, q1, q2⟩ := rel_get R h1
      show φ.getD k 0 ∈ liveA φ S ∧ φ.getD k 0 ∈ liveA (phiOf φ ks) (subOf S ks)
      rw [q2]
      refine ⟨mem_liveA q1 h1 h3, ?_⟩
      have := phiOf_get (φ := φ) hq
      rw [q2] at this
      exact mem_liveA this (subOf_get hq h1) h3
  unfold hidOf
  constructor
  · intro h
    rcases List.mem_append.mp h with z | z
    · rcases List.mem_append.mp z with z | z
      · exact List.mem_append_left _ z
      · exact List.mem_append_right _ (List.mem_filter.mp z).1
    · exact List.mem_append_right _ (live_of a (liveA_sub z)).1
  · intro h
    rcases List.mem_append.mp h with z | z
    · exact List.mem_append_left _ (List.mem_append_left _ z)
    · by_cases q : a ∈ phiOf φ ks
      · exact List.mem_append_right _ (live_of a q).2
      · exact List.mem_append_left _ (List.mem_append_right _ (List.mem_filter.mpr ⟨z, decide_eq_true q⟩))
theorem without_congr {l l' : List Addr} (h : ∀ a, a ∈ l ↔ a ∈ l') : without l H = without l' H := by
  funext a
  unfold without
  by_cases q : a ∈ l
  · rw [if_pos q, if_pos ((h a).mp q)]
  · rw [if_neg q, if_neg fun z => q ((h a).mpr z)]
theorem nodup_map_of {α β : Type} {f : α → β} : ∀ {l : List α}, l.Nodup → (∀ x ∈ l, ∀ y ∈ l, f x = f y → x = y) → (l.map f).Nodup
  | [], _, _ => List.nodup_nil
  | a :: l, nd, h => by
    rw [List.nodup_cons] at nd
    rw [List.map_cons, List.nodup_cons]
    refine ⟨fun q => ?_, nodup_map_of nd.2 fun x hx y hy => h x (List.mem_cons_of_mem _ hx) y (List.mem_cons_of_mem _ hy)⟩
    obtain ⟨b, hb, e⟩ := List.mem_map.mp q
    have := h b (List.mem_cons_of_mem _ hb) a List.mem_cons_self e
    rw [this] at hb
    exact nd.1 hb
theorem sub_rel (R : Rel K mg Z φ S H) {ks : List Nat} (nd : ks.Nodup) (hk : ∀ k ∈ ks, ∃ o, S[k]? = some o ∧ o.pure = true ∧ o.live = true) :
    Rel K mg (hidOf Z φ S ks) (phiOf φ ks) (subOf S ks) H ∧ gnd (hidOf Z φ S ks) (phiOf φ ks) (subOf S ks) H = gnd Z φ S H := by
  have eg : gnd (hidOf Z φ S ks) (phiOf φ ks) (subOf S ks) H = gnd Z φ S H := without_congr (sub_mem R nd hk)
  have at_ : ∀ k ∈ ks, ∃ a, φ[k]? = some a ∧ φ.getD k 0 = a := fun k h => by
    obtain ⟨o, h1, _⟩ := hk k h
    exact rel_get R h1
  refine ⟨⟨by unfold phiOf subOf; rw [List.length_map, List.length_map], ?_, fun a ha => ?_, fun a ha => ?_, fun a ha => ?_, fun n a o h1 h2 => ?_⟩, eg⟩
  · unfold phiOf
    refine nodup_map_of nd fun x hx y hy e => ?_
    obtain ⟨a, q1, q2⟩ := at_ x hx
    obtain ⟨b, q3, q4⟩ := at_ y hy
    rw [q2, q4] at e
    rw [e] at q1
    exact nd_ix R.nd q1 q3
  · unfold hidOf
    intro q
    rcases List.mem_append.mp q with z | z
    · unfold phiOf at ha
      obtain ⟨k, h1, h2⟩ := List.mem_map.mp ha
      obtain ⟨b, q1, q2⟩ := at_ k h1
      rw [q2] at h2
      rw [h2] at q1
      exact R.zd a (List.mem_of_getElem? q1) z
    · exact (of_decide_eq_true (List.mem_filter.mp z).2) ha
  · unfold hidOf at ha
    rcases List.mem_append.mp ha with z | z
    · exact R.zh a z
    · exact R.ph a (liveA_sub (List.mem_filter.mp z).1)
  · unfold phiOf at ha
    obtain ⟨k, h1, h2⟩ := List.mem_map.mp ha
    obtain ⟨b, q1, q2⟩ := at_ k h1
    rw [q2] at h2
    rw [h2] at q1
    exact R.ph a (List.mem_of_getElem? q1)
  · rw [eg]
    unfold phiOf at h1
    unfold subOf at h2
    rw [List.getElem?_map] at h1 h2
    cases hq : ks[n]? with
    | none => rw [hq] at h1; cases h1
    | some k =>
      rw [hq] at h1 h2
      cases h1
      cases h2
      obtain ⟨u, e1, e2, e3⟩ := hk k (List.mem_of_getElem? hq)
      obtain ⟨b, q1, q2⟩ := rel_get R e1
      show SOk K mg (phiOf φ ks) (gnd Z φ S H) H (φ.getD k 0) (S.getD k (.frz .non))
      rw [q2, List.getD_eq_getElem?_getD, e1]
      exact (R.ob k b u q1 e1).pure e2
/-- behind the call -/
theorem sub_back (R : Rel K mg Z φ S H) {ks : List Nat} (nd : ks.Nodup) (hk : ∀ k ∈ ks, ∃ o, S[k]? = some o ∧ o.pure = true ∧ o.live = true) {φ' : List Addr} {Sc : Store} {H' : Hp}
    (R' : Rel K mg (hidOf Z φ S ks) φ' Sc H') (E : Evo (hidOf Z φ S ks) (phiOf φ ks) (subOf S ks) H φ' Sc H') (pu : (Sc.take ks.length).all SO.pure = true) (hl : ks.length ≤ Sc.length) :
    Rel K mg Z φ (putBack S ks Sc) H' ∧ Evo Z φ S H φ (putBack S ks Sc) H' ∧ Same (gnd (hidOf Z φ S ks) φ' Sc H') (gnd Z φ (putBack S ks Sc) H') := by
  obtain ⟨Rc, eg⟩ := sub_rel R nd hk
  have lenP : (phiOf φ ks).length = ks.length := by unfold phiOf; rw [List.length_map]
  have phi' : ∀ j k, ks[j]? = some k → φ'[j]? = some (φ.getD k 0) := fun j k h => pre_get E.pre (phiOf_get h)
  -- what lives in the caller's store behind the call
  have liveB : ∀ a, a ∈ liveA φ (putBack S ks Sc) → a ∈ hidOf Z φ S ks ++ liveA φ' Sc := fun a ha => by
    obtain ⟨n, o, h1, h2, h3⟩ := liveA_mem ha
    by_cases q : n ∈ ks
    · obtain ⟨j, hj⟩ := List.getElem?_of_mem q
      have hjl := (List.getElem?_eq_some_iff.mp hj).1
      have hSc : Sc[j]? = some Sc[j] := List.getElem?_eq_getElem (by omega)
      have hn : n < S.length := by
        have := (List.getElem?_eq_some_iff.mp h2).1
        rw [putBack_length] at this
        exact this
      rw [putBack_in ks S Sc j n _ nd hj hn hSc] at h2
      cases h2
      have := phi' j n hj
      rw [List.getD_eq_getElem?_getD, h1] at this
      exact List.mem_append_right _ (mem_liveA this hSc h3)
    · rw [putBack_out ks S Sc n q] at h2
      refine List.mem_append_left _ ?_
      unfold hidOf
      refine List.mem_append_right _ (List.mem_filter.mpr ⟨mem_liveA h1 h2 h3, decide_eq_true fun z => q ?_⟩)
      unfold phiOf at z
      obtain ⟨k, e1, e2⟩ := List.mem_map.mp z
      obtain ⟨u, e3, _⟩ := hk k e1
      obtain ⟨b, q1, q2⟩ := rel_get R e3
      rw [q2] at e2
      rw [e2] at q1
      have := nd_ix R.nd q1 h1
      rw [← this]
      exact e1
  have sub : Same (gnd (hidOf Z φ S ks) φ' Sc H') (gnd Z φ (putBack S ks Sc) H') := fun a o h => by
    obtain ⟨h1, h2⟩ := without_some.mp h
    refine without_some.mpr ⟨fun q => h1 ?_, h2⟩
    rcases List.mem_append.mp q with z | z
    · exact List.mem_append_left _ (List.mem_append_left _ z)
    · exact liveB a z
  have ext : Same (gnd Z φ S H) (gnd Z φ (putBack S ks Sc) H') := by
    rw [← eg]
    exact E.ext.trans sub
  have out : ∀ a o, H a = some o → a ∉ liveA φ S → H' a = some o := fun a o h n => E.out a o h fun q => n (by
    have := (sub_mem R nd hk a).mp (List.mem_append_right _ q)
    rcases List.mem_append.mp this with z | z
    · exact (Rc.zd a (liveA_sub q) (by unfold hidOf; exact List.mem_append_left _ z)).elim
    · exact z)
  have nn : ∀ a, H a ≠ none → H' a ≠ none := fun a h => by
    by_cases q : a ∈ liveA (phiOf φ ks) (subOf S ks)
    · have := liveA_sub q
      obtain ⟨t, ht⟩ := E.pre
      exact R'.ph a (by rw [← ht]; exact List.mem_append_left _ this)
    · obtain ⟨o, ho⟩ := Option.ne_none_iff_exists'.mp h
      rw [E.out a o ho q]
      exact fun z => nomatch z
  refine ⟨⟨by rw [putBack_length, R.len], R.nd, R.zd, fun a h => nn a (R.zh a h), fun a h => nn a (R.ph a h), fun n a o h1 h2 => ?_⟩,
    ⟨List.prefix_refl _, ext, out, fun a ha hn => ?_⟩, sub⟩
  · by_cases q : n ∈ ks
    · obtain ⟨j, hj⟩ := List.getElem?_of_mem q
      have hjl := (List.getElem?_eq_some_iff.mp hj).1
      have hSc : Sc[j]? = some Sc[j] := List.getElem?_eq_getElem (by omega)
      have hn : n < S.length := by
        have := (List.getElem?_eq_some_iff.mp h2).1
        rw [putBack_length] at this
        exact this
      rw [putBack_in ks S Sc j n _ nd hj hn hSc] at h2
      cases h2
      have hp := phi' j n hj
      rw [List.getD_eq_getElem?_getD, h1] at hp
      have pj : Sc[j].pure = true := List.all_eq_true.mp pu _ (by
        rw [List.mem_iff_getElem?]
        exact ⟨j, by rw [List.getElem?_take_of_lt hjl]; exact hSc⟩)
      exact ((R'.ob j a _ hp hSc).pure (φ' := φ) pj).mono (List.prefix_refl _) sub fun _ z => z
    · rw [putBack_out ks S Sc n q] at h2
      have ok := R.ob n a o h1 h2
      cases hlv : o.live with
      | false =>
        cases o with
        | frz d => exact Dat.mono (List.prefix_refl _) ext _ _ ok
        | _ => cases hlv
      | true =>
        refine ok.mono (List.prefix_refl _) ext fun ob hb => E.out a ob hb fun z => ?_
        have z' := liveA_sub z
        unfold phiOf at z'
        obtain ⟨k, e1, e2⟩ := List.mem_map.mp z'
        obtain ⟨u, e3, _⟩ := hk k e1
        obtain ⟨b, q1, q2⟩ := rel_get R e3
        rw [q2] at e2
        rw [e2] at q1
        have := nd_ix R.nd q1 h1
        rw [← this] at q
        exact q e1
  · rcases List.mem_append.mp (liveB a ha) with z | z
    · unfold hidOf at z
      rcases List.mem_append.mp z with z | z
      · exact absurd z (R.zd a (liveA_sub ha))
      · exact (List.mem_filter.mp z).1
    · have := E.lv a z hn
      have := (sub_mem R nd hk a).mp (List.mem_append_right _ this)
      rcases List.mem_append.mp this with z | z
      · exact absurd z (R.zd a (liveA_sub ha))
      · exact z
end

/-- how a call may be reckoned -/
def CallOk (K : PySem.W.Frag) (mg : Str → Option Value) (n : Nat) (sem cs : Sem') : Prop := ∀ Z φ S H ds vs (Q : VK) (E : XK), vs.length = n → Rel K mg Z φ S H → DatL K mg φ (gnd Z φ S H) ds vs → Want K mg (RDat K mg) Z φ S H (cs ds S) Q E → spD K mg n sem vs H Q E
theorem callOk_share {K : PySem.W.Frag} {mg : Str → Option Value} {n : Nat} {sem : Sem'} : CallOk K mg n sem sem := fun Z φ S H ds vs Q E hl R d w => ⟨hl, Z, φ, S, ds, R, d, w⟩
theorem callOk_sub {K : PySem.W.Frag} {mg : Str → Option Value} {n : Nat} {sem : Sem'} : CallOk K mg n sem (callSub sem) := fun Z φ S H ds vs Q E hl R d w => by
  unfold callSub at w
  cases hs : subArgs S ds 0 with
  | none => rw [hs] at w; exact w.elim
  | some t =>
    obtain ⟨ds', ks⟩ := t
    rw [hs] at w
    simp only at w
    by_cases nd : ks.Nodup
    · rw [if_pos nd] at w
      obtain ⟨d', hk⟩ := subArgs_ok R ds vs 0 ds' ks [] rfl hs d
      rw [List.nil_append] at d'
      obtain ⟨Rc, eg⟩ := sub_rel R nd hk
      refine ⟨hl, hidOf Z φ S ks, phiOf φ ks, subOf S ks, ds', Rc, by rw [eg]; exact d', ?_⟩
      cases hr : sem ds' (subOf S ks) with
      | ok r Sc =>
        rw [hr] at w
        simp only at w
        by_cases c : (r.pure && ((Sc.take ks.length).all SO.pure && decide (ks.length ≤ Sc.length))) = true
        · rw [if_pos c] at w
          simp only [Bool.and_eq_true, decide_eq_true_eq] at c
          intro v φ' H' R' E' dv
          obtain ⟨a, b, s⟩ := sub_back R nd hk R' E' c.2.1 c.2.2
          exact w v φ H' a b (Dat.mono (List.prefix_refl _) s _ _ (Dat.pure c.1 dv))
        · rw [if_neg c] at w
          exact w.elim
      | ex C fs Sc =>
        rw [hr] at w
        simp only at w
        by_cases c : (pureF fs && ((Sc.take ks.length).all SO.pure && decide (ks.length ≤ Sc.length))) = true
        · rw [if_pos c] at w
          simp only [Bool.and_eq_true, decide_eq_true_eq] at c
          intro A dx φ' H' m R' E' x
          obtain ⟨a, b, s⟩ := sub_back R nd hk R' E' c.2.1 c.2.2
          refine w A dx φ H' m a b ?_
          rcases x with x | ⟨x0, e, fvs, x1, x2, x3⟩
          · exact .inl x
          · exact .inr ⟨x0, e, fvs, x1, s _ _ x2, DatF.mono (List.prefix_refl _) s _ _ (DatF.pure c.1 x3)⟩
        · rw [if_neg c] at w
          exact w.elim
      | stuck =>
        rw [hr] at w
        exact w.elim
    · rw [if_neg nd] at w
      exact w.elim
end DL

/-! The data layer, part 7: bindings, calls of defs, methods, classes, attributes, raise, the law's end. -/
namespace DL
open PySem L2

/-! ### how arguments come to parameters -/
def src {α : Type} (a : Nat) (us ws ms : List α) : List α := match a with
  | 0 => us
  | 1 => ws
  | _ => ms
def pick {α : Type} (sel : List (Nat × Nat)) (us ws ms : List α) : List α := sel.filterMap fun s => (src s.1 us ws ms)[s.2]?
theorem pick_vals {vs zs ms : List V} {us ws mv : List Value} (h1 : Vals vs us) (h2 : Vals zs ws) (h3 : Vals ms mv) : ∀ {sel : List (Nat × Nat)}, Vals (pick sel vs zs ms) (pick sel us ws mv)
  | [] => .nil
  | (a, i) :: sel => by
    have r := pick_vals h1 h2 h3 (sel := sel)
    have q : Vals (src a vs zs ms) (src a us ws mv) := by
      unfold src
      split
      · exact h1
      · exact h2
      · exact h3
    unfold pick
    rw [List.filterMap_cons, List.filterMap_cons]
    cases hx : (src a vs zs ms)[i]? with
    | none =>
      rw [q.none_of hx]
      exact r
    | some v =>
      obtain ⟨u, e1, e2⟩ := q.get hx
      rw [e1]
      exact .cons e2 r
theorem pick_dat {K : PySem.W.Frag} {mg : Str → Option Value} {φ : List Addr} {G : Hp} {ds es ms : List D} {vs zs mv : List V} (h1 : DatL K mg φ G ds vs) (h2 : DatL K mg φ G es zs) (h3 : DatL K mg φ G ms mv) : ∀ {sel : List (Nat × Nat)}, DatL K mg φ G (pick sel ds es ms) (pick sel vs zs mv)
  | [] => DatL.nil
  | (a, i) :: sel => by
    have r := pick_dat h1 h2 h3 (sel := sel)
    have q : DatL K mg φ G (src a ds es ms) (src a vs zs mv) := by
      unfold src
      split
      · exact h1
      · exact h2
      · exact h3
    unfold pick
    rw [List.filterMap_cons, List.filterMap_cons]
    cases hx : (src a ds es ms)[i]? with
    | none =>
      have e : (src a vs zs mv)[i]? = none := by
        rw [List.getElem?_eq_none_iff] at hx ⊢
        rw [q.length]
        exact hx
      rw [e]
      exact r
    | some v =>
      obtain ⟨u, e1, e2⟩ := q.get hx
      rw [e1]
      exact .cons e2 r
structure KB (K : PySem.W.Frag) (fd : FuncData) (ps : List Str) (n : Nat) (ks : List Str) (gD : List D → List D → List D) : Prop where
  ex : ∃ (g : List Value → List Value → List Value) (gV : List V → List V → List V), KBn K fd ps n ks g gV ∧
    ∀ (K' : PySem.W.Frag) (mg : Str → Option Value) (φ : List Addr) (G : Hp) (ds es : List D) (vs zs : List V), DatL K' mg φ G ds vs → DatL K' mg φ G es zs → DatL K' mg φ G (gD ds es) (gV vs zs)
section
variable {K : PySem.W.Frag} {x qual : Str} {params : Arguments} {body : List Stmt} {scope : Scope} {kws : List (Str × V)} {f : Addr} {fd : FuncData} {ps : List Str}
/-- no defaults are taken -/
theorem kb_all {dvs : List V} (F : FunD K x qual params body scope dvs kws f fd) (hd : dvs = []) (n : Nat) (ks : List Str) (sel : List (Nat × Nat))
    (h : ∀ (kV doc pm : Value) (an : Option Addr) (cdv ct : Value) (us ws : List Value), us.length = n → ws.length = ks.length → bindArgs (PySem.W.fnOf x qual params body scope .none kV doc pm an cdv ct) ⟨us, ks.zip ws⟩ = pure (ps.zip (pick sel us ws []))) :
    KB K fd ps n ks (fun ds es => pick sel ds es []) := by
  obtain ⟨oc, od, dV, kV, doc, pm, an, cdv, ct, osl, rfl, lk, hcd, hD, hK⟩ := F.ex
  rcases hD with ⟨_, rfl⟩ | ⟨e, _⟩
  · exact ⟨fun us ws => pick sel us ws [], fun vs zs => pick sel vs zs [], ⟨fun s us ws X l1 l2 => .of_eq (h kV doc pm an cdv ct us ws l1 l2), fun r1 r2 => pick_vals r1 r2 .nil⟩, fun K' mg φ G ds es vs zs h1 h2 => pick_dat h1 h2 DatL.nil⟩
  · exact absurd hd e
/-- some keyword-only defaults are taken: ms -/
theorem kb_dfl (F : FunD K x qual params body scope [] kws f fd) (n : Nat) (ks : List Str) (ms : List (Str × V)) (msD : List D) (sel : List (Nat × Nat)) (hk : kws ≠ []) (hms : ∀ q ∈ ms, q ∈ kws)
    (hD : ∀ (K' : PySem.W.Frag) (mg : Str → Option Value) (φ : List Addr) (G : Hp), DatL K' mg φ G msD (ms.map (·.2)))
    (h : ∀ (D : Addr) (doc pm : Value) (an : Option Addr) (cdv ct : Value) (us mv ws : List Value), us.length = n → mv.length = ms.length → ws.length = ks.length →
      KwChain D ((ms.map (·.1)).zip mv) (bindArgs (PySem.W.fnOf x qual params body scope .none (.ref D) doc pm an cdv ct) ⟨us, ks.zip ws⟩) (ps.zip (pick sel us ws mv))) : KB K fd ps n ks (fun ds es => pick sel ds es msD) := by
  obtain ⟨mv, hb⟩ := F.kbinds0 n ks ms (fun us mv ws => pick sel us ws mv) hk hms (fun a b c => pick_vals a c b) h
  exact ⟨_, _, hb, fun K' mg φ G ds es vs zs h1 h2 => pick_dat h1 h2 (hD K' mg φ G)⟩
end

/-! ### calls -/
section
variable {X : Cx} {W : WX} {k k' n np : Nat} {f C : Addr} {fd : FuncData} {ps ks : List Str} {sp : Sp} {sem cs : Sem'} {x m : Str} {p pos apos : Pos} {e o : Expr} {es : List Expr} {kws : List Keyword} {fa fk : FA} {fo : FE} {gD : List D → List D → List D}
theorem run_fnG {pins : List (Addr × Obj)} {σ : L2.St} {H : Hp} {s : Shared} {Q : VK} {us ws : List Value} {bs : List Value} {vs : List V} (F : FnG X.prog X.w X.K X.mg X.base k f fd ps sp) (C : Cn X W k') (hk : k ≤ k') (I : L2.Inv X pins σ H s)
    (hb : BindsTo s fd ⟨us, ks.zip ws⟩ (ps.zip bs)) (r : Vals vs bs) (h : sp vs H Q (WE W σ)) : wpAny (model X.prog X.w) X.A (call (.ref f) us (ks.zip ws)) (EP X pins σ Q) X.xe s := by
  refine wpAny_call (codeAny_mono (F.run X.A X.stack s H _ bs vs Q (WE W σ) (C.room.mono hk) C.gd I.env0 hb r h) fun res s' hq => ?_)
  cases res with
  | error e => exact passAt C.tk σ pins H s e s' I hq
  | ok fl => cases fl with
    | ret u => exact I.after hq
    | _ => exact hq.elim
def fCall (cs : Sem') (gD : List D → List D → List D) (np nk n : Nat) (fa fk : FA) : FE := fun ρ S => (fa ρ S).bind fun ds S => (fk ρ S).bind fun es S => if ds.length = np ∧ es.length = nk ∧ (gD ds es).length = n then cs (gD ds es) S else .stuck
theorem dkw_nil : DKw X W [] (fun _ S => .ok [] S) := .mk pk_nil (fun Z φ S ρ σ H Q R sl w => w.now R DatL.nil)
theorem dkw_cons {nm : Option Str} {kpos : Pos} {fe : FE} {fr : FA} (ha : DE X W e fe) (hr : DKw X W kws fr) : DKw X W (⟨nm, e, kpos⟩ :: kws) (fCons fe fr) := by
  obtain ⟨t, p, q⟩ := ha.ex
  obtain ⟨u, p', q'⟩ := hr.ex
  refine .mk (pk_cons p p') (fun Z φ S ρ σ H Q R sl w => q Z φ S ρ σ H _ R sl (w.bind fun x S1 v φ1 H1 R1 E1 d w1 => ?_))
  exact q' Z φ1 S1 ρ σ H1 _ R1 (sl.evo E1) (w1.bind fun xs S2 vs φ2 H2 R2 E2 d2 w2 => w2.now R2 (.cons (Dat.evo E2 d) d2))
/-- arguments, then keywords, then what follows -/
theorem args_run {ta tk : TA} (qa : IsA X W ta fa) (qk : IsA X W tk fk) {cont : List D → List D → Store → Res D} {Z φ : List Addr} {S : Store} {ρ : EnvD} {σ : L2.St} {H : Hp} {Q : VK} {P : List V → List V → Hp → Prop}
    (R : Rel X.K X.mg Z φ S H) (sl : Slots X.K X.mg φ (gnd Z φ S H) ρ σ) (w : Want X.K X.mg (RDat X.K X.mg) Z φ S H ((fa ρ S).bind fun ds S => (fk ρ S).bind fun es S => cont ds es S) Q (WE W σ))
    (h : ∀ ds es S2 vs zs φ2 H2, Rel X.K X.mg Z φ2 S2 H2 → Evo Z φ S H φ2 S2 H2 → DatL X.K X.mg φ2 (gnd Z φ2 S2 H2) ds vs → DatL X.K X.mg φ2 (gnd Z φ2 S2 H2) es zs → Want X.K X.mg (RDat X.K X.mg) Z φ2 S2 H2 (cont ds es S2) Q (WE W σ) → P vs zs H2) :
    ta σ H fun vs H1 => tk σ H1 fun zs H2 => P vs zs H2 :=
  qa Z φ S ρ σ H _ R sl (w.bind fun ds S1 vs φ1 H1 R1 E1 d1 w1 => qk Z φ1 S1 ρ σ H1 _ R1 (sl.evo E1) (w1.bind fun es S2 zs φ2 H2 R2 E2 d2 w2 => h ds es S2 vs zs φ2 H2 R2 (E1.trans E2) (DatL.evo E2 d1) d2 w2))
theorem want_if {P : Prop} [Decidable P] {α β : Type} {Rr : List Addr → Hp → α → β → Prop} {Z φ : List Addr} {S : Store} {H : Hp} {r : Res α} {Q : β → Hp → Prop} {E : XK} (w : Want X.K X.mg Rr Z φ S H (if P then r else .stuck) Q E) : P ∧ Want X.K X.mg Rr Z φ S H r Q E := by
  by_cases h : P
  · rw [if_pos h] at w
    exact ⟨h, w⟩
  · rw [if_neg h] at w
    exact w.elim
/-- the callee's wish, from the caller's -/
theorem args_sp {gV : List V → List V → List V} (hcs : CallOk X.K X.mg n sem cs) (hN : ∀ (K' : PySem.W.Frag) (mg : Str → Option Value) (φ : List Addr) (G : Hp) (ds es : List D) (vs zs : List V), DatL K' mg φ G ds vs → DatL K' mg φ G es zs → DatL K' mg φ G (gD ds es) (gV vs zs))
    {nk : Nat} {Z φ : List Addr} {S : Store} {H : Hp} {ds es : List D} {vs zs : List V} {Q : VK} {E : XK} (R : Rel X.K X.mg Z φ S H) (d1 : DatL X.K X.mg φ (gnd Z φ S H) ds vs) (d2 : DatL X.K X.mg φ (gnd Z φ S H) es zs)
    (w : Want X.K X.mg (RDat X.K X.mg) Z φ S H (if ds.length = np ∧ es.length = nk ∧ (gD ds es).length = n then cs (gD ds es) S else .stuck) Q E) : vs.length = np ∧ zs.length = nk ∧ spD X.K X.mg n sem (gV vs zs) H Q E := by
  obtain ⟨⟨l1, l2, l3⟩, w3⟩ := want_if w
  have d3 := hN _ _ _ _ _ _ _ _ d1 d2
  exact ⟨by rw [d1.length, l1], by rw [d2.length, l2], hcs Z φ S H _ _ Q E (by rw [d3.length, l3]) R d3 w3⟩
theorem de_call (F : FnG X.prog X.w X.K X.mg X.base k f fd ps (spD X.K X.mg ps.length sem)) (hcs : CallOk X.K X.mg ps.length sem cs) (C : Cn X W k') (hg : Gl X x) (hm : X.mg x = some (.ref f)) (hk : PySem.W.keepIn X.K (.ref f) = true) (hb : KB X.K fd ps np ks gD)
    (ha : DA X W (e :: es) fa) (hkw : DKw X W kws fk) (hle : k ≤ k' := by decide) (hall : (backToKw pos (keywordEach kws X.env)).all (·.1.isSome) = true := by rfl) (hks : (backToKw pos (keywordEach kws X.env)).filterMap (·.1) = ks := by rfl)
    (hdb : (x == ("__debug__" : Str)) = false := by decide) (he : starEach (e :: es) X.env = (false, eval e X.env) :: starEach es X.env := by rfl)
    (hpl : ((backTo pos (starEach (e :: es) X.env)).any (·.1) || (backToKw pos (keywordEach kws X.env)).any (·.1.isNone)) = false := by rfl) :
    DE X W (.Call (.Name x p) (e :: es) kws pos) (fCall cs gD np ks.length ps.length fa fk) := by
  obtain ⟨ta, pa, qa⟩ := ha.ex
  obtain ⟨tk, pk, qk⟩ := hkw.ex
  obtain ⟨g, gV, hB, hN⟩ := hb.ex
  refine .mk (t := fun σ H Q => ta σ H fun vs H1 => tk σ H1 fun zs H2 => vs.length = np ∧ zs.length = ks.length ∧ spD X.K X.mg ps.length sem (gV vs zs) H2 Q (WE W σ)) ⟨fun pins s σ H Q I h => ?_⟩
    (fun Z φ S ρ σ H Q R sl w => args_run qa qk R sl w fun ds es' S2 vs zs φ2 H2 R2 E2 d1 d2 w2 => args_sp hcs hN R2 d1 d2 w2)
  refine wpAny_Call_Name_kw (ld_glob I hg hm ?_ hdb)
  refine PySem.W.callWith_KW (h₀ := X.base) I.ok.mod.kin hk hall (thn (pa.run pos pins s σ H _ I h) fun us s1 ⟨vs, H1, I1, r, q⟩ => ?_) hpl he
  refine thn (pk.run pos pins s1 σ H1 _ I1 q) fun ws s2 ⟨zs, H2, I2, rz, l1, l2, q2⟩ => ⟨I2.kIn, ?_⟩
  rw [hks]
  exact run_fnG F C hle I2 (hB.to s2 us ws I2.kIn (r.length.symm.trans l1) (rz.length.symm.trans l2)) (hB.rel r rz) q2
/-- without positional arguments -/
theorem de_call0 (F : FnG X.prog X.w X.K X.mg X.base k f fd ps (spD X.K X.mg ps.length sem)) (hcs : CallOk X.K X.mg ps.length sem cs) (C : Cn X W k') (hg : Gl X x) (hm : X.mg x = some (.ref f)) (hk : PySem.W.keepIn X.K (.ref f) = true) (hb : KB X.K fd ps 0 ks gD)
    (hkw : DKw X W kws fk) (hle : k ≤ k' := by decide) (hall : (backToKw pos (keywordEach kws X.env)).all (·.1.isSome) = true := by rfl) (hks : (backToKw pos (keywordEach kws X.env)).filterMap (·.1) = ks := by rfl)
    (hdb : (x == ("__debug__" : Str)) = false := by decide) (hpl : ((backTo pos (starEach [] X.env)).any (·.1) || (backToKw pos (keywordEach kws X.env)).any (·.1.isNone)) = false := by rfl) :
    DE X W (.Call (.Name x p) [] kws pos) (fCall cs gD 0 ks.length ps.length (fun _ S => .ok [] S) fk) := by
  obtain ⟨tk, pk, qk⟩ := hkw.ex
  obtain ⟨g, gV, hB, hN⟩ := hb.ex
  obtain ⟨ta, pa, qa⟩ := (da_nil (X := X) (W := W)).ex
  refine .mk (t := fun σ H Q => tk σ H fun zs H2 => zs.length = ks.length ∧ spD X.K X.mg ps.length sem (gV [] zs) H2 Q (WE W σ)) ⟨fun pins s σ H Q I h => ?_⟩
    (fun Z φ S ρ σ H Q R sl w => qk Z φ S ρ σ H _ R sl (Want.bind (k := fun es S => if ([] : List D).length = 0 ∧ es.length = ks.length ∧ (gD [] es).length = ps.length then cs (gD [] es) S else .stuck) w fun es S2 zs φ2 H2 R2 E2 d2 w2 => (args_sp hcs hN R2 DatL.nil d2 w2).2))
  refine wpAny_Call_Name_kw (ld_glob I hg hm ?_ hdb)
  refine PySem.W.callWith_KW0 (h₀ := X.base) I.ok.mod.kin hk hall ?_ hpl
  refine thn (pk.run pos pins s σ H _ I h) fun ws s2 ⟨zs, H2, I2, rz, l2, q2⟩ => ⟨I2.kIn, ?_⟩
  rw [hks]
  exact run_fnG (us := []) F C hle I2 (hB.to s2 [] ws I2.kIn rfl (rz.length.symm.trans l2)) (hB.rel .nil rz) q2

/-! instances -/
def asI (S : Store) : D → Option (Str × List (Str × D))
  | .ins C fs => some (C, fs)
  | .oid n => match S[n]? with
    | some (.ins C fs) => some (C, fs)
    | some (.frz (.ins C fs)) => some (C, fs)
    | _ => none
  | _ => none
theorem asI_ok {K : PySem.W.Frag} {mg : Str → Option Value} {Z φ : List Addr} {S : Store} {H : Hp} (R : Rel K mg Z φ S H) {d : D} {v : V} {c : Str} {fs : List (Str × D)} (h : Dat K mg φ (gnd Z φ S H) d v) (e : asI S d = some (c, fs)) :
    ∃ a A dx fvs, v = .ref a ∧ mg c = some (.ref A) ∧ H a = some (.ins A dx fvs) ∧ DatF K mg φ (gnd Z φ S H) fs fvs := by
  cases d with
  | ins C gs =>
    cases e
    unfold Dat at h
    obtain ⟨a, A, dx, fvs, rfl, h0, h1, h2⟩ := h
    exact ⟨a, A, dx, fvs, rfl, h0, gnd_sub _ _ h1, h2⟩
  | oid n =>
    unfold Dat at h
    obtain ⟨a, rfl, h1⟩ := h
    cases q : S[n]? with
    | none => simp [asI, q] at e
    | some o =>
      simp only [asI, q] at e
      have ok := R.ob n a o h1 q
      cases o with
      | ins C gs =>
        cases e
        obtain ⟨A, dx, fvs, q0, q1, q2⟩ := ok
        exact ⟨a, A, dx, fvs, rfl, q0, q1, q2⟩
      | frz d =>
        cases d with
        | ins C gs =>
          cases e
          have ok' : Dat K mg φ (gnd Z φ S H) (.ins _ _) (.ref a) := ok
          unfold Dat at ok'
          obtain ⟨b, A, dx, fvs, e1, q0, q1, q2⟩ := ok'
          cases e1
          exact ⟨a, A, dx, fvs, rfl, q0, gnd_sub _ _ q1, q2⟩
        | _ => cases e
      | _ => cases e
  | _ => cases e
theorem datF_lookup {K : PySem.W.Frag} {mg : Str → Option Value} {φ : List Addr} {G : Hp} {m : Str} : ∀ {fs : List (Str × D)} {fvs : List (Str × V)}, DatF K mg φ G fs fvs → (∀ d, fs.lookup m = some d → ∃ v, fvs.lookup m = some v ∧ Dat K mg φ G d v) ∧ (fs.lookup m = none → fvs.lookup m = none)
  | [], _, h => by
    unfold DatF at h
    subst h
    exact ⟨fun d q => (by cases q), fun _ => rfl⟩
  | (k, d) :: fs, _, h => by
    unfold DatF at h
    obtain ⟨v, r, rfl, h1, h2⟩ := h
    obtain ⟨a, b⟩ := datF_lookup (m := m) h2
    rw [List.lookup_cons, List.lookup_cons]
    cases (m == k) with
    | true => exact ⟨fun e q => by cases q; exact ⟨v, rfl, h1⟩, fun q => by cases q⟩
    | false => exact ⟨a, b⟩
/-- what the text has of a class -/
structure ClsI (X : Cx) (c : Str) (C : Addr) : Prop where
  mg : X.mg c = some (.ref C)
  cls : Cls X.K C
/-- o.m(e, .., k = v, ..) -/
def fMeth (cs : Sem') (gD : List D → List D → List D) (c m : Str) (np nk n : Nat) (fo : FE) (fa fk : FA) : FE := fun ρ S => (fo ρ S).bind fun o S => match asI S o with
  | some (c', fs) => if c' = c ∧ (fs.lookup m).isNone then (fa ρ S).bind fun ds S => (fk ρ S).bind fun es S => if (o :: ds).length = np ∧ es.length = nk ∧ (gD (o :: ds) es).length = n then cs (gD (o :: ds) es) S else .stuck else .stuck
  | none => .stuck
theorem meth_at {c : Str} {Z φ : List Addr} {S : Store} {H : Hp} {od : D} {ov : V} {α : Type} {r : Res α} {β : Type} {Rr : List Addr → Hp → α → β → Prop} {Q : β → Hp → Prop} {E : XK} (cl : ClsI X c C) (R : Rel X.K X.mg Z φ S H) (d : Dat X.K X.mg φ (gnd Z φ S H) od ov)
    (w : Want X.K X.mg Rr Z φ S H (match asI S od with | some (c', fs) => if c' = c ∧ (fs.lookup m).isNone then r else .stuck | none => .stuck) Q E) :
    ∃ a dx fvs, ov = .ref a ∧ H a = some (.ins C dx fvs) ∧ fvs.lookup m = none ∧ Want X.K X.mg Rr Z φ S H r Q E := by
  cases hi : asI S od with
  | none => rw [hi] at w; exact w.elim
  | some t =>
    obtain ⟨c', fs⟩ := t
    rw [hi] at w
    obtain ⟨⟨rfl, hl⟩, w1⟩ := want_if w
    obtain ⟨a, A, dx, fvs, rfl, q0, q1, q2⟩ := asI_ok R d hi
    rw [cl.mg] at q0
    cases q0
    exact ⟨a, dx, fvs, rfl, q1, (datF_lookup q2).2 (Option.isNone_iff_eq_none.mp hl), w1⟩
theorem de_meth {pl : Sem Bool} {c : Str} (ho : DE X W o fo) (cl : ClsI X c C) (hm : Meth X.K C m f) (F : FnG X.prog X.w X.K X.mg X.base k f fd ps (spD X.K X.mg ps.length sem)) (hcs : CallOk X.K X.mg ps.length sem cs) (Cc : Cn X W k') (hb : KB X.K fd ps np ks gD)
    (ha : DA X W (e :: es) fa) (hkw : DKw X W kws fk) (hle : k ≤ k' := by decide) (hall : (backToKw pos (keywordEach kws X.env)).all (·.1.isSome) = true := by rfl) (hks : (backToKw pos (keywordEach kws X.env)).filterMap (·.1) = ks := by rfl)
    (he : starEach (e :: es) X.env = (false, eval e X.env) :: starEach es X.env := by rfl) (hpl : ((backTo pos (starEach (e :: es) X.env)).any (·.1) || (backToKw pos (keywordEach kws X.env)).any (·.1.isNone)) = false := by rfl)
    (ht : eval (.Call (.Attribute o m apos) (e :: es) kws pos) X.env = (do
      let ov ← eval o X.env
      standAt apos.atName
      let (f, first) ← holding [ov] (getMethod ov m pl)
      callWith pos f first (backTo pos (starEach (e :: es) X.env)) (backToKw pos (keywordEach kws X.env))) := by rfl) :
    DE X W (.Call (.Attribute o m apos) (e :: es) kws pos) (fMeth cs gD c m np ks.length ps.length fo fa fk) := by
  obtain ⟨to, po, qo⟩ := ho.ex
  obtain ⟨ta, pa, qa⟩ := ha.ex
  obtain ⟨tk, pk, qk⟩ := hkw.ex
  obtain ⟨g, gV, hB, hN⟩ := hb.ex
  refine .mk (t := fun σ H Q => to σ H fun ov H0 => ∃ a dx fvs, ov = .ref a ∧ H0 a = some (.ins C dx fvs) ∧ fvs.lookup m = none ∧ ta σ H0 fun vs H1 => tk σ H1 fun zs H2 => (V.ref a :: vs).length = np ∧ zs.length = ks.length ∧ spD X.K X.mg ps.length sem (gV (.ref a :: vs) zs) H2 Q (WE W σ)) ⟨fun pins s σ H Q I h => ?_⟩
    (fun Z φ S ρ σ H Q R sl w => qo Z φ S ρ σ H _ R sl (w.bind fun od S1 ov φ1 H1 R1 E1 d w1 => ?_))
  · refine PySem.W.methodCall_KW (pl := pl) (thn (po.run pins s σ H _ I h) fun u s1 ⟨x, H1, I1, rx, a, dx, fvs, ex, ea, l, q⟩ => ?_) ht
    subst ex
    obtain rfl : u = Value.ref a := rx
    refine getmeth_ok I1 ea cl.cls hm l ?_
    refine PySem.W.callWith_KW (first := [.ref a]) (h₀ := X.base) I.ok.mod.kin hm.kp hall (thn (pa.run pos pins s1 σ H1 _ I1 q) fun us s2 ⟨vs, H2, I2, r, q2⟩ => ?_) hpl he
    refine thn (pk.run pos pins s2 σ H2 _ I2 q2) fun ws s3 ⟨zs, H3, I3, rz, l1, l2, q3⟩ => ⟨I3.kIn, ?_⟩
    have r1 : Vals (V.ref a :: vs) (Value.ref a :: us) := .cons rfl r
    rw [hks]
    exact run_fnG (us := .ref a :: us) F Cc hle I3 (hB.to s3 _ ws I3.kIn (r1.length.symm.trans l1) (rz.length.symm.trans l2)) (hB.rel r1 rz) q3
  · obtain ⟨a, dx, fvs, rfl, h1, h2, w2⟩ := meth_at cl R1 d w1
    refine ⟨a, dx, fvs, rfl, h1, h2, args_run qa qk R1 (sl.evo E1) w2 fun ds es' S2 vs zs φ2 H2 R2 E2 d1 d2 w3 => ?_⟩
    exact args_sp hcs hN R2 (.cons (Dat.evo E2 d) d1) d2 w3
theorem de_meth0 {pl : Sem Bool} {c : Str} (ho : DE X W o fo) (cl : ClsI X c C) (hm : Meth X.K C m f) (F : FnG X.prog X.w X.K X.mg X.base k f fd ps (spD X.K X.mg ps.length sem)) (hcs : CallOk X.K X.mg ps.length sem cs) (Cc : Cn X W k') (hb : KB X.K fd ps 1 ks gD)
    (hkw : DKw X W kws fk) (hle : k ≤ k' := by decide) (hall : (backToKw pos (keywordEach kws X.env)).all (·.1.isSome) = true := by rfl) (hks : (backToKw pos (keywordEach kws X.env)).filterMap (·.1) = ks := by rfl)
    (hpl : ((backTo pos (starEach [] X.env)).any (·.1) || (backToKw pos (keywordEach kws X.env)).any (·.1.isNone)) = false := by rfl)
    (ht : eval (.Call (.Attribute o m apos) [] kws pos) X.env = (do
      let ov ← eval o X.env
      standAt apos.atName
      let (f, first) ← holding [ov] (getMethod ov m pl)
      callWith pos f first (backTo pos (starEach [] X.env)) (backToKw pos (keywordEach kws X.env))) := by rfl) :
    DE X W (.Call (.Attribute o m apos) [] kws pos) (fMeth cs gD c m 1 ks.length ps.length fo (fun _ S => .ok [] S) fk) := by
  obtain ⟨to, po, qo⟩ := ho.ex
  obtain ⟨tk, pk, qk⟩ := hkw.ex
  obtain ⟨g, gV, hB, hN⟩ := hb.ex
  refine .mk (t := fun σ H Q => to σ H fun ov H0 => ∃ a dx fvs, ov = .ref a ∧ H0 a = some (.ins C dx fvs) ∧ fvs.lookup m = none ∧ tk σ H0 fun zs H2 => zs.length = ks.length ∧ spD X.K X.mg ps.length sem (gV [.ref a] zs) H2 Q (WE W σ)) ⟨fun pins s σ H Q I h => ?_⟩
    (fun Z φ S ρ σ H Q R sl w => qo Z φ S ρ σ H _ R sl (w.bind fun od S1 ov φ1 H1 R1 E1 d w1 => ?_))
  · refine PySem.W.methodCall_KW (pl := pl) (thn (po.run pins s σ H _ I h) fun u s1 ⟨x, H1, I1, rx, a, dx, fvs, ex, ea, l, q⟩ => ?_) ht
    subst ex
    obtain rfl : u = Value.ref a := rx
    refine getmeth_ok I1 ea cl.cls hm l ?_
    refine PySem.W.callWith_KW0 (first := [.ref a]) (h₀ := X.base) I.ok.mod.kin hm.kp hall ?_ hpl
    refine thn (pk.run pos pins s1 σ H1 _ I1 q) fun ws s3 ⟨zs, H3, I3, rz, l2, q3⟩ => ⟨I3.kIn, ?_⟩
    have r1 : Vals [V.ref a] [Value.ref a] := .cons rfl .nil
    rw [hks]
    exact run_fnG (us := [.ref a]) F Cc hle I3 (hB.to s3 _ ws I3.kIn rfl (rz.length.symm.trans l2)) (hB.rel r1 rz) q3
  · obtain ⟨a, dx, fvs, rfl, h1, h2, w2⟩ := meth_at cl R1 d w1
    refine ⟨a, dx, fvs, rfl, h1, h2, qk Z φ1 S1 ρ σ H1 _ R1 (sl.evo E1) (Want.bind (k := fun es S => if [od].length = 1 ∧ es.length = ks.length ∧ (gD [od] es).length = ps.length then cs (gD [od] es) S else .stuck) w2 fun es S2 zs φ2 H2 R2 E2 d2 w3 => ?_)⟩
    exact (args_sp hcs hN R2 (.cons (Dat.evo E2 d) DatL.nil) d2 w3).2
/-- o.f -/
def fFld (cs : List Str) (f : Str) (fo : FE) : FE := fun ρ S => (fo ρ S).bind fun o S => match asI S o with
  | some (c, fs) => if c ∈ cs then (match fs.lookup f with
    | some d => .ok d S
    | none => .stuck) else .stuck
  | none => .stuck
theorem de_fld {fn : Str} {cs : List Str} (ho : DE X W o fo) (hc : ∀ c ∈ cs, ∃ C, ClsI X c C ∧ NoAttr X.K C fn) (hb : attributeBase o fn X.env (eval o X.env) = eval o X.env := by rfl) : DE X W (.Attribute o fn pos) (fFld cs fn fo) := by
  obtain ⟨to, po, qo⟩ := ho.ex
  refine .mk (pe_fld po hb) (fun Z φ S ρ σ H Q R sl w => qo Z φ S ρ σ H _ R sl (w.bind fun od S1 ov φ1 H1 R1 E1 d w1 => ?_))
  cases hi : asI S1 od with
  | none => rw [hi] at w1; exact w1.elim
  | some t =>
    obtain ⟨c, fs⟩ := t
    rw [hi] at w1
    obtain ⟨hm, w2⟩ := want_if w1
    obtain ⟨a, A, dx, fvs, rfl, q0, q1, q2⟩ := asI_ok R1 d hi
    obtain ⟨C, cl, na⟩ := hc c hm
    rw [cl.mg] at q0
    cases q0
    cases hl : fs.lookup fn with
    | none => rw [hl] at w2; exact w2.elim
    | some e =>
      rw [hl] at w2
      obtain ⟨v, h1, h2⟩ := (datF_lookup q2).1 e hl
      exact ⟨a, A, dx, fvs, v, rfl, q1, cl.cls, na, h1, w2.now R1 h2⟩
/-- o.f = e -/
def putFD (f : Str) (d : D) : List (Str × D) → List (Str × D)
  | [] => [(f, d)]
  | (g, e) :: r => if g = f then (g, d) :: r else (g, e) :: putFD f d r
theorem putFD_length (f : Str) (d : D) : ∀ fs : List (Str × D), (putFD f d fs).length ≤ fs.length + 1
  | [] => Nat.le_refl _
  | (g, e) :: r => by
    unfold putFD
    split
    · simp
    · have := putFD_length f d r
      simp only [List.length_cons]
      omega
theorem datF_length {K : PySem.W.Frag} {mg : Str → Option Value} {φ : List Addr} {G : Hp} : ∀ {fs : List (Str × D)} {fvs : List (Str × V)}, DatF K mg φ G fs fvs → fvs.length = fs.length
  | [], _, h => by
    unfold DatF at h
    subst h
    rfl
  | (k, d) :: fs, _, h => by
    unfold DatF at h
    obtain ⟨v, r, rfl, _, h2⟩ := h
    rw [List.length_cons, List.length_cons, datF_length h2]
theorem datF_put {K : PySem.W.Frag} {mg : Str → Option Value} {φ : List Addr} {G : Hp} {f : Str} {d : D} {v : V} (hd : Dat K mg φ G d v) : ∀ {fs : List (Str × D)} {fvs : List (Str × V)}, DatF K mg φ G fs fvs → DatF K mg φ G (putFD f d fs) (putF f v fvs)
  | [], _, h => by
    unfold DatF at h
    subst h
    show DatF K mg φ G [(f, d)] [(f, v)]
    unfold DatF
    exact ⟨v, [], rfl, hd, by unfold DatF; rfl⟩
  | (g, e) :: fs, _, h => by
    unfold DatF at h
    obtain ⟨u, r, rfl, h1, h2⟩ := h
    have eq : putF f v ((g, u) :: r) = if g = f then (g, v) :: r else (g, u) :: putF f v r := by rw [putF]
    rw [eq]
    unfold putFD
    by_cases hg : g = f
    · rw [if_pos hg, if_pos hg]
      unfold DatF
      exact ⟨v, r, rfl, hd, h2⟩
    · rw [if_neg hg, if_neg hg]
      unfold DatF
      exact ⟨u, _, rfl, h1, datF_put hd h2⟩
def gFld (cs : List Str) (f : Str) (fo fe : FE) : FS := fun ρ S => (fe ρ S).into ρ fun d S => (fo ρ S).into ρ fun o S => match o with
  | .oid n => (match S[n]? with
    | some (.ins c fs) => if c ∈ cs ∧ fs.length < 1000 then .nx ρ (S.set n (.ins c (putFD f d fs))) else .stuck
    | _ => .stuck)
  | _ => .stuck
theorem wantS_if {P : Prop} [Decidable P] {Z φ : List Addr} {S : Store} {H : Hp} {r : Out} {Dd : Ends} (w : WantS X W Z φ S H (if P then r else .stuck) Dd) : P ∧ WantS X W Z φ S H r Dd := by
  by_cases h : P
  · rw [if_pos h] at w
    exact ⟨h, w⟩
  · rw [if_neg h] at w
    exact w.elim
theorem ds_fld {fn : Str} {cs : List Str} {value : Expr} {fe : FE} {pos' : Pos} (ho : DE X W o fo) (hv : DE X W value fe) (hc : ∀ c ∈ cs, ∃ C, ClsI X c C ∧ NoAttr X.K C fn) (hs : swapsWith value (some (.Attribute o fn pos')) pos.line X.env = pure false := by rfl) :
    DS X W (.Assign [.Attribute o fn pos'] value pos) (gFld cs fn fo fe) := by
  obtain ⟨to, po, qo⟩ := ho.ex
  obtain ⟨tv, pv, qv⟩ := hv.ex
  refine .mk (ps_fld po pv hs) fun Z φ S ρ σ H Dd R sl w => qv Z φ S ρ σ H _ R sl (w.into sl fun d S1 v φ1 H1 R1 E1 dd w1 => qo Z φ1 S1 ρ σ H1 _ R1 (sl.evo E1) (w1.into (sl.evo E1) fun od S2 ov φ2 H2 R2 E2 d2 w2 => ?_))
  cases od with
  | oid n =>
    simp only at w2
    unfold RDat Dat at d2
    obtain ⟨a, rfl, ha⟩ := d2
    cases hS : S2[n]? with
    | none => rw [hS] at w2; exact w2.elim
    | some so =>
      rw [hS] at w2
      cases so with
      | ins c fs =>
        obtain ⟨⟨hm, hlt⟩, w3⟩ := wantS_if w2
        obtain ⟨A, dx, fvs, q0, q1, q2⟩ := R2.ob n a _ ha hS
        obtain ⟨C, cl, na⟩ := hc c hm
        rw [cl.mg] at q0
        cases q0
        refine ⟨a, A, dx, fvs, rfl, q1, cl.cls, na, by rw [datF_length q2]; exact hlt, ?_⟩
        obtain ⟨R3, E3⟩ := R2.mutate (u := .ins c (putFD fn d fs)) (ho := .ins A dx (putF fn v fvs)) ha hS rfl rfl ⟨A, dx, _, cl.mg, upd_same, datF_put (Dat.evo E2 dd) q2⟩
        exact w3 σ φ2 _ R3 E3 (((sl.evo E1).evo E2).evo E3)
      | _ => exact w2.elim
  | _ => exact w2.elim
end
end DL

/-! The data layer, part 8: classes made, raise, what is frozen, dicts, lists. -/
namespace DL
open PySem L2

section
variable {X : Cx} {W : WX} {k k' n np : Nat} {f C : Addr} {fd : FuncData} {ps ks : List Str} {sp : Sp} {sem cs : Sem'} {x m : Str} {p pos apos : Pos} {e o : Expr} {es : List Expr} {kws : List Keyword} {fa fk : FA} {fo fe : FE} {gD : List D → List D → List D}
theorem guards_make {A : Around} (h : A.guards = some []) (C : Addr) (us : List Value) (kw : List (Str × Value)) : (A.under (.builtin "type.__call__" ⟨.ref C :: us, kw⟩)).guards = some [] := by
  have e : (Code.builtin "type.__call__" ⟨.ref C :: us, kw⟩).guards = [] := rfl
  show pushGuards (Code.builtin "type.__call__" ⟨.ref C :: us, kw⟩).guards A.guards = some []
  rw [e]
  exact h
theorem run_makeG {pins : List (Addr × Obj)} {σ : L2.St} {H : Hp} {s : Shared} {Q : VK} {us ws : List Value} {vs zs : List V} {g : List Value → List Value → List Value} {gV : List V → List V → List V} (M : Mk X.K C f) (F : FnG X.prog X.w X.K X.mg X.base k f fd ps sp) (Cc : Cn X W k') (hk : k + 1 ≤ k')
    (hb : KBn X.K fd ps (np + 1) ks g gV) (I : L2.Inv X pins σ H s) (r : Vals vs us) (rz : Vals zs ws) (l1 : vs.length = np) (l2 : zs.length = ks.length)
    (h : ∀ x dx, H x = none → H dx = none → dx ≠ x → sp (gV (.ref x :: vs) zs) (upd (upd H dx (.own x)) x (.ins C dx [])) (fun v H2 => v = .non ∧ Q (.ref x) H2) (WE W σ)) :
    wpAny (model X.prog X.w) X.A (call (.ref C) us (ks.zip ws)) (EP X pins σ Q) X.xe s := by
  have hq := h (s.heap.objs.size + 1) s.heap.objs.size (I.hok.fresh (Nat.le_succ _)) (I.hok.fresh (Nat.le_refl _)) (Nat.ne_of_lt (Nat.lt_succ_self _))
  have J := Inv.made (C := C) I
  have r1 : Vals (V.ref (s.heap.objs.size + 1) :: vs) (Value.ref (s.heap.objs.size + 1) :: us) := .cons rfl r
  have rr := hb.rel r1 rz
  have ln : (Value.ref (s.heap.objs.size + 1) :: us).length = np + 1 := by rw [List.length_cons, ← r.length, l1]
  refine wpAny_call (make_map (f := f) I.kIn M.makes M.init (beq_iff_eq.mp M.fn) (codeAny_mono
    (F.run _ X.stack _ _ _ _ _ _ (WE W σ) ((Cc.room.mono hk).make C us (ks.zip ws)) (guards_make Cc.gd C us (ks.zip ws)) (J.env0.make C us (ks.zip ws)) (hb.to _ _ ws J.kIn ln (rz.length.symm.trans l2)) rr hq) fun res s' hq' => ?_))
  cases res with
  | error e => exact passAt Cc.tk σ pins _ _ e s' J hq'
  | ok fl => cases fl with
    | ret u =>
      obtain ⟨v, H', I3, rv, ev, q3⟩ := J.after hq'
      subst ev
      exact ⟨rv, V.ref (s.heap.objs.size + 1), H', I3, rfl, q3⟩
    | _ => exact hq'.elim
/-- a new instance, kept as data -/
def makeF (sem : Sem') (gD : List D → List D → List D) (c : Str) (n : Nat) (ds es : List D) (S : Store) : Res D :=
  if pureL ds && pureL es && decide ((gD (.oid 0 :: ds) es).length = n) then (match sem (gD (.oid 0 :: ds) es) [.ins c []] with
    | .ok .non (.ins c' fs :: _) => if pureF fs then .ok (.ins c' fs) S else .stuck
    | .ex C fs _ => if pureF fs then .ex C fs S else .stuck
    | _ => .stuck) else .stuck
/-- a new instance in the store -/
def makeO (sem : Sem') (gD : List D → List D → List D) (c : Str) (n : Nat) (ds es : List D) (S : Store) : Res D :=
  if (gD (.oid S.length :: ds) es).length = n then (sem (gD (.oid S.length :: ds) es) (S ++ [.ins c []])).bind fun d S' => if d.isNon then .ok (.oid S.length) S' else .stuck else .stuck
abbrev MakeT := List D → List D → Store → Res D
def MakeOk (X : Cx) (c : Str) (n : Nat) (sem : Sem') (gD : List D → List D → List D) (mk : MakeT) : Prop := ∀ (C : Addr) (gV : List V → List V → List V) Z φ S H ds es vs zs (Q : VK) (E : XK), X.mg c = some (.ref C) →
  (∀ (K' : PySem.W.Frag) (mg : Str → Option Value) (φ : List Addr) (G : Hp) (ds es : List D) (vs zs : List V), DatL K' mg φ G ds vs → DatL K' mg φ G es zs → DatL K' mg φ G (gD ds es) (gV vs zs)) → Rel X.K X.mg Z φ S H →
  DatL X.K X.mg φ (gnd Z φ S H) ds vs → DatL X.K X.mg φ (gnd Z φ S H) es zs → Want X.K X.mg (RDat X.K X.mg) Z φ S H (mk ds es S) Q E →
  ∀ x dx, H x = none → H dx = none → dx ≠ x → spD X.K X.mg n sem (gV (.ref x :: vs) zs) (upd (upd H dx (.own x)) x (.ins C dx [])) (fun v H2 => v = .non ∧ Q (.ref x) H2) E
theorem made_same {H : Hp} {x dx C : Addr} (hx : H x = none) (hd : H dx = none) : Same H (upd (upd H dx (.own x)) x (.ins C dx [])) := fun a o h => by
  rw [upd_ne (ne_of_none h hx), upd_ne (ne_of_none h hd)]
  exact h
theorem makeO_ok {c : Str} : MakeOk X c n sem gD (makeO sem gD c n) := fun C gV Z φ S H ds es vs zs Q E hm hN R d1 d2 w x dx hx hd hne => by
  unfold makeO at w
  obtain ⟨hl, w1⟩ := want_if w
  have sm := made_same (C := C) hx hd
  have lv : liveA (φ ++ [x]) (S ++ [.ins c []]) = liveA φ S ++ [x] := by rw [liveA_snoc R.len]; rfl
  obtain ⟨R1, E1⟩ := R.newOid (so := .ins c []) sm hx (by rw [upd_same]; exact fun z => nomatch z) rfl ⟨C, dx, [], hm, upd_same, by unfold DatF; rfl⟩
  have dx1 : Dat X.K X.mg (φ ++ [x]) (gnd Z (φ ++ [x]) (S ++ [.ins c []]) (upd (upd H dx (.own x)) x (.ins C dx []))) (.oid S.length) (.ref x) := by
    unfold Dat
    exact ⟨x, rfl, by rw [List.getElem?_append_right (by rw [R.len]; exact Nat.le_refl _), ← R.len, Nat.sub_self]; rfl⟩
  have dd := hN X.K X.mg _ _ _ _ _ _ (.cons dx1 (DatL.evo E1 d1)) (DatL.evo E1 d2)
  refine ⟨by rw [dd.length, hl], Z, φ ++ [x], S ++ [.ins c []], _, R1, dd, ?_⟩
  cases hr : sem (gD (.oid S.length :: ds) es) (S ++ [.ins c []]) with
  | ok d S' =>
    rw [hr] at w1
    simp only [Res.bind_ok] at w1
    obtain ⟨hn, w2⟩ := want_if w1
    intro v φ' H' R' E' dv
    have hv := isNon_V dv
    rw [hn] at hv
    refine ⟨of_decide_eq_true hv, w2 _ φ' H' R' (E1.trans E') (Dat.evo E' dx1)⟩
  | ex C' fs S' =>
    rw [hr] at w1
    exact fun A dx' φ' H' m R' E' z => w1 A dx' φ' H' m R' (E1.trans E') z
  | stuck =>
    rw [hr] at w1
    exact w1.elim
theorem makeF_ok {c : Str} : MakeOk X c n sem gD (makeF sem gD c n) := fun C gV Z φ S H ds es vs zs Q E hm hN R d1 d2 w x dx hx hd hne => by
  unfold makeF at w
  obtain ⟨hp, w1⟩ := want_if w
  simp only [Bool.and_eq_true, decide_eq_true_eq] at hp
  have sm := made_same (C := C) hx hd
  have R0 : Rel X.K X.mg (Z ++ liveA φ S) [] [] H := ⟨rfl, List.nodup_nil, fun a h => by simp at h, fun a h => (List.mem_append.mp h).elim (R.zh a) fun z => R.ph a (liveA_sub z), fun a h => by simp at h, fun m a o h => by simp at h⟩
  have g0 : gnd (Z ++ liveA φ S) [] [] H = gnd Z φ S H := without_congr fun a => by simp [liveA]
  obtain ⟨R1, E1⟩ := R0.newOid (so := .ins c []) sm hx (by rw [upd_same]; exact fun z => nomatch z) rfl ⟨C, dx, [], hm, upd_same, by unfold DatF; rfl⟩
  have dx1 : Dat X.K X.mg [x] (gnd (Z ++ liveA φ S) [x] [.ins c []] (upd (upd H dx (.own x)) x (.ins C dx []))) (.oid 0) (.ref x) := by
    unfold Dat
    exact ⟨x, rfl, rfl⟩
  have tr : ∀ {ds : List D} {vs : List V}, pureL ds = true → DatL X.K X.mg φ (gnd Z φ S H) ds vs → DatL X.K X.mg [x] (gnd (Z ++ liveA φ S) [x] [.ins c []] (upd (upd H dx (.own x)) x (.ins C dx []))) ds vs := fun p q => by
    rw [← g0] at q
    exact DatL.evo E1 (q.pure (φ' := []) p)
  have dd := hN X.K X.mg _ _ _ _ _ _ (.cons dx1 (tr hp.1.1 d1)) (tr hp.1.2 d2)
  have back : ∀ {φ' : List Addr} {Sc : Store} {H' : Hp}, Evo (Z ++ liveA φ S) [x] [.ins c []] (upd (upd H dx (.own x)) x (.ins C dx [])) φ' Sc H' → Rel X.K X.mg Z φ S H' ∧ Evo Z φ S H φ S H' ∧ Same (gnd (Z ++ liveA φ S) φ' Sc H') (gnd Z φ S H') := fun {φ' Sc H'} E' => by
    have s2 : Same H H' := fun a o h => E'.out a o (sm a o h) fun q => by
      have := liveA_sub q
      rw [List.mem_singleton.mp this, hx] at h
      cases h
    obtain ⟨a, b⟩ := R.same s2
    refine ⟨a, b, fun y o h => ?_⟩
    obtain ⟨h1, h2⟩ := without_some.mp h
    exact without_some.mpr ⟨fun q => h1 (List.mem_append_left _ q), h2⟩
  refine ⟨by rw [dd.length, hp.2], Z ++ liveA φ S, [x], [.ins c []], _, R1, dd, ?_⟩
  cases hr : sem (gD (.oid 0 :: ds) es) [.ins c []] with
  | ok d S' =>
    rw [hr] at w1
    cases d with
    | non =>
      cases S' with
      | nil => exact w1.elim
      | cons o S' =>
        cases o with
        | ins c' fs =>
          simp only at w1
          obtain ⟨pf, w2⟩ := want_if w1
          intro v φ' H' R' E' dv
          obtain ⟨a, b, s⟩ := back E'
          unfold RDat Dat at dv
          have h0 : φ'[0]? = some x := pre_get E'.pre rfl
          obtain ⟨A, dx', fvs, q0, q1, q2⟩ := R'.ob 0 x _ h0 rfl
          refine ⟨dv, w2 _ φ H' a b ?_⟩
          unfold RDat Dat
          exact ⟨x, A, dx', fvs, rfl, q0, without_some.mpr ⟨R.out_gnd hx, q1⟩, DatF.mono (List.prefix_refl _) s _ _ (DatF.pure pf q2)⟩
        | _ => exact w1.elim
    | _ => exact w1.elim
  | ex C' fs S' =>
    rw [hr] at w1
    simp only at w1
    obtain ⟨pf, w2⟩ := want_if w1
    intro A dx' φ' H' m R' E' z
    obtain ⟨a, b, s⟩ := back E'
    refine w2 A dx' φ H' m a b ?_
    rcases z with z | ⟨x0, e, fvs, x1, x2, x3⟩
    · exact .inl z
    · exact .inr ⟨x0, e, fvs, x1, s _ _ x2, DatF.mono (List.prefix_refl _) s _ _ (DatF.pure pf x3)⟩
  | stuck =>
    rw [hr] at w1
    exact w1.elim
def fMake (mk : MakeT) (np nk : Nat) (fa fk : FA) : FE := fun ρ S => (fa ρ S).bind fun ds S => (fk ρ S).bind fun es S => if ds.length = np ∧ es.length = nk then mk ds es S else .stuck
theorem de_make {c : Str} {mk : MakeT} (M : Mk X.K C f) (F : FnG X.prog X.w X.K X.mg X.base k f fd ps (spD X.K X.mg ps.length sem)) (hmk : MakeOk X c ps.length sem gD mk) (Cc : Cn X W k') (hg : Gl X c) (hm : X.mg c = some (.ref C)) (hb : KB X.K fd ps (np + 1) ks gD)
    (ha : DA X W (e :: es) fa) (hkw : DKw X W kws fk) (hle : k + 1 ≤ k' := by decide) (hall : (backToKw pos (keywordEach kws X.env)).all (·.1.isSome) = true := by rfl) (hks : (backToKw pos (keywordEach kws X.env)).filterMap (·.1) = ks := by rfl)
    (hdb : (c == ("__debug__" : Str)) = false := by decide) (he : starEach (e :: es) X.env = (false, eval e X.env) :: starEach es X.env := by rfl)
    (hpl : ((backTo pos (starEach (e :: es) X.env)).any (·.1) || (backToKw pos (keywordEach kws X.env)).any (·.1.isNone)) = false := by rfl) :
    DE X W (.Call (.Name c p) (e :: es) kws pos) (fMake mk np ks.length fa fk) := by
  obtain ⟨ta, pa, qa⟩ := ha.ex
  obtain ⟨tk, pk, qk⟩ := hkw.ex
  obtain ⟨g, gV, hB, hN⟩ := hb.ex
  refine .mk (t := fun σ H Q => ta σ H fun vs H1 => tk σ H1 fun zs H2 => vs.length = np ∧ zs.length = ks.length ∧ ∀ x dx, H2 x = none → H2 dx = none → dx ≠ x → spD X.K X.mg ps.length sem (gV (.ref x :: vs) zs) (upd (upd H2 dx (.own x)) x (.ins C dx [])) (fun v H2 => v = .non ∧ Q (.ref x) H2) (WE W σ)) ⟨fun pins s σ H Q I h => ?_⟩
    (fun Z φ S ρ σ H Q R sl w => args_run qa qk R sl w fun ds es' S2 vs zs φ2 H2 R2 E2 d1 d2 w2 => ?_)
  · refine wpAny_Call_Name_kw (ld_glob I hg hm ?_ hdb)
    refine PySem.W.callWith_KW (h₀ := X.base) I.ok.mod.kin M.kp hall (thn (pa.run pos pins s σ H _ I h) fun us s1 ⟨vs, H1, I1, r, q⟩ => ?_) hpl he
    refine thn (pk.run pos pins s1 σ H1 _ I1 q) fun ws s2 ⟨zs, H2, I2, rz, l1, l2, q2⟩ => ⟨I2.kIn, ?_⟩
    rw [hks]
    exact run_makeG M F Cc hle hB I2 r rz l1 l2 q2
  · obtain ⟨⟨l1, l2⟩, w3⟩ := want_if w2
    exact ⟨by rw [d1.length, l1], by rw [d2.length, l2], fun x dx hx hd hne => hmk C gV Z φ2 S2 H2 ds es' vs zs Q _ hm hN R2 d1 d2 w3 x dx hx hd hne⟩

/-! ### freezing -/
def fFrz (f : FE) : FE := fun ρ S => (f ρ S).bind fun d S => match d with
  | .oid n => (match S[n]? with
    | some (.lst ds) => .ok (.lst ds) (S.set n (.frz (.lst ds)))
    | some (.dic ks) => .ok (.dic ks) (S.set n (.frz (.dic ks)))
    | some (.ins c fs) => .ok (.ins c fs) (S.set n (.frz (.ins c fs)))
    | some (.frz d) => .ok d S
    | some (.tbl _ _) => .stuck
    | none => .stuck)
  | d => .ok d S
theorem de_frz (h : DE X W e fe) : DE X W e (fFrz fe) := by
  obtain ⟨t, p, q⟩ := h.ex
  refine .mk p (fun Z φ S ρ σ H Q R sl w => q Z φ S ρ σ H _ R sl (w.bind fun d S1 v φ1 H1 R1 E1 dd w1 => ?_))
  cases d with
  | oid n =>
    simp only at w1
    have dd0 := dd
    unfold RDat Dat at dd
    obtain ⟨a, rfl, ha⟩ := dd
    cases hS : S1[n]? with
    | none => rw [hS] at w1; exact w1.elim
    | some so =>
      rw [hS] at w1
      have ok := R1.ob n a so ha hS
      cases so with
      | lst ds =>
        obtain ⟨vs, h1, h2⟩ := ok
        have dn : Dat X.K X.mg φ1 (gnd Z φ1 (S1.set n (.frz (.lst ds))) H1) (.lst ds) (.ref a) := by
          unfold Dat
          exact ⟨a, vs, rfl, gnd_frz R1 ha h1, DatL.mono (List.prefix_refl _) evo_frz _ _ h2⟩
        obtain ⟨R2, E2⟩ := R1.freeze ha dn
        exact w1 _ φ1 H1 R2 E2 dn
      | dic ds =>
        obtain ⟨vs, h1, h2⟩ := ok
        have dn : Dat X.K X.mg φ1 (gnd Z φ1 (S1.set n (.frz (.dic ds))) H1) (.dic ds) (.ref a) := by
          unfold Dat
          exact ⟨a, vs, rfl, gnd_frz R1 ha h1, DatK.mono (List.prefix_refl _) evo_frz _ _ h2⟩
        obtain ⟨R2, E2⟩ := R1.freeze ha dn
        exact w1 _ φ1 H1 R2 E2 dn
      | ins c fs =>
        obtain ⟨A, dx, fvs, h0, h1, h2⟩ := ok
        have dn : Dat X.K X.mg φ1 (gnd Z φ1 (S1.set n (.frz (.ins c fs))) H1) (.ins c fs) (.ref a) := by
          unfold Dat
          exact ⟨a, A, dx, fvs, rfl, h0, gnd_frz R1 ha h1, DatF.mono (List.prefix_refl _) evo_frz _ _ h2⟩
        obtain ⟨R2, E2⟩ := R1.freeze ha dn
        exact w1 _ φ1 H1 R2 E2 dn
      | frz d => exact w1.now R1 ok
      | tbl _ _ => exact w1.elim
  | _ => exact w1.now R1 dd

/-! ### raise -/
/-- raise X('..'): an own class without an own __init__ -/
theorem ds_raise {bmB : List Value} {B newId initId : String} {msg : Str} {j : Nat} {p2 : Pos} (Cc : Cn X W k) (F : ExcBaseFacts B newId initId bmB) (q : PySem.W.excIn X.K C bmB newId = true) (gC : X.mg x = some (.ref C)) (kC : PySem.W.keepIn X.K (.ref C) = true) (r : Raises X (.ref C)) (hg : Gl X x)
    (hdb : (x == ("__debug__" : Str)) = false := by decide) : DS X W (.Raise (some (.Call (.Name x p) [.Constant (.str msg) j p2] [] apos)) none pos) (fun ρ S => .ex x [] ρ S) :=
  .mk (ps_raise Cc.calm Cc.tk (pmk_own F q gC kC r hg hdb)) fun Z φ S ρ σ H Dd R sl w => w C none σ φ H gC R Evo.refl sl (.inl ⟨rfl, rfl⟩)
end
end DL

/-! The data layer, part 9: operators on data, items, stores, built-ins. -/
namespace DL
open PySem L2

section
variable {X : Cx} {W : WX} {k : Nat} {a b c e : Expr} {es : List Expr} {fa fb fc fe : FE} {pos : Pos}
/-! tracked lists -/
def asLt (S : Store) : D → Option (List D)
  | .lst ds => some ds
  | .oid n => match S[n]? with
    | some (.lst ds) => some ds
    | some (.frz (.lst ds)) => some ds
    | _ => none
  | _ => none
theorem asLt_ok {K : PySem.W.Frag} {mg : Str → Option Value} {Z φ : List Addr} {S : Store} {H : Hp} (R : Rel K mg Z φ S H) {d : D} {v : V} {ds : List D} (h : Dat K mg φ (gnd Z φ S H) d v) (e : asLt S d = some ds) : ∃ a vs, v = .ref a ∧ H a = some (.lst vs) ∧ DatL K mg φ (gnd Z φ S H) ds vs := by
  cases d with
  | lst es =>
    cases e
    unfold Dat at h
    obtain ⟨a, vs, rfl, h1, h2⟩ := h
    exact ⟨a, vs, rfl, gnd_sub _ _ h1, h2⟩
  | oid n =>
    unfold Dat at h
    obtain ⟨a, rfl, h1⟩ := h
    cases q : S[n]? with
    | none => simp [asLt, q] at e
    | some o =>
      simp only [asLt, q] at e
      have ok := R.ob n a o h1 q
      cases o with
      | lst es =>
        cases e
        obtain ⟨vs, q1, q2⟩ := ok
        exact ⟨a, vs, rfl, q1, q2⟩
      | frz d =>
        cases d with
        | lst es =>
          cases e
          have ok' : Dat K mg φ (gnd Z φ S H) (.lst _) (.ref a) := ok
          unfold Dat at ok'
          obtain ⟨b, vs, e1, q1, q2⟩ := ok'
          cases e1
          exact ⟨a, vs, rfl, gnd_sub _ _ q1, q2⟩
        | _ => cases e
      | _ => cases e
  | _ => cases e
def D.tupOf : D → Option (List D)
  | .tup ds => some ds
  | _ => none
theorem tupOf_ok {K : PySem.W.Frag} {mg : Str → Option Value} {Z φ : List Addr} {S : Store} {H : Hp} {d : D} {v : V} {ds : List D} (h : Dat K mg φ (gnd Z φ S H) d v) (e : d.tupOf = some ds) : ∃ a vs, v = .ref a ∧ SqT K H a vs ∧ DatL K mg φ (gnd Z φ S H) ds vs := by
  cases d with
  | tup es =>
    cases e
    unfold Dat at h
    obtain ⟨a, vs, rfl, h1, h2⟩ := h
    exact ⟨a, vs, rfl, sqt_mono gnd_sub h1, h2⟩
  | _ => cases e

/-! ### + -/
def gAddI : G2 := gI (fun _ _ => true) fun i j => .int (i + j)
def gAddS : G2 := fun x y S => match x, y with
  | .str s, .str t => if short (s.length + t.length) then .ok (.str (s ++ t)) S else .stuck
  | _, _ => .stuck
def gAddT : G2 := fun x y S => match x, y with
  | .tup xs, .tup ys => if !xs.isEmpty && short (xs.length + ys.length) then .ok (.tup (xs ++ ys)) S else .stuck
  | _, _ => .stuck
def gAddL : G2 := fun x y S => match asLt S x, asLt S y with
  | some xs, some ys => if short (xs.length + ys.length) then .ok (.lst (xs ++ ys)) S else .stuck
  | _, _ => .stuck
def isI (x _ : D) (_ : Store) : Bool := match x with
  | .int _ => true
  | _ => false
def isS (x _ : D) (_ : Store) : Bool := match x with
  | .str _ => true
  | _ => false
def isT (x _ : D) (_ : Store) : Bool := match x with
  | .tup _ => true
  | _ => false
def gAdd : G2 := fun x y S => if isI x y S then gAddI x y S else if isS x y S then gAddS x y S else if isT x y S then gAddT x y S else gAddL x y S
theorem opd_addS : OpD X (fun x y H Q => ∃ i j, x = .str i ∧ y = .str j ∧ i.length + j.length ≤ sizeLine ∧ Q (.str (i ++ j)) H) gAddS := fun Z φ S H x y u v Q E R dx dy w => by
  unfold gAddS at w
  split at w
  · cases dStr dx
    cases dStr dy
    obtain ⟨h, w1⟩ := want_if w
    exact ⟨_, _, rfl, rfl, of_decide_eq_true h, w1.now R (dat_str _)⟩
  · exact w.elim
theorem opd_addT : OpD X (rCatT X.K) gAddT := fun Z φ S H x y u v Q E R dx dy w => by
  unfold gAddT at w
  split at w
  · rename_i xs ys
    obtain ⟨h, w1⟩ := want_if w
    simp only [Bool.and_eq_true, Bool.not_eq_true'] at h
    obtain ⟨p, vs, rfl, h1, h2⟩ := tupOf_ok dx rfl
    obtain ⟨q, us, rfl, h3, h4⟩ := tupOf_ok dy rfl
    refine ⟨p, q, vs, us, rfl, rfl, h1, h3, fun z => ?_, by rw [h2.length, h4.length]; exact of_decide_eq_true h.2, ?_⟩
    · rw [z] at h2
      have := h2.length
      cases xs with
      | nil => cases h.1
      | cons _ _ => cases this
    · by_cases hu : us = []
      · subst hu
        have hy : ys = [] := List.length_eq_zero_iff.mp (h4.length.symm)
        subst hy
        refine ⟨fun _ => ?_, fun z => absurd rfl z⟩
        rw [List.append_nil] at w1
        exact w1.now R dx
      · refine ⟨fun z => absurd z hu, fun _ t ht => ?_⟩
        obtain ⟨r, e, g⟩ := dat_newT R (h2.append h4) ht
        exact w1 _ _ _ r e g
  · exact w.elim
theorem opd_addL : OpD X rCat gAddL := fun Z φ S H x y u v Q E R dx dy w => by
  unfold gAddL at w
  split at w
  · rename_i xs ys e1 e2
    obtain ⟨h, w1⟩ := want_if w
    obtain ⟨p, vs, rfl, h1, h2⟩ := asLt_ok R dx e1
    obtain ⟨q, us, rfl, h3, h4⟩ := asLt_ok R dy e2
    refine ⟨p, q, vs, us, rfl, rfl, h1, h3, by rw [h2.length, h4.length]; exact of_decide_eq_true h, fun t ht => ?_⟩
    obtain ⟨r, e, g⟩ := dat_newL R (h2.append h4) ht
    exact w1 _ _ _ r e g
  · exact w.elim
theorem de_add (ha : DE X W a fa) (hb : DE X W b fb) : DE X W (.BinOp a .Add b pos) (fBin gAdd fa fb) :=
  de_bin (op_add.or (op_add_str.or (op_catT.or op_cat))) (OpD.or isI (opd_I0 fun _ _ _ _ => dat_int _) (OpD.or isS opd_addS (OpD.or isT opd_addT opd_addL))) ha hb

/-! ### == -/
mutual
def toPy : D → Option PyData
  | .non => some .none
  | .bl b => some (.bool b)
  | .int i => some (.int i)
  | .str x => some (.str x)
  | .tup ds => (toPyL ds).map .tuple
  | .lst ds => (toPyL ds).map .list
  | .scr ds => (toPyL ds).map .list
  | _ => none
def toPyL : List D → Option (List PyData)
  | [] => some []
  | d :: ds => (toPy d).bind fun p => (toPyL ds).map fun ps => p :: ps
end
mutual
theorem toPy_ok {K : PySem.W.Frag} {mg : Str → Option Value} {φ : List Addr} {G H : Hp} (e : Same G H) : ∀ (d : D) (v : V) (p : PyData), Dat K mg φ G d v → toPy d = some p → Dp K H v p
  | .non, v, p, h, q => by
    unfold toPy at q
    unfold Dat at h
    cases q
    subst h
    exact .non
  | .bl b, v, p, h, q => by
    unfold toPy at q
    unfold Dat at h
    cases q
    subst h
    exact .bl b
  | .int b, v, p, h, q => by
    unfold toPy at q
    unfold Dat at h
    cases q
    subst h
    exact .int b
  | .str b, v, p, h, q => by
    unfold toPy at q
    unfold Dat at h
    cases q
    subst h
    exact .str b
  | .ty n, v, p, h, q => by unfold toPy at q; cases q
  | .oid n, v, p, h, q => by unfold toPy at q; cases q
  | .dic n, v, p, h, q => by unfold toPy at q; cases q
  | .ins n m, v, p, h, q => by unfold toPy at q; cases q
  | .tup ds, v, p, h, q => by
    unfold toPy at q
    unfold Dat at h
    obtain ⟨a, vs, rfl, h1, h2⟩ := h
    cases r : toPyL ds with
    | none => rw [r] at q; cases q
    | some ps =>
      rw [r] at q
      cases q
      exact .tup (sqt_mono e h1) (toPyL_ok e ds vs ps h2 r)
  | .lst ds, v, p, h, q => by
    unfold toPy at q
    unfold Dat at h
    obtain ⟨a, vs, rfl, h1, h2⟩ := h
    cases r : toPyL ds with
    | none => rw [r] at q; cases q
    | some ps =>
      rw [r] at q
      cases q
      exact .lst (.of (e _ _ h1)) (toPyL_ok e ds vs ps h2 r)
  | .scr ds, v, p, h, q => by
    unfold toPy at q
    unfold Dat at h
    obtain ⟨a, vs, rfl, h1, h2⟩ := h
    cases r : toPyL ds with
    | none => rw [r] at q; cases q
    | some ps =>
      rw [r] at q
      cases q
      exact .lst (Same.seq e h1) (toPyL_ok e ds vs ps h2 r)
theorem toPyL_ok {K : PySem.W.Frag} {mg : Str → Option Value} {φ : List Addr} {G H : Hp} (e : Same G H) : ∀ (ds : List D) (vs : List V) (ps : List PyData), DatL K mg φ G ds vs → toPyL ds = some ps → DpAll K H vs ps
  | [], vs, ps, h, q => by
    unfold toPyL at q
    unfold DatL at h
    cases q
    subst h
    exact .nil
  | d :: ds, vs, ps, h, q => by
    unfold toPyL at q
    unfold DatL at h
    obtain ⟨v, r, rfl, h1, h2⟩ := h
    obtain ⟨p, q1, q2⟩ := Option.bind_eq_some_iff.mp q
    cases rr : toPyL ds with
    | none => rw [rr] at q2; cases q2
    | some ps' =>
      rw [rr] at q2
      cases q2
      exact .cons (toPy_ok e d v p h1 q1) (toPyL_ok e ds r ps' h2 rr)
end
/-- as data, a list of the store by its items -/
def pyOf (S : Store) (d : D) : Option PyData := match d with
  | .oid n => (match asL S (.oid n) with
    | some ds => (toPyL ds).map .list
    | none => match S[n]? with
      | some (.frz d) => toPy d
      | _ => none)
  | d => toPy d
theorem pyOf_ok {Z φ : List Addr} {S : Store} {H : Hp} (R : Rel X.K X.mg Z φ S H) {d : D} {v : V} {p : PyData} (h : Dat X.K X.mg φ (gnd Z φ S H) d v) (q : pyOf S d = some p) : Dp X.K H v p := by
  unfold pyOf at q
  split at q
  · rename_i n
    cases hl : asL S (.oid n) with
    | some ds =>
      rw [hl] at q
      obtain ⟨a, vs, rfl, h1, h2⟩ := asL_ok R h hl
      cases r : toPyL ds with
      | none => simp [r] at q
      | some ps =>
        simp only [r, Option.map_some, Option.some.injEq] at q
        subst q
        exact .lst h1 (toPyL_ok gnd_sub ds vs ps h2 r)
    | none =>
      rw [hl] at q
      simp only at q
      split at q
      · rename_i d hd
        unfold Dat at h
        obtain ⟨a, rfl, ha⟩ := h
        exact toPy_ok gnd_sub d _ p (R.ob n a _ ha hd) q
      · cases q
  · exact toPy_ok gnd_sub d v p h q
def scalD : D → D → Bool
  | .non, .non => true | .non, .int _ => true | .int _, .non => true | .non, .bl _ => true | .bl _, .non => true | .non, .str _ => true | .str _, .non => true
  | .int _, .int _ => true | .bl _, .bl _ => true | .str _, .str _ => true
  | .int _, .str _ => true | .str _, .int _ => true | .bl _, .str _ => true | .str _, .bl _ => true
  | _, _ => false
def eqS : D → D → Bool
  | .non, .non => true
  | .int i, .int j => decide (i = j)
  | .bl i, .bl j => decide (i = j)
  | .str i, .str j => decide (i = j)
  | _, _ => false
def gEqS (neg : Bool) : G2 := fun x y S => if scalD x y then .ok (.bl (if neg then !eqS x y else eqS x y)) S else .stuck
def gEqD (neg : Bool) : G2 := fun x y S => match pyOf S x, pyOf S y with
  | some p, some q => if SeqAt.shaped p && SeqAt.shaped q then .ok (.bl (if neg then !PyData.eqv p q else PyData.eqv p q)) S else .stuck
  | _, _ => .stuck
theorem eqS_ok {φ : List Addr} {G : Hp} {x y : D} {u v : V} (h : scalD x y = true) (dx : Dat X.K X.mg φ G x u) (dy : Dat X.K X.mg φ G y v) : scal u v = true ∧ decide (u = v) = eqS x y := by
  cases x <;> cases y <;> first
    | (cases h; done)
    | (unfold Dat at dx dy; subst dx; subst dy; refine ⟨rfl, ?_⟩; simp [eqS])
theorem opd_eqS : OpD X rEq (gEqS false) := fun Z φ S H x y u v Q E R dx dy w => by
  obtain ⟨h, w1⟩ := want_if w
  obtain ⟨a, b⟩ := eqS_ok h dx dy
  refine ⟨a, ?_⟩
  rw [b]
  exact w1.now R (dat_bl _)
theorem opd_neS : OpD X rNe (gEqS true) := fun Z φ S H x y u v Q E R dx dy w => by
  obtain ⟨h, w1⟩ := want_if w
  obtain ⟨a, b⟩ := eqS_ok h dx dy
  refine ⟨a, ?_⟩
  rw [b]
  exact w1.now R (dat_bl _)
theorem opd_eqD : OpD X (rEqD X.K) (gEqD false) := fun Z φ S H x y u v Q E R dx dy w => by
  unfold gEqD at w
  split at w
  · rename_i p q e1 e2
    obtain ⟨h, w1⟩ := want_if w
    rw [Bool.and_eq_true] at h
    exact ⟨p, q, pyOf_ok R dx e1, pyOf_ok R dy e2, h.1, h.2, w1.now R (dat_bl _)⟩
  · exact w.elim
theorem opd_neD : OpD X (rNeD X.K) (gEqD true) := fun Z φ S H x y u v Q E R dx dy w => by
  unfold gEqD at w
  split at w
  · rename_i p q e1 e2
    obtain ⟨h, w1⟩ := want_if w
    rw [Bool.and_eq_true] at h
    exact ⟨p, q, pyOf_ok R dx e1, pyOf_ok R dy e2, h.1, h.2, w1.now R (dat_bl _)⟩
  · exact w.elim
def pScal (x y : D) (_ : Store) : Bool := scalD x y
def gEq : G2 := fun x y S => if pScal x y S then gEqS false x y S else gEqD false x y S
def gNe : G2 := fun x y S => if pScal x y S then gEqS true x y S else gEqD true x y S
theorem Cn.u64 (C : Cn X W k) : X.A.units + 64 < cLine := C.room.units
theorem Cn.u1 (C : Cn X W k) : X.A.units + 1 < cLine := Nat.lt_of_le_of_lt (by omega) C.u64
theorem opr_eq (C : Cn X W k) : OpR X (compareOp .Eq) (fun x y H Q => rEq x y H Q ∨ rEqD X.K x y H Q) := op_eq.or (op_eqD C.u64)
theorem opr_ne (C : Cn X W k) : OpR X (compareOp .NotEq) (fun x y H Q => rNe x y H Q ∨ rNeD X.K x y H Q) := op_ne.or (op_neD C.u64)
theorem opd_eq : OpD X (fun x y H Q => rEq x y H Q ∨ rEqD X.K x y H Q) gEq := OpD.or pScal opd_eqS opd_eqD
theorem opd_ne : OpD X (fun x y H Q => rNe x y H Q ∨ rNeD X.K x y H Q) gNe := OpD.or pScal opd_neS opd_neD

/-! ### in -/
def D.flat : D → Bool
  | .non => true
  | .bl _ => true
  | .int _ => true
  | .str _ => true
  | _ => false
def eqF : D → D → Bool
  | .non, .non => true
  | .bl a, .bl b => a == b
  | .bl a, .int b => (if a then 1 else 0) == b
  | .int a, .bl b => a == (if b then 1 else 0)
  | .int a, .int b => a == b
  | .str a, .str b => a == b
  | _, _ => false
theorem flat_V {φ : List Addr} {G : Hp} {d : D} {v : V} (h : Dat X.K X.mg φ G d v) (f : d.flat = true) : flatV v = true := by
  cases d <;> first
    | (cases f; done)
    | (unfold Dat at h; subst h; rfl)
theorem eqF_V {φ : List Addr} {G : Hp} {x y : D} {u v : V} (dx : Dat X.K X.mg φ G x u) (dy : Dat X.K X.mg φ G y v) (fx : x.flat = true) (fy : y.flat = true) : eqV u v = eqF x y := by
  cases x <;> cases y <;> first
    | (cases fx; done)
    | (cases fy; done)
    | (unfold Dat at dx dy; subst dx; subst dy; rfl)
theorem all_flat {φ : List Addr} {G : Hp} : ∀ {ds : List D} {vs : List V}, DatL X.K X.mg φ G ds vs → ds.all D.flat = true → vs.all flatV = true
  | [], _, h, _ => by
    unfold DatL at h
    subst h
    rfl
  | d :: ds, _, h, f => by
    obtain ⟨v, r, rfl, h1, h2⟩ := h.uncons
    rw [List.all_cons, Bool.and_eq_true] at f ⊢
    exact ⟨flat_V h1 f.1, all_flat h2 f.2⟩
def inF (x : D) (ds : List D) : Bool := ds.any fun y => eqF y x
theorem inF_V {φ : List Addr} {G : Hp} {x : D} {u : V} (dx : Dat X.K X.mg φ G x u) (fx : x.flat = true) : ∀ {ds : List D} {vs : List V}, DatL X.K X.mg φ G ds vs → ds.all D.flat = true → inV u vs = inF x ds
  | [], _, h, _ => by
    unfold DatL at h
    subst h
    rfl
  | d :: ds, _, h, f => by
    obtain ⟨v, r, rfl, h1, h2⟩ := h.uncons
    rw [List.all_cons, Bool.and_eq_true] at f
    have q := inF_V dx fx h2 f.2
    unfold inV inF at q ⊢
    rw [List.any_cons, List.any_cons, q, eqF_V h1 dx f.1 fx]
def gInQ (neg : Bool) : G2 := fun x y S => match asQ S y with
  | some ds => if x.flat && ds.all D.flat then .ok (.bl (if neg then !inF x ds else inF x ds)) S else .stuck
  | none => .stuck
theorem opd_inQ {neg : Bool} : OpD X (rIn X.K neg) (gInQ neg) := fun Z φ S H x y u v Q E R dx dy w => by
  unfold gInQ at w
  split at w
  · rename_i ds e1
    obtain ⟨h, w1⟩ := want_if w
    rw [Bool.and_eq_true] at h
    obtain ⟨p, vs, rfl, h1, h2⟩ := asQ_ok R dy e1
    refine ⟨p, vs, rfl, h1, flat_V dx h.1, all_flat h2 h.2, ?_⟩
    rw [inF_V dx h.1 h2 h.2]
    exact w1.now R (dat_bl _)
  · exact w.elim
/-! dicts -/
def asD (S : Store) : D → Option (List (Key × D))
  | .dic ks => some ks
  | .oid n => match S[n]? with
    | some (.dic ks) => some ks
    | some (.frz (.dic ks)) => some ks
    | _ => none
  | _ => none
theorem asD_ok {K : PySem.W.Frag} {mg : Str → Option Value} {Z φ : List Addr} {S : Store} {H : Hp} (R : Rel K mg Z φ S H) {d : D} {v : V} {ks : List (Key × D)} (h : Dat K mg φ (gnd Z φ S H) d v) (e : asD S d = some ks) : ∃ a kvs, v = .ref a ∧ H a = some (.dK kvs) ∧ DatK K mg φ (gnd Z φ S H) ks kvs := by
  cases d with
  | dic es =>
    cases e
    unfold Dat at h
    obtain ⟨a, vs, rfl, h1, h2⟩ := h
    exact ⟨a, vs, rfl, gnd_sub _ _ h1, h2⟩
  | oid n =>
    unfold Dat at h
    obtain ⟨a, rfl, h1⟩ := h
    cases q : S[n]? with
    | none => simp [asD, q] at e
    | some o =>
      simp only [asD, q] at e
      have ok := R.ob n a o h1 q
      cases o with
      | dic es =>
        cases e
        obtain ⟨vs, q1, q2⟩ := ok
        exact ⟨a, vs, rfl, q1, q2⟩
      | frz d =>
        cases d with
        | dic es =>
          cases e
          have ok' : Dat K mg φ (gnd Z φ S H) (.dic _) (.ref a) := ok
          unfold Dat at ok'
          obtain ⟨b, vs, e1, q1, q2⟩ := ok'
          cases e1
          exact ⟨a, vs, rfl, gnd_sub _ _ q1, q2⟩
        | _ => cases e
      | _ => cases e
  | _ => cases e
def keyD : D → Option Key
  | .int i => some (.inl i)
  | .str x => some (.inr x)
  | _ => none
theorem keyD_ok {φ : List Addr} {G : Hp} {d : D} {v : V} {k : Key} (h : Dat X.K X.mg φ G d v) (e : keyD d = some k) : v = kV k := by
  cases d with
  | int i => cases e; exact dInt h
  | str i => cases e; exact dStr h
  | _ => cases e
def valD (ks : List (Key × D)) (k : Key) : Option D := (ks.find? fun q => decide (q.1 = k)).map (·.2)
theorem valD_ok {K : PySem.W.Frag} {mg : Str → Option Value} {φ : List Addr} {G : Hp} {k : Key} : ∀ {ks : List (Key × D)} {kvs : List (Key × V)}, DatK K mg φ G ks kvs → (∀ d, valD ks k = some d → ∃ v, valV kvs k = some v ∧ Dat K mg φ G d v) ∧ (valD ks k = none → valV kvs k = none)
  | [], _, h => by
    unfold DatK at h
    subst h
    exact ⟨fun d q => (by cases q), fun _ => rfl⟩
  | (j, d) :: ks, _, h => by
    unfold DatK at h
    obtain ⟨v, r, rfl, h1, h2⟩ := h
    obtain ⟨A, B⟩ := valD_ok (k := k) h2
    unfold valD valV at A B ⊢
    rw [List.find?_cons, List.find?_cons]
    by_cases hj : j = k
    · simp only [hj, decide_true]
      exact ⟨fun e q => (by cases q; exact ⟨v, rfl, h1⟩), fun q => (by cases q)⟩
    · simp only [hj, decide_false]
      exact ⟨A, B⟩
theorem valD_some {K : PySem.W.Frag} {mg : Str → Option Value} {φ : List Addr} {G : Hp} {k : Key} {ks : List (Key × D)} {kvs : List (Key × V)} (h : DatK K mg φ G ks kvs) : (valV kvs k).isSome = (valD ks k).isSome := by
  obtain ⟨A, B⟩ := valD_ok (k := k) h
  cases q : valD ks k with
  | none => rw [B q]; rfl
  | some d =>
    obtain ⟨v, e, _⟩ := A d q
    rw [e]
    rfl
def rInD : R2 := fun y x H Q => ∃ a o, x = .ref a ∧ DGet H a y o ∧ Q (.bl o.isSome) H
def rNotInD : R2 := fun y x H Q => ∃ a o, x = .ref a ∧ DGet H a y o ∧ Q (.bl (!o.isSome)) H
theorem opr_inD (C : Cn X W k) : OpR X (compareOp .In) rInD := fun pins s σ H x y v u Q I rx ry h => by
  obtain ⟨p, o, rfl, g, q⟩ := h
  cases (show u = Value.ref p from ry)
  exact d_in C.u1 I g rx fun s' I' => ⟨.bl o.isSome, H, I', rfl, q⟩
theorem opr_notInD (C : Cn X W k) : OpR X (compareOp .NotIn) rNotInD := fun pins s σ H x y v u Q I rx ry h => by
  obtain ⟨p, o, rfl, g, q⟩ := h
  cases (show u = Value.ref p from ry)
  exact d_notIn C.u1 I g rx fun s' I' => ⟨.bl (!o.isSome), H, I', rfl, q⟩
def gInD (neg : Bool) : G2 := fun x y S => match asD S y, keyD x with
  | some ks, some j => .ok (.bl (if neg then !(valD ks j).isSome else (valD ks j).isSome)) S
  | _, _ => .stuck
theorem opd_inD : OpD X rInD (gInD false) := fun Z φ S H x y u v Q E R dx dy w => by
  unfold gInD at w
  split at w
  · rename_i ks j e1 e2
    obtain ⟨p, kvs, rfl, h1, h2⟩ := asD_ok R dy e1
    refine ⟨p, valV kvs j, rfl, .inl ⟨kvs, j, .inl h1, keyD_ok dx e2, rfl⟩, ?_⟩
    rw [valD_some h2]
    exact w.now R (dat_bl _)
  · exact w.elim
theorem opd_notInD : OpD X rNotInD (gInD true) := fun Z φ S H x y u v Q E R dx dy w => by
  unfold gInD at w
  split at w
  · rename_i ks j e1 e2
    obtain ⟨p, kvs, rfl, h1, h2⟩ := asD_ok R dy e1
    refine ⟨p, valV kvs j, rfl, .inl ⟨kvs, j, .inl h1, keyD_ok dx e2, rfl⟩, ?_⟩
    rw [valD_some h2]
    exact w.now R (dat_bl _)
  · exact w.elim
def pDic (_ y : D) (S : Store) : Bool := (asD S y).isSome
def gIn : G2 := fun x y S => if pDic x y S then gInD false x y S else gInQ false x y S
def gNotIn : G2 := fun x y S => if pDic x y S then gInD true x y S else gInQ true x y S
theorem opr_in (C : Cn X W k) : OpR X (compareOp .In) (fun x y H Q => rInD x y H Q ∨ rIn X.K false x y H Q) := (opr_inD C).or op_in_seq
theorem opr_notIn (C : Cn X W k) : OpR X (compareOp .NotIn) (fun x y H Q => rNotInD x y H Q ∨ rIn X.K true x y H Q) := (opr_notInD C).or op_notIn_seq
theorem opd_in : OpD X (fun x y H Q => rInD x y H Q ∨ rIn X.K false x y H Q) gIn := OpD.or pDic opd_inD opd_inQ
theorem opd_notIn : OpD X (fun x y H Q => rNotInD x y H Q ∨ rIn X.K true x y H Q) gNotIn := OpD.or pDic opd_notInD opd_inQ

/-! ### items -/
def gIxQ : G2 := fun x y S => match asQ S x, y with
  | some ds, .int i => (match atI ds i with
    | some d => .ok d S
    | none => .stuck)
  | _, _ => .stuck
theorem atI_dat {φ : List Addr} {G : Hp} {ds : List D} {vs : List V} (h : DatL X.K X.mg φ G ds vs) {i : Int} {d : D} (e : atI ds i = some d) : ∃ v, atI vs i = some v ∧ Dat X.K X.mg φ G d v := by
  unfold atI at e ⊢
  rw [h.length]
  obtain ⟨j, h1, h2⟩ := Option.bind_eq_some_iff.mp e
  obtain ⟨v, h3, h4⟩ := h.get h2
  exact ⟨v, by rw [h1, Option.bind_some, h3], h4⟩
theorem opd_ixQ : OpD X (fun x y H Q => rIxL X.K x y H Q ∨ rIxT X.K x y H Q) gIxQ := fun Z φ S H x y u v Q E R dx dy w => by
  unfold gIxQ at w
  split at w
  · rename_i ds i e1
    cases dInt dy
    obtain ⟨p, vs, rfl, h1, h2⟩ := asQ_ok R dx e1
    cases q : atI ds i with
    | none => rw [q] at w; exact w.elim
    | some d =>
      rw [q] at w
      obtain ⟨z, h3, h4⟩ := atI_dat h2 q
      rcases h1 with h1 | h1
      · exact .inl ⟨p, vs, i, z, rfl, rfl, h1, h3, w.now R h4⟩
      · exact .inr ⟨p, vs, i, z, rfl, rfl, h1, h3, w.now R h4⟩
  · exact w.elim
def rIxD : R2 := fun x y H Q => ∃ a v, x = .ref a ∧ DGet H a y (some v) ∧ Q v H
theorem ix_dict (C : Cn X W k) : IxR X rIxD := fun value slice pins s σ H x y v u Q I rx ry h hs => by
  obtain ⟨p, z, rfl, g, q⟩ := h
  cases (show v = Value.ref p from rx)
  exact PyProof.Rows.tail_any (dict_typeIs I g) PySem.F.slot_dict_getitem.lookup (d_getItem C.u1 I g ry fun w' s3 I3 rw' => ⟨z, H, I3, rw', q⟩) hs
def gIxD : G2 := fun x y S => match asD S x, keyD y with
  | some ks, some j => (match valD ks j with
    | some d => .ok d S
    | none => .stuck)
  | _, _ => .stuck
theorem opd_ixD : OpD X rIxD gIxD := fun Z φ S H x y u v Q E R dx dy w => by
  unfold gIxD at w
  split at w
  · rename_i ks j e1 e2
    obtain ⟨p, kvs, rfl, h1, h2⟩ := asD_ok R dx e1
    cases q : valD ks j with
    | none => rw [q] at w; exact w.elim
    | some d =>
      rw [q] at w
      obtain ⟨z, h3, h4⟩ := (valD_ok h2).1 d q
      exact ⟨p, z, rfl, .inl ⟨kvs, j, .inl h1, keyD_ok dy e2, h3.symm⟩, w.now R h4⟩
  · exact w.elim
def gIxS : G2 := fun x y S => match x, y with
  | .str z, .int i => if short z.length then (match atI z.cps.toList i with
    | some c => .ok (.str ⟨#[c]⟩) S
    | none => .stuck) else .stuck
  | _, _ => .stuck
theorem opd_ixS : OpD X rIxS gIxS := fun Z φ S H x y u v Q E R dx dy w => by
  unfold gIxS at w
  split at w
  · rename_i z i
    cases dInt dy
    cases dStr dx
    obtain ⟨h, w1⟩ := want_if w
    cases q : atI z.cps.toList i with
    | none => rw [q] at w1; exact w1.elim
    | some c =>
      rw [q] at w1
      exact ⟨z, i, c, rfl, rfl, of_decide_eq_true h, q, w1.now R (dat_str _)⟩
  · exact w.elim
def pDic1 (x _ : D) (S : Store) : Bool := (asD S x).isSome
def gIx : G2 := fun x y S => if pDic1 x y S then gIxD x y S else if isS x y S then gIxS x y S else gIxQ x y S
theorem de_sub1 (C : Cn X W k) (ha : DE X W a fa) (hb : DE X W b fb) (hs : PlainIx b := by intro _ _; rfl) : DE X W (.Subscript a b pos) (fBin gIx fa fb) :=
  de_ix ((ix_dict C).or (ix_str.or (ix_list.or ix_tup))) (OpD.or pDic1 opd_ixD (OpD.or isS opd_ixS opd_ixQ)) ha hb hs
end
end DL

/-! The data layer, part 10: chains of comparisons, calls of built-in functions. -/
namespace DL
open PySem L2

section
variable {X : Cx} {W : WX} {k : Nat} {a b c e : Expr} {es : List Expr} {fa fb fc fe : FE} {pos p : Pos}
/-! ### chains -/
theorem chain_ok {ta tb tc : TE} {r r' : R2} {g g' : G2} (hg : OpD X r g) (hg' : OpD X r' g') (qa : IsE X W ta fa) (qb : IsE X W tb fb) (qc : IsE X W tc fc) : IsE X W (tChain r r' ta tb tc) (fChain g g' fa fb fc) := fun Z φ S ρ σ H Q R sl w =>
  qa Z φ S ρ σ H _ R sl (w.bind fun x S1 u φ1 H1 R1 E1 d1 w1 => qb Z φ1 S1 ρ σ H1 _ R1 (sl.evo E1) (w1.bind fun y S2 v φ2 H2 R2 E2 d2 w2 =>
    hg Z φ2 S2 H2 x y u v _ _ R2 (Dat.evo E2 d1) d2 (w2.bind fun z S3 t φ3 H3 R3 E3 d3 w3 => by
      cases z with
      | bl k =>
        unfold RDat Dat at d3
        refine ⟨k, d3, ?_⟩
        cases k with
        | true => exact iteT (qc Z φ3 S3 ρ σ H3 _ R3 (((sl.evo E1).evo E2).evo E3) (w3.bind fun s S4 q φ4 H4 R4 E4 d4 w4 => hg' Z φ4 S4 H4 y s v q _ _ R4 (Dat.evo E4 (Dat.evo E3 d2)) d4 w4))
        | false => exact iteF (w3.now R3 (dat_bl _))
      | _ => exact w3.elim)))
theorem de_chain {op op' : CmpOp} {r r' : R2} {g g' : G2} (ho : OpR X (compareOp op) r) (ho' : OpR X (compareOp op') r') (hg : OpD X r g) (hg' : OpD X r' g') (ha : DE X W a fa) (hb : DE X W b fb) (hc : DE X W c fc)
    (hm : lastMarks [op, op'] [b, c] = false := by with_unfolding_all rfl) : DE X W (.Compare a [op, op'] [b, c] pos) (fChain g g' fa fb fc) := by
  obtain ⟨ta, pa, qa⟩ := ha.ex
  obtain ⟨tb, pb, qb⟩ := hb.ex
  obtain ⟨tc, pc, qc⟩ := hc.ex
  exact .mk (pe_chain ho ho' pa pb pc hm) (chain_ok hg hg' qa qb qc)
theorem dt_chain {op op' : CmpOp} {r r' : R2} {g g' : G2} (ho : OpR X (compareOp op) r) (ho' : OpR X (compareOp op') r') (hg : OpD X r g) (hg' : OpD X r' g') (ha : DE X W a fa) (hb : DE X W b fb) (hc : DE X W c fc)
    (hm : lastMarks [op, op'] [b, c] = false := by with_unfolding_all rfl) : DT X W (.Compare a [op, op'] [b, c] pos) (toB (fChain g g' fa fb fc)) := by
  obtain ⟨ta, pa, qa⟩ := ha.ex
  obtain ⟨tb, pb, qb⟩ := hb.ex
  obtain ⟨tc, pc, qc⟩ := hc.ex
  exact .mk (pt_chain ho ho' pa pb pc hm) (toB_ok (chain_ok hg hg' qa qb qc))

/-! ### calls of what is built in -/
abbrev GC := List D → Store → Res D
def CallD (X : Cx) (r : List V → Hp → VK → Prop) (g : GC) : Prop := ∀ (Z φ : List Addr) (S : Store) (H : Hp) (ds : List D) (vs : List V) (Q : VK) (E : XK), Rel X.K X.mg Z φ S H → DatL X.K X.mg φ (gnd Z φ S H) ds vs → Want X.K X.mg (RDat X.K X.mg) Z φ S H (g ds S) Q E → r vs H Q
def fCB (g : GC) (fa : FA) : FE := fun ρ S => (fa ρ S).bind g
theorem isE_cb {r : List V → Hp → VK → Prop} {g : GC} {t : TA} {fa : FA} (hg : CallD X r g) (q : IsA X W t fa) : IsE X W (tCB r t) (fCB g fa) := fun Z φ S ρ σ H Q R sl w =>
  q Z φ S ρ σ H _ R sl (w.bind fun ds S1 vs φ1 H1 R1 E1 d w1 => hg Z φ1 S1 H1 ds vs Q _ R1 d w1)
theorem de_callB {x : Str} {id : String} {r : List V → Hp → VK → Prop} {g : GC} {fa : FA} (hc : CallR X (.builtin id) r) (hd : CallD X r g) (hg : Gl X x) (hm : X.mg x = none) (hv : bootBuiltins x = some (.builtin id)) (ha : DA X W (e :: es) fa) (hn : x ≠ "__name__" := by decide) (hdb : (x == ("__debug__" : Str)) = false := by decide)
    (he : starEach (e :: es) X.env = (false, eval e X.env) :: starEach es X.env := by rfl) (hpl : (backTo pos (starEach es X.env)).any (·.1) = false := by rfl) : DE X W (.Call (.Name x p) (e :: es) [] pos) (fCB g fa) := by
  obtain ⟨t, p, q⟩ := ha.ex
  exact .mk (pe_callB hc hg hm hv p hn hdb he hpl) (isE_cb hd q)
theorem de_callTy {x : Str} {id : String} {r : List V → Hp → VK → Prop} {g : GC} {fa : FA} (hc : CallR X (.type id) r) (hd : CallD X r g) (hg : Gl X x) (hm : X.mg x = none) (hv : bootBuiltins x = some (.type id)) (ha : DA X W (e :: es) fa) (hn : x ≠ "__name__" := by decide) (hdb : (x == ("__debug__" : Str)) = false := by decide)
    (he : starEach (e :: es) X.env = (false, eval e X.env) :: starEach es X.env := by rfl) (hpl : (backTo pos (starEach es X.env)).any (·.1) = false := by rfl) : DE X W (.Call (.Name x p) (e :: es) [] pos) (fCB g fa) := by
  obtain ⟨t, p, q⟩ := ha.ex
  exact .mk (pe_callTy hc hg hm hv p hn hdb he hpl) (isE_cb hd q)
theorem callR_or {f : Value} {r r' : List V → Hp → VK → Prop} (h : CallR X f r) (h' : CallR X f r') : CallR X f (fun xs H Q => r xs H Q ∨ r' xs H Q) := fun pins s σ H xs us Q I rx q => q.elim (h pins s σ H xs us Q I rx) (h' pins s σ H xs us Q I rx)
theorem callD_or {r r' : List V → Hp → VK → Prop} {g g' : GC} (t : List D → Store → Bool) (h : CallD X r g) (h' : CallD X r' g') : CallD X (fun xs H Q => r xs H Q ∨ r' xs H Q) (fun ds S => if t ds S then g ds S else g' ds S) := fun Z φ S H ds vs Q E R d w => by
  by_cases q : t ds S = true
  · exact .inl (h Z φ S H ds vs Q E R d (by simpa only [q, if_true] using w))
  · exact .inr (h' Z φ S H ds vs Q E R d (by simpa [q] using w))

/-! len -/
def gLenQ : GC := fun ds S => match ds with
  | [d] => match asQ S d with
    | some xs => .ok (.int (xs.length : Nat)) S
    | none => .stuck
  | _ => .stuck
def gLenS : GC := fun ds S => match ds with
  | [.str z] => if short z.length then .ok (.int (z.length : Nat)) S else .stuck
  | _ => .stuck
def gLenD : GC := fun ds S => match ds with
  | [d] => match asD S d with
    | some ks => .ok (.int (ks.length : Nat)) S
    | none => .stuck
  | _ => .stuck
theorem datK_length {K : PySem.W.Frag} {mg : Str → Option Value} {φ : List Addr} {G : Hp} : ∀ {ks : List (Key × D)} {kvs : List (Key × V)}, DatK K mg φ G ks kvs → kvs.length = ks.length
  | [], _, h => by
    unfold DatK at h
    subst h
    rfl
  | (k, d) :: ks, _, h => by
    unfold DatK at h
    obtain ⟨v, r, rfl, _, h2⟩ := h
    rw [List.length_cons, List.length_cons, datK_length h2]
theorem cd_lenQ : CallD X (fun xs H Q => ∃ p ys, xs = [.ref p] ∧ (SqL X.K H p ys ∨ SqT X.K H p ys) ∧ Q (.int ys.length) H) gLenQ := fun Z φ S H ds vs Q E R d w => by
  unfold gLenQ at w
  split at w
  · obtain ⟨v, rfl, h1⟩ := datL1 d
    split at w
    · rename_i xs e1
      obtain ⟨a, us, rfl, h2, h3⟩ := asQ_ok R h1 e1
      refine ⟨a, us, rfl, h2, ?_⟩
      rw [h3.length]
      exact w.now R (dat_int _)
    · exact w.elim
  · exact w.elim
theorem cd_lenS : CallD X (fun xs H Q => ∃ z, xs = [.str z] ∧ z.length ≤ sizeLine ∧ Q (.int z.length) H) gLenS := fun Z φ S H ds vs Q E R d w => by
  unfold gLenS at w
  split at w
  · obtain ⟨v, rfl, h1⟩ := datL1 d
    obtain ⟨h, w1⟩ := want_if w
    cases dStr h1
    exact ⟨_, rfl, of_decide_eq_true h, w1.now R (dat_int _)⟩
  · exact w.elim
theorem cd_lenD : CallD X (fun xs H Q => ∃ a kvs, xs = [V.ref a] ∧ H a = some (.dK kvs) ∧ Q (.int kvs.length) H) gLenD := fun Z φ S H ds vs Q E R d w => by
  unfold gLenD at w
  split at w
  · obtain ⟨v, rfl, h1⟩ := datL1 d
    split at w
    · rename_i xs e1
      obtain ⟨a, us, rfl, h2, h3⟩ := asD_ok R h1 e1
      refine ⟨a, us, rfl, h2, ?_⟩
      rw [datK_length h3]
      exact w.now R (dat_int _)
    · exact w.elim
  · exact w.elim
def isDic1 (ds : List D) (S : Store) : Bool := match ds with
  | [d] => (asD S d).isSome
  | _ => false
def isStr1 (ds : List D) (_ : Store) : Bool := match ds with
  | [.str _] => true
  | _ => false
def gLen : GC := fun ds S => if isDic1 ds S then gLenD ds S else if isStr1 ds S then gLenS ds S else gLenQ ds S
theorem de_len {fa : FA} (hg : Gl X "len") (hm : X.mg "len" = none) (ha : DA X W [e] fa) (he : starEach [e] X.env = (false, eval e X.env) :: starEach [] X.env := by rfl) (hpl : (backTo pos (starEach [] X.env)).any (·.1) = false := by rfl) :
    DE X W (.Call (.Name "len" p) [e] [] pos) (fCB gLen fa) :=
  de_callB (callR_or call_lenD (callR_or call_len_str call_len_seq)) (callD_or isDic1 cd_lenD (callD_or isStr1 cd_lenS cd_lenQ)) hg hm (by rfl) ha (by decide) (by decide) he hpl

/-! abs, max, min -/
def gAbs : GC := fun ds S => match ds with
  | [.int i] => .ok (.int (if i < 0 then -i else i)) S
  | _ => .stuck
theorem de_abs {fa : FA} (hg : Gl X "abs") (hm : X.mg "abs" = none) (ha : DA X W [e] fa) (he : starEach [e] X.env = (false, eval e X.env) :: starEach [] X.env := by rfl) (hpl : (backTo pos (starEach [] X.env)).any (·.1) = false := by rfl) :
    DE X W (.Call (.Name "abs" p) [e] [] pos) (fCB gAbs fa) :=
  de_callB call_abs (fun Z φ S H ds vs Q E R d w => by
    unfold gAbs at w
    split at w
    · obtain ⟨v, rfl, h1⟩ := datL1 d
      cases dInt h1
      exact ⟨_, rfl, w.now R (dat_int _)⟩
    · exact w.elim) hg hm (by rfl) ha (by decide) (by decide) he hpl
def intsOf : List D → Option (List Int)
  | [] => some []
  | .int i :: ds => (intsOf ds).map (i :: ·)
  | _ => none
theorem intsOf_ok {K : PySem.W.Frag} {mg : Str → Option Value} {φ : List Addr} {G : Hp} : ∀ {ds : List D} {vs : List V} {ns : List Int}, DatL K mg φ G ds vs → intsOf ds = some ns → vs = ns.map V.int
  | [], _, _, h, e => by
    cases e
    unfold DatL at h
    exact h
  | d :: ds, _, ns, h, e => by
    obtain ⟨v, r, rfl, h1, h2⟩ := h.uncons
    cases d with
    | int i =>
      unfold intsOf at e
      cases q : intsOf ds with
      | none => rw [q] at e; cases e
      | some ms =>
        rw [q] at e
        cases e
        unfold Dat at h1
        subst h1
        rw [intsOf_ok h2 q]
        rfl
    | _ => cases e
theorem dat_ints {K : PySem.W.Frag} {mg : Str → Option Value} {φ : List Addr} {G : Hp} : ∀ (ns : List Int), DatL K mg φ G (ns.map D.int) (ns.map V.int)
  | [] => DatL.nil
  | n :: ns => .cons (by unfold Dat; rfl) (dat_ints ns)
def seqInts (S : Store) (d : D) : Option (List Int) := (asL S d).bind intsOf
theorem seqInts_ok {Z φ : List Addr} {S : Store} {H : Hp} {d : D} {v : V} {ns : List Int} (R : Rel X.K X.mg Z φ S H) (h : Dat X.K X.mg φ (gnd Z φ S H) d v) (e : seqInts S d = some ns) : ∃ a, v = .ref a ∧ SqL X.K H a (ns.map V.int) := by
  obtain ⟨ds, e1, e2⟩ := Option.bind_eq_some_iff.mp e
  obtain ⟨a, us, rfl, h2, h3⟩ := asL_ok R h e1
  refine ⟨a, rfl, ?_⟩
  rw [← intsOf_ok h3 e2]
  exact h2
def maxI : Int → List Int → Int
  | m, [] => m
  | m, n :: ns => maxI (if n > m then n else m) ns
def minI : Int → List Int → Int
  | m, [] => m
  | m, n :: ns => minI (if n < m then n else m) ns
theorem maxI_spec : ∀ (ns : List Int) (m : Int), maxI m ns ∈ m :: ns ∧ ∀ y ∈ m :: ns, y ≤ maxI m ns
  | [], m => ⟨by simp [maxI], fun y h => by simp at h; simp [maxI, h]⟩
  | n :: ns, m => by
    obtain ⟨a, b⟩ := maxI_spec ns (if n > m then n else m)
    have e : maxI m (n :: ns) = maxI (if n > m then n else m) ns := rfl
    rw [e]
    refine ⟨?_, fun y hy => ?_⟩
    · rcases List.mem_cons.mp a with h | h
      · rw [h]
        split
        · simp
        · simp
      · exact List.mem_cons_of_mem _ (List.mem_cons_of_mem _ h)
    · have top := b _ List.mem_cons_self
      have u1 : m ≤ (if n > m then n else m) := by split <;> omega
      have u2 : n ≤ (if n > m then n else m) := by split <;> omega
      rcases List.mem_cons.mp hy with h | h
      · rw [h]
        exact Int.le_trans u1 top
      · rcases List.mem_cons.mp h with h | h
        · rw [h]
          exact Int.le_trans u2 top
        · exact b y (List.mem_cons_of_mem _ h)
theorem minI_spec : ∀ (ns : List Int) (m : Int), minI m ns ∈ m :: ns ∧ ∀ y ∈ m :: ns, minI m ns ≤ y
  | [], m => ⟨by simp [minI], fun y h => by simp at h; simp [minI, h]⟩
  | n :: ns, m => by
    obtain ⟨a, b⟩ := minI_spec ns (if n < m then n else m)
    have e : minI m (n :: ns) = minI (if n < m then n else m) ns := rfl
    rw [e]
    refine ⟨?_, fun y hy => ?_⟩
    · rcases List.mem_cons.mp a with h | h
      · rw [h]
        split
        · simp
        · simp
      · exact List.mem_cons_of_mem _ (List.mem_cons_of_mem _ h)
    · have top := b _ List.mem_cons_self
      have u1 : (if n < m then n else m) ≤ m := by split <;> omega
      have u2 : (if n < m then n else m) ≤ n := by split <;> omega
      rcases List.mem_cons.mp hy with h | h
      · rw [h]
        exact Int.le_trans top u1
      · rcases List.mem_cons.mp h with h | h
        · rw [h]
          exact Int.le_trans top u2
        · exact b y (List.mem_cons_of_mem _ h)
def gMax2 : GC := fun ds S => match ds with
  | [.int i, .int j] => .ok (.int (if j > i then j else i)) S
  | _ => .stuck
def gMin2 : GC := fun ds S => match ds with
  | [.int i, .int j] => .ok (.int (if j < i then j else i)) S
  | _ => .stuck
def gMaxL : GC := fun ds S => match ds with
  | [d] => match seqInts S d with
    | some (n :: ns) => .ok (.int (maxI n ns)) S
    | _ => .stuck
  | _ => .stuck
def gMinL : GC := fun ds S => match ds with
  | [d] => match seqInts S d with
    | some (n :: ns) => .ok (.int (minI n ns)) S
    | _ => .stuck
  | _ => .stuck
def two (ds : List D) (_ : Store) : Bool := decide (ds.length = 2)
def gMax : GC := fun ds S => if two ds S then gMax2 ds S else gMaxL ds S
def gMin : GC := fun ds S => if two ds S then gMin2 ds S else gMinL ds S
theorem cd_max2 : CallD X (fun xs H Q => ∃ i j, xs = [.int i, .int j] ∧ Q (.int (if j > i then j else i)) H) gMax2 := fun Z φ S H ds vs Q E R d w => by
  unfold gMax2 at w
  split at w
  · obtain ⟨v, u, rfl, h1, h2⟩ := datL2 d
    cases dInt h1
    cases dInt h2
    exact ⟨_, _, rfl, w.now R (dat_int _)⟩
  · exact w.elim
theorem cd_min2 : CallD X (fun xs H Q => ∃ i j, xs = [.int i, .int j] ∧ Q (.int (if j < i then j else i)) H) gMin2 := fun Z φ S H ds vs Q E R d w => by
  unfold gMin2 at w
  split at w
  · obtain ⟨v, u, rfl, h1, h2⟩ := datL2 d
    cases dInt h1
    cases dInt h2
    exact ⟨_, _, rfl, w.now R (dat_int _)⟩
  · exact w.elim
theorem cd_maxL : CallD X (rMax X.K) gMaxL := fun Z φ S H ds vs Q E R d w => by
  unfold gMaxL at w
  split at w
  · obtain ⟨v, rfl, h1⟩ := datL1 d
    split at w
    · rename_i n ns e1
      obtain ⟨a, rfl, h2⟩ := seqInts_ok R h1 e1
      refine ⟨a, n :: ns, rfl, h2, by simp, fun m hm hb => ?_⟩
      obtain ⟨q1, q2⟩ := maxI_spec ns n
      rw [Int.le_antisymm (q2 m hm) (hb _ q1)]
      exact w.now R (dat_int _)
    · exact w.elim
  · exact w.elim
theorem cd_minL : CallD X (rMin X.K) gMinL := fun Z φ S H ds vs Q E R d w => by
  unfold gMinL at w
  split at w
  · obtain ⟨v, rfl, h1⟩ := datL1 d
    split at w
    · rename_i n ns e1
      obtain ⟨a, rfl, h2⟩ := seqInts_ok R h1 e1
      refine ⟨a, n :: ns, rfl, h2, by simp, fun m hm hb => ?_⟩
      obtain ⟨q1, q2⟩ := minI_spec ns n
      rw [Int.le_antisymm (hb _ q1) (q2 m hm)]
      exact w.now R (dat_int _)
    · exact w.elim
  · exact w.elim
theorem de_max (C : Cn X W k) {fa : FA} (hg : Gl X "max") (hm : X.mg "max" = none) (ha : DA X W (e :: es) fa) (he : starEach (e :: es) X.env = (false, eval e X.env) :: starEach es X.env := by rfl) (hpl : (backTo pos (starEach es X.env)).any (·.1) = false := by rfl) :
    DE X W (.Call (.Name "max" p) (e :: es) [] pos) (fCB gMax fa) :=
  de_callB (callR_or (call_max2 C.calm) (cr_max C.calm)) (callD_or two cd_max2 cd_maxL) hg hm (by rfl) ha (by decide) (by decide) he hpl
theorem de_min (C : Cn X W k) {fa : FA} (hg : Gl X "min") (hm : X.mg "min" = none) (ha : DA X W (e :: es) fa) (he : starEach (e :: es) X.env = (false, eval e X.env) :: starEach es X.env := by rfl) (hpl : (backTo pos (starEach es X.env)).any (·.1) = false := by rfl) :
    DE X W (.Call (.Name "min" p) (e :: es) [] pos) (fCB gMin fa) :=
  de_callB (callR_or (call_min2 C.calm) (cr_min C.calm)) (callD_or two cd_min2 cd_minL) hg hm (by rfl) ha (by decide) (by decide) he hpl
/-! sum, sorted -/
def gSum : GC := fun ds S => match ds with
  | [d] => match seqInts S d with
    | some ns => .ok (.int ns.sum) S
    | _ => .stuck
  | _ => .stuck
theorem de_sum (C : Cn X W k) {fa : FA} (hg : Gl X "sum") (hm : X.mg "sum" = none) (ha : DA X W [e] fa) (he : starEach [e] X.env = (false, eval e X.env) :: starEach [] X.env := by rfl) (hpl : (backTo pos (starEach [] X.env)).any (·.1) = false := by rfl) :
    DE X W (.Call (.Name "sum" p) [e] [] pos) (fCB gSum fa) :=
  de_callB (cr_sum C.calm) (fun Z φ S H ds vs Q E R d w => by
    unfold gSum at w
    split at w
    · obtain ⟨v, rfl, h1⟩ := datL1 d
      split at w
      · rename_i ns e1
        obtain ⟨a, rfl, h2⟩ := seqInts_ok R h1 e1
        exact ⟨a, ns, rfl, h2, w.now R (dat_int _)⟩
      · exact w.elim
    · exact w.elim) hg hm (by rfl) ha (by decide) (by decide) he hpl
def gSorted : GC := fun ds S => match ds with
  | [d] => match seqInts S d with
    | some ns => .ok (.lst ((PySem.W.sortI ns).map D.int)) S
    | _ => .stuck
  | _ => .stuck
def gSortedO : GC := fun ds S => match ds with
  | [d] => match seqInts S d with
    | some ns => .ok (.oid S.length) (S ++ [.lst ((PySem.W.sortI ns).map D.int)])
    | _ => .stuck
  | _ => .stuck
theorem cd_sorted : CallD X (rSortedI X.K) gSorted := fun Z φ S H ds vs Q E R d w => by
  unfold gSorted at w
  split at w
  · obtain ⟨v, rfl, h1⟩ := datL1 d
    split at w
    · rename_i ns e1
      obtain ⟨a, rfl, h2⟩ := seqInts_ok R h1 e1
      refine ⟨a, ns, rfl, h2, fun ns' p hp hs hn => ?_⟩
      rw [PySem.W.eq_sortI hp hs]
      obtain ⟨r, e, g⟩ := dat_newL R (dat_ints (PySem.W.sortI ns)) hn
      exact w _ _ _ r e g
    · exact w.elim
  · exact w.elim
theorem cd_sortedO : CallD X (rSortedI X.K) gSortedO := fun Z φ S H ds vs Q E R d w => by
  unfold gSortedO at w
  split at w
  · obtain ⟨v, rfl, h1⟩ := datL1 d
    split at w
    · rename_i ns e1
      obtain ⟨a, rfl, h2⟩ := seqInts_ok R h1 e1
      refine ⟨a, ns, rfl, h2, fun ns' p hp hs hn => ?_⟩
      rw [PySem.W.eq_sortI hp hs]
      obtain ⟨r, e, g⟩ := dat_newO R (dat_ints (PySem.W.sortI ns)) hn
      exact w _ _ _ r e g
    · exact w.elim
  · exact w.elim
theorem de_sorted {fa : FA} (hg : Gl X "sorted") (hm : X.mg "sorted" = none) (ha : DA X W [e] fa) (he : starEach [e] X.env = (false, eval e X.env) :: starEach [] X.env := by rfl) (hpl : (backTo pos (starEach [] X.env)).any (·.1) = false := by rfl) :
    DE X W (.Call (.Name "sorted" p) [e] [] pos) (fCB gSorted fa) := de_callB cr_sortedI cd_sorted hg hm (by rfl) ha (by decide) (by decide) he hpl
theorem de_sortedO {fa : FA} (hg : Gl X "sorted") (hm : X.mg "sorted" = none) (ha : DA X W [e] fa) (he : starEach [e] X.env = (false, eval e X.env) :: starEach [] X.env := by rfl) (hpl : (backTo pos (starEach [] X.env)).any (·.1) = false := by rfl) :
    DE X W (.Call (.Name "sorted" p) [e] [] pos) (fCB gSortedO fa) := de_callB cr_sortedI cd_sortedO hg hm (by rfl) ha (by decide) (by decide) he hpl
/-! all, any -/
def bsOf : List D → Option (List Bool)
  | [] => some []
  | .bl b :: ds => (bsOf ds).map (b :: ·)
  | _ => none
theorem bsOf_ok {K : PySem.W.Frag} {mg : Str → Option Value} {φ : List Addr} {G : Hp} : ∀ {ds : List D} {vs : List V} {ns : List Bool}, DatL K mg φ G ds vs → bsOf ds = some ns → vs = ns.map V.bl
  | [], _, _, h, e => by
    cases e
    unfold DatL at h
    exact h
  | d :: ds, _, ns, h, e => by
    obtain ⟨v, r, rfl, h1, h2⟩ := h.uncons
    cases d with
    | bl i =>
      unfold bsOf at e
      cases q : bsOf ds with
      | none => rw [q] at e; cases e
      | some ms =>
        rw [q] at e
        cases e
        unfold Dat at h1
        subst h1
        rw [bsOf_ok h2 q]
        rfl
    | _ => cases e
def gAllAny (all : Bool) : GC := fun ds S => match ds with
  | [d] => match (asL S d).bind bsOf with
    | some bs => .ok (.bl (if all then bs.all id else bs.any id)) S
    | none => .stuck
  | _ => .stuck
theorem de_all (C : Cn X W k) {fa : FA} (hg : Gl X "all") (hm : X.mg "all" = none) (ha : DA X W [e] fa) (he : starEach [e] X.env = (false, eval e X.env) :: starEach [] X.env := by rfl) (hpl : (backTo pos (starEach [] X.env)).any (·.1) = false := by rfl) :
    DE X W (.Call (.Name "all" p) [e] [] pos) (fCB (gAllAny true) fa) :=
  de_callB (cr_all C.calm) (fun Z φ S H ds vs Q E R d w => by
    unfold gAllAny at w
    split at w
    · obtain ⟨v, rfl, h1⟩ := datL1 d
      split at w
      · rename_i bs e1
        obtain ⟨xs, e1, e2⟩ := Option.bind_eq_some_iff.mp e1
        obtain ⟨a, us, rfl, h2, h3⟩ := asL_ok R h1 e1
        rw [bsOf_ok h3 e2] at h2
        exact ⟨a, bs, rfl, h2, w.now R (dat_bl _)⟩
      · exact w.elim
    · exact w.elim) hg hm (by rfl) ha (by decide) (by decide) he hpl
theorem de_any (C : Cn X W k) {fa : FA} (hg : Gl X "any") (hm : X.mg "any" = none) (ha : DA X W [e] fa) (he : starEach [e] X.env = (false, eval e X.env) :: starEach [] X.env := by rfl) (hpl : (backTo pos (starEach [] X.env)).any (·.1) = false := by rfl) :
    DE X W (.Call (.Name "any" p) [e] [] pos) (fCB (gAllAny false) fa) :=
  de_callB (cr_any C.calm) (fun Z φ S H ds vs Q E R d w => by
    unfold gAllAny at w
    split at w
    · obtain ⟨v, rfl, h1⟩ := datL1 d
      split at w
      · rename_i bs e1
        obtain ⟨xs, e1, e2⟩ := Option.bind_eq_some_iff.mp e1
        obtain ⟨a, us, rfl, h2, h3⟩ := asL_ok R h1 e1
        rw [bsOf_ok h3 e2] at h2
        exact ⟨a, bs, rfl, h2, w.now R (dat_bl _)⟩
      · exact w.elim
    · exact w.elim) hg hm (by rfl) ha (by decide) (by decide) he hpl

/-! list, tuple -/
def gToL : GC := fun ds S => match ds with
  | [d] => match asQ S d with
    | some xs => .ok (.lst xs) S
    | none => .stuck
  | _ => .stuck
def gToO : GC := fun ds S => match ds with
  | [d] => match asQ S d with
    | some xs => .ok (.oid S.length) (S ++ [.lst xs])
    | none => .stuck
  | _ => .stuck
def keyV : Key → D
  | .inl i => .int i
  | .inr x => .str x
def gKeysL : GC := fun ds S => match ds with
  | [d] => match asD S d with
    | some ks => .ok (.lst (ks.map fun q => keyV q.1)) S
    | none => .stuck
  | _ => .stuck
def gKeysO : GC := fun ds S => match ds with
  | [d] => match asD S d with
    | some ks => .ok (.oid S.length) (S ++ [.lst (ks.map fun q => keyV q.1)])
    | none => .stuck
  | _ => .stuck
theorem datK_keys {K : PySem.W.Frag} {mg : Str → Option Value} {φ φ' : List Addr} {G G' : Hp} : ∀ {ks : List (Key × D)} {kvs : List (Key × V)}, DatK K mg φ G ks kvs → DatL K mg φ' G' (ks.map fun q => keyV q.1) (kvs.map fun kv => kV kv.1)
  | [], _, h => by
    unfold DatK at h
    subst h
    exact DatL.nil
  | (k, d) :: ks, _, h => by
    unfold DatK at h
    obtain ⟨v, r, rfl, _, h2⟩ := h
    refine .cons ?_ (datK_keys h2)
    cases k <;> unfold keyV Dat <;> rfl
abbrev rListOf (K : PySem.W.Frag) : List V → Hp → VK → Prop := fun xs H Q => ∃ p ys, xs = [.ref p] ∧ (SqL K H p ys ∨ SqT K H p ys) ∧ ∀ l, H l = none → Q (.ref l) (upd H l (.lst ys))
theorem cd_toL : CallD X (rListOf X.K) gToL := fun Z φ S H ds vs Q E R d w => by
  unfold gToL at w
  split at w
  · obtain ⟨v, rfl, h1⟩ := datL1 d
    split at w
    · rename_i xs e1
      obtain ⟨a, us, rfl, h2, h3⟩ := asQ_ok R h1 e1
      refine ⟨a, us, rfl, h2, fun p hn => ?_⟩
      obtain ⟨r, e, g⟩ := dat_newL R h3 hn
      exact w _ _ _ r e g
    · exact w.elim
  · exact w.elim
theorem cd_toO : CallD X (rListOf X.K) gToO := fun Z φ S H ds vs Q E R d w => by
  unfold gToO at w
  split at w
  · obtain ⟨v, rfl, h1⟩ := datL1 d
    split at w
    · rename_i xs e1
      obtain ⟨a, us, rfl, h2, h3⟩ := asQ_ok R h1 e1
      refine ⟨a, us, rfl, h2, fun p hn => ?_⟩
      obtain ⟨r, e, g⟩ := dat_newO R h3 hn
      exact w _ _ _ r e g
    · exact w.elim
  · exact w.elim
theorem cd_keysL : CallD X rListD gKeysL := fun Z φ S H ds vs Q E R d w => by
  unfold gKeysL at w
  split at w
  · obtain ⟨v, rfl, h1⟩ := datL1 d
    split at w
    · rename_i xs e1
      obtain ⟨a, us, rfl, h2, h3⟩ := asD_ok R h1 e1
      refine ⟨a, us, rfl, h2, fun p hn => ?_⟩
      obtain ⟨r, e, g⟩ := dat_newL R (datK_keys h3) hn
      exact w _ _ _ r e g
    · exact w.elim
  · exact w.elim
theorem cd_keysO : CallD X rListD gKeysO := fun Z φ S H ds vs Q E R d w => by
  unfold gKeysO at w
  split at w
  · obtain ⟨v, rfl, h1⟩ := datL1 d
    split at w
    · rename_i xs e1
      obtain ⟨a, us, rfl, h2, h3⟩ := asD_ok R h1 e1
      refine ⟨a, us, rfl, h2, fun p hn => ?_⟩
      obtain ⟨r, e, g⟩ := dat_newO R (datK_keys h3) hn
      exact w _ _ _ r e g
    · exact w.elim
  · exact w.elim
def gList : GC := fun ds S => if isDic1 ds S then gKeysL ds S else gToL ds S
def gListO : GC := fun ds S => if isDic1 ds S then gKeysO ds S else gToO ds S
theorem de_list (C : Cn X W k) {fa : FA} (hg : Gl X "list") (hm : X.mg "list" = none) (ha : DA X W [e] fa) (he : starEach [e] X.env = (false, eval e X.env) :: starEach [] X.env := by rfl) (hpl : (backTo pos (starEach [] X.env)).any (·.1) = false := by rfl) :
    DE X W (.Call (.Name "list" p) [e] [] pos) (fCB gList fa) := de_callTy (callR_or (call_list_dK C.calm) call_list_of) (callD_or isDic1 cd_keysL cd_toL) hg hm (by rfl) ha (by decide) (by decide) he hpl
theorem de_listO (C : Cn X W k) {fa : FA} (hg : Gl X "list") (hm : X.mg "list" = none) (ha : DA X W [e] fa) (he : starEach [e] X.env = (false, eval e X.env) :: starEach [] X.env := by rfl) (hpl : (backTo pos (starEach [] X.env)).any (·.1) = false := by rfl) :
    DE X W (.Call (.Name "list" p) [e] [] pos) (fCB gListO fa) := de_callTy (callR_or (call_list_dK C.calm) call_list_of) (callD_or isDic1 cd_keysO cd_toO) hg hm (by rfl) ha (by decide) (by decide) he hpl
def gTuple : GC := fun ds S => match ds with
  | [.tup xs] => .ok (.tup xs) S
  | [d] => match asL S d with
    | some xs => .ok (.tup xs) S
    | none => .stuck
  | _ => .stuck
theorem cd_tuple : CallD X (fun xs H Q => ∃ p ys, xs = [.ref p] ∧ ((SqL X.K H p ys ∧ ∀ l, H l = none → Q (.ref l) (upd H l (.tup ys))) ∨ (SqT X.K H p ys ∧ Q (.ref p) H))) gTuple := fun Z φ S H ds vs Q E R d w => by
  unfold gTuple at w
  split at w
  · obtain ⟨v, rfl, h1⟩ := datL1 d
    have h1' := h1
    unfold Dat at h1
    obtain ⟨a, us, rfl, h2, h3⟩ := h1
    exact ⟨a, us, rfl, .inr ⟨sqt_mono gnd_sub h2, w.now R h1'⟩⟩
  · obtain ⟨v, rfl, h1⟩ := datL1 d
    split at w
    · rename_i xs e1
      obtain ⟨a, us, rfl, h2, h3⟩ := asL_ok R h1 e1
      refine ⟨a, us, rfl, .inl ⟨h2, fun p hn => ?_⟩⟩
      obtain ⟨r, e, g⟩ := dat_newT R h3 hn
      exact w _ _ _ r e g
    · exact w.elim
  · exact w.elim
theorem de_tuple {fa : FA} (hg : Gl X "tuple") (hm : X.mg "tuple" = none) (ha : DA X W [e] fa) (he : starEach [e] X.env = (false, eval e X.env) :: starEach [] X.env := by rfl) (hpl : (backTo pos (starEach [] X.env)).any (·.1) = false := by rfl) :
    DE X W (.Call (.Name "tuple" p) [e] [] pos) (fCB gTuple fa) := de_callTy call_tuple_of cd_tuple hg hm (by rfl) ha (by decide) (by decide) he hpl

/-! repr -/
def rRepr (K : PySem.W.Frag) : List V → Hp → VK → Prop := fun xs H Q => ∃ x d, xs = [x] ∧ Dp K H x d ∧ d.showable = true ∧ d.hasDict = false ∧ d.depth ≤ 50 ∧ d.shown.length ≤ sizeLine ∧ Q (.str d.shown) H
theorem call_repr (C : Cn X W k) : CallR X (.builtin "repr") (rRepr X.K) := fun pins s σ H xs us Q I r h => by
  obtain ⟨x, d, rfl, hd, h1, h2, h3, h4, q⟩ := h
  obtain ⟨u, rfl, ru⟩ := vals1 r
  have fin : ∀ tk, EP X pins σ Q (.str d.shown s.toks) { s with toks := tk } := fun tk => ⟨.str d.shown, H, I.tok tk, ⟨_, rfl⟩, q⟩
  have big : ∀ a, u = .ref a → wpAny (model X.prog X.w) X.A (call (.builtin "repr") [u]) (EP X pins σ Q) X.xe s := fun a e => by
    obtain ⟨as, rd⟩ := Dp.reads I d x u hd ru
    subst e
    exact repr_of_reads' rd h1 (PyData.noDict_hsm h2) C.gd (by have := C.u64; omega) (fun _ _ z => z) (fun h' t tk hk => ⟨.str d.shown, H, I.kept (t' := tk) hk, ⟨_, rfl⟩, q⟩) h4
  cases hd with
  | non =>
    cases (show u = Value.none from ru)
    simp only [PyData.shown] at fin
    exact PySem.P.repr_of_none (fin _)
  | bl b =>
    cases (show u = Value.bool b from ru)
    simp only [PyData.shown] at fin
    exact PySem.P.repr_of_bool (fin _)
  | int i =>
    obtain ⟨t, rfl⟩ := (show ∃ t, u = Value.int i t from ru)
    simp only [PyData.shown] at fin
    simp only [PyData.showable, decide_eq_true_eq] at h1
    exact PySem.P.repr_of_int h1 (fin _)
  | str y =>
    obtain ⟨t, rfl⟩ := (show ∃ t, u = Value.str y t from ru)
    simp only [PyData.shown] at fin h4
    exact PySem.P.repr_of_str (fin _) h4
  | lst _ _ => exact big _ ru
  | tup _ _ => exact big _ ru
def gRepr : GC := fun ds S => match ds with
  | [d] => match pyOf S d with
    | some q => if q.showable = true ∧ q.hasDict = false ∧ q.depth ≤ 50 ∧ q.shown.length ≤ sizeLine then .ok (.str q.shown) S else .stuck
    | none => .stuck
  | _ => .stuck
theorem de_repr (C : Cn X W k) {fa : FA} (hg : Gl X "repr") (hm : X.mg "repr" = none) (ha : DA X W [e] fa) (he : starEach [e] X.env = (false, eval e X.env) :: starEach [] X.env := by rfl) (hpl : (backTo pos (starEach [] X.env)).any (·.1) = false := by rfl) :
    DE X W (.Call (.Name "repr" p) [e] [] pos) (fCB gRepr fa) :=
  de_callB (call_repr C) (fun Z φ S H ds vs Q E R d w => by
    unfold gRepr at w
    split at w
    · obtain ⟨v, rfl, h1⟩ := datL1 d
      split at w
      · rename_i q e1
        obtain ⟨⟨a1, a2, a3, a4⟩, w1⟩ := want_if w
        exact ⟨v, q, rfl, pyOf_ok R h1 e1, a1, a2, a3, a4, w1.now R (dat_str _)⟩
      · exact w.elim
    · exact w.elim) hg hm (by rfl) ha (by decide) (by decide) he hpl
end
end DL

/-! The data layer, part 11: set(xs) of a list of ints, sorted(set(xs)). -/
namespace PySem
open PySem.Spec PyProof.Rows L2
section
variable {P : Program} {w : World} {A : Around} {E : Value → Shared → Prop} {s : Shared}
/-- an empty set as it is made -/
abbrev nuS (w : World) : Obj := ⟨.type "set", none, .set #[] 0 (.fresh 0 0 (!w.params.followText "set-order")), #[]⟩
abbrev nuH (w : World) (s : Shared) : Heap := s.heap.push (nuS w)
set_option maxRecDepth 100000 in
set_option maxHeartbeats 3200000 in
theorem set_of_list_ints {la : Addr} {xs : Array Value} (ks : List Int) {QQ : Value → Shared → Prop} (hA : A.handled = none) (hL : s.heap.IsList la xs) (hK : IntsAre xs.toList ks) (hB : ks.length + 1 < scanBound)
    (hQ : ∀ (h' : Heap) (tk c : Nat), SetR w h' s.heap.objs.size (fun j => decide (j ∈ ks)) c → c ≤ ks.length → (∀ b o, s.heap.get? b = some o → h'.get? b = some o) → QQ (.ref s.heap.objs.size) { s with heap := h', toks := tk }) :
    wpAny (model P w) A (call (.type "set") [.ref la]) QQ E s := by
  have size_ks : xs.size = ks.length := by simpa using hK.length
  obtain ⟨cc, tt, hmro⟩ := F.called_set.mro
  have f1 := F.called_set.made
  have f2 := F.called_set.sub
  refine wpAny_call (codeAny_of_tree (?_ : wpAny _ _ (callAny (.type "set") _) _ _ _))
  refine wpAny_pure ⟨Code.quiet_builtin _ (by decide +kernel), codeAny_builtin F.entry_type_call (?_)⟩
  rw [Around.under_plain (weight_type_call_type "set" [.ref la] []) rfl]
  have g1 := F.called_set.notType
  have g2 := F.called_set.canCreate
  have g3 := F.typeCall_set_1 (.ref la)
  repeat (any_goals (first | assumption | wp_step))
  refine codeAny_mono (code_set_led1 (.ref la) (E := E) (Q₁ := fun ob t => ob = .ref s.heap.objs.size ∧ t = { s with heap := nuH w s }) ⟨rfl, rfl⟩) fun res t hr => ?_
  match res, hr with
  | .error _, hr => exact hr
  | .ok (.ret ob), hr =>
    obtain ⟨rfl, rfl⟩ := hr
    have at0 : (nuH w s).get? s.heap.objs.size = some (nuS w) := Heap.get?_push_size _ rfl
    have ty0 : Shared.TypeIs { s with heap := nuH w s } (.ref s.heap.objs.size) "set" := ⟨_, at0, rfl⟩
    have g4 := F.called_set.init.lookup
    have g5 := F.called_set.init.bind (.ref s.heap.objs.size)
    repeat (any_goals (first | assumption | wp_step))
    refine codeAny_mono (codeAny_call_builtin (R := wants (fun r t => r = .none ∧ ∃ h' tk c, t = { s with heap := h', toks := tk } ∧ SetR w h' s.heap.objs.size (fun j => decide (j ∈ ks)) c ∧ c ≤ ks.length ∧
      (∀ b o, s.heap.get? b = some o → h'.get? b = some o)) E) F.called_set.init.plain F.entry_set_init (check_set_init_1 ty0 ?_)) fun res2 t2 hr2 => ?_
    · obtain ⟨⟨oc, od, odt, osl⟩, hol, hcl, nl, hdl⟩ := hL
      simp only at hcl hdl
      subst hcl; subst hdl
      have hol2 : (nuH w s).get? la = some { cls := .type "list", dict := od, data := .seq xs nl, slots := osl } := Heap.get?_push_of_some _ hol
      have k1 := F.sub_list_set
      have k2 := F.sub_list_frozenset
      have k3 : (Value.type "list" == Value.type "dict") = false := by decide
      have k4 : (nuH w s).IsList la xs := ⟨_, hol2, rfl, nl, rfl⟩
      unfold Builtin.«set.__init__» noKeywords Builtin.Frozenset.updateFrom
      generalize hPI : pyIter = PI
      wp_walk
      subst hPI
      refine wpAny_pyIter_list k4 (wpAny_bind (wpAny_runValue ?_))
      have lt0 : la < s.heap.objs.size := Heap.lt_size hol
      have sz1 : (nuH w s).objs.size = s.heap.objs.size + 1 := Heap.size_push _ _
      have A3 : A.in1.in1.in1.handled = none := by simp [hA]
      have n1 : la ≠ (nuH w s).objs.size := by rw [sz1]; exact Nat.ne_of_lt (Nat.lt_succ_of_lt lt0)
      have n2 : s.heap.objs.size ∉ [(nuH w s).objs.size, la] := by
        rw [sz1]
        simp only [List.mem_cons, List.not_mem_nil, or_false, not_or]
        exact And.intro (Nat.ne_of_lt (Nat.lt_succ_self _)) (Nat.ne_of_gt lt0)
      have vals : ∀ (i : Nat) (v : Value), xs[i]? = some v → ∃ k t, ks[i]? = some k ∧ v = .int k t := fun i v hv => by
        have hi : i < ks.length := by rw [← size_ks]; exact (Array.getElem?_eq_some_iff.mp hv).1
        obtain ⟨t, e⟩ := PyProof.Rows.IntsAre.int_at hK i v (by simpa using hv)
        refine ⟨ks[i], t, List.getElem?_eq_getElem hi, ?_⟩
        rw [e, List.getD_eq_getElem?_getD, List.getElem?_eq_getElem hi]
        rfl
      have at1 : ((nuH w s).push { cls := .type "list_iterator", data := .fields #[.ref la, .int 0 0] }).get? s.heap.objs.size = some (nuS w) := Heap.get?_push_of_some _ at0
      refine set_update_ints ((Walks.list A3 _ la n1 xs).toS) s.heap.objs.size n2 ks size_ks hB vals (xs.size - 0) 0 _ (by omega) (Nat.zero_le _) ⟨⟨_, Heap.get?_push_size _ rfl, rfl, rfl⟩, k4.push _⟩ ⟨0, Nat.le_refl 0, setR_new_at at1⟩ fun t c hm hc hS => ?_
      obtain ⟨h', g', d', tk', os'⟩ := t
      have q1 : g' = s.gens := hm.gens
      have q2 : d' = s.drawn := hm.drawn
      have q3 : os' = s.os := hm.os
      subst q1; subst q2; subst q3
      rw [size_ks] at hc
      refine wpAny_pure (wpAny_pure ⟨rfl, h', tk', c, rfl, hS, hc, fun b o e => ?_⟩)
      have lt1 := Heap.lt_size e
      refine hm.heap b o ?_ (Heap.get?_push_of_some _ (Heap.get?_push_of_some _ e))
      rw [sz1]
      simp only [List.mem_cons, List.not_mem_nil, or_false, not_or]
      exact And.intro (Nat.ne_of_lt lt1) (Nat.ne_of_lt (Nat.lt_succ_of_lt lt1))
    · match res2, hr2 with
      | .error _, hr2 => exact hr2
      | .ok (.ret r), hr2 =>
        obtain ⟨rfl, h', tk, c, rfl, z1, z2, z3⟩ := hr2
        repeat (any_goals (first | assumption | wp_step))
        exact hQ _ _ _ z1 z2 z3
end
end PySem
namespace DL
open PySem L2
section
variable {X : Cx} {W : WX} {k : Nat} {a b c e : Expr} {es : List Expr} {fa fb fc fe : FE} {pos p p2 q2 : Pos}
/-- sorted(set(xs)), ints -/
def dedup : List Int → List Int
  | [] => []
  | n :: ns => if n ∈ dedup ns then dedup ns else n :: dedup ns
def uniqI (ns : List Int) : List Int := PySem.W.sortI (dedup ns)
theorem mem_dedup {x : Int} : ∀ ns : List Int, x ∈ dedup ns ↔ x ∈ ns
  | [] => Iff.rfl
  | n :: ns => by
    unfold dedup
    by_cases h : n ∈ dedup ns
    · rw [if_pos h, mem_dedup ns]
      refine ⟨fun q => List.mem_cons_of_mem _ q, fun q => ?_⟩
      rcases List.mem_cons.mp q with z | z
      · rw [z]
        exact (mem_dedup ns).mp h
      · exact z
    · rw [if_neg h, List.mem_cons, List.mem_cons, mem_dedup ns]
theorem dedup_nodup : ∀ ns : List Int, (dedup ns).Nodup
  | [] => List.nodup_nil
  | n :: ns => by
    unfold dedup
    by_cases h : n ∈ dedup ns
    · rw [if_pos h]
      exact dedup_nodup ns
    · rw [if_neg h]
      exact List.nodup_cons.mpr ⟨h, dedup_nodup ns⟩
theorem mem_uniqI {x : Int} (ns : List Int) : x ∈ uniqI ns ↔ x ∈ ns := by
  unfold uniqI
  rw [(PySem.W.sortI_perm _).mem_iff, mem_dedup]
theorem uniqI_lt (ns : List Int) : (uniqI ns).Pairwise (· < ·) := by
  have h1 : (uniqI ns).Nodup := (PySem.W.sortI_perm _).nodup_iff.mpr (dedup_nodup ns)
  have h2 : (uniqI ns).Pairwise (· ≤ ·) := PySem.W.sortI_rises _
  exact lt_of_le_nodup _ h2 h1
theorem lt_ext : ∀ {l m : List Int}, l.Pairwise (· < ·) → m.Pairwise (· < ·) → (∀ x, x ∈ l ↔ x ∈ m) → l = m
  | [], [], _, _, _ => rfl
  | [], y :: m, _, _, h => absurd ((h y).mpr List.mem_cons_self) (by simp)
  | x :: l, [], _, _, h => absurd ((h x).mp List.mem_cons_self) (by simp)
  | x :: l, y :: m, hl, hm, h => by
    obtain ⟨a1, a2⟩ := List.pairwise_cons.mp hl
    obtain ⟨b1, b2⟩ := List.pairwise_cons.mp hm
    have e : x = y := by
      rcases List.mem_cons.mp ((h x).mp List.mem_cons_self) with z | z
      · exact z
      · rcases List.mem_cons.mp ((h y).mpr List.mem_cons_self) with z' | z'
        · exact z'.symm
        · have u1 := a1 y z'
          have u2 := b1 x z
          omega
    subst e
    rw [lt_ext a2 b2 fun z => ?_]
    constructor
    · intro hz
      rcases List.mem_cons.mp ((h z).mp (List.mem_cons_of_mem _ hz)) with q | q
      · have := a1 z hz
        omega
      · exact q
    · intro hz
      rcases List.mem_cons.mp ((h z).mpr (List.mem_cons_of_mem _ hz)) with q | q
      · have := b1 z hz
        omega
      · exact q
def gSortSet : GC := fun ds S => match ds with
  | [d] => match seqInts S d with
    | some ns => if ns.length ≤ 1000 ∧ (dedup ns).length < 64 then .ok (.lst ((uniqI ns).map D.int)) S else .stuck
    | _ => .stuck
  | _ => .stuck
def tSortSet (K : PySem.W.Frag) (ta : TE) : TE := fun σ H Q => ta σ H fun x H1 => ∃ (l : Addr) (ns : List Int), x = .ref l ∧ SqL K H1 l (ns.map V.int) ∧ ns.length ≤ 1000 ∧ (dedup ns).length < 64 ∧ ∀ p, H1 p = none → Q (.ref p) (upd H1 p (.lst ((uniqI ns).map V.int)))
theorem nodup_le_of_sub : ∀ {l m : List Int}, l.Nodup → (∀ x ∈ l, x ∈ m) → l.length ≤ m.length
  | [], _, _, _ => Nat.zero_le _
  | x :: l, m, nd, h => by
    obtain ⟨n1, n2⟩ := List.nodup_cons.mp nd
    have hx := h x List.mem_cons_self
    have q := nodup_le_of_sub (m := m.erase x) n2 fun y hy => by
      have hne : y ≠ x := fun z => n1 (z ▸ hy)
      exact (List.mem_erase_of_ne hne).mpr (h y (List.mem_cons_of_mem _ hy))
    rw [List.length_erase_of_mem hx] at q
    have : 0 < m.length := List.length_pos_of_mem hx
    simp only [List.length_cons]
    omega
theorem pe_sortSet {ta : TE} (C : Cn X W k) (hg : Gl X "sorted") (hm : X.mg "sorted" = none) (hg2 : Gl X "set") (hm2 : X.mg "set" = none) (ha : PE X a ta) (na : starEach [a] X.env = (false, eval a X.env) :: starEach [] X.env := by rfl) :
    PE X (.Call (.Name "sorted" p) [.Call (.Name "set" p2) [a] [] q2] [] pos) (tSortSet X.K ta) := by
  refine ⟨fun pins s σ H Q I h => ?_⟩
  refine PyProof.Rows.Call_ (ld_blt I hg hm (by rfl) ?_)
  refine PyProof.Rows.callWith_builtin1 (PyProof.Rows.args_cons ?_ rfl) rfl rfl
  refine PyProof.Rows.Call_ (ld_blt I hg2 hm2 (by rfl) ?_)
  refine PyProof.Rows.callWith_type1 (PyProof.Rows.args_cons (thn (ha.run pins s σ H _ I h) fun v s1 ⟨x, H1, I1, r1, w1⟩ => PyProof.Rows.args_nil ?_) na) na rfl
  obtain ⟨l, ns, rfl, hq, h1, h2, w1⟩ := w1
  cases r1
  obtain ⟨its, r, pl, hz⟩ := I1.list hq
  have hi := r.ints
  refine set_of_list_ints (P := X.prog) ns (I1.ok.hd C.calm) pl.isList (by simpa using hi) (by unfold scanBound; omega) fun h' tk c R hc hk => PyProof.Rows.args_nil ?_
  have I2 : Inv X pins σ H1 { s1 with heap := h', toks := tk } := I1.kept hk
  refine sorted_set R (I2.ok.hd C.calm) ?_ fun s' p out c2 ks kp g o hp hgt hin hs hmem hl => ?_
  · obtain ⟨ob, es, ep, t, ho, hex, hd, gd, nd, hmm, hb, hf, hn, _⟩ := R
    have sub : (es.toList.map keyOf).length ≤ (dedup ns).length := nodup_le_of_sub nd fun x hx => (mem_dedup ns).mpr (of_decide_eq_true ((hmm x).mpr hx))
    rw [List.length_map, Array.length_toList] at sub
    omega
  · have e : ks = uniqI ns := lt_ext hs (uniqI_lt ns) fun x => by
      rw [hmem x, mem_uniqI]
      exact decide_eq_true_iff
    subst e
    have hp' : s1.heap.objs.size ≤ p := by
      have lt := R.lt
      exact Nat.le_trans (Nat.le_of_lt lt) hp
    have hlen : ((uniqI ns).map V.int).length ≤ sizeLine := by
      rw [List.length_map]
      have : (uniqI ns).length ≤ ns.length := by
        have := (PySem.W.sortI_perm (dedup ns)).length_eq
        unfold uniqI
        rw [this]
        exact nodup_le_of_sub (dedup_nodup ns) fun x hx => (mem_dedup ns).mp hx
      have : (1000 : Nat) ≤ sizeLine := by decide
      omega
    have hn : H1 p = none := I2.hok.fresh hp
    have J : Inv X pins σ (upd H1 p (.lst ((uniqI ns).map V.int))) { s1 with heap := s'.heap, gens := s'.gens, drawn := s'.drawn, toks := s'.toks } :=
      I1.call (ch := []) (Un.laid (fun b o e => kp b o (hk b o e)) hp' hn) (I2.hok.laid kp hp ⟨hlen, out.toList, c2, vals_of_ints hin, hgt⟩) (by rw [g]; exact I1.bare) (fun _ z => nomatch z)
    have e : s' = { s1 with heap := s'.heap, gens := s'.gens, drawn := s'.drawn, toks := s'.toks } := by
      cases s'
      cases s1
      cases o
      rfl
    rw [e]
    exact ⟨.ref p, _, J, rfl, w1 p hn⟩
theorem de_sortSet (C : Cn X W k) (hg : Gl X "sorted") (hm : X.mg "sorted" = none) (hg2 : Gl X "set") (hm2 : X.mg "set" = none) (ha : DE X W a fa) (na : starEach [a] X.env = (false, eval a X.env) :: starEach [] X.env := by rfl) :
    DE X W (.Call (.Name "sorted" p) [.Call (.Name "set" p2) [a] [] q2] [] pos) (fun ρ S => (fa ρ S).bind fun d S => gSortSet [d] S) := by
  obtain ⟨t, pp, q⟩ := ha.ex
  refine .mk (pe_sortSet C hg hm hg2 hm2 pp na) fun Z φ S ρ σ H Q R sl w => q Z φ S ρ σ H _ R sl (w.bind fun d S1 v φ1 H1 R1 E1 dd w1 => ?_)
  unfold gSortSet at w1
  simp only at w1
  split at w1
  · rename_i ns e1
    obtain ⟨⟨h1, h2⟩, w2⟩ := want_if w1
    obtain ⟨a, rfl, h3⟩ := seqInts_ok R1 dd e1
    refine ⟨a, ns, rfl, h3, h1, h2, fun p hn => ?_⟩
    obtain ⟨r, e, g⟩ := dat_newL R1 (dat_ints (uniqI ns)) hn
    exact w2 _ _ _ r e g
  · exact w1.elim
end
end DL

/-! The data layer, part 12: list(enumerate(xs)). -/
namespace PySem
open PySem.Spec PySem.Calls PyProof.Rows PySem.W L2
namespace F
theorem enum_no_size : typeLookup (.type "enumerate") "__len__" = pure none := by
  rw [typeLookup_type, builtinLookup_eq_fast]; kernel_rfl
theorem enum_no_guess : typeLookup (.type "enumerate") "__length_hint__" = pure none := by
  rw [typeLookup_type, builtinLookup_eq_fast]; kernel_rfl
end F
abbrev enO (it : Addr) : Obj := ⟨.type "enumerate", none, .fields #[.none, .bool false, .ref it, rawInt 0, .none, .none], #[]⟩
set_option maxHeartbeats 1000000 in
theorem enum_made {v : Value} {o : Obj} {HH : Heap → Prop} (B : Begins v o HH) :
    Meets (Builtin.«enumerate.__new__» ⟨[.type "enumerate", v], []⟩) (fun _ R s => HH s.heap ∧ R (.ok (.ret (.ref (s.heap.push o).objs.size))) { s with heap := (s.heap.push o).push (enO s.heap.objs.size) }) :=
  .of_wp fun prog w A R s ⟨z1, z2⟩ => by
    obtain ⟨hp, gs, dr, tk, os⟩ := s
    have hsub := sub_enumerate
    have it1 : ∀ {A' : Around} {E : Value → Shared → Prop} {Q : Value → Shared → Prop}, Q (.ref hp.objs.size) ⟨hp.push o, gs, dr, tk, os⟩ → wpAny (model prog w) A' (pyIter v) Q E ⟨hp, gs, dr, tk, os⟩ :=
      fun z => B.iter prog w _ _ ⟨hp, gs, dr, tk, os⟩ _ z1 z
    wp_walk using it1
    refine wpAny_stack_any (fun st => wpAny_pure (?_))
    split
    · rename_i c _ _ _ _ _
      cases (c == Value.type "enumerate") <;> (wp_walk using it1; exact ⟨_, rfl, z2⟩)
    · wp_walk using it1
      exact ⟨_, rfl, z2⟩
section
variable {prog : Program} {w : World} {A : Around} {E : Value → Shared → Prop} {s : Shared}
/-- enumerate(v) -/
theorem enum_of {v : Value} {o : Obj} {HH : Heap → Prop} {Q : Value → Shared → Prop} (B : Begins v o HH) (h1 : HH s.heap)
    (hQ : ∀ h', IsEnum h' (s.heap.objs.size + 1) s.heap.objs.size 0 .none → h'.get? s.heap.objs.size = some o → (∀ b u, s.heap.get? b = some u → h'.get? b = some u) → Q (.ref (s.heap.objs.size + 1)) { s with heap := h' }) :
    wpAny (model prog w) A (call (.type "enumerate") [v]) Q E s := by
  refine callType_new F.called_enumerate (by decide) (F.typeCall_enumerate_1 _) (F.newCall_enumerate_1 _) (fun obj => F.args_object_init_2 obj _) F.entry_enumerate_new (enum_made B) ⟨h1, ?_⟩
  have sz : (s.heap.push o).objs.size = s.heap.objs.size + 1 := Heap.size_push _ _
  show _ ∧ _
  rw [sz]
  have q := Heap.get?_push_size (s.heap.push o) (o := enO s.heap.objs.size) rfl
  rw [sz] at q
  exact ⟨⟨_, q, rfl⟩, hQ _ q (Heap.get?_push_of_some _ (Heap.get?_push_size _ B.free)) fun b u x => Heap.get?_push_of_some _ (Heap.get?_push_of_some _ x)⟩
/-- a next while an earlier tuple is held -/
theorem enum_next2 {e it T : Addr} {fp : List Addr} {n i : Nat} {PP : Nat → Value → Prop} {St : Nat → Heap → Prop} {old : Value} {f : Bool} {oT : Obj} {Q : Value → Shared → Prop} (D : Draws prog w A it fp n PP St) (he : IsEnumHeld s.heap e it i old T f) (hT : s.heap.get? T = some oT)
    (hTe : T ≠ e) (hTi : T ≠ it) (hst : St i s.heap) (hlt : i < n) (hne : e ≠ it) (hef : e ∉ fp)
    (hQ : ∀ x h' tk, PP i x → IsEnumHeld h' e it ((i : Int) + 1) old T true → St (i + 1) h' → h'.get? s.heap.objs.size = some { cls := .type "tuple", data := .seq #[.int i tk, x] } → h'.objs.size = s.heap.objs.size + 1 →
      (∀ b o, b ≠ e → b ≠ it → s.heap.get? b = some o → h'.get? b = some o) → Q (.ref s.heap.objs.size) { s with heap := h', toks := tk + 1 }) :
    wpAny (model prog w) A (Builtin.«enumerate.__next__» ⟨[.ref e], []⟩) (fun fin s' => ∃ v, fin = .done (.ret v) ∧ Q v s') E s := by
  obtain ⟨hp, gs, dr, tk0, os⟩ := s
  show wpAny _ _ (field (.ref e) 2 >>= _) _ _ (Shared.mk hp gs dr tk0 os)
  refine wpAny_bind (wpAny_field he rfl (x := .ref it) rfl (?_))
  refine wpAny_bind (D.item i _ _ _ hlt hst fun x h1 tk hx st1 sb1 => ?_)
  replace sb1 : Heap.SameBut it hp h1 := sb1
  have e1 : IsEnumHeld h1 e it i old T f := (sb1.2 e hne).trans he
  show wpAny _ _ (field (.ref e) 3 >>= _) _ _ (Shared.mk h1 gs dr tk os)
  refine wpAny_bind (wpAny_field e1 rfl (x := rawInt i) rfl (?_))
  show wpAny _ _ (field (.ref e) 4 >>= _) _ _ (Shared.mk h1 gs dr tk os)
  refine wpAny_bind (wpAny_field e1 rfl (x := .none) rfl (?_))
  show wpAny _ _ (mkInt i >>= _) _ _ (Shared.mk h1 gs dr tk os)
  refine wpAny_bind (wpAny_mkInt (?_))
  show wpAny _ _ (setField (.ref e) 3 (rawInt ((i : Int) + 1)) >>= _) _ _ (Shared.mk h1 gs dr (tk + 1) os)
  refine wpAny_bind (wpAny_setField_rec e1 (by simp) fun h2 e2 sb2 => ?_)
  replace sb2 : Heap.SameBut e h1 h2 := sb2
  replace e2 : IsEnumHeld h2 e it ((i : Int) + 1) old T f := e2
  show wpAny _ _ (setField (.ref e) 4 .none >>= _) _ _ (Shared.mk h2 gs dr (tk + 1) os)
  refine wpAny_bind (wpAny_setField_rec e2 (by simp) fun h3 e3 sb3 => ?_)
  replace sb3 : Heap.SameBut e h2 h3 := sb3
  replace e3 : IsEnumHeld h3 e it ((i : Int) + 1) old T f := e3
  show wpAny _ _ (newTuple [.int i tk, x] >>= _) _ _ (Shared.mk h3 gs dr (tk + 1) os)
  refine wpAny_bind (wpAny_newTuple (?_))
  have e4 : IsEnumHeld (h3.push { cls := .type "tuple", data := .seq #[.int i tk, x] }) e it ((i : Int) + 1) old T f := Heap.get?_push_of_some _ e3
  generalize eq4 : h3.push { cls := .type "tuple", data := .seq #[.int i tk, x] } = h4 at e4
  have sz3 : h3.objs.size = hp.objs.size := by rw [sb3.1, sb2.1, sb1.1]
  have lte : e < hp.objs.size := Heap.lt_size he
  have tup4 : h4.get? hp.objs.size = some { cls := .type "tuple", data := .seq #[.int i tk, x] } := by rw [← eq4, ← sz3]; exact Heap.get?_push_size _ rfl
  have sz4 : h4.objs.size = hp.objs.size + 1 := by rw [← eq4, Heap.size_push, sz3]
  have kp4 : ∀ b o, b ≠ e → b ≠ it → hp.get? b = some o → h4.get? b = some o := fun b o n1 n2 q => by
    rw [← eq4]; exact Heap.get?_push_of_some _ (sb3.extBut b o n1 (sb2.extBut b o n1 (sb1.extBut b o n2 q)))
  have st4 : St (i + 1) h4 := D.frame _ _ _ st1 fun b hb o y => by
    have n1 : b ≠ e := fun q => hef (q ▸ hb)
    rw [← eq4]; exact Heap.get?_push_of_some _ (sb3.extBut b o n1 (sb2.extBut b o n1 y))
  show wpAny _ _ (Builtin.SmallTypes.ownedTupleIsFree (.ref e) >>= _) _ _ (Shared.mk h4 gs dr (tk + 1) os)
  rw [sz3]
  clear eq4 e3 sb3 e2 sb2 e1 sb1 st1 sz3 h3 h2 h1
  refine wpAny_bind (wpAny_tupleHeld_enum (s := Shared.mk h4 gs dr (tk + 1) os) e4 (kp4 T oT hTe hTi hT) fun h5 e5 sb5 => ?_)
  replace sb5 : Heap.SameBut e h4 h5 := sb5
  simp only [Bool.false_eq_true, if_false]
  refine wpAny_pure ⟨_, rfl, hQ x h5 tk hx e5 (D.frame _ _ _ st4 fun b hb o y => sb5.extBut b o (fun q => hef (q ▸ hb)) y) (sb5.extBut _ _ (Nat.ne_of_gt lte) tup4) ?_ fun b o n1 n2 q => sb5.extBut b o n1 (kp4 b o n1 n2 q)⟩
  show h5.objs.size = hp.objs.size + 1
  rw [sb5.1, sz4]
/-- the state of the enumerate object between two nexts -/
def EnAt (e it : Addr) (i : Nat) (h : Heap) : Prop := (∃ old, IsEnum h e it i old) ∨ ∃ old T f oT, IsEnumHeld h e it i old T f ∧ h.get? T = some oT ∧ T ≠ e ∧ T ≠ it
theorem EnAt.keep {e it : Addr} {i : Nat} {h h' : Heap} {S : Addr} (x : EnAt e it i h) (hS : e ≠ S) (hk : ∀ b o, b ≠ S → h.get? b = some o → h'.get? b = some o) (hl : ∀ o, h.get? S = some o → ∃ o', h'.get? S = some o') : EnAt e it i h' := by
  rcases x with ⟨old, q⟩ | ⟨old, T, f, oT, q, q2, q3, q4⟩
  · exact .inl ⟨old, hk _ _ hS q⟩
  · by_cases hT : T = S
    · subst hT
      obtain ⟨o', ho⟩ := hl _ q2
      exact .inr ⟨old, T, f, o', hk _ _ hS q, ho, q3, q4⟩
    · exact .inr ⟨old, T, f, oT, hk _ _ hS q, hk _ _ hT q2, q3, q4⟩
theorem EnAt.ty {e it : Addr} {i : Nat} (x : EnAt e it i s.heap) : s.TypeIs (.ref e) "enumerate" := by
  rcases x with ⟨old, q⟩ | ⟨old, T, f, oT, q, _⟩ <;> exact ⟨_, q, rfl⟩
theorem EnAt.lt {e it : Addr} {i : Nat} {h : Heap} (x : EnAt e it i h) : e < h.objs.size := by
  rcases x with ⟨old, q⟩ | ⟨old, T, f, oT, q, _⟩ <;> exact Heap.lt_size q
theorem enum_item {e it : Addr} {fp : List Addr} {n i : Nat} {PP : Nat → Value → Prop} {St : Nat → Heap → Prop} {Q : Option Value → Shared → Prop} (D : Draws prog w A.in1 it fp n PP St) (he : EnAt e it i s.heap) (hst : St i s.heap) (hlt : i < n) (hne : e ≠ it) (hef : e ∉ fp)
    (hQ : ∀ x h' tk, PP i x → EnAt e it (i + 1) h' → St (i + 1) h' → h'.get? s.heap.objs.size = some { cls := .type "tuple", data := .seq #[.int i tk, x] } → h'.objs.size = s.heap.objs.size + 1 →
      (∀ b o, b ≠ e → b ≠ it → s.heap.get? b = some o → h'.get? b = some o) → Q (some (.ref s.heap.objs.size)) { s with heap := h', toks := tk + 1 }) : wpAny (model prog w) A (pyNext (.ref e)) Q E s := by
  have hTy := he.ty
  have lte := he.lt
  have lti : it < s.heap.objs.size := by obtain ⟨o, y⟩ := D.live _ _ hst; exact Heap.lt_size y
  rcases he with ⟨old, q⟩ | ⟨old, T, f, oT, q, q2, q3, q4⟩
  · exact wpAny_pyNext_enum_itemD D q hst hlt hne hef fun x h' tk hp ho st ht hz hk => hQ x h' tk hp (.inr ⟨x, s.heap.objs.size, false, _, ho, ht, Nat.ne_of_gt lte, Nat.ne_of_gt lti⟩) st ht hz hk
  · unfold pyNext
    refine wpAny_bind (wpAny_attempt (wpAny_callSpecial?_slot (name := Str.ofString "__next__") hTy F.slot_enumerate_next (wpAny_call_entry F.slot_enumerate_next hTy F.entry_enumerate_next
      (enum_next2 D q q2 q3 q4 hst hlt hne hef fun x h' tk hp ho st ht hz hk => wpAny_pure (hQ x h' tk hp (.inr ⟨old, T, true, oT, ho, hk T oT q3 q4 q2, q3, q4⟩) st ht hz hk)) (F.args_enumerate_next_1 _))))
theorem enum_done {e it : Addr} {fp : List Addr} {n : Nat} {PP : Nat → Value → Prop} {St : Nat → Heap → Prop} {Q : Option Value → Shared → Prop} (D : Draws prog w A.in1 it fp n PP St) (he : EnAt e it n s.heap) (hst : St n s.heap)
    (hQ : ∀ h', Heap.ExtBut it s.heap h' → Q none { s with heap := h' }) : wpAny (model prog w) A (pyNext (.ref e)) Q E s := by
  have hTy := he.ty
  have fld : ∀ {R : Value → Shared → Prop} {E' : Value → Shared → Prop}, R (.ref it) s → wpAny (model prog w) A.in1 (field (.ref e) 2) R E' s := fun h => by
    rcases he with ⟨old, q⟩ | ⟨old, T, f, oT, q, _⟩
    · exact wpAny_field q rfl (x := .ref it) rfl h
    · exact wpAny_field q rfl (x := .ref it) rfl h
  unfold pyNext
  refine wpAny_bind (wpAny_attempt (wpAny_callSpecial?_slot (name := Str.ofString "__next__") hTy F.slot_enumerate_next (wpAny_call_entry F.slot_enumerate_next hTy F.entry_enumerate_next ?_ (F.args_enumerate_next_1 _))))
  show wpAny _ _ (field (.ref e) 2 >>= _) _ _ s
  refine wpAny_bind (fld ?_)
  refine wpAny_bind (D.done _ _ _ hst fun h' x hx ⟨o, ho, hc⟩ => wpAny_bind (wpAny_isInstance (T := "StopIteration") (b := true) ⟨o, ho, hc⟩ isSubtype_stop (wpAny_pure (hQ _ hx))))
/-- the pairs laid so far -/
structure EnG (items : Array Value) (lo : Addr) (h : Heap) (as : List Addr) : Prop where
  above : ∀ a ∈ as, lo < a
  pair : ∀ (j : Nat) (a : Addr), as[j]? = some a → ∃ x tk, items[j]? = some x ∧ h.get? a = some { cls := .type "tuple", data := .seq #[.int (j : Nat) tk, x] }
theorem enum_loop {R : Result → Shared → Prop} {S e it : Addr} {fp : List Addr} {items : Array Value} {St : Nat → Heap → Prop} (D : Draws prog w A.in1.in1 it fp items.size (fun i v => items[i]? = some v) St) {lo : Addr} (neS : S ≠ e) (loS : S ≤ lo) (loe : e ≤ lo) (loi : it ≤ lo) (hei : e ≠ it) (hef : e ∉ fp) (hSf : S ∉ fp) (hSi : S ≠ it) (hn : items.size ≤ sizeLine) (res : Value) {h1 : Heap}
    (hR : ∀ h' tk acc c as, (∀ b o, b ≠ S → b ≠ e → b ≠ it → h1.get? b = some o → h'.get? b = some o) → h'.get? S = some { cls := .type "list", dict := none, data := .seq acc c, slots := #[] } → as.length = items.size → EnG items lo h' as →
      acc.toList = as.map Value.ref → R (.ok (.ret res)) { s with heap := h', toks := tk }) :
    ∀ (k i : Nat) (h : Heap) (tk c : Nat) (acc : Array Value) (as : List Addr), items.size - i = k → i ≤ items.size → EnAt e it i h → St i h → (∀ b o, b ≠ S → b ≠ e → b ≠ it → h1.get? b = some o → h.get? b = some o) →
      h.get? S = some { cls := .type "list", dict := none, data := .seq acc c, slots := #[] } → acc.toList = as.map Value.ref → as.length = i → EnG items lo h as → lo < h.objs.size →
      codeAny (model prog w) A (.builtin "list.extend.loop" ⟨[.ref S, .ref e, res], []⟩) R { s with heap := h, toks := tk } := by
  intro k
  induction k with
  | zero =>
    intro i h tk c acc as hk hi hen hst hkeep hS hacc hal hG hlo
    have hin : i = items.size := by omega
    subst hin
    refine codeAny_builtin PySem.F.entry_extend_loop (?_)
    rw [Around.under_plainId PySem.F.plain_extend_loop _]
    show wpAny _ A.in1 (pyNext (.ref e) >>= _) _ _ _
    refine wpAny_bind (enum_done (s := { s with heap := h, toks := tk }) (A := A.in1) D hen hst fun h' hx => ?_)
    refine wpAny_pure (hR h' tk acc c as (fun b o n1 n2 n3 q => hx b o n3 (hkeep b o n1 n2 n3 q)) (hx S _ hSi hS) hal ⟨hG.above, fun j a hj => ?_⟩ hacc)
    obtain ⟨x, t, q1, q2⟩ := hG.pair j a hj
    exact ⟨x, t, q1, hx a _ (Nat.ne_of_gt (Nat.lt_of_le_of_lt loi (hG.above a (List.mem_of_getElem? hj)))) q2⟩
  | succ k ih =>
    intro i h tk c acc as hk hi hen hst hkeep hS hacc hal hG hlo
    have hlt : i < items.size := by omega
    have accz : acc.size = i := by rw [← Array.length_toList, hacc, List.length_map, hal]
    refine codeAny_builtin PySem.F.entry_extend_loop (?_)
    rw [Around.under_plainId PySem.F.plain_extend_loop _]
    show wpAny _ A.in1 (pyNext (.ref e) >>= _) _ _ _
    have hSlt : S < h.objs.size := Heap.lt_size hS
    have lte : e < h.objs.size := hen.lt
    refine wpAny_bind (enum_item (s := { s with heap := h, toks := tk }) (A := A.in1) D hen hst hlt hei hef fun x h' t hx hen' hst' ht hz hkp => ?_)
    dsimp only at ht hz hkp ⊢
    have hS' := hkp S _ neS hSi hS
    have up : ∀ b o, b ≠ S → h'.get? b = some o → (h'.update S (Obj.mapSeq (·.push (Value.ref h.objs.size)))).get? b = some o := fun b o hb q => (Heap.get?_update_other _ _ (Ne.symm hb)).trans q
    have upS := Heap.get?_update_self (Obj.mapSeq (·.push (Value.ref h.objs.size))) hS' rfl
    show wpAny _ A.in1 (updateSeq S (·.push (Value.ref h.objs.size)) >>= _) _ _ _
    refine wpAny_bind ?_
    refine wpAny_updateSeq hS' rfl (wpAny_pure ⟨plainId_quiet PySem.F.plain_extend_loop _, ih (i + 1) _ (t + 1) _ (acc.push (Value.ref h.objs.size)) (as ++ [h.objs.size]) (by omega) hlt (hen'.keep (Ne.symm neS) up fun o q => ⟨_, upS⟩)
      (D.frame _ _ _ hst' fun b hb o q => up b o (fun z => hSf (z ▸ hb)) q) (fun b o n1 n2 n3 q => up b o n1 (hkp b o n2 n3 (hkeep b o n1 n2 n3 q))) upS (by rw [Array.toList_push, hacc, List.map_append]; rfl) (by rw [List.length_append, hal]; rfl) ⟨?_, ?_⟩ (Nat.lt_trans hlo (by show h.objs.size < _; exact Heap.lt_size (up _ _ (Nat.ne_of_gt hSlt) ht)))⟩)
      (by rw [accz]; omega) (by show (acc.push (Value.ref h.objs.size)).size ≤ sizeLine + 1; rw [Array.size_push, accz]; omega)
    · intro a ha
      rcases List.mem_append.mp ha with ha | ha
      · exact hG.above a ha
      · rw [List.mem_singleton.mp ha]; exact hlo
    · intro j b hj
      rcases Nat.lt_trichotomy j as.length with q | q | q
      · rw [List.getElem?_append_left q] at hj
        obtain ⟨y, t', q1, q2⟩ := hG.pair j b hj
        have gb := hG.above b (List.mem_of_getElem? hj)
        exact ⟨y, t', q1, up b _ (Nat.ne_of_gt (Nat.lt_of_le_of_lt loS gb)) (hkp b _ (Nat.ne_of_gt (Nat.lt_of_le_of_lt loe gb)) (Nat.ne_of_gt (Nat.lt_of_le_of_lt loi gb)) q2)⟩
      · subst q
        have eb : h.objs.size = b := by simpa using hj
        subst eb
        subst hal
        exact ⟨x, t, hx, up _ _ (Nat.ne_of_gt hSlt) ht⟩
      · rw [List.getElem?_eq_none (by rw [List.length_append, List.length_singleton]; omega)] at hj
        cases hj
theorem enum_guess {e : Addr} {Q : Bool → Shared → Prop} (hT : s.TypeIs (.ref e) "enumerate") (h : Q true s) : wpAny (model prog w) A (Builtin.List.listLengthHint (.ref e)) Q E s := by
  unfold Builtin.List.listLengthHint
  refine wpAny_bind (wpAny_specialOf hT F.enum_no_size (?_ : wpAny _ _ (specialOf (Value.ref e) (Str.ofString "__length_hint__") >>= _) _ _ _))
  exact wpAny_bind (wpAny_specialOf hT F.enum_no_guess (wpAny_pure h))
theorem enum_self {e it : Addr} {i : Nat} {Q : Value → Shared → Prop} (he : EnAt e it i s.heap) (h : Q (.ref e) s) : wpAny (model prog w) A (pyIter (.ref e)) Q E s := by
  rcases he with ⟨old, q⟩ | ⟨old, T, f, oT, q, _⟩
  · exact wpAny_pyIter_enum q h
  · exact wpAny_pyIter_slot ⟨_, q, rfl⟩ F.slot_enumerate_iter (wpAny_call_entry F.slot_enumerate_iter ⟨_, q, rfl⟩ F.entry_enumerate_iter (wpAny_pure ⟨_, rfl, "enumerate", _, ⟨_, q, rfl⟩, F.slot_enumerate_next.lookup, h⟩) (F.args_enumerate_iter_1 _))
/-- list(e), e an enumerate object at its beginning -/
theorem enum_list {e it : Addr} {fp : List Addr} {items : Array Value} {St : Nat → Heap → Prop} {Q : Value → Shared → Prop} (D : ∀ A' : Around, A'.handled = none → Draws prog w A' it fp items.size (fun i v => items[i]? = some v) St) (hh : A.handled = none) (hei : e ≠ it) (hef : e ∉ fp) (hfp : ∀ b ∈ fp, b < s.heap.objs.size)
    (hen : EnAt e it 0 s.heap) (hst : St 0 s.heap) (hn : items.size ≤ sizeLine)
    (hQ : ∀ h' tk acc c as, (∀ b o, b ≠ e → b ≠ it → s.heap.get? b = some o → h'.get? b = some o) → h'.get? s.heap.objs.size = some { cls := .type "list", dict := none, data := .seq acc c, slots := #[] } → as.length = items.size → EnG items s.heap.objs.size h' as →
      acc.toList = as.map Value.ref → Q (.ref s.heap.objs.size) { s with heap := h', toks := tk }) :
    wpAny (model prog w) A (call (.type "list") [.ref e]) Q E s := by
  have lte := hen.lt
  have lti : it < s.heap.objs.size := by obtain ⟨o, y⟩ := (D A hh).live _ _ hst; exact Heap.lt_size y
  refine callType_codes (Q₁ := fun obj t => obj = .ref s.heap.objs.size ∧ t = { s with heap := s.heap.push { cls := .type "list", data := .seq #[] } }) PySem.F.called_list (PySem.F.typeCall_list_1 _) PySem.F.entry_list_init (code_list_new _ ⟨rfl, rfl⟩) fun obj t ⟨z1, z2⟩ => ?_
  subst z1; subst z2
  have at0 : (s.heap.push { cls := .type "list", data := .seq #[] }).get? s.heap.objs.size = some { cls := .type "list", data := .seq #[] } := Heap.get?_push_size _ rfl
  refine ⟨⟨_, at0, rfl⟩, PySem.F.args_list_init_2 _ _, ?_⟩
  show wpAny _ _ (do let old ← Builtin.List.listItems (.ref s.heap.objs.size); Builtin.List.listUpdate (.ref s.heap.objs.size) (fun _ => #[]); letGo old.toList.reverse; Builtin.List.listExtendWith (.ref s.heap.objs.size) (.ref e) .none) _ _ _
  unfold Builtin.List.listItems
  refine wpAny_bind (wpAny_bind (wpAny_seqItems at0 rfl (wpAny_pure ?_)))
  show wpAny _ _ (updateSeq s.heap.objs.size (fun _ => #[]) >>= fun _ => letGo (#[] : Array Value).toList.reverse >>= fun _ => Builtin.List.listExtendWith (.ref s.heap.objs.size) (.ref e) .none) _ _ _
  refine wpAny_bind (wpAny_updateSeq at0 rfl (wpAny_bind (wpAny_letGo ?_)))
  have at1 := Heap.get?_update_self (Obj.mapSeq (fun _ => (#[] : Array Value))) at0 rfl
  generalize eh1 : (s.heap.push { cls := .type "list", data := .seq #[] }).update s.heap.objs.size (Obj.mapSeq (fun _ => (#[] : Array Value))) = h1 at at1
  have k1 : ∀ b o, s.heap.get? b = some o → h1.get? b = some o := fun b o q => by
    rw [← eh1]
    exact (Heap.get?_update_other _ _ (Ne.symm (Nat.ne_of_lt (Heap.lt_size q)))).trans (Heap.get?_push_of_some _ q)
  have en1 : EnAt e it 0 h1 := by
    rcases hen with ⟨old, q⟩ | ⟨old, T, f, oT, q, q2, q3, q4⟩
    · exact .inl ⟨old, k1 _ _ q⟩
    · exact .inr ⟨old, T, f, oT, k1 _ _ q, k1 _ _ q2, q3, q4⟩
  have st1 : St 0 h1 := (D A hh).frame _ _ _ hst fun b _ o q => k1 b o q
  have D1 := D A.in1.in1.in1 (by simp [hh])
  have ref1 : Builtin.List.listSameRef (.ref s.heap.objs.size) (.ref e) = false := by
    simp only [Builtin.List.listSameRef, beq_eq_false_iff_ne]
    exact fun z => Nat.ne_of_gt lte z
  unfold Builtin.List.listExtendWith
  refine wpAny_bind (wpAny_typeOf (T := "enumerate") en1.ty ?_)
  have c1 : (Value.type "enumerate" == Value.type "list") = false := by decide
  have c2 : (Value.type "enumerate" == Value.type "tuple") = false := by decide
  simp only [ref1, c1, c2, Bool.or_false, Bool.false_eq_true, if_false]
  refine wpAny_bind (enum_self en1 (wpAny_bind (wpAny_holding (enum_guess en1.ty ?_))))
  show wpAny _ _ (rule "list.extend.makes-room" >>= fun _ => Builtin.List.listTouch (.ref s.heap.objs.size) >>= fun _ => again (.builtin "list.extend.loop" ⟨[.ref s.heap.objs.size, .ref e, .none], []⟩)) _ _ _
  refine wpAny_bind (wpAny_rule (wpAny_bind (?_ : wpAny _ _ (updateSeq s.heap.objs.size (·.push .none) >>= fun _ => updateSeq s.heap.objs.size (·.pop)) _ _ _)))
  refine wpAny_bind (wpAny_updateSeq at1 rfl ?_)
  have at2 := Heap.get?_update_self (Obj.mapSeq (·.push Value.none)) at1 rfl
  refine wpAny_updateSeq (hz := by seq_fits) at2 rfl ?_
  have at3 := Heap.get?_update_self (Obj.mapSeq (·.pop)) at2 rfl
  have oth : ∀ b o, b ≠ s.heap.objs.size → h1.get? b = some o → ((h1.update s.heap.objs.size (Obj.mapSeq (·.push Value.none))).update s.heap.objs.size (Obj.mapSeq (·.pop))).get? b = some o :=
    fun b o hb q => (Heap.get?_update_other _ _ (Ne.symm hb)).trans ((Heap.get?_update_other _ _ (Ne.symm hb)).trans q)
  generalize eh3 : (h1.update s.heap.objs.size (Obj.mapSeq (·.push Value.none))).update s.heap.objs.size (Obj.mapSeq (·.pop)) = h3 at at3 oth
  have hSf : s.heap.objs.size ∉ fp := fun z => Nat.lt_irrefl _ (hfp _ z)
  refine wpAny_pure ⟨plainId_quiet PySem.F.plain_extend_loop _, enum_loop (s := s) (lo := s.heap.objs.size) (h1 := s.heap) D1 (Nat.ne_of_gt lte) (Nat.le_refl _) (Nat.le_of_lt lte) (Nat.le_of_lt lti) hei hef hSf (Nat.ne_of_gt lti) hn .none (fun h' tk acc c as kp hS hal hG hacc => ?_)
    items.size 0 h3 _ _ #[] [] (Nat.sub_zero _) (Nat.zero_le _) (en1.keep (Nat.ne_of_lt lte) oth fun o q => ⟨_, at3⟩) ((D A hh).frame _ _ _ st1 fun b hb o q => oth b o (Nat.ne_of_lt (hfp b hb)) q)
      (fun b o n1 n2 n3 q => oth b o n1 (k1 b o q)) at3 rfl rfl ⟨(fun _ ha => nomatch ha), (fun j a hj => by simp at hj)⟩ (Heap.lt_size at3)⟩
  exact ⟨rfl, hQ h' tk acc c as (fun b o n2 n3 q => kp b o (Nat.ne_of_lt (Heap.lt_size q)) n2 n3 q) hS hal hG hacc⟩
end
end PySem

/-! The data layer, part 13: list(enumerate(xs)) on data; a, *b = xs. -/
namespace DL
open PySem L2
section
variable {P : Program} {w : World} {H H' : Hp} {h h' : Heap}
theorem hok_lay (x : HOk P w H h) (k : ∀ b u, h.get? b = some u → h'.get? b = some u) (sm : Same H H') (new : ∀ a o, H' a = some o → H a = none → ObjOk P w H' h' a o) : HOk P w H' h' := fun b u e => by
  cases q : H b with
  | none => exact new b u e q
  | some v =>
    have z := sm b v q
    rw [e] at z
    cases z
    exact (x b u q).stay (fun c v _ y => k c v y) (fun c y => sm _ _ y) fun c xs y => sm _ _ y
theorem un_lay {fs ex : List Addr} (x : HOk P w H h) (k : ∀ b u, h.get? b = some u → h'.get? b = some u) (sm : Same H H') (lo : ∀ b o, H' b = some o → H b = none → h.objs.size ≤ b) : Un fs ex H H' h h' where
  keep := fun b u q _ _ _ => k b u q
  slot := fun b u q _ _ _ => ⟨u.slots, k b u q⟩
  free := fun b u q n _ => by
    cases e : H' b with
    | none => rfl
    | some o => exact absurd (Heap.lt_size q) (Nat.not_lt_of_le (lo b o e n))
  there := fun b u q _ => ⟨u, k b u q⟩
  tups := fun b xs q => sm _ _ q
  frzs := fun b u xs q => sm _ _ q
  tbls := fun b ps q => ⟨#[], by rw [sm _ _ q]; simp⟩
theorem inv_lay {X : Cx} {pins : List (Addr × Obj)} {σ : L2.St} {s : Shared} {t' : Nat} (I : L2.Inv X pins σ H s) (k : ∀ b u, s.heap.get? b = some u → h'.get? b = some u) (sm : Same H H') (new : ∀ a o, H' a = some o → H a = none → s.heap.objs.size ≤ a ∧ ObjOk X.prog X.w H' h' a o) :
    L2.Inv X pins σ H' { s with heap := h', toks := t' } := I.un (un_lay I.hok k sm fun b o e n => (new b o e n).1) (hok_lay I.hok k sm fun a o e n => (new a o e n).2)
end
/-! the pairs of enumerate -/
def layT (H : Hp) : List Addr → Nat → List V → Hp
  | a :: as, j, x :: xs => layT (upd H a (.tup [.int (j : Nat), x])) as (j + 1) xs
  | _, _, _ => H
theorem layT_out : ∀ (as : List Addr) (H : Hp) (j : Nat) (xs : List V) (b : Addr), b ∉ as → layT H as j xs b = H b
  | [], _, _, _, _, _ => rfl
  | a :: as, H, j, [], _, _ => rfl
  | a :: as, H, j, x :: xs, b, h => by
    simp only [List.mem_cons, not_or] at h
    unfold layT
    rw [layT_out as _ _ _ _ h.2, upd_ne h.1]
theorem layT_in : ∀ (as : List Addr) (H : Hp) (j : Nat) (xs : List V) (i : Nat) (b : Addr) (x : V), as.Nodup → as[i]? = some b → xs[i]? = some x → layT H as j xs b = some (.tup [.int ((j + i : Nat) : Int), x])
  | [], _, _, _, _, _, _, _, h, _ => by cases h
  | a :: as, H, j, [], i, _, _, _, _, h => by cases h
  | a :: as, H, j, y :: xs, 0, b, x, nd, h1, h2 => by
    cases h1
    cases h2
    unfold layT
    rw [layT_out as _ _ _ _ (List.nodup_cons.mp nd).1, upd_same]
    rfl
  | a :: as, H, j, y :: xs, i + 1, b, x, nd, h1, h2 => by
    unfold layT
    have q := layT_in as (upd H a (.tup [.int (j : Nat), y])) (j + 1) xs i b x (List.nodup_cons.mp nd).2 h1 h2
    rw [q]
    have : j + 1 + i = j + (i + 1) := by omega
    rw [this]
section
variable {K : PySem.W.Frag} {mg : Str → Option Value} {Z φ : List Addr} {S : Store}
theorem dat_layT : ∀ (as : List Addr) (H : Hp) (j : Nat) (ds : List D) (vs : List V), as.length = ds.length → as.Nodup → (∀ b ∈ as, H b = none) → Rel K mg Z φ S H → DatL K mg φ (gnd Z φ S H) ds vs →
    Rel K mg Z φ S (layT H as j vs) ∧ Evo Z φ S H φ S (layT H as j vs) ∧ DatL K mg φ (gnd Z φ S (layT H as j vs)) (enumD j ds) (as.map V.ref)
  | [], H, j, [], vs, _, _, _, R, d => by
    unfold DatL at d
    subst d
    exact ⟨R, Evo.refl, DatL.nil⟩
  | [], H, j, _ :: _, vs, hl, _, _, R, d => by simp at hl
  | a :: as, H, j, [], vs, hl, _, _, R, d => by simp at hl
  | a :: as, H, j, d :: ds, vs, hl, nd, hn, R, dd => by
    obtain ⟨v, r, rfl, h1, h2⟩ := dd.uncons
    have d1 : DatL K mg φ (gnd Z φ S H) [.int (j : Nat), d] [.int (j : Nat), v] := .cons (by unfold Dat; rfl) (.cons h1 DatL.nil)
    obtain ⟨R1, E1, g1⟩ := dat_newT R d1 (hn a List.mem_cons_self)
    obtain ⟨n1, n2⟩ := List.nodup_cons.mp nd
    obtain ⟨R2, E2, g2⟩ := dat_layT as (upd H a (.tup [.int (j : Nat), v])) (j + 1) ds r (by simpa using hl) n2 (fun b hb => by
      rw [upd_ne (fun z => n1 (by rw [← z]; exact hb))]
      exact hn b (List.mem_cons_of_mem _ hb)) R1 (DatL.evo E1 h2)
    refine ⟨R2, E1.trans E2, ?_⟩
    exact .cons (Dat.evo E2 g1) g2
end
section
variable {X : Cx} {W : WX} {k : Nat} {a b c e : Expr} {es : List Expr} {fa fb fc fe : FE} {pos p p2 q2 : Pos}
def tListEnum (K : PySem.W.Frag) (ta : TE) : TE := fun σ H Q => ta σ H fun x H1 => ∃ l xs, x = .ref l ∧ (SqL K H1 l xs ∨ SqT K H1 l xs) ∧ ∀ p as, as.length = xs.length → (p :: as).Nodup → (∀ b ∈ p :: as, H1 b = none) →
  Q (.ref p) (upd (layT H1 as 0 xs) p (.lst (as.map V.ref)))
theorem enG_nodup {items : Array Value} {lo : Addr} {h : Heap} {as : List Addr} (g : EnG items lo h as) : as.Nodup := by
  refine List.pairwise_iff_getElem.mpr fun i j hi hj hij e => ?_
  obtain ⟨x, t, _, q1⟩ := g.pair i as[i] (List.getElem?_eq_getElem hi)
  obtain ⟨y, u, _, q2⟩ := g.pair j as[j] (List.getElem?_eq_getElem hj)
  rw [e, q2] at q1
  injection q1 with q1
  injection q1 with _ _ q1 _
  injection q1 with q1 _
  have q3 := congrArg Array.toList q1
  simp at q3
  omega
theorem listEnum_inv {pins : List (Addr × Obj)} {σ : L2.St} {H : Hp} {s : Shared} {xs : List V} {its : List Value} {p : Addr} {h' : Heap} {tk : Nat} {acc : Array Value} {cc : Nat} {as : List Addr} (I : L2.Inv X pins σ H s) (rv : Vals xs its) (hz : xs.length ≤ sizeLine)
    (hk : ∀ b o, s.heap.get? b = some o → h'.get? b = some o) (hp : s.heap.objs.size ≤ p) (hS : h'.get? p = some { cls := .type "list", dict := none, data := .seq acc cc, slots := #[] }) (hl : as.length = its.toArray.size) (g : EnG its.toArray p h' as) (hacc : acc.toList = as.map Value.ref) :
    L2.Inv X pins σ (upd (layT H as 0 xs) p (.lst (as.map V.ref))) { s with heap := h', toks := tk } ∧ as.length = xs.length ∧ (p :: as).Nodup ∧ ∀ b ∈ p :: as, H b = none := by
  have nd := enG_nodup g
  have ln : as.length = xs.length := by rw [hl, List.size_toArray, rv.length]
  have up : ∀ b ∈ as, p < b := g.above
  have npa : p ∉ as := fun z => Nat.lt_irrefl _ (up p z)
  have fr : ∀ b ∈ p :: as, H b = none := fun b hb => by
    rcases List.mem_cons.mp hb with z | z
    · rw [z]; exact I.hok.fresh hp
    · exact I.hok.fresh (Nat.le_trans hp (Nat.le_of_lt (up b z)))
  refine ⟨inv_lay I hk (fun b o q => ?_) fun b o e n => ?_, ln, List.nodup_cons.mpr ⟨npa, nd⟩, fr⟩
  · have hb : b ∉ p :: as := fun z => by
      rw [fr b z] at q
      cases q
    simp only [List.mem_cons, not_or] at hb
    rw [upd_ne hb.1, layT_out _ _ _ _ _ hb.2]
    exact q
  · by_cases hb : b = p
    · subst hb
      rw [upd_same] at e
      cases e
      refine ⟨hp, by rw [List.length_map, ln]; exact hz, acc.toList, cc, ?_, by simpa using hS⟩
      rw [hacc]
      exact vals_refs as
    · rw [upd_ne hb] at e
      by_cases ha : b ∈ as
      · obtain ⟨i, hi⟩ := List.getElem?_of_mem ha
        obtain ⟨y, t, q1, q2⟩ := g.pair i b hi
        have q1' : its[i]? = some y := by simpa using q1
        obtain ⟨x, hx, rx⟩ : ∃ x, xs[i]? = some x ∧ RelV x y := by
          have hi' : i < xs.length := by
            have := (List.getElem?_eq_some_iff.mp q1').1
            rw [rv.length]
            exact this
          obtain ⟨u, hu, ru⟩ := rv.get (List.getElem?_eq_getElem hi')
          rw [q1'] at hu
          cases hu
          exact ⟨_, List.getElem?_eq_getElem hi', ru⟩
        rw [layT_in as H 0 xs i b x nd hi hx, Nat.zero_add] at e
        cases e
        exact ⟨Nat.le_trans hp (Nat.le_of_lt (up b ha)), by show 2 ≤ sizeLine; decide, [.int (i : Nat) t, y], .cons ⟨t, rfl⟩ (.cons rx .nil), _, q2, rfl, 0, rfl⟩
      · rw [layT_out _ _ _ _ _ ha, n] at e
        cases e
theorem pe_listEnum {ta : TE} (C : Cn X W k) (hg : Gl X "list") (hm : X.mg "list" = none) (hg2 : Gl X "enumerate") (hm2 : X.mg "enumerate" = none) (ha : PE X a ta) (na : starEach [a] X.env = (false, eval a X.env) :: starEach [] X.env := by rfl) :
    PE X (.Call (.Name "list" p) [.Call (.Name "enumerate" p2) [a] [] q2] [] pos) (tListEnum X.K ta) := by
  refine ⟨fun pins s σ H Q I h => ?_⟩
  refine PyProof.Rows.Call_ (ld_blt I hg hm (by rfl) ?_)
  refine PyProof.Rows.callWith_type1 (PyProof.Rows.args_cons ?_ rfl) rfl rfl
  refine PyProof.Rows.Call_ (ld_blt I hg2 hm2 (by rfl) ?_)
  refine PyProof.Rows.callWith_type1 (PyProof.Rows.args_cons (thn (ha.run pins s σ H _ I h) fun v s1 ⟨x, H1, I1, r1, w1⟩ => PyProof.Rows.args_nil ?_) na) na rfl
  obtain ⟨l, xs, rfl, hq, w1⟩ := w1
  cases r1
  have fin : ∀ (its : List Value) (fp : List Addr) (St : Nat → Heap → Prop) (o : Obj) (HH : Heap → Prop), Vals xs its → xs.length ≤ sizeLine → Begins (.ref l) o HH → HH s1.heap → l < s1.heap.objs.size → (fp = [s1.heap.objs.size, l]) →
      (∀ A' : Around, A'.handled = none → Draws X.prog X.w A' s1.heap.objs.size fp its.toArray.size (fun i v => its.toArray[i]? = some v) St) →
      (∀ h', h'.get? s1.heap.objs.size = some o → HH h' → St 0 h') →
      wpAny (model X.prog X.w) X.A (call (.type "enumerate") [.ref l]) (fun v s2 => wpAny (model X.prog X.w) X.A (spliced (backTo pos (starEach [] X.env))) (fun vs s3 => wpAny (model X.prog X.w) X.A (call (.type "list") (v :: vs)) (EP X pins σ Q) X.xe s3) X.xe s2) X.xe s1 := by
    intro its fp St o HH rv hz B hB hl hfp D hst
    refine enum_of B hB fun h1 he ho hk => PyProof.Rows.args_nil ?_
    have ez : s1.heap.objs.size < h1.objs.size := Heap.lt_size ho
    have ez1 : s1.heap.objs.size + 1 < h1.objs.size := Heap.lt_size he
    refine enum_list (e := s1.heap.objs.size + 1) (it := s1.heap.objs.size) (fp := fp) (items := its.toArray) D (I1.ok.hd C.calm) (Nat.ne_of_gt (Nat.lt_succ_self _)) (by
        rw [hfp]
        simp only [List.mem_cons, List.not_mem_nil, or_false, not_or]
        exact ⟨Nat.ne_of_gt (Nat.lt_succ_self _), Nat.ne_of_gt (Nat.lt_succ_of_lt hl)⟩) (fun b hb => by
        rw [hfp] at hb
        simp only [List.mem_cons, List.not_mem_nil, or_false] at hb
        rcases hb with z | z
        · rw [z]; exact ez
        · rw [z]; exact Nat.lt_trans hl ez) (.inl ⟨_, he⟩) (hst h1 ho (B.keeps _ _ hB hk)) (by rw [List.size_toArray, ← rv.length]; exact hz) fun h' tk acc cc as kp hS hal g hacc => ?_
    have hk' : ∀ b o, s1.heap.get? b = some o → h'.get? b = some o := fun b o q => kp b o (Nat.ne_of_lt (Nat.lt_succ_of_lt (Heap.lt_size q))) (Nat.ne_of_lt (Heap.lt_size q)) (hk b o q)
    obtain ⟨J, l1, l2, l3⟩ := listEnum_inv (tk := tk) I1 rv hz hk' (Nat.le_of_lt ez) hS hal g hacc
    exact ⟨.ref h1.objs.size, _, J, rfl, w1 _ as l1 l2 l3⟩
  rcases hq with hq | hq
  · obtain ⟨its, rv, pl, hz⟩ := I1.list hq
    exact fin its _ _ _ _ rv hz (begins_list l its.toArray) pl.isList (by obtain ⟨_, e, _⟩ := pl.isList; exact Heap.lt_size e) rfl (fun A' hA => Draws.list hA s1.heap.objs.size l (by obtain ⟨_, e, _⟩ := pl.isList; exact Nat.ne_of_lt (Heap.lt_size e)) its.toArray)
      fun h' ho hH => ⟨⟨_, ho, rfl, rfl⟩, hH⟩
  · obtain ⟨its, rv, pl, hz⟩ := I1.tuple hq
    exact fin its _ _ _ _ rv hz (begins_tuple l its.toArray) pl (by obtain ⟨_, e, _⟩ := pl; exact Heap.lt_size e) rfl (fun A' hA => Draws.tuple hA s1.heap.objs.size l (by obtain ⟨_, e, _⟩ := pl; exact Nat.ne_of_lt (Heap.lt_size e)) its.toArray)
      fun h' ho hH => ⟨⟨_, ho, rfl, rfl⟩, hH⟩
def gLEnum : GC := fun ds S => match ds with
  | [d] => match asQ S d with
    | some xs => .ok (.lst (enumD 0 xs)) S
    | none => .stuck
  | _ => .stuck
theorem de_listEnum (C : Cn X W k) (hg : Gl X "list") (hm : X.mg "list" = none) (hg2 : Gl X "enumerate") (hm2 : X.mg "enumerate" = none) (ha : DE X W a fa) (na : starEach [a] X.env = (false, eval a X.env) :: starEach [] X.env := by rfl) :
    DE X W (.Call (.Name "list" p) [.Call (.Name "enumerate" p2) [a] [] q2] [] pos) (fun ρ S => (fa ρ S).bind fun d S => gLEnum [d] S) := by
  obtain ⟨t, pp, q⟩ := ha.ex
  refine .mk (pe_listEnum C hg hm hg2 hm2 pp na) fun Z φ S ρ σ H Q R sl w => q Z φ S ρ σ H _ R sl (w.bind fun d S1 v φ1 H1 R1 E1 dd w1 => ?_)
  unfold gLEnum at w1
  simp only at w1
  split at w1
  · rename_i ds e1
    obtain ⟨l, xs, rfl, h1, h2⟩ := asQ_ok R1 dd e1
    refine ⟨l, xs, rfl, h1, fun p as hl nd fr => ?_⟩
    obtain ⟨n1, n2⟩ := List.nodup_cons.mp nd
    obtain ⟨R2, E2, g2⟩ := dat_layT as H1 0 ds xs (hl.trans h2.length) n2 (fun b hb => fr b (List.mem_cons_of_mem _ hb)) R1 h2
    obtain ⟨R3, E3, g3⟩ := dat_newL R2 g2 (p := p) (by rw [layT_out _ _ _ _ _ n1]; exact fr p List.mem_cons_self)
    exact w1 _ _ _ R3 (E2.trans E3) g3
  · exact w1.elim
end
end DL

/-! The data layer, part 14: a, *b = xs; isinstance; methods of what is built in; stores by a subscript. -/
namespace PySem
open PySem.Spec PySem.Calls PyProof.Rows PySem.W L2
section
variable {prog : Program} {w : World} {A : Around} {E : Value → Shared → Prop} {s : Shared}
theorem unpack_one_star {l : Addr} {items : Array Value} {u : Value} {us : List Value} {Q : List Value → Shared → Prop} (hh : A.handled = none) (hl : s.heap.IsList l items) (hi : items.toList = u :: us) (hz : items.size ≤ sizeLine)
    (hQ : ∀ (h' : Heap) (tk : Nat), (∀ b o, s.heap.get? b = some o → h'.get? b = some o) → Q [u, .ref h'.objs.size] { s with heap := h'.push { cls := .type "list", data := .seq us.toArray }, toks := tk }) :
    wpAny (model prog w) A (unpackItems (.ref l) 2 (some 1)) Q E s := by
  have lt1 : l < s.heap.objs.size := by obtain ⟨o, ho, _⟩ := hl; exact Heap.lt_size ho
  have ne1 : l ≠ s.heap.objs.size := Nat.ne_of_lt lt1
  have sz : items.size = us.length + 1 := by rw [← Array.length_toList, hi]; rfl
  unfold unpackItems
  refine wpAny_bind ?_
  unfold notIterableAtAll
  refine wpAny_bind (wpAny_specialOf hl.typeIs slot_list_iter.lookup (wpAny_pure ?_))
  simp only [Bool.false_eq_true, if_false]
  refine wpAny_bind (wpAny_holding (wpAny_pyIter_list hl (wpAny_bind (wpAny_holding (kun_draw ne1 1 0 _ _ ⟨_, Heap.get?_push_size _ rfl, rfl, rfl⟩ (hl.push _) (by omega) fun h1 it1 sb1 => ?_)))))
  have l1 : h1.IsList l items := (hl.push _).extBut sb1.extBut ne1
  have q1 : (items.toList.drop 0).take 1 = [u] := by rw [hi]; rfl
  rw [q1]
  show wpAny _ _ (if [u].length < 1 then _ else _) _ _ _
  rw [if_neg (by simp)]
  have ltI : s.heap.objs.size < h1.objs.size := by obtain ⟨o, ho, _⟩ := it1; exact Heap.lt_size ho
  have ltl : l < h1.objs.size := by obtain ⟨o, ho, _⟩ := l1; exact Heap.lt_size ho
  refine wpAny_bind (wpAny_holding (kun_collect (s := { s with heap := h1 }) (T := "list_iterator") (.inr (.inr (.inl rfl))) (Walks.list (A := A.in1) hh s.heap.objs.size l ne1 items) (fun j t st => st.1.typeIs) (k := 1) (by omega) ⟨it1, l1⟩ ltI ltl (fun h2 tk kp => ?_) hz))
  have q2 : items.toList.drop 1 = us := by rw [hi]; rfl
  rw [q2]
  show wpAny _ _ (if us.length < 2 - 1 - 1 then _ else _) _ _ _
  rw [if_neg (by omega)]
  show wpAny _ _ (newList (us.take (us.length - (2 - 1 - 1))) >>= fun d => pure ([u] ++ [d] ++ us.drop (us.length - (2 - 1 - 1)))) _ _ _
  have q3 : us.take (us.length - (2 - 1 - 1)) = us := List.take_of_length_le (by omega)
  have q4 : us.drop (us.length - (2 - 1 - 1)) = [] := List.drop_eq_nil_of_le (by omega)
  rw [q3, q4]
  refine wpAny_bind (wpAny_newObj_type (wpAny_pure ?_) (by show us.length ≤ sizeLine; omega))
  exact hQ h2 tk fun b o e => kp b o (Nat.ne_of_lt (Heap.lt_size e)) (sb1.extBut b o (Nat.ne_of_lt (Heap.lt_size e)) (Heap.get?_push_of_some _ e))
end
end PySem
namespace DL
open PySem L2
section
variable {X : Cx} {W : WX} {k : Nat} {a b c e o : Expr} {es : List Expr} {fa fb fc fe fo : FE} {pos p p2 q2 apos cpos : Pos}
/-! ### a, *b = xs -/
def gStarT (K : PySem.W.Frag) (i j : Nat) : TG := fun v σ H Q => ∃ l x xs, v = .ref l ∧ SqL K H l (x :: xs) ∧ ∀ D, H D = none → Q ((σ.set i (some x)).set j (some (.ref D))) (upd H D (.lst xs))
theorem pg_star (C : Cn X W k) {i j : Nat} {x y : Str} {n : Nat} {p1 p2 p3 : Pos} (hi : X.N[i]? = some x) (hx : Loc X.env.scope x) (hj : X.N[j]? = some y) (hy : Loc X.env.scope y)
    (hf : X.fn x = true ∨ X.env.scope.names.lookup x = some .local := by first | exact .inl rfl | exact .inr rfl) (hf2 : X.fn y = true ∨ X.env.scope.names.lookup y = some .local := by first | exact .inl rfl | exact .inr rfl) :
    PG X (.Tuple [.Name x p1, .Starred (.Name y p2) p3] n pos) (gStarT X.K i j) := by
  refine ⟨fun pins s σ H v u Q I r h => ?_⟩
  obtain ⟨l, z, zs, rfl, hq, q⟩ := h
  cases r
  obtain ⟨its, rv, pl, hz⟩ := I.list hq
  cases rv with
  | cons r1 r2 =>
    rename_i u us
    rw [PyProof.Rows.assign_Tuple]
    refine wpAny_bind (wpAny_standAt ?_)
    show wpAny _ _ (holding [_] (unpackItems _ 2 (some 1)) >>= fun vs => assignInOrder [assign (.Name x p1) X.env, assign (.Name y p2) X.env] vs) _ _ _
    refine wpAny_bind (wpAny_holding (unpack_one_star (u := u) (us := us) (I.ok.hd C.calm) pl.isList (by simp) (by simpa [r2.length] using hz) fun h' tk hk => ?_))
    have I1 : L2.Inv X pins σ H { s with heap := h' } := I.kept (t' := s.toks) hk
    have I2 := I1.lnew (t' := tk) r2 (by simp at hz; omega)
    have hn := I1.fresh
    refine PyProof.Rows.assignInOrder_cons (wpAny_assign_Name (store_ok I2 C.nd hi hx r1 (fun s2 I3 => ?_) hf))
    refine PyProof.Rows.assignInOrder_cons (wpAny_assign_Name (store_ok I3 C.nd hj hy (v := .ref h'.objs.size) rfl (fun s3 I4 => PyProof.Rows.assignInOrder_nil ⟨_, _, I4, q _ hn⟩) hf2))
def gStar (i j : Nat) (fe : FE) : FS := fun ρ S => (fe ρ S).into ρ fun d S => match asL S d with
  | some (x :: xs) => .nx ((ρ.set i (some x)).set j (some (.oid S.length))) (S ++ [.lst xs])
  | _ => .stuck
theorem ds_star (C : Cn X W k) {i j : Nat} {x y : Str} {n : Nat} {p1 p2 p3 tpos : Pos} (hi : X.N[i]? = some x) (hx : Loc X.env.scope x) (hj : X.N[j]? = some y) (hy : Loc X.env.scope y) (he : DE X W e fe)
    (hf : X.fn x = true ∨ X.env.scope.names.lookup x = some .local := by first | exact .inl rfl | exact .inr rfl) (hf2 : X.fn y = true ∨ X.env.scope.names.lookup y = some .local := by first | exact .inl rfl | exact .inr rfl)
    (hs : swapsWithSole [.Tuple [.Name x p1, .Starred (.Name y p2) p3] n tpos] e pos.line X.env = pure false := by rfl) (hw : swappedStores [.Tuple [.Name x p1, .Starred (.Name y p2) p3] n tpos] e X.env = pure none := by rfl)
    (h1 : (assignEach [.Tuple [.Name x p1, .Starred (.Name y p2) p3] n tpos] X.env).map (·.2) = [assign (.Tuple [.Name x p1, .Starred (.Name y p2) p3] n tpos) X.env] := by rfl) :
    DS X W (.Assign [.Tuple [.Name x p1, .Starred (.Name y p2) p3] n tpos] e pos) (gStar i j fe) := by
  obtain ⟨t, pp, q⟩ := he.ex
  refine .mk (ps_asg pp (pg_star C hi hx hj hy hf hf2) hs hw h1) fun Z φ S ρ σ H Dd R sl w => q Z φ S ρ σ H _ R sl (w.into sl fun d S1 v φ1 H1 R1 E1 dd w1 => ?_)
  split at w1
  · rename_i z zs hq
    obtain ⟨l, vs, rfl, h2, h3⟩ := asL_ok R1 dd hq
    obtain ⟨u, us, rfl, h4, h5⟩ := h3.uncons
    refine ⟨l, u, us, rfl, h2, fun D hD => ?_⟩
    obtain ⟨R2, E2, g2⟩ := dat_newO R1 h5 hD
    exact w1 _ _ _ R2 E2 ((((sl.evo E1).evo E2).set (Dat.evo E2 h4)).set g2)
  · exact w1.elim

/-! ### isinstance -/
def tyS (S : Store) : D → Option String
  | .non => some "NoneType"
  | .bl _ => some "bool"
  | .int _ => some "int"
  | .str _ => some "str"
  | .tup _ => some "tuple"
  | .lst _ => some "list"
  | .scr _ => some "list"
  | .dic _ => some "dict"
  | .oid n => match S[n]? with
    | some (.lst _) => some "list"
    | some (.dic _) => some "dict"
    | some (.frz (.lst _)) => some "list"
    | some (.frz (.dic _)) => some "dict"
    | _ => none
  | _ => none
theorem tyx_L {K : PySem.W.Frag} {H : Hp} {a : Addr} {xs : List V} (h : SqL K H a xs) : TyX K H (.ref a) (.type "list") := by
  rcases h with (h | ⟨u, h⟩) | ⟨o, its, n, hk, hc, _⟩
  · exact .base (.lst h)
  · exact .base (.frz h)
  · exact .kList hk hc
theorem tyx_T {K : PySem.W.Frag} {H : Hp} {a : Addr} {xs : List V} (h : SqT K H a xs) : TyX K H (.ref a) (.type "tuple") := by
  rcases h with (h | ⟨u, h⟩) | ⟨o, its, n, hk, hc, _⟩
  · exact .base (.tup h)
  · exact .fTuple h
  · exact .kTuple hk hc
theorem tyS_ok {Z φ : List Addr} {S : Store} {H : Hp} (R : Rel X.K X.mg Z φ S H) {d : D} {v : V} {T : String} (h : Dat X.K X.mg φ (gnd Z φ S H) d v) (e : tyS S d = some T) : TyX X.K H v (.type T) := by
  cases d with
  | non => cases e; unfold Dat at h; subst h; exact .base .non
  | bl b => cases e; unfold Dat at h; subst h; exact .base (.bl b)
  | int b => cases e; unfold Dat at h; subst h; exact .base (.int b)
  | str b => cases e; unfold Dat at h; subst h; exact .base (.str b)
  | tup ds =>
    cases e
    unfold Dat at h
    obtain ⟨a, vs, rfl, h1, _⟩ := h
    exact tyx_T (sqt_mono gnd_sub h1)
  | lst ds =>
    cases e
    obtain ⟨a, vs, rfl, h1, _⟩ := asL_ok R h rfl
    exact tyx_L h1
  | scr ds =>
    cases e
    obtain ⟨a, vs, rfl, h1, _⟩ := asL_ok R h rfl
    exact tyx_L h1
  | dic ds =>
    cases e
    obtain ⟨a, vs, rfl, h1, _⟩ := asD_ok R h rfl
    exact .base (.dK h1)
  | oid n =>
    cases hS : S[n]? with
    | none => simp [tyS, hS] at e
    | some so =>
      have L : ∀ ds, asL S (.oid n) = some ds → TyX X.K H v (.type "list") := fun ds q => by
        obtain ⟨a, vs, rfl, h1, _⟩ := asL_ok R h q
        exact tyx_L h1
      have M : ∀ ds, asD S (.oid n) = some ds → TyX X.K H v (.type "dict") := fun ds q => by
        obtain ⟨a, vs, rfl, h1, _⟩ := asD_ok R h q
        exact .base (.dK h1)
      cases so with
      | lst ds =>
        simp only [tyS, hS, Option.some.injEq] at e
        subst e
        exact L ds (by simp [asL, hS])
      | dic ds =>
        simp only [tyS, hS, Option.some.injEq] at e
        subst e
        exact M ds (by simp [asD, hS])
      | frz d =>
        cases d with
        | lst ds =>
          simp only [tyS, hS, Option.some.injEq] at e
          subst e
          exact L ds (by simp [asL, hS])
        | dic ds =>
          simp only [tyS, hS, Option.some.injEq] at e
          subst e
          exact M ds (by simp [asD, hS])
        | _ => simp [tyS, hS] at e
      | ins _ _ => simp [tyS, hS] at e
      | tbl _ _ => simp [tyS, hS] at e
  | _ => cases e
/-- one built-in class under another -/
def isiT : String → String → Option Bool
  | "NoneType", n => if n ∈ ["bool", "int", "str", "tuple", "list", "dict"] then some false else none
  | "bool", n => if n ∈ ["bool", "int"] then some true else if n ∈ ["str", "tuple", "list", "dict"] then some false else none
  | "int", n => if n = "int" then some true else if n ∈ ["bool", "str", "tuple", "list", "dict"] then some false else none
  | "str", n => if n = "str" then some true else if n ∈ ["bool", "int", "tuple", "list", "dict"] then some false else none
  | "tuple", n => if n = "tuple" then some true else if n ∈ ["bool", "int", "str", "list", "dict"] then some false else none
  | "list", n => if n = "list" then some true else if n ∈ ["bool", "int", "str", "tuple", "dict"] then some false else none
  | "dict", n => if n = "dict" then some true else if n ∈ ["bool", "int", "str", "tuple", "list"] then some false else none
  | _, _ => none
theorem isiT_ok {K : PySem.W.Frag} {T n : String} {b : Bool} (h : isiT T n = some b) : PySem.W.kitOne K (.type T) (.type n) = some b := by
  have all : ∀ T ∈ ["NoneType", "bool", "int", "str", "tuple", "list", "dict"], ∀ n ∈ ["bool", "int", "str", "tuple", "list", "dict"], isiT T n = kitB T n := by decide +kernel
  have hT : T ∈ ["NoneType", "bool", "int", "str", "tuple", "list", "dict"] := by
    unfold isiT at h
    split at h <;> first | (simp; done) | (cases h; done)
  have hn : n ∈ ["bool", "int", "str", "tuple", "list", "dict"] := by
    unfold isiT at h
    split at h
    · split at h
      · rename_i q; exact q
      · cases h
    · split at h
      · rename_i q; simp at q ⊢; rcases q with q | q <;> simp [q]
      · split at h
        · rename_i q; simp at q ⊢; rcases q with q | q | q | q <;> simp [q]
        · cases h
    all_goals first
      | (cases h; done)
      | (split at h
         · rename_i q; simp [q]
         · split at h
           · rename_i q; simp at q ⊢; rcases q with q | q | q | q | q <;> simp [q]
           · cases h)
  exact kit_ty (by rw [← all T hT n hn]; exact h)
def isiA (T : String) : List String → Option Bool
  | [] => some false
  | n :: ns => match isiT T n with
    | some true => some true
    | some false => isiA T ns
    | none => none
theorem isiA_ok {K : PySem.W.Frag} {T : String} : ∀ {ns : List String} {b : Bool}, isiA T ns = some b → PySem.W.kitAny K (.type T) (ns.map Value.type) = some b
  | [], _, h => by cases h; exact kitAny_nil
  | n :: ns, b, h => by
    unfold isiA at h
    split at h
    · rename_i q
      cases h
      exact kitAny_cons (isiT_ok q) (fun z => nomatch z) fun _ => rfl
    · rename_i q
      exact kitAny_cons (isiT_ok q) (fun _ => isiA_ok h) fun z => nomatch z
    · cases h
def rIsiQ (K : PySem.W.Frag) : List V → Hp → VK → Prop := fun xs H Q => ∃ (x : V) (tp : Addr) (cs : List V) (t : Value) (us : List Value) (b : Bool), xs = [x, .ref tp] ∧ SqT K H tp cs ∧ Paired ClsV cs us ∧ TyX K H x t ∧ PySem.W.kitAny K t us = some b ∧ Q (.bl b) H
theorem call_isiQ : CallR X (.builtin "isinstance") (rIsiQ X.K) := fun pins s σ H xs us Q I r h => by
  obtain ⟨x, tp, cs, t, ws, b, rfl, hT, kk, ty, ee, q⟩ := h
  obtain ⟨u1, u2, rfl, r1, r2⟩ := vals2 r
  cases (show u2 = Value.ref tp from r2)
  obtain ⟨P, Zk, pz, hx⟩ := kit_of I r1 ty
  obtain ⟨its, rv, ⟨ob, h1, h2, n, h3⟩, _⟩ := I.tuple hT
  have e3 := ClsV.all kk rv
  subst e3
  obtain ⟨oc, od, dt, sl⟩ := ob
  simp only at h2 h3
  subst h2 h3
  exact PySem.W.kia_tup Zk I.kIn pz h1 ee hx fun tk => ⟨.bl b, H, I.tok tk, rfl, q⟩
def tysOf : List D → Option (List String)
  | [] => some []
  | .ty n :: ds => (tysOf ds).map (n :: ·)
  | _ => none
theorem tysOf_ok {φ : List Addr} {G : Hp} : ∀ {ds : List D} {vs : List V} {ns : List String}, DatL X.K X.mg φ G ds vs → tysOf ds = some ns → Paired ClsV vs (ns.map Value.type)
  | [], _, _, h, e => by
    cases e
    unfold DatL at h
    subst h
    exact .nil
  | d :: ds, _, ns, h, e => by
    obtain ⟨v, r, rfl, h1, h2⟩ := h.uncons
    cases d with
    | ty i =>
      unfold tysOf at e
      cases q : tysOf ds with
      | none => rw [q] at e; cases e
      | some ms =>
        rw [q] at e
        cases e
        unfold Dat at h1
        subst h1
        exact .cons (.ty i) (tysOf_ok h2 q)
    | _ => cases e
def gIsi1 : GC := fun ds S => match ds with
  | [x, .ty n] => match (tyS S x).bind fun T => isiT T n with
    | some b => .ok (.bl b) S
    | none => .stuck
  | _ => .stuck
def gIsiN : GC := fun ds S => match ds with
  | [x, .tup cs] => match (tyS S x).bind fun T => (tysOf cs).bind fun ns => isiA T ns with
    | some b => .ok (.bl b) S
    | none => .stuck
  | _ => .stuck
def isTy2 (ds : List D) (_ : Store) : Bool := match ds with
  | [_, .ty _] => true
  | _ => false
def gIsi : GC := fun ds S => if isTy2 ds S then gIsi1 ds S else gIsiN ds S
theorem cd_isi1 : CallD X (rIsi X.K) gIsi1 := fun Z φ S H ds vs Q E R d w => by
  unfold gIsi1 at w
  split at w
  · obtain ⟨v, u, rfl, h1, h2⟩ := datL2 d
    split at w
    · rename_i b q
      obtain ⟨T, q1, q2⟩ := Option.bind_eq_some_iff.mp q
      unfold Dat at h2
      subst h2
      exact ⟨v, _, _, _, b, rfl, .ty _, tyS_ok R h1 q1, isiT_ok q2, w.now R (dat_bl _)⟩
    · exact w.elim
  · exact w.elim
theorem cd_isiN : CallD X (rIsiQ X.K) gIsiN := fun Z φ S H ds vs Q E R d w => by
  unfold gIsiN at w
  split at w
  · obtain ⟨v, u, rfl, h1, h2⟩ := datL2 d
    split at w
    · rename_i b q
      obtain ⟨T, q1, q2⟩ := Option.bind_eq_some_iff.mp q
      obtain ⟨ns, q3, q4⟩ := Option.bind_eq_some_iff.mp q2
      unfold Dat at h2
      obtain ⟨a, us, rfl, h3, h4⟩ := h2
      exact ⟨v, a, us, _, _, b, rfl, sqt_mono gnd_sub h3, tysOf_ok h4 q3, tyS_ok R h1 q1, isiA_ok q4, w.now R (dat_bl _)⟩
    · exact w.elim
  · exact w.elim
theorem de_isi {fa : FA} (hg : Gl X "isinstance") (hm : X.mg "isinstance" = none) (ha : DA X W [e, b] fa) (he : starEach [e, b] X.env = (false, eval e X.env) :: starEach [b] X.env := by rfl) (hpl : (backTo pos (starEach [b] X.env)).any (·.1) = false := by rfl) :
    DE X W (.Call (.Name "isinstance" p) [e, b] [] pos) (fCB gIsi fa) := de_callB (callR_or call_isi call_isiQ) (callD_or isTy2 cd_isi1 cd_isiN) hg hm (by rfl) ha (by decide) (by decide) he hpl

/-! ### methods of what is built in -/
abbrev GM := D → List D → Store → Res D
def MethD (X : Cx) (r : V → List V → Hp → VK → Prop) (g : GM) : Prop := ∀ (Z φ : List Addr) (S : Store) (H : Hp) (x : D) (u : V) (ds : List D) (vs : List V) (Q : VK) (E : XK), Rel X.K X.mg Z φ S H → Dat X.K X.mg φ (gnd Z φ S H) x u → DatL X.K X.mg φ (gnd Z φ S H) ds vs →
  Want X.K X.mg (RDat X.K X.mg) Z φ S H (g x ds S) Q E → r u vs H Q
def fBM (T : String) (g : GM) (fo : FE) (fa : FA) : FE := fun ρ S => (fo ρ S).bind fun x S => if tyS S x = some T ∧ T ≠ "tuple" then (fa ρ S).bind fun ds S => g x ds S else .stuck
theorem tyV_ok {Z φ : List Addr} {S : Store} {H : Hp} (R : Rel X.K X.mg Z φ S H) {d : D} {v : V} {T : String} (h : Dat X.K X.mg φ (gnd Z φ S H) d v) (e : tyS S d = some T) (ht : T = "list" ∨ T = "dict" ∨ T = "str") : tyV X.K T v H := by
  have L : ∀ ds, asL S d = some ds → tyV X.K "list" v H := fun ds q => by
    obtain ⟨a, vs, rfl, h1, _⟩ := asL_ok R h q
    exact .inl ⟨rfl, vs, h1⟩
  have M : ∀ ds, asD S d = some ds → tyV X.K "dict" v H := fun ds q => by
    obtain ⟨a, vs, rfl, h1, _⟩ := asD_ok R h q
    exact .inr (.inr (.inl ⟨rfl, .inl ⟨vs, h1⟩⟩))
  cases d with
  | str z => cases e; unfold Dat at h; subst h; rfl
  | lst ds => cases e; exact L ds rfl
  | scr ds => cases e; exact L ds rfl
  | dic ds => cases e; exact M ds rfl
  | oid n =>
    cases hS : S[n]? with
    | none => simp [tyS, hS] at e
    | some so =>
      cases so with
      | lst ds =>
        simp only [tyS, hS, Option.some.injEq] at e
        subst e
        exact L ds (by simp [asL, hS])
      | dic ds =>
        simp only [tyS, hS, Option.some.injEq] at e
        subst e
        exact M ds (by simp [asD, hS])
      | frz d =>
        cases d with
        | lst ds =>
          simp only [tyS, hS, Option.some.injEq] at e
          subst e
          exact L ds (by simp [asL, hS])
        | dic ds =>
          simp only [tyS, hS, Option.some.injEq] at e
          subst e
          exact M ds (by simp [asD, hS])
        | _ => simp [tyS, hS] at e
      | ins _ _ => simp [tyS, hS] at e
      | tbl _ _ => simp [tyS, hS] at e
  | non => cases e; simp at ht
  | bl _ => cases e; simp at ht
  | int _ => cases e; simp at ht
  | tup _ => cases e; simp at ht
  | _ => cases e
theorem de_bm {T id : String} {name : Str} {r : V → List V → Hp → VK → Prop} {g : GM} {fa : FA} (pa : PlainAttrs T) (slot : Slot T name id) (hty : typeOf (.builtin id) = pure (.type "method_descriptor")) (hm : MtR X id r) (hd : MethD X r g) (hT : T = "list" ∨ T = "dict" ∨ T = "str") (ho : DE X W o fo) (ha : DA X W (e :: es) fa)
    (hbase : attributeBase o name X.env (eval o X.env) = eval o X.env := by rfl)
    (hfew : ((backTo cpos (starEach (e :: es) X.env)).all (fun x => !x.1) && (backToKw cpos (keywordEach [] X.env)).all (fun x => x.1.isSome) && decide ((e :: es).length + ([] : List Keyword).length + (if ([] : List Keyword).isEmpty then 0 else 1) < 30)) = true := by rfl)
    (hline : (apos.endLine == cpos.line) = true := by rfl) (hs : starEach (e :: es) X.env = (false, eval e X.env) :: starEach es X.env := by rfl) (hplain : (backTo cpos (starEach es X.env)).any (·.1) = false := by rfl) :
    DE X W (.Call (.Attribute o name apos) (e :: es) [] cpos) (fBM T g fo fa) := by
  obtain ⟨to, po, qo⟩ := ho.ex
  obtain ⟨ta, ppa, qa⟩ := ha.ex
  refine .mk (pe_bm pa slot hty hm po ppa hbase hfew hline hs hplain) fun Z φ S ρ σ H Q R sl w => qo Z φ S ρ σ H _ R sl (w.bind fun x S1 u φ1 H1 R1 E1 d w1 => ?_)
  obtain ⟨⟨h1, h2⟩, w2⟩ := want_if w1
  exact ⟨tyV_ok R1 d h1 hT, qa Z φ1 S1 ρ σ H1 _ R1 (sl.evo E1) (w2.bind fun ds S2 vs φ2 H2 R2 E2 d2 w3 => hd Z φ2 S2 H2 x u ds vs Q _ R2 (Dat.evo E2 d) d2 w3)⟩
theorem de_bm0 {T id : String} {name : Str} {r : V → List V → Hp → VK → Prop} {g : GM} (pa : PlainAttrs T) (slot : Slot T name id) (hty : typeOf (.builtin id) = pure (.type "method_descriptor")) (hm : MtR X id r) (hd : MethD X r g) (hT : T = "list" ∨ T = "dict" ∨ T = "str") (ho : DE X W o fo)
    (hbase : attributeBase o name X.env (eval o X.env) = eval o X.env := by rfl) (hline : (apos.endLine == cpos.line) = true := by rfl) :
    DE X W (.Call (.Attribute o name apos) [] [] cpos) (fBM T g fo (fun _ S => .ok [] S)) := by
  obtain ⟨to, po, qo⟩ := ho.ex
  refine .mk (pe_bm0 pa slot hty hm po hbase hline) fun Z φ S ρ σ H Q R sl w => qo Z φ S ρ σ H _ R sl (w.bind fun x S1 u φ1 H1 R1 E1 d w1 => ?_)
  obtain ⟨⟨h1, h2⟩, w2⟩ := want_if w1
  exact ⟨tyV_ok R1 d h1 hT, hd Z φ1 S1 H1 x u [] [] Q _ R1 d DatL.nil w2⟩
/-- xs.append(x) -/
def gApp : GM := fun x ds S => match x, ds with
  | .oid n, [d] => (match S[n]? with
    | some (.lst xs) => if xs.length < sizeLine then .ok .non (S.set n (.lst (xs ++ [d]))) else .stuck
    | _ => .stuck)
  | _, _ => .stuck
/-- a list of the store is written -/
theorem want_lst {Z φ : List Addr} {S : Store} {H : Hp} {n : Nat} {u : V} {xs ys : List D} {d : D} {E : XK} {Q : VK} (R : Rel X.K X.mg Z φ S H) (dx : Dat X.K X.mg φ (gnd Z φ S H) (.oid n) u) (hS : S[n]? = some (.lst xs)) :
    ∃ l vs, u = .ref l ∧ H l = some (.lst vs) ∧ DatL X.K X.mg φ (gnd Z φ S H) xs vs ∧ ∀ ws x, DatL X.K X.mg φ (gnd Z φ S H) ys ws → Dat X.K X.mg φ (gnd Z φ S H) d x → Want X.K X.mg (RDat X.K X.mg) Z φ S H (.ok d (S.set n (.lst ys))) Q E → Q x (upd H l (.lst ws)) := by
  unfold Dat at dx
  obtain ⟨a, rfl, ha⟩ := dx
  obtain ⟨vs, h1, h2⟩ := R.ob n a _ ha hS
  refine ⟨a, vs, rfl, h1, h2, fun ws x hw hx w => ?_⟩
  obtain ⟨R3, E3⟩ := R.mutate (u := .lst ys) (ho := .lst ws) ha hS rfl rfl ⟨ws, upd_same, hw⟩
  exact w x φ _ R3 E3 (Dat.evo E3 hx)
theorem md_app : MethD X rAppend gApp := fun Z φ S H x u ds vs Q E R dx d w => by
  unfold gApp at w
  split at w
  · obtain ⟨v, rfl, h1⟩ := datL1 d
    split at w
    · rename_i xs hS
      obtain ⟨hl, w1⟩ := want_if w
      obtain ⟨l, us, rfl, h2, h3, fin⟩ := want_lst (Q := Q) (E := E) R dx hS
      exact ⟨l, us, v, rfl, rfl, h2, by rw [h3.length]; exact hl, fin _ _ (h3.append (.cons h1 DatL.nil)) dat_non w1⟩
    · exact w.elim
  · exact w.elim
theorem de_append {fa : FA} (ho : DE X W o fo) (ha : DA X W [e] fa) (hbase : attributeBase o "append" X.env (eval o X.env) = eval o X.env := by rfl)
    (hfew : ((backTo cpos (starEach [e] X.env)).all (fun x => !x.1) && (backToKw cpos (keywordEach [] X.env)).all (fun x => x.1.isSome) && decide ([e].length + ([] : List Keyword).length + (if ([] : List Keyword).isEmpty then 0 else 1) < 30)) = true := by rfl)
    (hline : (apos.endLine == cpos.line) = true := by rfl) (hs : starEach [e] X.env = (false, eval e X.env) :: starEach [] X.env := by rfl) (hplain : (backTo cpos (starEach [] X.env)).any (·.1) = false := by rfl) :
    DE X W (.Call (.Attribute o "append" apos) [e] [] cpos) (fBM "list" gApp fo fa) := de_bm PySem.F.plainAttrs_list PySem.F.slot_list_append PySem.F.type_list_append mt_append md_app (.inl rfl) ho ha hbase hfew hline hs hplain

/-! ### o[i] = e -/
def putKD (ks : List (Key × D)) (k : Key) (d : D) : List (Key × D) := if (ks.any fun q => decide (q.1 = k)) = true then ks.map (fun q => if q.1 = k then (q.1, d) else q) else ks ++ [(k, d)]
theorem datK_append {K : PySem.W.Frag} {mg : Str → Option Value} {φ : List Addr} {G : Hp} {k : Key} {d : D} {v : V} (hd : Dat K mg φ G d v) : ∀ {ks : List (Key × D)} {kvs : List (Key × V)}, DatK K mg φ G ks kvs → DatK K mg φ G (ks ++ [(k, d)]) (kvs ++ [(k, v)])
  | [], _, h => by
    unfold DatK at h
    subst h
    show DatK K mg φ G [(k, d)] [(k, v)]
    unfold DatK
    exact ⟨v, [], rfl, hd, by unfold DatK; rfl⟩
  | (j, e) :: ks, _, h => by
    unfold DatK at h
    obtain ⟨u, r, rfl, h1, h2⟩ := h
    show DatK K mg φ G ((j, e) :: (ks ++ [(k, d)])) ((j, u) :: (r ++ [(k, v)]))
    unfold DatK
    exact ⟨u, _, rfl, h1, datK_append hd h2⟩
theorem datK_put {K : PySem.W.Frag} {mg : Str → Option Value} {φ : List Addr} {G : Hp} {k : Key} {d : D} {v : V} (hd : Dat K mg φ G d v) {ks : List (Key × D)} {kvs : List (Key × V)} (h : DatK K mg φ G ks kvs) : DatK K mg φ G (putKD ks k d) (putK kvs k v) := by
  have any_eq : ∀ {ks : List (Key × D)} {kvs : List (Key × V)}, DatK K mg φ G ks kvs → (ks.any fun q => decide (q.1 = k)) = (kvs.any fun q => decide (q.1 = k)) := by
    intro ks
    induction ks with
    | nil =>
      intro kvs h
      unfold DatK at h
      subst h
      rfl
    | cons q ks ih =>
      intro kvs h
      obtain ⟨j, e⟩ := q
      unfold DatK at h
      obtain ⟨u, r, rfl, h1, h2⟩ := h
      rw [List.any_cons, List.any_cons, ih h2]
  have map_ok : ∀ {ks : List (Key × D)} {kvs : List (Key × V)}, DatK K mg φ G ks kvs → DatK K mg φ G (ks.map fun q => if q.1 = k then (q.1, d) else q) (kvs.map fun q => if q.1 = k then (q.1, v) else q) := by
    intro ks
    induction ks with
    | nil =>
      intro kvs h
      unfold DatK at h
      subst h
      unfold DatK
      rfl
    | cons q ks ih =>
      intro kvs h
      obtain ⟨j, e⟩ := q
      unfold DatK at h
      obtain ⟨u, r, rfl, h1, h2⟩ := h
      rw [List.map_cons, List.map_cons]
      by_cases hj : j = k
      · simp only [hj, if_true]
        unfold DatK
        exact ⟨v, _, rfl, hd, ih h2⟩
      · simp only [hj, if_false]
        unfold DatK
        exact ⟨u, _, rfl, h1, ih h2⟩
  unfold putKD putK
  rw [any_eq h]
  split
  · exact map_ok h
  · exact datK_append hd h
def rSetX (C : Prop) : TSet := fun o i v H Q => rSetL o i v H Q ∨ rSetD o i v H Q
theorem set_any (C : Cn X W k) : PSet X (rSetX True) := fun pins s σ H o i v ov iv u Q I ro ri rv h => h.elim (set_list pins s σ H o i v ov iv u Q I ro ri rv) (set_dict C.u1 pins s σ H o i v ov iv u Q I ro ri rv)
def storeAt (x y d : D) (S : Store) : Option Store := match x with
  | .oid n => match S[n]? with
    | some (.lst ds) => (match y with
      | .int i => (ixN ds.length i).map fun j => S.set n (.lst (ds.set j d))
      | _ => none)
    | some (.dic ks) => (match keyD y with
      | some q => if ks.length < sizeLine then some (S.set n (.dic (putKD ks q d))) else none
      | none => none)
    | _ => none
  | _ => none
theorem storeAt_ok {Z φ : List Addr} {S S' : Store} {H : Hp} {x y d : D} {o i v : V} {Q : Hp → Prop} (R : Rel X.K X.mg Z φ S H) (dx : Dat X.K X.mg φ (gnd Z φ S H) x o) (dy : Dat X.K X.mg φ (gnd Z φ S H) y i) (dd : Dat X.K X.mg φ (gnd Z φ S H) d v) (e : storeAt x y d S = some S')
    (hQ : ∀ H', Rel X.K X.mg Z φ S' H' → Evo Z φ S H φ S' H' → Q H') : rSetX True o i v H Q := by
  unfold storeAt at e
  split at e
  · rename_i n
    unfold Dat at dx
    obtain ⟨a, rfl, ha⟩ := dx
    split at e
    · rename_i ds hS
      split at e
      · rename_i j
        cases dInt dy
        obtain ⟨q, hq, e⟩ := Option.map_eq_some_iff.mp e
        subst e
        obtain ⟨vs, h1, h2⟩ := R.ob n a _ ha hS
        obtain ⟨R3, E3⟩ := R.mutate (u := .lst (ds.set q d)) (ho := .lst (vs.set q v)) ha hS rfl rfl ⟨_, upd_same, h2.set q dd⟩
        exact .inl ⟨a, vs, j, q, rfl, rfl, h1, by rw [h2.length]; exact hq, hQ _ R3 E3⟩
      · cases e
    · rename_i ks hS
      split at e
      · rename_i q hq
        split at e
        · rename_i hl
          cases e
          obtain ⟨kvs, h1, h2⟩ := R.ob n a _ ha hS
          obtain ⟨R3, E3⟩ := R.mutate (u := .dic (putKD ks q d)) (ho := .dK (putK kvs q v)) ha hS rfl rfl ⟨_, upd_same, datK_put dd h2⟩
          exact .inr ⟨a, _, rfl, .inl ⟨kvs, q, h1, keyD_ok dy hq, by rw [datK_length h2]; exact hl, rfl⟩, hQ _ R3 E3⟩
        · cases e
      · cases e
    · cases e
  · cases e
def gPut (fo fi fe : FE) : FS := fun ρ S => (fe ρ S).into ρ fun d S => (fo ρ S).into ρ fun x S => (fi ρ S).into ρ fun y S => match storeAt x y d S with
  | some S => .nx ρ S
  | none => .stuck
theorem ds_put (C : Cn X W k) {fi : FE} {i : Expr} {tpos : Pos} (ho : DE X W o fo) (hi : DE X W i fi) (he : DE X W e fe)
    (ha : ∀ v, assign (.Subscript o i tpos) X.env v = (do
      let ov ← holding [v] (eval o X.env)
      let iv ← holding [v, ov] (eval i X.env)
      standAt tpos
      holding [v, ov, iv] (setItem ov iv v)
      release [v, ov, iv] []) := by intro _; rfl) (hs : swapsWithSole [.Subscript o i tpos] e pos.line X.env = pure false := by rfl) (hw : swappedStores [.Subscript o i tpos] e X.env = pure none := by rfl)
    (h1 : (assignEach [.Subscript o i tpos] X.env).map (·.2) = [assign (.Subscript o i tpos) X.env] := by rfl) : DS X W (.Assign [.Subscript o i tpos] e pos) (gPut fo fi fe) := by
  obtain ⟨to, po, qo⟩ := ho.ex
  obtain ⟨ti, pi, qi⟩ := hi.ex
  obtain ⟨te, pe, qe⟩ := he.ex
  refine .mk (ps_asg pe (pg_sub po pi (set_any C) ha) hs hw h1) fun Z φ S ρ σ H Dd R sl w => qe Z φ S ρ σ H _ R sl (w.into sl fun d S1 v φ1 H1 R1 E1 dd w1 => ?_)
  refine qo Z φ1 S1 ρ σ H1 _ R1 (sl.evo E1) (w1.into (sl.evo E1) fun x S2 ov φ2 H2 R2 E2 dx w2 => ?_)
  refine qi Z φ2 S2 ρ σ H2 _ R2 ((sl.evo E1).evo E2) (w2.into ((sl.evo E1).evo E2) fun y S3 iv φ3 H3 R3 E3 dy w3 => ?_)
  cases hst : storeAt x y d S3 with
  | none => rw [hst] at w3; exact w3.elim
  | some S4 =>
    rw [hst] at w3
    exact storeAt_ok R3 (Dat.evo E3 dx) dy (Dat.evo E3 (Dat.evo E2 dd)) hst fun H4 R4 E4 => w3 σ φ3 H4 R4 E4 ((((sl.evo E1).evo E2).evo E3).evo E4)
/-- {} -/
def fDict0 : FE := fun _ S => .ok (.oid S.length) (S ++ [.dic []])
theorem de_dict0 : DE X W (.Dict [] [] pos) fDict0 := .mk pe_dnewK fun Z φ S ρ σ H Q R sl w => fun p hp => by
  obtain ⟨r, e⟩ := R.newOid (so := .dic []) (same_upd (o := .dK []) hp) hp (by rw [upd_same]; exact fun z => nomatch z) rfl ⟨[], upd_same, by unfold DatK; rfl⟩
  refine w _ _ _ r e ?_
  unfold RDat Dat
  exact ⟨p, rfl, by rw [List.getElem?_append_right (by rw [R.len]; exact Nat.le_refl _), ← R.len, Nat.sub_self]; rfl⟩
end
end DL

/-! The data layer, part 15: the law's end. -/
namespace DL
open PySem PySem.Spec PyProof.Rows L2

theorem rel_nil {K : PySem.W.Frag} {mg : Str → Option Value} {H : Hp} : Rel K mg [] [] [] H := ⟨rfl, List.nodup_nil, fun a h => by simp at h, fun a h => by simp at h, fun a h => by simp at h, fun n a o h => by simp at h⟩
theorem gnd_nil {H : Hp} : gnd [] [] [] H = H := by
  funext a
  unfold gnd without
  rw [if_neg (by simp [liveA])]
/-- the law's call, from its mirror -/
theorem law_runs {P : Program} {w : World} {K : PySem.W.Frag} {mg mb : Str → Option Value} {k : Nat} {fa a : Addr} {fd : FuncData} {x : Str} {sem : Sem'} {s1 : Shared} {vs : List Value} {ns : List Int}
    (kin : K.In s1.heap) (hns : s1.heap.Ns mainGlobals mg) (hb : s1.heap.Ns builtinsNs mb) (hbb : ∀ x : Str, x ≠ "__name__" → mb x = bootBuiltins x) (hlim : s1.heap.NoLimit) (gens : s1.gens = #[])
    (ha : s1.heap.get? a = some { cls := .type "list", data := .seq vs.toArray }) (hi : IntsAre vs ns) (hl : ns.length ≤ sizeLine) (room : Room k callerA)
    (F : ∀ base : Heap, K.In base → base.Ns mainGlobals mg → FnG P w K mg base k fa fd [x] (spD K mg 1 sem)) (hbind : ∀ (s : Shared) (u : Value), BindsTo s fd ⟨[u], []⟩ [(x, u)])
    (good : ∃ S, sem [.scr (ns.map D.int)] [] = .ok (.bl true) S) :
    codeAny (model P w) callerA (.call (.ref fa) ⟨[.ref a], []⟩) (fun r s' => r = .ok (.ret (.bool true)) ∧ OldK s1.heap s'.heap ∧ s'.os = s1.os ∧ AllBare s'.gens) s1 := by
  have rv := vals_ints hi
  have spq : ∀ H : Hp, SqL K H a (ns.map V.int) → spD K mg 1 sem [.ref a] H (fun v _ => v = .bl true) fun _ _ _ => False := fun H hq => by
    refine ⟨rfl, [], [], [], [.scr (ns.map D.int)], rel_nil, .cons ?_ DatL.nil, ?_⟩
    · unfold Dat
      exact ⟨a, _, rfl, by rw [gnd_nil]; exact hq, dat_ints ns⟩
    · obtain ⟨S, e⟩ := good
      rw [e]
      intro v φ' H' _ _ d
      unfold RDat Dat at d
      exact d
  -- nothing but the script may be tracked
  have main : ∀ H : Hp, Only H → SqL K H a (ns.map V.int) → HOk P w H s1.heap → (∀ b, H b ≠ none → b = a) → (H a ≠ none → K.lookup a = none) →
      codeAny (model P w) callerA (.call (.ref fa) ⟨[.ref a], []⟩) (fun r s' => r = .ok (.ret (.bool true)) ∧ OldK s1.heap s'.heap ∧ s'.os = s1.os ∧ AllBare s'.gens) s1 := by
    intro H only hq hok alone free
    have dic : ∀ {b : Addr} {o : Obj} {es : Array DictEntry} {ep : Nat}, s1.heap.get? b = some o → o.data = .dict es ep → H b = none := fun {b o es ep} e d => by
      cases q : H b with
      | none => rfl
      | some u =>
        cases alone b (by rw [q]; exact fun z => nomatch z)
        rw [ha] at e
        cases e
        exact nomatch (show Data.seq vs.toArray _ = Data.dict es ep from d)
    have ns2 : ∀ {b : Addr} {m : Str → Option Value}, s1.heap.Ns b m → (hidT s1.heap H).Ns b m := fun {b m} ⟨o, es, ep, e, d, r⟩ => ⟨o, es, ep, hidT_get e (dic e d), d, r⟩
    have kin2 : K.In (hidT s1.heap H) := fun b o e => hidT_get (kin b o e) (by
      cases q : H b with
      | none => rfl
      | some u =>
        cases alone b (by rw [q]; exact fun z => nomatch z)
        rw [free (by rw [q]; exact fun z => nomatch z)] at e
        cases e)
    obtain ⟨mc, c1, c2⟩ := hlim
    have env0 : Env0 P w K mg (hidT s1.heap H) callerA [] s1 H := ⟨rfl, ⟨kin2, ns2 hns, ⟨mb, ns2 hb, hbb⟩, ⟨mc, ns2 c1, c2⟩⟩, fun b o e => of_hidT e, Nat.le_of_eq (hidT_size _ _), trivial, fun b z => absurd (show b ∈ ([] : List Addr) from z) (by simp), hok, .of_eq gens⟩
    refine codeAny_mono ((F _ kin2 (ns2 hns)).run callerA [] s1 H ⟨[.ref a], []⟩ [.ref a] [.ref a] _ _ room rfl env0 (hbind s1 (.ref a)) (.cons rfl .nil) (spq H hq)) fun r s' h => ?_
    match r, h with
    | .error e, ⟨_, _, _, _, _, _, _, _, _, _, _, _, z⟩ => exact z.elim
    | .ok (.ret u), ⟨v, H', os, bare, un, hok', rr, q⟩ =>
      cases (show v = .bl true from q)
      obtain rfl : u = Value.bool true := rr
      refine ⟨rfl, OldK.of_keep fun b o e => ?_, os, bare⟩
      rcases only b with z | ⟨ob, xs, z⟩
      · exact un.keep b o e z (fun y => absurd (show b ∈ ([] : List Addr) from y) (by simp)) (by simp)
      · obtain ⟨e1, _⟩ := hok b _ z
        obtain ⟨e2, _⟩ := hok' b _ (un.frzs b ob _ z)
        rw [e] at e1
        cases e1
        exact e2
  cases kl : K.lookup a with
  | some o =>
    have e := kin a o kl
    rw [ha] at e
    cases e
    exact main (fun _ => none) (fun _ => .inl rfl) (.inr ⟨_, vs.toArray, _, kl, rfl, rfl, rfl, by rw [List.size_toArray, hi.length]; exact hl, by simpa using rv⟩) (fun b u z => nomatch (show (none : Option HO) = some u from z)) (fun b z => absurd rfl z) fun z => absurd rfl z
  | none =>
    have at_a : (fun b => if b = a then some (HO.frz { cls := .type "list", data := .seq vs.toArray } (.lst (ns.map V.int))) else none) a = some (HO.frz { cls := .type "list", data := .seq vs.toArray } (.lst (ns.map V.int))) := if_pos rfl
    refine main (fun b => if b = a then some (.frz { cls := .type "list", data := .seq vs.toArray } (.lst (ns.map V.int))) else none) (fun b => ?_) (.inl (.inr ⟨_, at_a⟩)) (fun b u z => ?_) (fun b z => ?_) fun _ => kl
    · by_cases q : b = a
      · exact .inr ⟨_, _, if_pos q⟩
      · exact .inl (if_neg q)
    · by_cases q : b = a
      · have z' := (if_pos q).symm.trans z
        cases z'
        subst q
        exact ⟨ha, by rw [List.length_map]; exact hl, vs, _, rv, ha⟩
      · exact nomatch (if_neg q).symm.trans z
    · by_cases q : b = a
      · exact q
      · exact absurd (if_neg q) z
/-- a law over a head by facts -/
theorem walk_ofG {l : PySem.W.OpenLaw} {n k : Nat} {q : Program} {loose : List Str} {XP : (Str → Option Value) → Heap → Prop} {YP : World → Heap → Prop} {d : DefRec} {x : Str} {sem : Sem'}
    (hn : l.most = some n) (hn2 : n ≤ sizeLine) (hdf : d.params.defaults = []) (room : Room k callerA) (good : ∀ ns : List Int, ns.length ≤ n → ∃ S, sem [.scr (ns.map D.int)] [] = .ok (.bl true) S)
    (F : ∀ (w : World) (mg : Str → Option Value) (fa : Addr) (h : Heap), YP w h → h.Ns mainGlobals mg → mg d.name = some (.ref fa) →
      ∃ (K : PySem.W.Frag) (fd : FuncData), K.In h ∧ (∀ (s : Shared) (u : Value), BindsTo s fd ⟨[u], []⟩ [(x, u)]) ∧ ∀ base : Heap, K.In base → base.Ns mainGlobals mg → FnG l.prog w K mg base k fa fd [x] (spD K mg 1 sem)) :
    PySem.W.WalkO q loose XP YP l.row.toRowW d [] (fun f vs => PySem.call f vs) := by
  refine Att.attach_call hn hdf fun w s0 s1 mg mb fa o pm cd doc a vs ns G Y ho hd hcd hmg hob hints hlen gens => ?_
  obtain ⟨K, fd, kin, hb, hF⟩ := F w mg fa _ Y G.T.g hmg
  exact law_runs kin G.T.g G.T.b G.T.builtins G.T.nolimit gens hob hints (Nat.le_trans hlen hn2) room hF hb (good ns hlen)
/-- code that is not reached -/
theorem ds_none {X : Cx} {W : WX} {st : Stmt} : DS X W st (fun _ _ => .stuck) := ⟨fun pins s σ H D I ⟨Z, φ, S, ρ, R, sl, w⟩ => w.elim⟩
theorem dss_none {X : Cx} {W : WX} {sts : List Stmt} : DSs X W sts (fun _ _ => .stuck) := ⟨fun pins s σ H D I ⟨Z, φ, S, ρ, R, sl, w⟩ => w.elim⟩
theorem de_none {X : Cx} {W : WX} {e : Expr} : DE X W e (fun _ _ => .stuck) := ⟨fun pins s σ H Q I ⟨Z, φ, S, ρ, R, sl, w⟩ => w.elim⟩
section
variable {X : Cx} {W : WX} {k : Nat}
/-- a comprehension; the block's context is handed in -/
theorem de_lcB (C : Cn X W k) {fin : Fin'} (hf : FinOk fin) {elt tg iter : Expr} {ifs : List Expr} {scope : Scope} {own : List (Str × Nat)} {pos : Pos} {fi : FI} {is : List Nat} {m : FG} {ft : FT} {fe : FE} (hi : DI X W tg iter fi) (ok : BlkOk X.N X.env.scope scope own)
    (hg : ∀ (s : Shared) (H : Hp) (Ca : Addr) (cl : List (Str × Addr)) (fp : List Addr), Cn (X.blk s H scope (compEnvC scope cl Ca X.env) fp) W0 k → DG (X.blk s H scope (compEnvC scope cl Ca X.env) fp) tg is m)
    (ht : ∀ (s : Shared) (H : Hp) (Ca : Addr) (cl : List (Str × Addr)) (fp : List Addr), Cn (X.blk s H scope (compEnvC scope cl Ca X.env) fp) W0 k → DTs (X.blk s H scope (compEnvC scope cl Ca X.env) fp) W0 ifs ft)
    (he : ∀ (s : Shared) (H : Hp) (Ca : Addr) (cl : List (Str × Addr)) (fp : List Addr), Cn (X.blk s H scope (compEnvC scope cl Ca X.env) fp) W0 k → DE (X.blk s H scope (compEnvC scope cl Ca X.env) fp) W0 elt fe)
    (hio : ∀ i ∈ is, i ∈ own.map (·.2) := by decide) (hs : ∀ x, foldedSetIterable iter X.env x = pure x := by intro _; rfl) :
    DE X W (.ListComp elt [⟨tg, iter, ifs, 0⟩] scope pos) (fComp fi m ft fe (own.map (·.2)) fin) :=
  de_lc C hf hi ok (fun s H Ca cl fp => hg s H Ca cl fp C.blk) (fun s H Ca cl fp => ht s H Ca cl fp C.blk) (fun s H Ca cl fp => he s H Ca cl fp C.blk) hio hs
theorem ds_setLcB (C : Cn X W k) {fin : Fin'} (hf : FinOk fin) {i : Nat} {y : Str} {py spos : Pos} {elt tg iter : Expr} {ifs : List Expr} {scope : Scope} {own : List (Str × Nat)} {pos : Pos} {fi : FI} {is : List Nat} {m : FG} {ft : FT} {fe : FE} (hy : X.N[i]? = some y) (hyl : X.env.scope.names.lookup y = some .local)
    (hsw : swapsWith (.ListComp elt [⟨tg, iter, ifs, 0⟩] scope pos) (some (.Name y py)) spos.line X.env = pure true) (hi : DI X W tg iter fi) (ok : BlkOk X.N X.env.scope scope own)
    (hg : ∀ (s : Shared) (H : Hp) (Ca : Addr) (cl : List (Str × Addr)) (fp : List Addr), Cn (X.blk s H scope (compEnvC scope cl Ca X.env) fp) W0 k → DG (X.blk s H scope (compEnvC scope cl Ca X.env) fp) tg is m)
    (ht : ∀ (s : Shared) (H : Hp) (Ca : Addr) (cl : List (Str × Addr)) (fp : List Addr), Cn (X.blk s H scope (compEnvC scope cl Ca X.env) fp) W0 k → DTs (X.blk s H scope (compEnvC scope cl Ca X.env) fp) W0 ifs ft)
    (he : ∀ (s : Shared) (H : Hp) (Ca : Addr) (cl : List (Str × Addr)) (fp : List Addr), Cn (X.blk s H scope (compEnvC scope cl Ca X.env) fp) W0 k → DE (X.blk s H scope (compEnvC scope cl Ca X.env) fp) W0 elt fe)
    (hio : ∀ i ∈ is, i ∈ own.map (·.2) := by decide) (hs : ∀ x, foldedSetIterable iter X.env x = pure x := by intro _; rfl) :
    DS X W (.Assign [.Name y py] (.ListComp elt [⟨tg, iter, ifs, 0⟩] scope pos) spos) (gSet i (fComp fi m ft fe (own.map (·.2)) fin)) :=
  ds_setLc C hf hy hyl hsw hi ok (fun s H Ca cl fp => hg s H Ca cl fp C.blk) (fun s H Ca cl fp => ht s H Ca cl fp C.blk) (fun s H Ca cl fp => he s H Ca cl fp C.blk) hio hs
end
end DL

/-! The data layer, part 16: dict comprehensions, augmented assignment, list.index. -/
namespace DL
open PySem PySem.Spec PyProof.Rows L2
open Classical in
/-- the items of a dict comprehension, in their order -/
noncomputable def dcF (c : Option (D × List D)) (m : FG) (ft : FT) (fk fv : FE) : List (Key × D) → List D → EnvD → Store → Res (List (Key × D))
  | acc, [], _, S => if okC c S then .ok acc S else .stuck
  | acc, d :: ds, ρ, S => if okC c S then (match m d ρ S with
    | some ρ1 => (ft ρ1 S).noEx.bind fun b S => if b then (fk ρ1 S).noEx.bind fun y S => (fv ρ1 S).noEx.bind fun z S => (match keyD y with
      | some j => if acc.length < sizeLine then dcF c m ft fk fv (putKD acc j z) ds ρ S else .stuck
      | none => .stuck) else dcF c m ft fk fv acc ds ρ S
    | none => .stuck) else .stuck
abbrev FinK := List (Key × D) → Store → Res D
noncomputable def fDComp (fi : FI) (m : FG) (ft : FT) (fk fv : FE) (own : List Nat) (fin : FinK) : FE := fun ρ S => (fi ρ S).bind fun it S => (dcF it.chk m ft fk fv [] it.items (wipeD ρ own) S).bind fin
def finKD : FinK := fun ks S => .ok (.dic ks) S
/-- what an end must be -/
def FinKOk (fin : FinK) : Prop := ∀ (K : PySem.W.Frag) (mg : Str → Option Value) (Z φ1 φ : List Addr) (S1 S : Store) (H1 H : Hp) (p : Addr) (ds : List (Key × D)) (vs : List (Key × V)) (Q : VK) (E : XK),
  Rel K mg (p :: Z) φ S H → Evo Z φ1 S1 H1 φ S H → H1 p = none → p ∉ Z → H p = some (.dK vs) → DatK K mg φ (gnd (p :: Z) φ S H) ds vs → Want K mg (RDat K mg) Z φ1 S1 H1 (fin ds S) Q E → Q (.ref p) H
theorem finKD_ok : FinKOk finKD := fun K mg Z φ1 φ S1 S H1 H p ds vs Q E R e hp pZ hH hd w => by
  unfold finKD at w
  refine w _ φ H R.unhide e ?_
  unfold RDat Dat
  refine ⟨p, vs, rfl, without_some.mpr ⟨fun z => ?_, hH⟩, DatK.mono (List.prefix_refl _) gnd_hide _ _ hd⟩
  rcases List.mem_append.mp z with z | z
  · exact pZ z
  · exact R.zd p (liveA_sub z) List.mem_cons_self
section
variable {X : Cx} {W : WX} {k : Nat}
theorem wipe_own (σ : L2.St) (own : List Nat) : wipe (wipe σ own) own = wipe σ own := by
  have ww : ∀ vs : List Nat, (∀ i ∈ vs, i ∈ own) → wipe (wipe σ own) vs = wipe σ own := by
    intro vs
    induction vs with
    | nil => intro _; rfl
    | cons v vs ih =>
      intro hv
      show (wipe (wipe σ own) vs).set v none = wipe σ own
      rw [ih fun i hi => hv i (List.mem_cons_of_mem _ hi)]
      have hv' := hv v List.mem_cons_self
      have gen : ∀ own : List Nat, v ∈ own → (wipe σ own).set v none = wipe σ own := by
        intro own
        induction own with
        | nil => intro h; simp at h
        | cons u us ih2 =>
          intro h
          unfold wipe
          by_cases hu : v = u
          · subst hu
            rw [List.set_set]
          · rw [List.set_comm _ _ (fun z => hu z.symm), ih2 ((List.mem_cons.mp h).resolve_left hu)]
      exact gen own hv'
  exact ww own fun _ h => h
theorem isE_dc {fi : FI} {is : List Nat} {m : FG} {ft : FT} {fk fv : FE} {own : List Nat} {fin : FinK} (hf : FinKOk fin) (hio : ∀ i ∈ is, i ∈ own) :
    IsE X W (tDc (tDI X.K X.mg W fi) (tG X.K X.mg is m) (tDT X.K X.mg W0 ft) (tD X.K X.mg W0 fk) (tD X.K X.mg W0 fv) own) (fDComp fi m ft fk fv own fin) := fun Z φ S ρ σ H Q R sl w => by
  have wi : WantI X.K X.mg Z φ S H (fi ρ S) (fun J H1 => ∀ D, H1 D = none → ∃ W : Nat → Nat → Hp → Prop, (∃ m, W 0 m (upd H1 D (.dK []))) ∧ ∀ i mm H, W i mm H →
      (J.stop i H ∧ Q (.ref D) H) ∨ (J.go i H ∧ ∃ Nx : Hp → Prop, (∀ H', Nx H' → ∃ m', m' < mm ∧ W (i + 1) m' H') ∧ ∀ x H', J.yld i H x H' → tG X.K X.mg is m x (wipe σ own) H' fun σ2 H2 => wipe σ2 own = wipe σ own ∧ tDT X.K X.mg W0 ft σ2 H2 fun b H3 =>
        if b = true then tD X.K X.mg W0 fk σ2 H3 fun y H4 => tD X.K X.mg W0 fv σ2 H4 fun z H5 => ∃ kvs k, y = kV k ∧ H5 D = some (.dK kvs) ∧ kvs.length < sizeLine ∧ Nx (upd H5 D (.dK (putK kvs k z))) else Nx H3)) (WE W σ) := by
    have aux : ∀ it S1 J φ1 H1, Rel X.K X.mg Z φ1 S1 H1 → Evo Z φ S H φ1 S1 H1 → RI X.K X.mg Z φ1 S1 H1 it J → Want X.K X.mg (RDat X.K X.mg) Z φ1 S1 H1 ((dcF it.chk m ft fk fv [] it.items (wipeD ρ own) S1).bind fin) Q (WE W σ) →
        ∀ D, H1 D = none → ∃ W : Nat → Nat → Hp → Prop, (∃ m, W 0 m (upd H1 D (.dK []))) ∧ ∀ i mm H, W i mm H →
      (J.stop i H ∧ Q (.ref D) H) ∨ (J.go i H ∧ ∃ Nx : Hp → Prop, (∀ H', Nx H' → ∃ m', m' < mm ∧ W (i + 1) m' H') ∧ ∀ x H', J.yld i H x H' → tG X.K X.mg is m x (wipe σ own) H' fun σ2 H2 => wipe σ2 own = wipe σ own ∧ tDT X.K X.mg W0 ft σ2 H2 fun b H3 =>
        if b = true then tD X.K X.mg W0 fk σ2 H3 fun y H4 => tD X.K X.mg W0 fv σ2 H4 fun z H5 => ∃ kvs k, y = kV k ∧ H5 D = some (.dK kvs) ∧ kvs.length < sizeLine ∧ Nx (upd H5 D (.dK (putK kvs k z))) else Nx H3) := by
      intro it S1 J φ1 H1 R1 E1 rj w1 p hp
      have pZ : p ∉ Z := fun q => R1.zh p q hp
      let Inv' : Nat → Hp → Prop := fun i H' => ∃ φ' S' acc vs, Rel X.K X.mg (p :: Z) φ' S' H' ∧ Evo Z φ1 S1 H1 φ' S' H' ∧ H' p = some (.dK vs) ∧ DatK X.K X.mg φ' (gnd (p :: Z) φ' S' H') acc vs ∧
        Want X.K X.mg (RDat X.K X.mg) Z φ1 S1 H1 ((dcF it.chk m ft fk fv acc (it.items.drop i) (wipeD ρ own) S').bind fin) Q (WE W σ)
      refine ⟨fun i n H' => n = it.items.length - i ∧ i ≤ it.items.length ∧ Inv' i H', ⟨_, rfl, Nat.zero_le _, φ1, S1, [], [], R1.hidden hp, ?_, upd_same, by unfold DatK; rfl, w1⟩, ?_⟩
      · exact (Evo.refl (Z := Z) (φ := φ1) (S := S1) (H := H1)).hidMut hp
      rintro i n H2 ⟨rfl, hle, φ2, S2, acc, vs, R2, E2, hH2, dv, w2⟩
      have slw : Slots X.K X.mg φ2 (gnd (p :: Z) φ2 S2 H2) (wipeD ρ own) (wipe σ own) := by
        refine slots_wipe ⟨sl.1, fun j d q => ?_⟩ own
        obtain ⟨u, h1, h2⟩ := sl.2 j d q
        exact ⟨u, h1, Dat.mono (E1.pre.trans E2.pre) (E1.ext.trans (E2.hideExt hp)) _ _ h2⟩
      by_cases hlt : i < it.items.length
      · obtain ⟨d, hd⟩ : ∃ d, it.items[i]? = some d := ⟨_, List.getElem?_eq_getElem hlt⟩
        have hdr : it.items.drop i = d :: it.items.drop (i + 1) := by
          rw [List.drop_eq_getElem_cons hlt]
          congr 1
          rw [List.getElem?_eq_getElem hlt] at hd
          exact Option.some.inj hd
        rw [hdr] at w2
        unfold dcF at w2
        by_cases hc : okC it.chk S2
        · rw [if_pos hc] at w2
          have rr := (rj i (p :: Z) φ2 S2 H2 (fun _ h => List.mem_cons_of_mem _ h) R2 E2.pre (E2.hideExt hp) hc).1 d hd
          refine .inr ⟨rr.1, Inv' (i + 1), fun H' hN => ⟨_, by omega, rfl, hlt, hN⟩, fun x H3 y => ?_⟩
          obtain ⟨R3, E3, d3⟩ := rr.2 x H3 y
          cases hm : m d (wipeD ρ own) S2 with
          | none => rw [hm] at w2; exact w2.elim
          | some ρ3 =>
            simp only [hm] at w2
            refine ⟨p :: Z, φ2, S2, wipeD ρ own, d, ρ3, R3, slw.evo E3, d3, hm, fun σ3 sl3 hw => ⟨?_, p :: Z, φ2, S2, ρ3, R3, sl3, ?_⟩⟩
            · rw [hw own hio]
              exact wipe_own σ own
            have ev2 : Evo Z φ1 S1 H1 φ2 S2 H3 := E2.hide hp E3
            have stuckT : (ft ρ3 S2).noEx ≠ .stuck := fun z => by
              rw [z] at w2
              exact w2
            refine Want.noEx stuckT fun b S4 b' φ4 H4 hb R4 E4 eb => ?_
            cases eb
            rw [hb] at w2
            simp only [Res.noEx_ok, Res.bind_ok] at w2
            have ev4 := ev2.hide hp E4
            have hp3 : H3 p = some (.dK vs) := E3.out p _ hH2 fun q => R2.zd p (liveA_sub q) List.mem_cons_self
            have hp4 : H4 p = some (.dK vs) := E4.out p _ hp3 fun q => R3.zd p (liveA_sub q) List.mem_cons_self
            have dv4 := DatK.mono (E3.pre.trans E4.pre) (E3.ext.trans E4.ext) _ _ dv
            cases b with
            | false =>
              exact iteF ⟨φ4, S4, acc, vs, R4, ev4, hp4, dv4, w2⟩
            | true =>
              simp only [if_true] at w2
              refine iteT ⟨p :: Z, φ4, S4, ρ3, R4, sl3.evo E4, ?_⟩
              have stuckE : (fk ρ3 S4).noEx ≠ .stuck := fun z => by
                rw [z] at w2
                exact w2
              refine Want.noEx stuckE fun yd S5 yv φ5 H5 hy R5 E5 dy => ?_
              rw [hy] at w2
              simp only [Res.noEx_ok, Res.bind_ok] at w2
              have ev5 := ev4.hide hp E5
              have hp5 : H5 p = some (.dK vs) := E5.out p _ hp4 fun q => R4.zd p (liveA_sub q) List.mem_cons_self
              have dv5 := DatK.mono E5.pre E5.ext _ _ dv4
              refine ⟨p :: Z, φ5, S5, ρ3, R5, (sl3.evo E4).evo E5, ?_⟩
              have stuckV : (fv ρ3 S5).noEx ≠ .stuck := fun z => by
                rw [z] at w2
                exact w2
              refine Want.noEx stuckV fun zd S6 zv φ6 H6 hz R6 E6 dz => ?_
              rw [hz] at w2
              simp only [Res.noEx_ok, Res.bind_ok] at w2
              have hp6 : H6 p = some (.dK vs) := E6.out p _ hp5 fun q => R5.zd p (liveA_sub q) List.mem_cons_self
              have dv6 := DatK.mono E6.pre E6.ext _ _ dv5
              cases hj : keyD yd with
              | none => rw [hj] at w2; exact w2.elim
              | some j =>
                simp only [hj] at w2
                by_cases hl : acc.length < sizeLine
                · rw [if_pos hl] at w2
                  obtain ⟨R7, eg⟩ := R6.hidMut (o := .dK (putK vs j zv))
                  exact ⟨vs, j, keyD_ok dy hj, hp6, by rw [datK_length dv6]; exact hl, φ6, S6, putKD acc j zd, putK vs j zv, R7, (ev5.hide hp E6).hidMut hp, upd_same, by rw [eg]; exact datK_put dz dv6, w2⟩
                · rw [if_neg hl] at w2
                  exact w2.elim
        · rw [if_neg hc] at w2
          exact w2.elim
      · have e : i = it.items.length := by omega
        subst e
        rw [List.drop_length] at w2
        unfold dcF at w2
        by_cases hc : okC it.chk S2
        · rw [if_pos hc] at w2
          simp only [Res.bind_ok] at w2
          exact .inl ⟨(rj _ (p :: Z) φ2 S2 H2 (fun _ h => List.mem_cons_of_mem _ h) R2 E2.pre (E2.hideExt hp) hc).2 (Nat.le_refl _), hf X.K X.mg Z φ1 φ2 S1 S2 H1 H2 p acc vs Q _ R2 E2 hp pZ hH2 dv w2⟩
        · rw [if_neg hc] at w2
          exact w2.elim
    unfold fDComp at w
    cases hr : fi ρ S with
    | ok it S1 =>
      rw [hr] at w
      exact fun J φ1 H1 R1 E1 rj => aux it S1 J φ1 H1 R1 E1 rj (w.go E1)
    | ex C fs S1 => rw [hr] at w; exact w
    | stuck => rw [hr] at w; exact w
  exact ⟨Z, φ, S, ρ, R, sl, wi⟩
theorem de_dcB (C : Cn X W k) {fin : FinK} (hf : FinKOk fin) {kx vx tg iter : Expr} {ifs : List Expr} {scope : Scope} {own : List (Str × Nat)} {pos : Pos} {fi : FI} {is : List Nat} {m : FG} {ft : FT} {fk fv : FE} (hi : DI X W tg iter fi) (ok : BlkOk X.N X.env.scope scope own)
    (hg : ∀ (s : Shared) (H : Hp) (Ca : Addr) (cl : List (Str × Addr)) (fp : List Addr), Cn (X.blk s H scope (compEnvC scope cl Ca X.env) fp) W0 k → DG (X.blk s H scope (compEnvC scope cl Ca X.env) fp) tg is m)
    (ht : ∀ (s : Shared) (H : Hp) (Ca : Addr) (cl : List (Str × Addr)) (fp : List Addr), Cn (X.blk s H scope (compEnvC scope cl Ca X.env) fp) W0 k → DTs (X.blk s H scope (compEnvC scope cl Ca X.env) fp) W0 ifs ft)
    (hk : ∀ (s : Shared) (H : Hp) (Ca : Addr) (cl : List (Str × Addr)) (fp : List Addr), Cn (X.blk s H scope (compEnvC scope cl Ca X.env) fp) W0 k → DE (X.blk s H scope (compEnvC scope cl Ca X.env) fp) W0 kx fk)
    (he : ∀ (s : Shared) (H : Hp) (Ca : Addr) (cl : List (Str × Addr)) (fp : List Addr), Cn (X.blk s H scope (compEnvC scope cl Ca X.env) fp) W0 k → DE (X.blk s H scope (compEnvC scope cl Ca X.env) fp) W0 vx fv)
    (hio : ∀ i ∈ is, i ∈ own.map (·.2) := by decide) (hs : ∀ x, foldedSetIterable iter X.env x = pure x := by intro _; rfl) :
    DE X W (.DictComp kx vx [⟨tg, iter, ifs, 0⟩] scope pos) (fDComp fi m ft fk fv (own.map (·.2)) fin) :=
  .mk (pe_dc (g := tG X.K X.mg is m) (tt := tDT X.K X.mg W0 ft) (tk := tD X.K X.mg W0 fk) (tv := tD X.K X.mg W0 fv) C.calm C.nd hi ok (fun s H Ca cl fp => hg s H Ca cl fp C.blk) (fun s H Ca cl fp => ht s H Ca cl fp C.blk) (fun s H Ca cl fp => hk s H Ca cl fp C.blk) (fun s H Ca cl fp => he s H Ca cl fp C.blk) hs) (isE_dc hf hio)
end
end DL

/-! The data layer, part 17: list.index, name op= e. -/
namespace DL
open PySem PySem.Spec PyProof.Rows L2
section
variable {X : Cx} {W : WX} {k : Nat} {o e : Expr} {fo fe : FE} {pos apos cpos : Pos}
/-- xs.index(x): the first place of an equal one -/
def gIndex : GM := fun x ds S => match ds with
  | [y] => (match pyOf S x, pyOf S y with
    | some (.list es), some d => if SeqAt.shaped (.list es) && SeqAt.shaped d then (match es.findIdx? (fun z => PyData.eqv z d) with
      | some j => .ok (.int (j : Nat)) S
      | none => .stuck) else .stuck
    | _, _ => .stuck)
  | _ => .stuck
theorem Cn.u65 (C : Cn X W k) : X.A.units + 65 < cLine := by have := C.room.un; omega
theorem dp_ref {K : PySem.W.Frag} {H : Hp} {v : V} {es : List PyData} (h : Dp K H v (.list es)) : ∃ a, v = .ref a := by
  cases h with
  | lst _ _ => exact ⟨_, rfl⟩
theorem md_index : MethD X (rIndexD X.K) gIndex := fun Z φ S H x u ds vs Q E R dx d w => by
  unfold gIndex at w
  split at w
  · rename_i y
    obtain ⟨v, rfl, h1⟩ := datL1 d
    split at w
    · rename_i es q e1 e2
      obtain ⟨h, w1⟩ := want_if w
      rw [Bool.and_eq_true] at h
      have p1 := pyOf_ok R dx e1
      have p2 := pyOf_ok R h1 e2
      obtain ⟨a, rfl⟩ := dp_ref p1
      split at w1
      · rename_i j hj
        obtain ⟨hl, hp, hno⟩ := List.findIdx?_eq_some_iff_getElem.mp hj
        refine ⟨a, v, q, es, j, es[j], rfl, rfl, p1, p2, h.1, h.2, List.getElem?_eq_getElem hl, hp, fun m z' hm hz => ?_, w1.now R (dat_int _)⟩
        obtain ⟨hml, e⟩ := List.getElem?_eq_some_iff.mp hz
        have := hno m hm
        rw [e] at this
        simpa using this
      · exact w1.elim
    · exact w.elim
  · exact w.elim
theorem de_index (C : Cn X W k) {fa : FA} (ho : DE X W o fo) (ha : DA X W [e] fa) (hbase : attributeBase o "index" X.env (eval o X.env) = eval o X.env := by rfl)
    (hfew : ((backTo cpos (starEach [e] X.env)).all (fun x => !x.1) && (backToKw cpos (keywordEach [] X.env)).all (fun x => x.1.isSome) && decide ([e].length + ([] : List Keyword).length + (if ([] : List Keyword).isEmpty then 0 else 1) < 30)) = true := by rfl)
    (hline : (apos.endLine == cpos.line) = true := by rfl) (hs : starEach [e] X.env = (false, eval e X.env) :: starEach [] X.env := by rfl) (hplain : (backTo cpos (starEach [] X.env)).any (·.1) = false := by rfl) :
    DE X W (.Call (.Attribute o "index" apos) [e] [] cpos) (fBM "list" gIndex fo fa) := de_bm PySem.F.plainAttrs_list PySem.F.slot_list_index PySem.F.type_list_index (mt_indexD C.u65) md_index (.inl rfl) ho ha hbase hfew hline hs hplain

/-! ### name op= e -/
def IpD (X : Cx) (t : TIp) (g : G2) : Prop := ∀ (Z φ : List Addr) (S : Store) (H : Hp) (x y : D) (u v : V) (Q : VK) (E : XK), Rel X.K X.mg Z φ S H → Dat X.K X.mg φ (gnd Z φ S H) x u → Dat X.K X.mg φ (gnd Z φ S H) y v →
  Want X.K X.mg (RDat X.K X.mg) Z φ S H (g x y S) Q E → t u v H Q
def gIp (f : Int → Int → Int) : G2 := fun x y S => match x, y with
  | .int i, .int j => .ok (.int (f i j)) S
  | _, _ => .stuck
theorem ipd_int (f : Int → Int → Int) : IpD X (ipI f) (gIp f) := fun Z φ S H x y u v Q E R dx dy w => by
  unfold gIp at w
  split at w
  · cases dInt dx
    cases dInt dy
    exact ⟨_, _, rfl, rfl, w.now R (dat_int _)⟩
  · exact w.elim
def gAug (i : Nat) (fe : FE) (g : G2) : FS := fun ρ S => match ρ[i]? with
  | some (some x) => (fe ρ S).into ρ fun y S => (g x y S).into ρ fun z S => .nx (ρ.set i (some z)) S
  | _ => .stuck
theorem ds_aug (C : Cn X W k) {i : Nat} {x : Str} {op : Operator} {t : TIp} {g : G2} {pos' : Pos} (hi : X.N[i]? = some x) (hx : Loc X.env.scope x) (ho : PIp X op t) (hg : IpD X t g) (he : DE X W e fe)
    (hf : X.fn x = true ∨ X.env.scope.names.lookup x = some .local := by first | exact .inl rfl | exact .inr rfl) : DS X W (.AugAssign (.Name x pos') op e pos) (gAug i fe g) := by
  obtain ⟨te, pe, qe⟩ := he.ex
  refine .mk (ps_aug C.nd hi hx pe ho hf) fun Z φ S ρ σ H Dd R sl w => ?_
  unfold gAug at w
  split at w
  · rename_i d hd
    obtain ⟨v, h1, h2⟩ := sl.2 i d hd
    refine ⟨v, h1, qe Z φ S ρ σ H _ R sl (w.into sl fun y S1 u φ1 H1 R1 E1 dy w1 => ?_)⟩
    exact hg Z φ1 S1 H1 d y v u _ _ R1 (Dat.evo E1 h2) dy (w1.into (sl.evo E1) fun z S2 zv φ2 H2 R2 E2 dz w2 => w2 _ φ2 H2 R2 Evo.refl (((sl.evo E1).evo E2).set dz))
  · exact w.elim
end
end DL

/-! The data layer, part 18: own classes as values, isinstance with them, == by an own __eq__, a head with more facts. -/
namespace DL
open PySem PySem.Spec PyProof.Rows L2
/-- what isinstance(x, C) asks of the text's own class C -/
structure IsiC (K : PySem.W.Frag) (C : Addr) : Prop where
  ha : PySem.W.findIn K (.ref C) "__class__" = some (some (.builtin "object.__class__"))
  hn : PySem.W.specialIn K (.builtin "object.__class__") "__get__" = some (some (.builtin "getset_descriptor.__get__"))
  htk : PySem.W.takesIn K (.builtin "object.__class__") = some true
  hm : PySem.W.mroIn K C (.type "object") = some true
def isiB (K : PySem.W.Frag) (c : Str) : Bool := He.eqO (PySem.W.findIn K (.ref (He.ga K c)) "__class__") (some (some (.builtin "object.__class__"))) &&
  (He.eqO (PySem.W.specialIn K (.builtin "object.__class__") "__get__") (some (some (.builtin "getset_descriptor.__get__"))) && (decide (PySem.W.takesIn K (.builtin "object.__class__") = some true) && decide (PySem.W.mroIn K (He.ga K c) (.type "object") = some true)))
theorem isiB_ok {K : PySem.W.Frag} {c : Str} (h : isiB K c = true) : IsiC K (He.ga K c) := by
  obtain ⟨h1, h⟩ := He.ba h
  obtain ⟨h2, h⟩ := He.ba h
  obtain ⟨h3, h4⟩ := He.ba h
  exact ⟨He.eqO_ok h1, He.eqO_ok h2, of_decide_eq_true h3, of_decide_eq_true h4⟩
section
variable {X : Cx} {W : WX} {k : Nat} {e b : Expr} {pos p : Pos}
/-- an own class as a value -/
theorem de_own {x : Str} {C : Addr} (hg : Gl X x) (hm : X.mg x = some (.ref C)) (hd : (x == ("__debug__" : Str)) = false := by decide) : DE X W (.Name x pos) (fC (.cls x)) :=
  de_c (pe_glob (v := .ref C) hg hm rfl hd) rfl fun _ _ => by unfold Dat; exact ⟨C, rfl, hm⟩
/-- isinstance(x, C) of an instance of C -/
def gIsiC (c : Str) : GC := fun ds S => match ds with
  | [x, .cls c'] => (match asI S x with
    | some (c'', _) => if c'' = c ∧ c' = c then .ok (.bl true) S else .stuck
    | none => .stuck)
  | _ => .stuck
theorem cd_isiC {c : Str} {C : Addr} (cl : ClsI X c C) (i : IsiC X.K C) : CallD X (rIsi X.K) (gIsiC c) := fun Z φ S H ds vs Q E R d w => by
  unfold gIsiC at w
  split at w
  · obtain ⟨v, u, rfl, h1, h2⟩ := datL2 d
    split at w
    · rename_i hi
      obtain ⟨⟨rfl, rfl⟩, w1⟩ := want_if w
      obtain ⟨a, A, dx, fvs, rfl, q0, q1, q2⟩ := asI_ok R h1 hi
      rw [cl.mg] at q0
      cases q0
      unfold Dat at h2
      obtain ⟨A, rfl, q3⟩ := h2
      rw [cl.mg] at q3
      cases q3
      exact ⟨.ref a, .ref C, .ref C, .ref C, true, rfl, .own C, .base (.ins q1 cl.cls i.ha i.hn i.htk i.hm), by unfold PySem.W.kitOne; simp, w1.now R (dat_bl _)⟩
    · exact w.elim
  · exact w.elim
theorem de_isiC {fa : FA} {c : Str} {C : Addr} (hg : Gl X "isinstance") (hm : X.mg "isinstance" = none) (cl : ClsI X c C) (i : IsiC X.K C) (ha : DA X W [e, b] fa) (he : starEach [e, b] X.env = (false, eval e X.env) :: starEach [b] X.env := by rfl) (hpl : (backTo pos (starEach [b] X.env)).any (·.1) = false := by rfl) :
    DE X W (.Call (.Name "isinstance" p) [e, b] [] pos) (fCB (gIsiC c) fa) := de_callB call_isi (cd_isiC cl i) hg hm (by rfl) ha (by decide) (by decide) he hpl

/-! ### == by an own __eq__ that answers True -/
def rOwn (X : Cx) (sem : Sem') (C : Addr) : R2 := fun x y H Q => ∃ a b dx dy fs gs ds S1, x = .ref a ∧ y = .ref b ∧ H a = some (.ins C dx fs) ∧ H b = some (.ins C dy gs) ∧ DatL X.K X.mg [] H ds [x, y] ∧ sem ds [] = .ok (.bl true) S1 ∧ ∀ H', Ext H H' → Q (.bl true) H'
theorem op_own {n : Nat} {C f : Addr} {fd : FuncData} {ps : List Str} {sem : Sem'} (Cc : Cn X W k) (hm : Meth X.K C "__eq__" f) (F : FnG X.prog X.w X.K X.mg X.base n f fd ps (spD X.K X.mg ps.length sem)) (hps : ps.length = 2) (hb : Binds X.K fd ps []) (hle : n ≤ k := by decide) :
    OpR X (compareOp .Eq) (rOwn X sem C) := by
  intro pins s σ H x y v u Q I rx ry h
  obtain ⟨a, b, dx, dy, fs, gs, ds, S1, rfl, rfl, ha, hb', hd, hs, q⟩ := h
  cases rx
  cases ry
  obtain ⟨mA, J, _⟩ := ins_get I.hok ha
  obtain ⟨mB, J', _⟩ := ins_get I.hok hb'
  obtain ⟨od, J, _⟩ := J.look
  obtain ⟨od', J', _⟩ := J'.look
  obtain ⟨m, hF⟩ := I.fr
  show wpAny (model X.prog X.w) X.A (richCompare .Eq (.ref a) (.ref b)) (EP X pins σ Q) X.xe s
  refine PySem.W.cmp_K (op := .Eq) (tb := .ref C) Cc.room.units0 hF I.ok.mod.kin J J'.type (by simp [PySem.W.notFirst]) hm.at_ hm.fn ?_
  have hsp : spD X.K X.mg ps.length sem [.ref a, .ref b] H (fun v H' => v = .bl true ∧ Ext H H') (WE W σ) := by
    refine ⟨by rw [hps]; rfl, [], [], [], ds, rel_nil, by rw [gnd_nil]; exact hd, ?_⟩
    rw [hs]
    intro v φ1 H1 R1 E1 dv
    unfold RDat Dat at dv
    exact ⟨dv, fun c o e => E1.out c o e fun h => nomatch h⟩
  have r2 : Vals [V.ref a, V.ref b] [Value.ref a, Value.ref b] := .cons rfl (.cons rfl .nil)
  have hB := hb s [.ref a, .ref b] I.kIn (by simp [hps])
  have t := run_fnG (us := [.ref a, .ref b]) (ws := []) (ks := []) (bs := [.ref a, .ref b]) F Cc hle I (by simpa using hB) r2 hsp
  refine wpAny_mono t (fun r s' z => ?_) fun _ _ x => x
  obtain ⟨zv, H', I', rz, ez, ex⟩ := z
  subst ez
  obtain rfl : r = Value.bool true := rz
  exact ⟨.bl true, H', I', rfl, q H' ex⟩
/-- the mirror: both pure instances of c, the answer True -/
def gOwn (c : Str) (sem : Sem') : G2 := fun x y S => match x, y with
  | .ins c1 fs, .ins c2 gs => if c1 = c ∧ c2 = c ∧ (D.ins c1 fs).pure = true ∧ (D.ins c2 gs).pure = true then (match sem [.ins c1 fs, .ins c2 gs] [] with
    | .ok (.bl true) _ => .ok (.bl true) S
    | _ => .stuck) else .stuck
  | _, _ => .stuck
theorem opd_own {c : Str} {C : Addr} {sem : Sem'} (cl : ClsI X c C) : OpD X (rOwn X sem C) (gOwn c sem) := fun Z φ S H x y u v Q E R dx dy w => by
  unfold gOwn at w
  split at w
  · rename_i c1 fs c2 gs
    obtain ⟨⟨rfl, rfl, p1, p2⟩, w1⟩ := want_if w
    split at w1
    · rename_i S1 hs
      have d1 : Dat X.K X.mg [] H (.ins c2 fs) u := Dat.pure p1 (Dat.mono (List.prefix_refl _) gnd_sub _ _ dx)
      have d2 : Dat X.K X.mg [] H (.ins c2 gs) v := Dat.pure p2 (Dat.mono (List.prefix_refl _) gnd_sub _ _ dy)
      obtain ⟨a, A, ex, fvs, rfl, q0, q1, _⟩ := asI_ok R dx rfl
      obtain ⟨b, B, ey, gvs, rfl, r0, r1, _⟩ := asI_ok R dy rfl
      rw [cl.mg] at q0 r0
      cases q0
      cases r0
      refine ⟨a, b, ex, ey, fvs, gvs, _, S1, rfl, rfl, q1, r1, .cons d1 (.cons d2 DatL.nil), hs, fun H' e => ?_⟩
      obtain ⟨r1, e1⟩ := R.same e
      exact w1 _ φ H' r1 e1 (dat_bl _)
    · exact w1.elim
  · exact w.elim
end
/-! ### a head with more facts -/
def obsO (n : Nat) (fa : List He.Fa) (fn : List He.DefD) (ex : PySem.W.Frag → Bool) (g : Addr → Option Obj) : He.AlD × Bool := (He.obsDG n fa fn g, ex (He.frG g (He.asD g n)))
def hookO (n : Nat) (fa : List He.Fa) (fn : List He.DefD) (ex : PySem.W.Frag → Bool) : PySem.W.Hook where
  α := He.AlD × Bool
  obs := fun s => obsO n fa fn ex s.heap.get?
  val := fun _ => (He.valD fn, true)
  says := fun _ h => ∃ K : PySem.W.Frag, K.In h ∧ He.SaysD fa fn K ∧ ex K = true
  of := fun _ _ e => ⟨_, He.frG_in, congrArg Prod.fst e, congrArg Prod.snd e⟩
  keeps := fun _ _ _ ⟨K, hK, c⟩ k => ⟨K, PySem.W.Frag.In.keeps hK k, c⟩
theorem obsO_eq {n : Nat} {fa : List He.Fa} {fn : List He.DefD} {ex : PySem.W.Frag → Bool} {g : Addr → Option Obj} {s : Shared} (h : ∀ a, g a = s.heap.get? a) : obsO n fa fn ex g = (hookO n fa fn ex).obs s := by
  have e : g = s.heap.get? := funext h
  rw [e] <;> rfl
end DL

/-! The data layer, part 19: freezing to the bottom. -/
namespace DL
open PySem PySem.Spec PyProof.Rows L2
def frzL (f : D → Store → Option (D × Store)) : List D → Store → Option (List D × Store)
  | [], S => some ([], S)
  | d :: ds, S => match f d S with
    | some (e, S1) => (match frzL f ds S1 with
      | some (es, S2) => some (e :: es, S2)
      | none => none)
    | none => none
def frzF {α : Type} (f : D → Store → Option (D × Store)) : List (α × D) → Store → Option (List (α × D) × Store)
  | [], S => some ([], S)
  | (x, d) :: ds, S => match f d S with
    | some (e, S1) => (match frzF f ds S1 with
      | some (es, S2) => some ((x, e) :: es, S2)
      | none => none)
    | none => none
def frzD : Nat → D → Store → Option (D × Store)
  | 0, _, _ => none
  | k + 1, d, S => match d with
    | .tup ds => (frzL (frzD k) ds S).map fun q => (.tup q.1, q.2)
    | .lst ds => (frzL (frzD k) ds S).map fun q => (.lst q.1, q.2)
    | .dic ks => (frzF (frzD k) ks S).map fun q => (.dic q.1, q.2)
    | .ins C fs => (frzF (frzD k) fs S).map fun q => (.ins C q.1, q.2)
    | .oid n => (match S[n]? with
      | some (.lst ds) => (frzL (frzD k) ds S).map fun q => (.lst q.1, q.2.set n (.frz (.lst q.1)))
      | some (.dic ks) => (frzF (frzD k) ks S).map fun q => (.dic q.1, q.2.set n (.frz (.dic q.1)))
      | some (.ins C fs) => (frzF (frzD k) fs S).map fun q => (.ins C q.1, q.2.set n (.frz (.ins C q.1)))
      | some (.frz d) => frzD k d S
      | some (.tbl _ _) => none
      | none => none)
    | d => some (d, S)
section
variable {K : PySem.W.Frag} {mg : Str → Option Value} {Z φ : List Addr} {H : Hp}
/-- a freezing that is right -/
def FrzOk (K : PySem.W.Frag) (mg : Str → Option Value) (Z φ : List Addr) (H : Hp) (f : D → Store → Option (D × Store)) : Prop := ∀ (d e : D) (S S' : Store) (v : V), f d S = some (e, S') → Rel K mg Z φ S H → Dat K mg φ (gnd Z φ S H) d v →
  Rel K mg Z φ S' H ∧ Evo Z φ S H φ S' H ∧ Dat K mg φ (gnd Z φ S' H) e v
theorem frzL_ok {f : D → Store → Option (D × Store)} (hf : FrzOk K mg Z φ H f) : ∀ (ds es : List D) (S S' : Store) (vs : List V), frzL f ds S = some (es, S') → Rel K mg Z φ S H → DatL K mg φ (gnd Z φ S H) ds vs →
    Rel K mg Z φ S' H ∧ Evo Z φ S H φ S' H ∧ DatL K mg φ (gnd Z φ S' H) es vs
  | [], es, S, S', vs, h, R, d => by
    cases h
    exact ⟨R, Evo.refl, d⟩
  | d :: ds, es, S, S', vs, h, R, q => by
    obtain ⟨v, r, rfl, q1, q2⟩ := q.uncons
    unfold frzL at h
    cases h1 : f d S with
    | none => rw [h1] at h; cases h
    | some p =>
      obtain ⟨e, S1⟩ := p
      rw [h1] at h
      obtain ⟨R1, E1, d1⟩ := hf _ _ _ _ _ h1 R q1
      cases h2 : frzL f ds S1 with
      | none => simp only [h2] at h; cases h
      | some p =>
        obtain ⟨es', S2⟩ := p
        simp only [h2] at h
        cases h
        obtain ⟨R2, E2, d2⟩ := frzL_ok hf _ _ _ _ _ h2 R1 (DatL.evo E1 q2)
        exact ⟨R2, E1.trans E2, .cons (Dat.evo E2 d1) d2⟩
theorem frzF_okK {f : D → Store → Option (D × Store)} (hf : FrzOk K mg Z φ H f) : ∀ (ds es : List (Key × D)) (S S' : Store) (vs : List (Key × V)), frzF f ds S = some (es, S') → Rel K mg Z φ S H → DatK K mg φ (gnd Z φ S H) ds vs →
    Rel K mg Z φ S' H ∧ Evo Z φ S H φ S' H ∧ DatK K mg φ (gnd Z φ S' H) es vs
  | [], es, S, S', vs, h, R, d => by
    cases h
    exact ⟨R, Evo.refl, d⟩
  | (x, d) :: ds, es, S, S', vs, h, R, q => by
    unfold DatK at q
    obtain ⟨v, r, rfl, q1, q2⟩ := q
    unfold frzF at h
    cases h1 : f d S with
    | none => rw [h1] at h; cases h
    | some p =>
      obtain ⟨e, S1⟩ := p
      rw [h1] at h
      obtain ⟨R1, E1, d1⟩ := hf _ _ _ _ _ h1 R q1
      cases h2 : frzF f ds S1 with
      | none => simp only [h2] at h; cases h
      | some p =>
        obtain ⟨es', S2⟩ := p
        simp only [h2] at h
        cases h
        obtain ⟨R2, E2, d2⟩ := frzF_okK hf _ _ _ _ _ h2 R1 (DatK.mono E1.pre E1.ext _ _ q2)
        refine ⟨R2, E1.trans E2, ?_⟩
        unfold DatK
        exact ⟨v, r, rfl, Dat.evo E2 d1, d2⟩
theorem frzF_okF {f : D → Store → Option (D × Store)} (hf : FrzOk K mg Z φ H f) : ∀ (ds es : List (Str × D)) (S S' : Store) (vs : List (Str × V)), frzF f ds S = some (es, S') → Rel K mg Z φ S H → DatF K mg φ (gnd Z φ S H) ds vs →
    Rel K mg Z φ S' H ∧ Evo Z φ S H φ S' H ∧ DatF K mg φ (gnd Z φ S' H) es vs
  | [], es, S, S', vs, h, R, d => by
    cases h
    exact ⟨R, Evo.refl, d⟩
  | (x, d) :: ds, es, S, S', vs, h, R, q => by
    unfold DatF at q
    obtain ⟨v, r, rfl, q1, q2⟩ := q
    unfold frzF at h
    cases h1 : f d S with
    | none => rw [h1] at h; cases h
    | some p =>
      obtain ⟨e, S1⟩ := p
      rw [h1] at h
      obtain ⟨R1, E1, d1⟩ := hf _ _ _ _ _ h1 R q1
      cases h2 : frzF f ds S1 with
      | none => simp only [h2] at h; cases h
      | some p =>
        obtain ⟨es', S2⟩ := p
        simp only [h2] at h
        cases h
        obtain ⟨R2, E2, d2⟩ := frzF_okF hf _ _ _ _ _ h2 R1 (DatF.mono E1.pre E1.ext _ _ q2)
        refine ⟨R2, E1.trans E2, ?_⟩
        unfold DatF
        exact ⟨v, r, rfl, Dat.evo E2 d1, d2⟩
theorem map_some' {α β : Type} {o : Option α} {f : α → β} {b : β} (h : o.map f = some b) : ∃ a, o = some a ∧ f a = b := by
  cases o with
  | none => cases h
  | some a => exact ⟨a, rfl, Option.some.inj h⟩
theorem frzD_ok : ∀ k : Nat, FrzOk K mg Z φ H (frzD k)
  | 0 => fun d e S S' v h => by cases h
  | k + 1 => fun d e S S' v h R q => by
    have ih := frzD_ok k
    unfold frzD at h
    cases d with
    | tup ds =>
      obtain ⟨⟨es, S1⟩, h1, h2⟩ := map_some' h
      cases h2
      have q0 := q
      unfold Dat at q
      obtain ⟨a, vs, rfl, p1, p2⟩ := q
      obtain ⟨R1, E1, d1⟩ := frzL_ok ih _ _ _ _ _ h1 R p2
      refine ⟨R1, E1, ?_⟩
      unfold Dat
      exact ⟨a, vs, rfl, sqt_mono E1.ext p1, d1⟩
    | lst ds =>
      obtain ⟨⟨es, S1⟩, h1, h2⟩ := map_some' h
      cases h2
      unfold Dat at q
      obtain ⟨a, vs, rfl, p1, p2⟩ := q
      obtain ⟨R1, E1, d1⟩ := frzL_ok ih _ _ _ _ _ h1 R p2
      refine ⟨R1, E1, ?_⟩
      unfold Dat
      exact ⟨a, vs, rfl, E1.ext _ _ p1, d1⟩
    | dic ds =>
      obtain ⟨⟨es, S1⟩, h1, h2⟩ := map_some' h
      cases h2
      unfold Dat at q
      obtain ⟨a, vs, rfl, p1, p2⟩ := q
      obtain ⟨R1, E1, d1⟩ := frzF_okK ih _ _ _ _ _ h1 R p2
      refine ⟨R1, E1, ?_⟩
      unfold Dat
      exact ⟨a, vs, rfl, E1.ext _ _ p1, d1⟩
    | ins C ds =>
      obtain ⟨⟨es, S1⟩, h1, h2⟩ := map_some' h
      cases h2
      unfold Dat at q
      obtain ⟨a, A, dx, vs, rfl, p0, p1, p2⟩ := q
      obtain ⟨R1, E1, d1⟩ := frzF_okF ih _ _ _ _ _ h1 R p2
      refine ⟨R1, E1, ?_⟩
      unfold Dat
      exact ⟨a, A, dx, vs, rfl, p0, E1.ext _ _ p1, d1⟩
    | oid n =>
      unfold Dat at q
      obtain ⟨a, rfl, ha⟩ := q
      simp only at h
      cases hS : S[n]? with
      | none => rw [hS] at h; cases h
      | some so =>
        rw [hS] at h
        have ok := R.ob n a so ha hS
        cases so with
        | lst ds =>
          obtain ⟨⟨es, S1⟩, h1, h2⟩ := map_some' h
          cases h2
          obtain ⟨vs, p1, p2⟩ := ok
          obtain ⟨R1, E1, d1⟩ := frzL_ok ih _ _ _ _ _ h1 R p2
          have dn : Dat K mg φ (gnd Z φ (S1.set n (.frz (.lst es))) H) (.lst es) (.ref a) := by
            unfold Dat
            exact ⟨a, vs, rfl, gnd_frz R1 ha p1, DatL.mono (List.prefix_refl _) evo_frz _ _ d1⟩
          obtain ⟨R2, E2⟩ := R1.freeze ha dn
          exact ⟨R2, E1.trans E2, dn⟩
        | dic ds =>
          obtain ⟨⟨es, S1⟩, h1, h2⟩ := map_some' h
          cases h2
          obtain ⟨vs, p1, p2⟩ := ok
          obtain ⟨R1, E1, d1⟩ := frzF_okK ih _ _ _ _ _ h1 R p2
          have dn : Dat K mg φ (gnd Z φ (S1.set n (.frz (.dic es))) H) (.dic es) (.ref a) := by
            unfold Dat
            exact ⟨a, vs, rfl, gnd_frz R1 ha p1, DatK.mono (List.prefix_refl _) evo_frz _ _ d1⟩
          obtain ⟨R2, E2⟩ := R1.freeze ha dn
          exact ⟨R2, E1.trans E2, dn⟩
        | ins C ds =>
          obtain ⟨⟨es, S1⟩, h1, h2⟩ := map_some' h
          cases h2
          obtain ⟨A, dx, vs, p0, p1, p2⟩ := ok
          obtain ⟨R1, E1, d1⟩ := frzF_okF ih _ _ _ _ _ h1 R p2
          have dn : Dat K mg φ (gnd Z φ (S1.set n (.frz (.ins C es))) H) (.ins C es) (.ref a) := by
            unfold Dat
            exact ⟨a, A, dx, vs, rfl, p0, gnd_frz R1 ha p1, DatF.mono (List.prefix_refl _) evo_frz _ _ d1⟩
          obtain ⟨R2, E2⟩ := R1.freeze ha dn
          exact ⟨R2, E1.trans E2, dn⟩
        | frz d => exact ih _ _ _ _ _ h R ok
        | tbl _ _ => cases h
    | non => cases h; exact ⟨R, Evo.refl, q⟩
    | bl _ => cases h; exact ⟨R, Evo.refl, q⟩
    | int _ => cases h; exact ⟨R, Evo.refl, q⟩
    | str _ => cases h; exact ⟨R, Evo.refl, q⟩
    | ty _ => cases h; exact ⟨R, Evo.refl, q⟩
    | cls _ => cases h; exact ⟨R, Evo.refl, q⟩
    | scr _ => cases h; exact ⟨R, Evo.refl, q⟩
    | exc _ _ => cases h; exact ⟨R, Evo.refl, q⟩
end
section
variable {X : Cx} {W : WX} {k : Nat} {e : Expr} {fe : FE}
def fFrzD (n : Nat) (f : FE) : FE := fun ρ S => (f ρ S).bind fun d S => match frzD n d S with
  | some (e, S) => .ok e S
  | none => .stuck
theorem de_frzD (n : Nat) (h : DE X W e fe) : DE X W e (fFrzD n fe) := by
  obtain ⟨t, p, q⟩ := h.ex
  refine .mk p (fun Z φ S ρ σ H Q R sl w => q Z φ S ρ σ H _ R sl (w.bind fun d S1 v φ1 H1 R1 E1 dd w1 => ?_))
  cases hz : frzD n d S1 with
  | none => simp only [hz] at w1; exact w1.elim
  | some p =>
    obtain ⟨e', S2⟩ := p
    simp only [hz] at w1
    obtain ⟨R2, E2, d2⟩ := frzD_ok n _ _ _ _ _ hz R1 dd
    exact w1 _ φ1 H1 R2 E2 d2
end
end DL

/-! The data layer, part 20: name = {k: v for ..}, the name a local that is not captured. -/
namespace DL
open PySem PySem.Spec PyProof.Rows L2
section
variable {X : Cx} {W : WX} {k : Nat}
theorem ps_setDc {i : Nat} {y : Str} {py : Pos} {kx vx tg iter : Expr} {ifs : List Expr} {scope : Scope} {own : List (Str × Nat)} {pos spos : Pos} {wi : TI} {g : TG} {tt : TT} {tk tv : TE} (hc : X.calm = true) (hN : X.N.Nodup) (hy : X.N[i]? = some y) (hyl : X.env.scope.names.lookup y = some .local)
    (hsw : swapsWith (.DictComp kx vx [⟨tg, iter, ifs, 0⟩] scope pos) (some (.Name y py)) spos.line X.env = pure true) (hi : PI X tg iter wi) (ok : BlkOk X.N X.env.scope scope own)
    (hg : ∀ (s : Shared) (H : Hp) (C : Addr) (cl : List (Str × Addr)) (fp : List Addr), PG (X.blk s H scope (compEnvC scope cl C X.env) fp) tg g) (ht : ∀ (s : Shared) (H : Hp) (C : Addr) (cl : List (Str × Addr)) (fp : List Addr), PTs (X.blk s H scope (compEnvC scope cl C X.env) fp) ifs tt)
    (hk : ∀ (s : Shared) (H : Hp) (C : Addr) (cl : List (Str × Addr)) (fp : List Addr), PE (X.blk s H scope (compEnvC scope cl C X.env) fp) kx tk)
    (he : ∀ (s : Shared) (H : Hp) (C : Addr) (cl : List (Str × Addr)) (fp : List Addr), PE (X.blk s H scope (compEnvC scope cl C X.env) fp) vx tv) (hs : ∀ x, foldedSetIterable iter X.env x = pure x := by intro _; rfl) :
    PS X (.Assign [.Name y py] (.DictComp kx vx [⟨tg, iter, ifs, 0⟩] scope pos) spos) (tAsg (tDc wi g tt tk tv (own.map (·.2))) (L2.gName i)) := by
  refine ⟨fun pins s σ H D I h => ?_⟩
  rw [exec_Assign_Name_used _ _ _ _ hsw]
  refine wpAny_bind (wpAny_standAt (wpAny_bind ?_))
  show wpAny _ X.A (do let _ ← comprehension (.DictComp kx vx [⟨tg, iter, ifs, 0⟩] scope pos) scope X.env (firstIterPos [⟨tg, iter, ifs, 0⟩] pos) newDict false (eval iter X.env) (some (assign (.Name y py) X.env))) _ _ s
  have h : tDc wi g tt tk tv (own.map (·.2)) σ H (fun x H1 => L2.gName i x σ H1 D.nx) := h
  refine wpAny_bind (thn (dc_core (Qf := fun _ s' => SP X pins D .next s') hc hN I hi ok hg ht hk he hs h fun L C s' m H' I' q hn f => ?_) fun _ s' hq => wpAny_pure (wpAny_pure hq))
  show wpAny _ _ (assign (.Name y py) X.env (.ref L)) _ _ _
  refine wpAny_assign_Name (store_ok2 (v := V.ref L) I' hN hy (.inl hyl) rfl (fun s2 I2 ⟨a, sb, ha⟩ => ?_) (.inr hyl))
  obtain ⟨f0, f1, f2, f3, f4, f5⟩ := f
  have haC : C ≠ a := by
    rcases ha with z | z
    · rw [z]; exact f1
    · exact fun e => f4 y a z e.symm
  refine ⟨m, hn.sameBut sb haC, fun h3 sb3 => ?_⟩
  exact ⟨_, H', I2.turned (t' := s2.toks) (fun b o hb e => (sb3.2 b hb).trans e) f0 f1 f3 f4 f5, q⟩
theorem sw_trueD {kx vx : Expr} {gs : List Comprehension} {scope : Scope} {pos py : Pos} {y : Str} {l : Nat} {env : Env} (hk : env.scope.kind = .function) (hy : env.scope.names.lookup y = some .local) (hl : (py.line == pos.line) = true)
    (ha : (scope.names.any fun (n, k) => n == y && (k == .local || k == .cell)) = false) : swapsWith (.DictComp kx vx gs scope pos) (some (.Name y py)) l env = pure true := by
  have ky : env.kindOf y = some .local := hy
  have hb : env.blockKind = .function := by unfold Env.blockKind; rw [hk]; rfl
  unfold swapsWith
  simp only [hb, ky, ha, Expr.pos, hl]
  rfl
theorem ds_setDcB (C : Cn X W k) {fin : FinK} (hf : FinKOk fin) {i : Nat} {y : Str} {py spos : Pos} {kx vx tg iter : Expr} {ifs : List Expr} {scope : Scope} {own : List (Str × Nat)} {pos : Pos} {fi : FI} {is : List Nat} {m : FG} {ft : FT} {fk fv : FE} (hy : X.N[i]? = some y) (hyl : X.env.scope.names.lookup y = some .local)
    (hsw : swapsWith (.DictComp kx vx [⟨tg, iter, ifs, 0⟩] scope pos) (some (.Name y py)) spos.line X.env = pure true) (hi : DI X W tg iter fi) (ok : BlkOk X.N X.env.scope scope own)
    (hg : ∀ (s : Shared) (H : Hp) (Ca : Addr) (cl : List (Str × Addr)) (fp : List Addr), Cn (X.blk s H scope (compEnvC scope cl Ca X.env) fp) W0 k → DG (X.blk s H scope (compEnvC scope cl Ca X.env) fp) tg is m)
    (ht : ∀ (s : Shared) (H : Hp) (Ca : Addr) (cl : List (Str × Addr)) (fp : List Addr), Cn (X.blk s H scope (compEnvC scope cl Ca X.env) fp) W0 k → DTs (X.blk s H scope (compEnvC scope cl Ca X.env) fp) W0 ifs ft)
    (hk : ∀ (s : Shared) (H : Hp) (Ca : Addr) (cl : List (Str × Addr)) (fp : List Addr), Cn (X.blk s H scope (compEnvC scope cl Ca X.env) fp) W0 k → DE (X.blk s H scope (compEnvC scope cl Ca X.env) fp) W0 kx fk)
    (he : ∀ (s : Shared) (H : Hp) (Ca : Addr) (cl : List (Str × Addr)) (fp : List Addr), Cn (X.blk s H scope (compEnvC scope cl Ca X.env) fp) W0 k → DE (X.blk s H scope (compEnvC scope cl Ca X.env) fp) W0 vx fv)
    (hio : ∀ i ∈ is, i ∈ own.map (·.2) := by decide) (hs : ∀ x, foldedSetIterable iter X.env x = pure x := by intro _; rfl) :
    DS X W (.Assign [.Name y py] (.DictComp kx vx [⟨tg, iter, ifs, 0⟩] scope pos) spos) (gSet i (fDComp fi m ft fk fv (own.map (·.2)) fin)) :=
  ds_setOf (ps_setDc (g := tG X.K X.mg is m) (tt := tDT X.K X.mg W0 ft) (tk := tD X.K X.mg W0 fk) (tv := tD X.K X.mg W0 fv) C.calm C.nd hy hyl hsw hi ok (fun s H Ca cl fp => hg s H Ca cl fp C.blk) (fun s H Ca cl fp => ht s H Ca cl fp C.blk) (fun s H Ca cl fp => hk s H Ca cl fp C.blk) (fun s H Ca cl fp => he s H Ca cl fp C.blk) hs) (isE_dc hf hio)
end
end DL

/-! The data layer, part 21: a comprehension within a comprehension. -/
namespace DL
open PySem PySem.Spec PyProof.Rows L2
def relS (scope outer : Scope) : Scope := { scope with names := scope.names.map fun (n, k) => if (k == NameKind.free && outer.kind == .function && outer.names.lookup n == some .cell) then (n, NameKind.cell) else (n, k) }
theorem compScope {scope sc0 : Scope} {cl : List (Str × Addr)} {Ca : Addr} {env : Env} (h : env.scope = sc0) : (compEnvC scope cl Ca env).scope = relS scope sc0 := by
  subst h
  rfl
section
variable {X : Cx} {W : WX} {k : Nat}
theorem de_lcN (C : Cn X W k) {fin : Fin'} (hf : FinOk fin) {elt tg iter : Expr} {ifs : List Expr} {scope sc : Scope} {own : List (Str × Nat)} {pos : Pos} {fi : FI} {is : List Nat} {m : FG} {ft : FT} {fe : FE} (hsc : X.env.scope = sc) (hi : DI X W tg iter fi) (ok : BlkOk X.N sc scope own)
    (hg : ∀ (s : Shared) (H : Hp) (Ca : Addr) (cl : List (Str × Addr)) (fp : List Addr), Cn (X.blk s H scope (compEnvC scope cl Ca X.env) fp) W0 k → DG (X.blk s H scope (compEnvC scope cl Ca X.env) fp) tg is m)
    (ht : ∀ (s : Shared) (H : Hp) (Ca : Addr) (cl : List (Str × Addr)) (fp : List Addr), Cn (X.blk s H scope (compEnvC scope cl Ca X.env) fp) W0 k → DTs (X.blk s H scope (compEnvC scope cl Ca X.env) fp) W0 ifs ft)
    (he : ∀ (s : Shared) (H : Hp) (Ca : Addr) (cl : List (Str × Addr)) (fp : List Addr), Cn (X.blk s H scope (compEnvC scope cl Ca X.env) fp) W0 k → DE (X.blk s H scope (compEnvC scope cl Ca X.env) fp) W0 elt fe)
    (hio : ∀ i ∈ is, i ∈ own.map (·.2) := by decide) (hs : ∀ x, foldedSetIterable iter X.env x = pure x := by intro _; rfl) :
    DE X W (.ListComp elt [⟨tg, iter, ifs, 0⟩] scope pos) (fComp fi m ft fe (own.map (·.2)) fin) := by
  subst hsc
  exact de_lcB C hf hi ok hg ht he hio hs
end
end DL

/-! The data layer, part 22: list.pop, list(range(..)), zip, slices. -/
namespace DL
open PySem PySem.Spec PyProof.Rows L2
section
variable {X : Cx} {W : WX} {k : Nat} {o e : Expr} {fo fe : FE} {pos apos cpos p p2 : Pos}
/-! ### xs.pop(i), xs.pop() -/
def gPopAt : GM := fun x ds S => match x, ds with
  | .oid n, [.int i] => (match S[n]? with
    | some (.lst xs) => (match ixN xs.length i with
      | some j => (match xs[j]? with
        | some d => if -4611686018427387904 ≤ i ∧ i < 4611686018427387904 then .ok d (S.set n (.lst (xs.eraseIdx j))) else .stuck
        | none => .stuck)
      | none => .stuck)
    | _ => .stuck)
  | _, _ => .stuck
theorem DatL.eraseIdx {K : PySem.W.Frag} {mg : Str → Option Value} {φ : List Addr} {G : Hp} : ∀ {ds : List D} {vs : List V} (i : Nat), DatL K mg φ G ds vs → DatL K mg φ G (ds.eraseIdx i) (vs.eraseIdx i)
  | [], _, _, h => by
    unfold DatL at h
    subst h
    exact DatL.nil
  | d :: ds, _, 0, h => by
    obtain ⟨v, r, rfl, _, h2⟩ := h.uncons
    exact h2
  | d :: ds, _, i + 1, h => by
    obtain ⟨v, r, rfl, h1, h2⟩ := h.uncons
    exact .cons h1 (DatL.eraseIdx i h2)
theorem md_popAt : MethD X rPopAt gPopAt := fun Z φ S H x u ds vs Q E R dx d w => by
  unfold gPopAt at w
  split at w
  · obtain ⟨v, rfl, h1⟩ := datL1 d
    cases dInt h1
    split at w
    · rename_i xs hS
      split at w
      · rename_i j hj
        split at w
        · rename_i y hy
          obtain ⟨⟨b1, b2⟩, w1⟩ := want_if w
          unfold Dat at dx
          obtain ⟨a, rfl, ha⟩ := dx
          obtain ⟨us, h2, h3⟩ := R.ob _ a _ ha hS
          obtain ⟨z, hz, dz⟩ := h3.get hy
          refine ⟨a, us, _, j, z, rfl, rfl, h2, by omega, by omega, by rw [h3.length]; exact (L2.ixN_seq hj).1, hz, ?_⟩
          obtain ⟨R3, E3⟩ := R.mutate (u := .lst (xs.eraseIdx j)) (ho := .lst (us.eraseIdx j)) ha hS rfl rfl ⟨_, upd_same, DatL.eraseIdx j h3⟩
          exact w1 z φ _ R3 E3 (Dat.evo E3 dz)
        · exact w.elim
      · exact w.elim
    · exact w.elim
  · exact w.elim
theorem de_popAt {fa : FA} (ho : DE X W o fo) (ha : DA X W [e] fa) (hbase : attributeBase o "pop" X.env (eval o X.env) = eval o X.env := by rfl)
    (hfew : ((backTo cpos (starEach [e] X.env)).all (fun x => !x.1) && (backToKw cpos (keywordEach [] X.env)).all (fun x => x.1.isSome) && decide ([e].length + ([] : List Keyword).length + (if ([] : List Keyword).isEmpty then 0 else 1) < 30)) = true := by rfl)
    (hline : (apos.endLine == cpos.line) = true := by rfl) (hs : starEach [e] X.env = (false, eval e X.env) :: starEach [] X.env := by rfl) (hplain : (backTo cpos (starEach [] X.env)).any (·.1) = false := by rfl) :
    DE X W (.Call (.Attribute o "pop" apos) [e] [] cpos) (fBM "list" gPopAt fo fa) := de_bm PySem.F.plainAttrs_list PySem.F.slot_list_pop PySem.F.type_list_pop mt_popAt md_popAt (.inl rfl) ho ha hbase hfew hline hs hplain
def gPop0 : GM := fun x ds S => match x, ds with
  | .oid n, [] => (match S[n]? with
    | some (.lst xs) => (match xs[xs.length - 1]? with
      | some d => .ok d (S.set n (.lst xs.dropLast))
      | none => .stuck)
    | _ => .stuck)
  | _, _ => .stuck
theorem DatL.dropLast {K : PySem.W.Frag} {mg : Str → Option Value} {φ : List Addr} {G : Hp} {ds : List D} {vs : List V} (h : DatL K mg φ G ds vs) : DatL K mg φ G ds.dropLast vs.dropLast := by
  rw [List.dropLast_eq_take, List.dropLast_eq_take, h.length]
  exact h.take _
theorem md_pop0 : MethD X rPop gPop0 := fun Z φ S H x u ds vs Q E R dx d w => by
  unfold gPop0 at w
  split at w
  · unfold DatL at d
    subst d
    split at w
    · rename_i xs hS
      split at w
      · rename_i y hy
        unfold Dat at dx
        obtain ⟨a, rfl, ha⟩ := dx
        obtain ⟨us, h2, h3⟩ := R.ob _ a _ ha hS
        obtain ⟨z, hz, dz⟩ := h3.get hy
        refine ⟨a, us, z, rfl, rfl, h2, by rw [h3.length]; exact hz, ?_⟩
        obtain ⟨R3, E3⟩ := R.mutate (u := .lst xs.dropLast) (ho := .lst us.dropLast) ha hS rfl rfl ⟨_, upd_same, h3.dropLast⟩
        exact w z φ _ R3 E3 (Dat.evo E3 dz)
      · exact w.elim
    · exact w.elim
  · exact w.elim
theorem de_pop0 (ho : DE X W o fo) (hbase : attributeBase o "pop" X.env (eval o X.env) = eval o X.env := by rfl) (hline : (apos.endLine == cpos.line) = true := by rfl) :
    DE X W (.Call (.Attribute o "pop" apos) [] [] cpos) (fBM "list" gPop0 fo (fun _ S => .ok [] S)) := de_bm0 PySem.F.plainAttrs_list PySem.F.slot_list_pop PySem.F.type_list_pop mt_pop md_pop0 (.inl rfl) ho hbase hline
/-! ### list(range(n)) -/
def cLR (i : Int) : Bool := decide (0 ≤ i ∧ i ≤ 1000000)
def gLRng : D → Store → Res D := fun d S => match d with
  | .int i => if cLR i then .ok (.lst (rng 0 i)) S else .stuck
  | _ => .stuck
def gLRngO : D → Store → Res D := fun d S => match d with
  | .int i => if cLR i then .ok (.oid S.length) (S ++ [.lst (rng 0 i)]) else .stuck
  | _ => .stuck
theorem datL_rg {φ : List Addr} {G : Hp} (i : Int) : DatL X.K X.mg φ G (rng 0 i) (rgV 0 i) := by
  unfold rng rgV
  exact DatL.map fun x _ => dat_int _
theorem rgOk_c {i : Int} (h : cLR i = true) : RgOk 0 i := by
  have h' : 0 ≤ i ∧ i ≤ 1000000 := by simpa [cLR] using h
  exact RgOk.of_le (by omega) (by omega) (by omega) (by omega)
theorem de_listRng (C : Cn X W k) (hg : Gl X "list") (hm : X.mg "list" = none) (hg2 : Gl X "range") (hm2 : X.mg "range" = none) (ha : DE X W e fe) (na : starEach [e] X.env = (false, eval e X.env) :: starEach [] X.env := by rfl)
    (na2 : starEach [.Call (.Name "range" p2) [e] [] cpos] X.env = (false, eval (.Call (.Name "range" p2) [e] [] cpos) X.env) :: starEach [] X.env := by rfl) :
    DE X W (.Call (.Name "list" p) [.Call (.Name "range" p2) [e] [] cpos] [] pos) (fun ρ S => (fe ρ S).bind gLRng) := by
  obtain ⟨t, pe, q⟩ := ha.ex
  refine .mk (pe_listRg C.calm hg hm (prg_1 hg2 hm2 pe na) na2) fun Z φ S ρ σ H Q R sl w => q Z φ S ρ σ H _ R sl (w.bind fun x S1 v φ1 H1 R1 E1 d w1 => ?_)
  unfold gLRng at w1
  split at w1
  · rename_i i
    obtain ⟨h, w2⟩ := want_if w1
    cases dInt d
    refine ⟨i, rfl, rgOk_c h, fun l hl => ?_⟩
    obtain ⟨r, e, g⟩ := dat_newL R1 (datL_rg i) hl
    exact w2 _ _ _ r e g
  · exact w1.elim
theorem de_listRngO (C : Cn X W k) (hg : Gl X "list") (hm : X.mg "list" = none) (hg2 : Gl X "range") (hm2 : X.mg "range" = none) (ha : DE X W e fe) (na : starEach [e] X.env = (false, eval e X.env) :: starEach [] X.env := by rfl)
    (na2 : starEach [.Call (.Name "range" p2) [e] [] cpos] X.env = (false, eval (.Call (.Name "range" p2) [e] [] cpos) X.env) :: starEach [] X.env := by rfl) :
    DE X W (.Call (.Name "list" p) [.Call (.Name "range" p2) [e] [] cpos] [] pos) (fun ρ S => (fe ρ S).bind gLRngO) := by
  obtain ⟨t, pe, q⟩ := ha.ex
  refine .mk (pe_listRg C.calm hg hm (prg_1 hg2 hm2 pe na) na2) fun Z φ S ρ σ H Q R sl w => q Z φ S ρ σ H _ R sl (w.bind fun x S1 v φ1 H1 R1 E1 d w1 => ?_)
  unfold gLRngO at w1
  split at w1
  · rename_i i
    obtain ⟨h, w2⟩ := want_if w1
    cases dInt d
    refine ⟨i, rfl, rgOk_c h, fun l hl => ?_⟩
    obtain ⟨r, e, g⟩ := dat_newO R1 (datL_rg i) hl
    exact w2 _ _ _ r e g
  · exact w1.elim
/-! ### zip -/
def zipD : List D → List D → List D := List.zipWith fun x y => .tup [x, y]
def zipC : List D → Store → Res ItD := fun ds S => match ds with
  | [.lst xs, .lst ys] => .ok ⟨zipD xs ys, none⟩ S
  | _ => .stuck
def fZip (fa : FA) : FI := fun ρ S => (fa ρ S).bind zipC
theorem zipD_get {xs ys : List D} {i : Nat} {d : D} (h : (zipD xs ys)[i]? = some d) : ∃ x y, xs[i]? = some x ∧ ys[i]? = some y ∧ d = .tup [x, y] := by
  unfold zipD at h
  rw [List.getElem?_zipWith] at h
  split at h
  · rename_i x y h1 h2
    cases h
    exact ⟨x, y, h1, h2, rfl⟩
  · cases h
theorem dLst {φ : List Addr} {G : Hp} {ds : List D} {v : V} (h : Dat X.K X.mg φ G (.lst ds) v) : ∃ a vs, v = .ref a ∧ G a = some (.lst vs) ∧ DatL X.K X.mg φ G ds vs := by
  unfold Dat at h
  exact h
theorem gnd_some {Z φ : List Addr} {S : Store} {H : Hp} {a : Addr} {u : HO} (h : gnd Z φ S H a = some u) : H a = some u := (without_some.mp h).2
theorem ri_zip {Z φ : List Addr} {S : Store} {H : Hp} {xs ys : List D} {a b : Addr} (hx : Dat X.K X.mg φ (gnd Z φ S H) (.lst xs) (.ref a)) (hy : Dat X.K X.mg φ (gnd Z φ S H) (.lst ys) (.ref b)) : RI X.K X.mg Z φ S H ⟨zipD xs ys, none⟩ (Itz X.K a b) :=
  fun i Z' φ' S' H' hZ R hp hs ok => by
    obtain ⟨a', vs, e1, g1, d1⟩ := dLst (Dat.mono hp hs _ _ hx)
    obtain ⟨b', us, e2, g2, d2⟩ := dLst (Dat.mono hp hs _ _ hy)
    cases e1
    cases e2
    have s1 : SqL X.K H' a vs := .of (gnd_some g1)
    have s2 : SqL X.K H' b us := .of (gnd_some g2)
    refine ⟨fun z hz => ?_, fun hl => ⟨vs, us, s1, s2, ?_⟩⟩
    · obtain ⟨x, y, h1, h2, rfl⟩ := zipD_get hz
      obtain ⟨u, hu, du⟩ := d1.get h1
      obtain ⟨v, hv, dv⟩ := d2.get h2
      refine ⟨⟨vs, us, u, v, s1, s2, hu, hv⟩, fun y' H'' yl => ?_⟩
      obtain ⟨T, x', y'', rfl, hT, rfl, q1, q2⟩ := yl
      have z1 := q1 vs s1
      have z2 := q2 us s2
      rw [hu] at z1
      rw [hv] at z2
      cases z1
      cases z2
      exact dat_newT R (.cons du (.cons dv DatL.nil)) hT
    · have hl' : (List.zipWith (fun x y => D.tup [x, y]) xs ys).length ≤ i := hl
      rw [List.length_zipWith] at hl'
      rw [d1.length, d2.length]
      omega
theorem di_zip {e e2 : Expr} {fa : FA} {elts : List Expr} {kk : Nat} {tpos : Pos} (hg : Gl X "zip") (hm : X.mg "zip" = none) (ha : DA X W [e, e2] fa)
    (hs : starEach [e, e2] X.env = (false, eval e X.env) :: starEach [e2] X.env := by rfl) (hpl : (backTo pos (starEach [e2] X.env)).any (·.1) = false := by rfl) :
    DI X W (.Tuple elts kk tpos) (.Call (.Name "zip" p) [e, e2] [] pos) (fZip fa) := by
  obtain ⟨t, pa, q⟩ := ha.ex
  refine .mk (pi_zip hg hm pa hs hpl) fun Z φ S ρ σ H R R0 sl w => q Z φ S ρ σ H _ R0 sl (w.bind fun ds S1 vs φ1 H1 R1 E1 d w1 => ?_)
  unfold zipC at w1
  split at w1
  · rename_i xs ys
    obtain ⟨u, v, rfl, h1, h2⟩ := datL2 d
    obtain ⟨a, us, rfl, g1, d1⟩ := dLst h1
    obtain ⟨b, ws, rfl, g2, d2⟩ := dLst h2
    exact ⟨a, b, us, ws, rfl, .of (gnd_some g1), .of (gnd_some g2), w1 _ _ _ R1 Evo.refl (ri_zip h1 h2)⟩
  · exact w1.elim
/-! ### slices -/
def cutD (xs : List D) (lo hi : Option Int) : List D := (xs.drop (HT.sIx xs.length 0 lo)).take (HT.sIx xs.length xs.length hi - HT.sIx xs.length 0 lo)
def gSl (x : D) (lo hi : Option Int) (S : Store) : Res D := match x with
  | .tup xs => if HT.sIx xs.length 0 lo = 0 ∧ HT.sIx xs.length xs.length hi = xs.length then .stuck else .ok (.tup (cutD xs lo hi)) S
  | d => match asL S d with
    | some xs => .ok (.lst (cutD xs lo hi)) S
    | none => .stuck
abbrev FO := EnvD → Store → Res (Option Int)
def fPartN : FO := fun _ S => .ok none S
def fPart (f : FE) : FO := fun ρ S => (f ρ S).bind fun d S => match d with
  | .int i => .ok (some i) S
  | _ => .stuck
def tDO (K : PySem.W.Frag) (mg : Str → Option Value) (W : WX) (f : FO) : TO := fun σ H Q => ∃ Z φ S ρ, Rel K mg Z φ S H ∧ Slots K mg φ (gnd Z φ S H) ρ σ ∧ Want K mg REq Z φ S H (f ρ S) Q (WE W σ)
def DO (X : Cx) (W : WX) (e : Option Expr) (f : FO) : Prop := PO X e (tDO X.K X.mg W f)
theorem do_none : DO X W none fPartN := ⟨fun pins s σ H Q I h => (po_none (X := X)).run pins s σ H Q I (by
  obtain ⟨Z, φ, S, ρ, R, sl, w⟩ := h
  exact w.now R rfl)⟩
theorem do_some (he : DE X W e fe) : DO X W (some e) (fPart fe) := by
  obtain ⟨t, pe, q⟩ := he.ex
  refine ⟨fun pins s σ H Q I h => (po_some pe).run pins s σ H Q I ?_⟩
  obtain ⟨Z, φ, S, ρ, R, sl, w⟩ := h
  refine q Z φ S ρ σ H _ R sl (w.bind fun d S1 v φ1 H1 R1 E1 dd w1 => ?_)
  cases d with
  | int i =>
    cases dInt dd
    exact ⟨i, rfl, w1.now R1 rfl⟩
  | _ => exact w1.elim
def fSl (fx : FE) (fl fh : FO) : FE := fun ρ S => (fx ρ S).bind fun x S => (fl ρ S).bind fun l S => (fh ρ S).bind fun h S => gSl x l h S
theorem cut_dat {φ : List Addr} {G : Hp} {xs : List D} {vs : List V} (h : DatL X.K X.mg φ G xs vs) (lo hi : Option Int) : DatL X.K X.mg φ G (cutD xs lo hi) (cutV vs lo hi) := by
  unfold cutD cutV
  rw [h.length]
  exact (h.drop _).take _
theorem de_slice {lo hi : Option Expr} {fl fh : FO} (hx : DE X W e fe) (hl : DO X W lo fl) (hh : DO X W hi fh) : DE X W (.Subscript e (.Slice lo hi none p2) pos) (fSl fe fl fh) := by
  obtain ⟨t, pe, q⟩ := hx.ex
  refine .mk (pe_slice (sl_tup.or sl_list) pe hl hh) fun Z φ S ρ σ H Q R sl w => q Z φ S ρ σ H _ R sl (w.bind fun x S1 v φ1 H1 R1 E1 d w1 => ?_)
  refine ⟨Z, φ1, S1, ρ, R1, sl.evo E1, w1.bind fun l S2 l' φ2 H2 R2 E2 el w2 => ?_⟩
  cases el
  refine ⟨Z, φ2, S2, ρ, R2, (sl.evo E1).evo E2, w2.bind fun h S3 h' φ3 H3 R3 E3 eh w3 => ?_⟩
  cases eh
  have d3 : Dat X.K X.mg φ3 (gnd Z φ3 S3 H3) x v := Dat.evo E3 (Dat.evo E2 d)
  unfold gSl at w3
  split at w3
  · rename_i xs
    by_cases hc : HT.sIx xs.length 0 l = 0 ∧ HT.sIx xs.length xs.length h = xs.length
    · rw [if_pos hc] at w3
      exact w3.elim
    · rw [if_neg hc] at w3
      unfold Dat at d3
      obtain ⟨a, vs, rfl, q1, q2⟩ := d3
      refine .inl ⟨a, vs, rfl, sqt_mono (fun b u hb => gnd_some hb) q1, by rw [q2.length]; exact hc, fun p hp => ?_⟩
      obtain ⟨r, e, g⟩ := dat_newT R3 (cut_dat q2 l h) hp
      exact w3 _ _ _ r e g
  · split at w3
    · rename_i xs hq
      obtain ⟨a, vs, rfl, q1, q2⟩ := asL_ok R3 d3 hq
      refine .inr ⟨a, vs, rfl, q1, fun p hp => ?_⟩
      obtain ⟨r, e, g⟩ := dat_newL R3 (cut_dat q2 l h) hp
      exact w3 _ _ _ r e g
    · exact w3.elim
end
end DL

/-! The data layer, part 23: dict.get. -/
namespace DL
open PySem PySem.Spec PyProof.Rows L2
section
variable {X : Cx} {W : WX} {k : Nat} {o e f : Expr} {fo fe ff : FE} {pos apos cpos p p2 : Pos}
def gGet (x y z : D) (S : Store) : Res D := match asD S x, keyD y with
  | some ks, some j => .ok ((valD ks j).getD z) S
  | _, _ => .stuck
def fGet1 (fo fe : FE) : FE := fun ρ S => (fo ρ S).bind fun x S => if (asD S x).isSome then (fe ρ S).bind fun y S => gGet x y .non S else .stuck
def fGet2 (fo fe ff : FE) : FE := fun ρ S => (fo ρ S).bind fun x S => if (asD S x).isSome then (fe ρ S).bind fun y S => (ff ρ S).bind fun z S => gGet x y z S else .stuck
theorem want_get {Z φ : List Addr} {S : Store} {H : Hp} {x y z : D} {v u w : V} {Q : VK} {E : XK} (R : Rel X.K X.mg Z φ S H) (dx : Dat X.K X.mg φ (gnd Z φ S H) x v) (dy : Dat X.K X.mg φ (gnd Z φ S H) y u) (dz : Dat X.K X.mg φ (gnd Z φ S H) z w)
    (h : Want X.K X.mg (RDat X.K X.mg) Z φ S H (gGet x y z S) Q E) (a : Addr) (ha : v = .ref a) : ∃ o, DGet H a u o ∧ Q (o.getD w) H := by
  unfold gGet at h
  split at h
  · rename_i ks j e1 e2
    obtain ⟨p, kvs, e3, h1, h2⟩ := asD_ok R dx e1
    rw [ha] at e3
    cases e3
    refine ⟨valV kvs j, .inl ⟨kvs, j, .inl h1, keyD_ok dy e2, rfl⟩, ?_⟩
    obtain ⟨q1, q2⟩ := valD_ok (k := j) h2
    cases hv : valD ks j with
    | none =>
      rw [hv] at h
      rw [q2 hv]
      exact h.now R dz
    | some d =>
      rw [hv] at h
      obtain ⟨v', g1, g2⟩ := q1 d hv
      rw [g1]
      exact h.now R g2
  · exact h.elim
theorem isD_of {Z φ : List Addr} {S : Store} {H : Hp} {x : D} {v : V} (R : Rel X.K X.mg Z φ S H) (dx : Dat X.K X.mg φ (gnd Z φ S H) x v) (h : (asD S x).isSome = true) : ∃ a, v = .ref a ∧ IsD H a := by
  obtain ⟨ks, e⟩ := Option.isSome_iff_exists.mp h
  obtain ⟨p, kvs, e3, h1, _⟩ := asD_ok R dx e
  exact ⟨p, e3, .inl ⟨kvs, .inl h1⟩⟩
theorem de_get1 (C : Cn X W k) (ho : DE X W o fo) (he : DE X W e fe) (m : M1 X o "get" apos e cpos) : DE X W (.Call (.Attribute o "get" apos) [e] [] cpos) (fGet1 fo fe) := by
  obtain ⟨to, po, qo⟩ := ho.ex
  obtain ⟨te, pe, qe⟩ := he.ex
  refine .mk (pe_dget1 C.u1 po pe m) fun Z φ S ρ σ H Q R sl w => qo Z φ S ρ σ H _ R sl (w.bind fun x S1 v φ1 H1 R1 E1 dx w1 => ?_)
  obtain ⟨hs, w2⟩ := want_if w1
  obtain ⟨a, e1, e2⟩ := isD_of R1 dx hs
  refine ⟨a, e1, e2, qe Z φ1 S1 ρ σ H1 _ R1 (sl.evo E1) (w2.bind fun y S2 u φ2 H2 R2 E2 dy w3 => ?_)⟩
  exact want_get R2 (Dat.evo E2 dx) dy dat_non w3 a e1
theorem de_get2 (C : Cn X W k) (ho : DE X W o fo) (he : DE X W e fe) (hf : DE X W f ff) (m : M2 X o "get" apos e f cpos) : DE X W (.Call (.Attribute o "get" apos) [e, f] [] cpos) (fGet2 fo fe ff) := by
  obtain ⟨to, po, qo⟩ := ho.ex
  obtain ⟨te, pe, qe⟩ := he.ex
  obtain ⟨tf, pf, qf⟩ := hf.ex
  refine .mk (pe_dget2 C.u1 po pe pf m) fun Z φ S ρ σ H Q R sl w => qo Z φ S ρ σ H _ R sl (w.bind fun x S1 v φ1 H1 R1 E1 dx w1 => ?_)
  obtain ⟨hs, w2⟩ := want_if w1
  obtain ⟨a, e1, e2⟩ := isD_of R1 dx hs
  refine ⟨a, e1, e2, qe Z φ1 S1 ρ σ H1 _ R1 (sl.evo E1) (w2.bind fun y S2 u φ2 H2 R2 E2 dy w3 => ?_)⟩
  refine qf Z φ2 S2 ρ σ H2 _ R2 ((sl.evo E1).evo E2) (w3.bind fun z S3 u3 φ3 H3 R3 E3 dz w4 => ?_)
  exact want_get R3 (Dat.evo E3 (Dat.evo E2 dx)) (Dat.evo E3 dy) dz w4 a e1
end
end DL

/-! The data layer, part 24: a, b = e, f and a, b, c = e, f, g, all names locals that are not captured. -/
namespace DL
open PySem PySem.Spec PyProof.Rows L2
section
variable {X : Cx} {W : WX} {k : Nat} {a b c : Expr} {pos : Pos}
def gPar (i j : Nat) (fa : FA) : FS := fun ρ S => (fa ρ S).into ρ fun ds S => match ds with
  | [x, y] => .nx ((ρ.set i (some x)).set j (some y)) S
  | _ => .stuck
theorem ds_par (C : Cn X W k) {i j : Nat} {x y : Str} {fa : FA} {px py pt : Pos} {kt k2 pt2} (hi : X.N[i]? = some x) (hj : X.N[j]? = some y) (hij : i ≠ j)
    (hx : X.env.scope.names.lookup x = some .local) (hy : X.env.scope.names.lookup y = some .local) (ha : DA X W [a, b] fa)
    (hw : swappedStores [.Tuple [.Name x px, .Name y py] kt pt] (.Tuple [a, b] k2 pt2) X.env = pure (some [x, y]))
    (hs : swapsWithSole [.Tuple [.Name x px, .Name y py] kt pt] (.Tuple [a, b] k2 pt2) pos.line X.env = pure false := by rfl) :
    DS X W (.Assign [.Tuple [.Name x px, .Name y py] kt pt] (.Tuple [a, b] k2 pt2) pos) (gPar i j fa) := by
  obtain ⟨t, p, q⟩ := ha.ex
  refine .mk (ps_par C.calm C.nd hi hj hij hx hy p hw hs) fun Z φ S ρ σ H Dd R sl w => q Z φ S ρ σ H _ R sl (w.into sl fun ds S1 vs φ1 H1 R1 E1 d w1 => ?_)
  split at w1
  · obtain ⟨u, v, rfl, h1, h2⟩ := datL2 d
    exact ⟨u, v, rfl, w1 _ φ1 H1 R1 Evo.refl (((sl.evo E1).set h1).set h2)⟩
  · exact w1.elim
def gPar3 (i j l : Nat) (fa : FA) : FS := fun ρ S => (fa ρ S).into ρ fun ds S => match ds with
  | [x, y, z] => .nx (((ρ.set i (some x)).set j (some y)).set l (some z)) S
  | _ => .stuck
theorem ds_par3 (C : Cn X W k) {i j l : Nat} {x y z : Str} {fa : FA} {px py pz pt : Pos} {kt k2 pt2} (hi : X.N[i]? = some x) (hj : X.N[j]? = some y) (hl : X.N[l]? = some z) (hij : i ≠ j) (hil : i ≠ l) (hjl : j ≠ l)
    (hx : X.env.scope.names.lookup x = some .local) (hy : X.env.scope.names.lookup y = some .local) (hz : X.env.scope.names.lookup z = some .local) (ha : DA X W [a, b, c] fa)
    (hw : swappedStores [.Tuple [.Name x px, .Name y py, .Name z pz] kt pt] (.Tuple [a, b, c] k2 pt2) X.env = pure (some [x, y, z]))
    (hs : swapsWithSole [.Tuple [.Name x px, .Name y py, .Name z pz] kt pt] (.Tuple [a, b, c] k2 pt2) pos.line X.env = pure false := by rfl) :
    DS X W (.Assign [.Tuple [.Name x px, .Name y py, .Name z pz] kt pt] (.Tuple [a, b, c] k2 pt2) pos) (gPar3 i j l fa) := by
  obtain ⟨t, p, q⟩ := ha.ex
  refine .mk (ps_par3 C.calm C.nd hi hj hl hij hil hjl hx hy hz p hw hs) fun Z φ S ρ σ H Dd R sl w => q Z φ S ρ σ H _ R sl (w.into sl fun ds S1 vs φ1 H1 R1 E1 d w1 => ?_)
  split at w1
  · obtain ⟨u, r, rfl, h1, h2⟩ := d.uncons
    obtain ⟨v, w', rfl, h3, h4⟩ := datL2 h2
    exact ⟨u, v, w', rfl, w1 _ φ1 H1 R1 Evo.refl ((((sl.evo E1).set h1).set h3).set h4)⟩
  · exact w1.elim
end
end DL

/-! The data layer, part 25: () + t. -/
namespace DL
open PySem PySem.Spec PyProof.Rows L2
theorem cat_tup0 {prog : Program} {w : World} {A : Around} {E : Value → Shared → Prop} {s : Shared} {t b : Addr} {ws : List Value} {Q : Value → Shared → Prop} (ht : IsTup s.heap t ([] : List Value).toArray) (hb : IsTup s.heap b ws.toArray)
    (h1 : Q (.ref b) s) : wpAny (model prog w) A (binaryOp .Add (.ref t) (.ref b)) Q E s := by
  obtain ⟨⟨cls, dd, data, sl⟩, ho, hc, n, hd⟩ := id ht
  obtain ⟨⟨cls2, dd2, data2, sl2⟩, ho2, hc2, n2, hd2⟩ := id hb
  simp only at hc hd hc2 hd2
  subst hc hd hc2 hd2
  exact concat_meets ⟨_, ho, rfl⟩ ⟨_, ho2, rfl⟩ noFill_tuple_add seq_tuple_add PySem.F.slot_tuple_add PySem.F.entry_tuple_add (PySem.F.args_tuple_add_2 _ _)
      (tuple_addW0 t b ([] : List Value).toArray ws.toArray n n2 dd dd2 sl sl2 (by simp)) ⟨ho, ho2, h1⟩
section
variable {X : Cx} {W : WX} {a b : Expr} {fa fb : FE} {pos : Pos}
def rCat0 (K : PySem.W.Frag) : R2 := fun x y H Q => ∃ a b ys, x = .ref a ∧ y = .ref b ∧ SqT K H a [] ∧ SqT K H b ys ∧ Q (.ref b) H
theorem op_cat0 : OpR X (binaryOp .Add) (rCat0 X.K) := by
  intro pins s σ H x y v u Q I rx ry h
  obtain ⟨a, b, ys, rfl, rfl, ha, hb, q⟩ := h
  cases rx
  cases ry
  obtain ⟨its, r1, p1, _⟩ := I.tuple ha
  obtain ⟨its2, r2, p2, _⟩ := I.tuple hb
  have e : its = [] := r1.nil_iff.mpr rfl
  subst e
  exact cat_tup0 p1 p2 ⟨.ref b, H, I, rfl, q⟩
def isE0 (x _ : D) (_ : Store) : Bool := match x with
  | .tup [] => true
  | _ => false
def gCat0 : G2 := fun x y S => match x, y with
  | .tup [], .tup ys => .ok (.tup ys) S
  | _, _ => .stuck
theorem opd_cat0 : OpD X (rCat0 X.K) gCat0 := fun Z φ S H x y u v Q E R dx dy w => by
  unfold gCat0 at w
  split at w
  · obtain ⟨p, vs, rfl, h1, h2⟩ := tupOf_ok dx rfl
    obtain ⟨q, us, rfl, h3, h4⟩ := tupOf_ok dy rfl
    have e : vs = [] := by
      unfold DatL at h2
      exact h2
    subst e
    exact ⟨p, q, us, rfl, rfl, sqt_mono (fun _ _ z => z) h1, h3, w.now R dy⟩
  · exact w.elim
def gAdd0 : G2 := fun x y S => if isE0 x y S then gCat0 x y S else gAdd x y S
theorem de_add0 (ha : DE X W a fa) (hb : DE X W b fb) : DE X W (.BinOp a .Add b pos) (fBin gAdd0 fa fb) :=
  de_bin (op_cat0.or (op_add.or (op_add_str.or (op_catT.or op_cat)))) (OpD.or isE0 opd_cat0 (OpD.or isI (opd_I0 fun _ _ _ _ => dat_int _) (OpD.or isS opd_addS (OpD.or isT opd_addT opd_addL)))) ha hb
end
end DL

/-! The data layer, part 26: len(x) by an own __len__. -/
namespace DL
open PySem PySem.Spec PyProof.Rows L2
section
variable {X : Cx} {W : WX} {k n : Nat} {e : Expr} {pos p : Pos} {C f : Addr} {fd : FuncData} {ps : List Str} {sem : Sem'}
def rLenO (X : Cx) (sem : Sem') (C : Addr) : List V → Hp → VK → Prop := fun xs H Q => ∃ a dx fs ds n S1, xs = [.ref a] ∧ H a = some (.ins C dx fs) ∧ DatL X.K X.mg [] H ds [.ref a] ∧ sem ds [] = .ok (.int n) S1 ∧ (0 ≤ n ∧ n < 1000) ∧ ∀ H', Ext H H' → Q (.int n) H'
theorem call_lenO (Cc : Cn X W k) (hm : Meth X.K C "__len__" f) (F : FnG X.prog X.w X.K X.mg X.base n f fd ps (spD X.K X.mg ps.length sem)) (hps : ps.length = 1) (hb : Binds X.K fd ps []) (hle : n + 1 ≤ k := by decide) :
    CallR X (.builtin "len") (rLenO X sem C) := by
  intro pins s σ H xs us Q I rx h
  obtain ⟨a, dx, fs, ds, i, S1, rfl, ha, hd, hs, ⟨i0, i1⟩, q⟩ := h
  obtain ⟨u, rfl, ru⟩ := vals1 rx
  cases ru
  obtain ⟨mA, J, _⟩ := ins_get I.hok ha
  obtain ⟨od, J, _⟩ := J.look
  obtain ⟨m, hF⟩ := I.fr
  refine PySem.W.len_K hF I.ok.mod.kin J hm.at_ hm.fn ?_
  have hsp : spD X.K X.mg ps.length sem [.ref a] H (fun v H' => v = .int i ∧ Ext H H') (WE W σ) := by
    refine ⟨by rw [hps]; rfl, [], [], [], ds, rel_nil, by rw [gnd_nil]; exact hd, ?_⟩
    rw [hs]
    intro v φ1 H1 R1 E1 dv
    unfold RDat Dat at dv
    exact ⟨dv, fun c o e => E1.out c o e fun h => nomatch h⟩
  have r2 : Vals [V.ref a] [Value.ref a] := .cons rfl .nil
  have hB := hb s [.ref a] I.kIn (by simp [hps])
  have t : wpAny (model X.prog X.w) X.A.in1 (call (.ref f) [.ref a] ([].zip [])) (EP X pins σ (fun v H' => v = .int i ∧ Ext H H')) X.xe s := by
    refine wpAny_call (codeAny_mono (F.run X.A.in1 X.stack s H _ [.ref a] [.ref a] _ (WE W σ) (Cc.room.mono hle).in1 Cc.gd I.env0.in1 (by simpa using hB) r2 hsp) fun res s' hq => ?_)
    cases res with
    | error e => exact passAt Cc.tk σ pins H s e s' I hq
    | ok fl => cases fl with
      | ret u => exact I.after hq
      | _ => exact hq.elim
  refine wpAny_mono t (fun r s' z => ?_) fun _ _ x => x
  obtain ⟨zv, H', I', rz, ez, ex⟩ := z
  subst ez
  obtain ⟨tk, rfl⟩ := rz
  refine ⟨⟨i0, by omega⟩, ?_⟩
  exact ⟨.int i, H', I'.tok _, ⟨_, rfl⟩, q H' ex⟩
/-- the mirror: a pure instance of c, the answer a small number -/
noncomputable def gLenO (c : Str) (sem : Sem') : GC := fun ds S => match ds with
  | [.ins c1 fs] => if c1 = c ∧ (D.ins c1 fs).pure = true then (match sem [.ins c1 fs] [] with
    | .ok (.int n) _ => @ite _ (0 ≤ n ∧ n < 1000) (Classical.propDecidable _) (.ok (.int n) S) .stuck
    | _ => .stuck) else .stuck
  | _ => .stuck
theorem cd_lenO {c : Str} (cl : ClsI X c C) : CallD X (rLenO X sem C) (gLenO c sem) := fun Z φ S H ds vs Q E R d w => by
  unfold gLenO at w
  split at w
  · rename_i c1 fs
    obtain ⟨v, rfl, dx⟩ := datL1 d
    obtain ⟨⟨rfl, p1⟩, w1⟩ := want_if w
    split at w1
    · rename_i i S1 hs
      have d1 : Dat X.K X.mg [] H (.ins c1 fs) v := Dat.pure p1 (Dat.mono (List.prefix_refl _) gnd_sub _ _ dx)
      obtain ⟨a, A, ex, fvs, rfl, q0, q1, _⟩ := asI_ok R dx rfl
      rw [cl.mg] at q0
      cases q0
      by_cases hi : 0 ≤ i ∧ i < 1000
      · rw [if_pos hi] at w1
        refine ⟨a, ex, fvs, _, i, S1, rfl, q1, .cons d1 DatL.nil, hs, hi, fun H' e => ?_⟩
        obtain ⟨r1, e1⟩ := R.same e
        exact w1 _ φ H' r1 e1 (dat_int _)
      · rw [if_neg hi] at w1
        exact w1.elim
    · exact w1.elim
  · exact w.elim
theorem de_lenO {c : Str} {fa : FA} (Cc : Cn X W k) (hm : Meth X.K C "__len__" f) (F : FnG X.prog X.w X.K X.mg X.base n f fd ps (spD X.K X.mg ps.length sem)) (hps : ps.length = 1) (hb : Binds X.K fd ps []) (cl : ClsI X c C) (hg : Gl X "len") (hmg : X.mg "len" = none) (ha : DA X W [e] fa)
    (hle : n + 1 ≤ k := by decide) (he : starEach [e] X.env = (false, eval e X.env) :: starEach [] X.env := by rfl) (hpl : (backTo pos (starEach [] X.env)).any (·.1) = false := by rfl) :
    DE X W (.Call (.Name "len" p) [e] [] pos) (fCB (gLenO c sem) fa) :=
  de_callB (call_lenO Cc hm F hps hb hle) (cd_lenO cl) hg hmg (by rfl) ha (by decide) (by decide) he hpl
/-- what it gives -/
theorem e_gLenO {c : Str} {fs : List (Str × D)} {i : Int} {S S1 : Store} (hp : (D.ins c fs).pure = true) (hs : sem [.ins c fs] [] = .ok (.int i) S1) (h0 : 0 ≤ i) (h1 : i < 1000) : gLenO c sem [.ins c fs] S = .ok (.int i) S := by
  unfold gLenO
  simp only [hp, and_self, if_true, hs]
  rw [if_pos ⟨h0, h1⟩]
end
end DL

/-! The data layer, part 27: list(zip(xs, ys)). -/
namespace PySem
open PySem.Spec PySem.Calls PyProof.Rows PySem.W L2
namespace F
theorem zip_no_size : typeLookup (.type "zip") "__len__" = pure none := by
  rw [typeLookup_type, builtinLookup_eq_fast]; kernel_rfl
theorem zip_no_guess : typeLookup (.type "zip") "__length_hint__" = pure none := by
  rw [typeLookup_type, builtinLookup_eq_fast]; kernel_rfl
end F
section
variable {prog : Program} {w : World} {A : Around} {E : Value → Shared → Prop} {s : Shared}
/-- an iterator that lays a new object at each turn -/
structure NewSrc (prog : Program) (w : World) (A : Around) (e : Addr) (wr fp : List Addr) (n : Nat) (PT : Nat → Obj → Prop) (St : Nat → Heap → Prop) : Prop where
  frame : ∀ i h h' S, St i h → S ∉ fp → (∀ b o, b ≠ S → h.get? b = some o → h'.get? b = some o) → (∀ o, h.get? S = some o → ∃ o', h'.get? S = some o') → St i h'
  item : ∀ i (s : Shared) (Q : Option Value → Shared → Prop) (E : Value → Shared → Prop), i < n → St i s.heap →
    (∀ h' tk o, PT i o → St (i + 1) h' → h'.get? s.heap.objs.size = some o → h'.objs.size = s.heap.objs.size + 1 → (∀ b o, b ∉ wr → s.heap.get? b = some o → h'.get? b = some o) → Q (some (.ref s.heap.objs.size)) { s with heap := h', toks := tk }) → wpAny (model prog w) A (pyNext (.ref e)) Q E s
  done : ∀ (s : Shared) (Q : Option Value → Shared → Prop) (E : Value → Shared → Prop), St n s.heap → (∀ h' tk, (∀ b o, b ∉ wr → s.heap.get? b = some o → h'.get? b = some o) → Q none { s with heap := h', toks := tk }) → wpAny (model prog w) A (pyNext (.ref e)) Q E s
  sub : ∀ b ∈ wr, b ∈ fp
/-- the objects laid so far -/
structure NwG (PT : Nat → Obj → Prop) (lo : Addr) (h : Heap) (as : List Addr) : Prop where
  asc : as.Pairwise (· < ·)
  above : ∀ a ∈ as, lo < a
  at_ : ∀ (j : Nat) (a : Addr), as[j]? = some a → ∃ o, PT j o ∧ h.get? a = some o
theorem nw_loop {R : Result → Shared → Prop} {S e : Addr} {wr fp : List Addr} {n : Nat} {PT : Nat → Obj → Prop} {St : Nat → Heap → Prop} (D : NewSrc prog w A.in1 e wr fp n PT St) {lo : Addr} (hS : S ∉ fp) (loS : S ≤ lo) (low : ∀ b ∈ wr, b ≤ lo) (hn : n ≤ sizeLine) (res : Value) {h1 : Heap}
    (hR : ∀ h' tk acc c as, (∀ b o, b ≠ S → b ∉ wr → h1.get? b = some o → h'.get? b = some o) → h'.get? S = some { cls := .type "list", dict := none, data := .seq acc c, slots := #[] } → as.length = n → NwG PT lo h' as →
      acc.toList = as.map Value.ref → R (.ok (.ret res)) { s with heap := h', toks := tk }) :
    ∀ (k i : Nat) (h : Heap) (tk c : Nat) (acc : Array Value) (as : List Addr), n - i = k → i ≤ n → St i h → (∀ b o, b ≠ S → b ∉ wr → h1.get? b = some o → h.get? b = some o) →
      h.get? S = some { cls := .type "list", dict := none, data := .seq acc c, slots := #[] } → acc.toList = as.map Value.ref → as.length = i → NwG PT lo h as → (∀ a ∈ as, a < h.objs.size) → lo < h.objs.size →
      codeAny (model prog w) A (.builtin "list.extend.loop" ⟨[.ref S, .ref e, res], []⟩) R { s with heap := h, toks := tk } := by
  have Sw : S ∉ wr := fun z => hS (D.sub _ z)
  intro k
  induction k with
  | zero =>
    intro i h tk c acc as hk hi hst hkeep hSo hacc hal hG hlt hlo
    have hin : i = n := by omega
    subst hin
    refine codeAny_builtin PySem.F.entry_extend_loop (?_)
    rw [Around.under_plainId PySem.F.plain_extend_loop _]
    show wpAny _ A.in1 (pyNext (.ref e) >>= _) _ _ _
    refine wpAny_bind (D.done { s with heap := h, toks := tk } _ _ hst fun h' tk' hx => ?_)
    refine wpAny_pure (hR h' tk' acc c as (fun b o n1 n2 q => hx b o n2 (hkeep b o n1 n2 q)) (hx S _ Sw hSo) hal ⟨hG.asc, hG.above, fun j a hj => ?_⟩ hacc)
    obtain ⟨o, q1, q2⟩ := hG.at_ j a hj
    refine ⟨o, q1, hx a _ (fun z => ?_) q2⟩
    have g1 := hG.above a (List.mem_of_getElem? hj)
    have g2 := low a z
    exact Nat.lt_irrefl _ (Nat.lt_of_lt_of_le g1 g2)
  | succ k ih =>
    intro i h tk c acc as hk hi hst hkeep hSo hacc hal hG hlt hlo
    have hlt' : i < n := by omega
    have accz : acc.size = i := by rw [← Array.length_toList, hacc, List.length_map, hal]
    refine codeAny_builtin PySem.F.entry_extend_loop (?_)
    rw [Around.under_plainId PySem.F.plain_extend_loop _]
    show wpAny _ A.in1 (pyNext (.ref e) >>= _) _ _ _
    have hSlt : S < h.objs.size := Heap.lt_size hSo
    refine wpAny_bind (D.item i { s with heap := h, toks := tk } _ _ hlt' hst fun h' t oT hx hst' ht hz hkp => ?_)
    dsimp only at ht hz hkp ⊢
    have hS' := hkp S _ Sw hSo
    have up : ∀ b o, b ≠ S → h'.get? b = some o → (h'.update S (Obj.mapSeq (·.push (Value.ref h.objs.size)))).get? b = some o := fun b o hb q => (Heap.get?_update_other _ _ (Ne.symm hb)).trans q
    have upS := Heap.get?_update_self (Obj.mapSeq (·.push (Value.ref h.objs.size))) hS' rfl
    have sz : ((h'.update S (Obj.mapSeq (·.push (Value.ref h.objs.size)))).objs.size) > h.objs.size := Heap.lt_size (up _ _ (Nat.ne_of_gt hSlt) ht)
    show wpAny _ A.in1 (updateSeq S (·.push (Value.ref h.objs.size)) >>= _) _ _ _
    refine wpAny_bind ?_
    refine wpAny_updateSeq hS' rfl (wpAny_pure ⟨plainId_quiet PySem.F.plain_extend_loop _, ih (i + 1) _ t _ (acc.push (Value.ref h.objs.size)) (as ++ [h.objs.size]) (by omega) hlt'
      (D.frame _ _ _ S hst' hS up fun o q => ⟨_, upS⟩) (fun b o n1 n2 q => up b o n1 (hkp b o n2 (hkeep b o n1 n2 q))) upS (by rw [Array.toList_push, hacc, List.map_append]; rfl) (by rw [List.length_append, hal]; rfl) ⟨?_, ?_, ?_⟩ ?_ (Nat.lt_trans hlo sz)⟩)
      (by rw [accz]; omega) (by show (acc.push (Value.ref h.objs.size)).size ≤ sizeLine + 1; rw [Array.size_push, accz]; omega)
    · exact List.pairwise_append.mpr ⟨hG.asc, List.pairwise_singleton _ _, fun a ha b hb => by
        rw [List.mem_singleton.mp hb]
        exact hlt a ha⟩
    · intro a ha
      rcases List.mem_append.mp ha with ha | ha
      · exact hG.above a ha
      · rw [List.mem_singleton.mp ha]; exact hlo
    · intro j b hj
      rcases Nat.lt_trichotomy j as.length with q | q | q
      · rw [List.getElem?_append_left q] at hj
        obtain ⟨y, q1, q2⟩ := hG.at_ j b hj
        have gb := hG.above b (List.mem_of_getElem? hj)
        exact ⟨y, q1, up b _ (Nat.ne_of_gt (Nat.lt_of_le_of_lt loS gb)) (hkp b _ (fun z => Nat.lt_irrefl _ (Nat.lt_of_lt_of_le gb (low b z))) q2)⟩
      · subst q
        have eb : h.objs.size = b := by simpa using hj
        subst eb
        subst hal
        exact ⟨oT, hx, up _ _ (Nat.ne_of_gt hSlt) ht⟩
      · rw [List.getElem?_eq_none (by rw [List.length_append, List.length_singleton]; omega)] at hj
        cases hj
    · intro a ha
      rcases List.mem_append.mp ha with ha | ha
      · exact Nat.lt_trans (hlt a ha) sz
      · rw [List.mem_singleton.mp ha]; exact sz
/-- list(e), e such an iterator at its beginning -/
theorem nw_list {T : String} {e : Addr} {wr fp : List Addr} {n : Nat} {PT : Nat → Obj → Prop} {St : Nat → Heap → Prop} {Q : Value → Shared → Prop} (c1 : (Value.type T == Value.type "list") = false) (c2 : (Value.type T == Value.type "tuple") = false)
    (t1 : typeLookup (.type T) "__len__" = pure none) (t2 : typeLookup (.type T) "__length_hint__" = pure none)
    (D : ∀ A' : Around, A'.handled = none → NewSrc prog w A' e wr fp n PT St) (hh : A.handled = none) (hfp : ∀ b ∈ fp, b < s.heap.objs.size) (he : e < s.heap.objs.size)
    (hty : ∀ h' g d t os, St 0 h' → Shared.TypeIs ⟨h', g, d, t, os⟩ (.ref e) T) (hself : ∀ (A' : Around) (s' : Shared) (Q' : Value → Shared → Prop) (E' : Value → Shared → Prop), St 0 s'.heap → Q' (.ref e) s' → wpAny (model prog w) A' (pyIter (.ref e)) Q' E' s') (hst : St 0 s.heap) (hn : n ≤ sizeLine)
    (hQ : ∀ h' tk acc c as, (∀ b o, b ∉ wr → s.heap.get? b = some o → h'.get? b = some o) → h'.get? s.heap.objs.size = some { cls := .type "list", dict := none, data := .seq acc c, slots := #[] } → as.length = n → NwG PT s.heap.objs.size h' as →
      acc.toList = as.map Value.ref → Q (.ref s.heap.objs.size) { s with heap := h', toks := tk }) :
    wpAny (model prog w) A (call (.type "list") [.ref e]) Q E s := by
  refine callType_codes (Q₁ := fun obj t => obj = .ref s.heap.objs.size ∧ t = { s with heap := s.heap.push { cls := .type "list", data := .seq #[] } }) PySem.F.called_list (PySem.F.typeCall_list_1 _) PySem.F.entry_list_init (code_list_new _ ⟨rfl, rfl⟩) fun obj t ⟨z1, z2⟩ => ?_
  subst z1; subst z2
  have at0 : (s.heap.push { cls := .type "list", data := .seq #[] }).get? s.heap.objs.size = some { cls := .type "list", data := .seq #[] } := Heap.get?_push_size _ rfl
  refine ⟨⟨_, at0, rfl⟩, PySem.F.args_list_init_2 _ _, ?_⟩
  show wpAny _ _ (do let old ← Builtin.List.listItems (.ref s.heap.objs.size); Builtin.List.listUpdate (.ref s.heap.objs.size) (fun _ => #[]); letGo old.toList.reverse; Builtin.List.listExtendWith (.ref s.heap.objs.size) (.ref e) .none) _ _ _
  unfold Builtin.List.listItems
  refine wpAny_bind (wpAny_bind (wpAny_seqItems at0 rfl (wpAny_pure ?_)))
  show wpAny _ _ (updateSeq s.heap.objs.size (fun _ => #[]) >>= fun _ => letGo (#[] : Array Value).toList.reverse >>= fun _ => Builtin.List.listExtendWith (.ref s.heap.objs.size) (.ref e) .none) _ _ _
  refine wpAny_bind (wpAny_updateSeq at0 rfl (wpAny_bind (wpAny_letGo ?_)))
  have at1 := Heap.get?_update_self (Obj.mapSeq (fun _ => (#[] : Array Value))) at0 rfl
  generalize eh1 : (s.heap.push { cls := .type "list", data := .seq #[] }).update s.heap.objs.size (Obj.mapSeq (fun _ => (#[] : Array Value))) = h1 at at1
  have k1 : ∀ b o, s.heap.get? b = some o → h1.get? b = some o := fun b o q => by
    rw [← eh1]
    exact (Heap.get?_update_other _ _ (Ne.symm (Nat.ne_of_lt (Heap.lt_size q)))).trans (Heap.get?_push_of_some _ q)
  have hSf : s.heap.objs.size ∉ fp := fun z => Nat.lt_irrefl _ (hfp _ z)
  have D0 := D A hh
  have st1 : St 0 h1 := D0.frame _ _ _ _ hst hSf (fun b o _ q => k1 b o q) fun o q => absurd (Heap.lt_size q) (Nat.lt_irrefl _)
  have D1 := D A.in1.in1 (by simp [hh])
  have ref1 : Builtin.List.listSameRef (.ref s.heap.objs.size) (.ref e) = false := by
    simp only [Builtin.List.listSameRef, beq_eq_false_iff_ne]
    exact fun z => Nat.ne_of_gt he z
  unfold Builtin.List.listExtendWith
  refine wpAny_bind (wpAny_typeOf (T := T) (hty _ _ _ _ _ st1) ?_)
  simp only [ref1, c1, c2, Bool.or_false, Bool.false_eq_true, if_false]
  refine wpAny_bind (hself _ _ _ _ st1 (wpAny_bind (wpAny_holding ?_)))
  unfold Builtin.List.listLengthHint
  refine wpAny_bind (wpAny_specialOf (hty _ _ _ _ _ st1) t1 (?_ : wpAny _ _ (specialOf (Value.ref e) (Str.ofString "__length_hint__") >>= _) _ _ _))
  refine wpAny_bind (wpAny_specialOf (hty _ _ _ _ _ st1) t2 (wpAny_pure ?_))
  show wpAny _ _ (rule "list.extend.makes-room" >>= fun _ => Builtin.List.listTouch (.ref s.heap.objs.size) >>= fun _ => again (.builtin "list.extend.loop" ⟨[.ref s.heap.objs.size, .ref e, .none], []⟩)) _ _ _
  refine wpAny_bind (wpAny_rule (wpAny_bind (?_ : wpAny _ _ (updateSeq s.heap.objs.size (·.push .none) >>= fun _ => updateSeq s.heap.objs.size (·.pop)) _ _ _)))
  refine wpAny_bind (wpAny_updateSeq at1 rfl ?_)
  have at2 := Heap.get?_update_self (Obj.mapSeq (·.push Value.none)) at1 rfl
  refine wpAny_updateSeq (hz := by seq_fits) at2 rfl ?_
  have at3 := Heap.get?_update_self (Obj.mapSeq (·.pop)) at2 rfl
  have oth : ∀ b o, b ≠ s.heap.objs.size → h1.get? b = some o → ((h1.update s.heap.objs.size (Obj.mapSeq (·.push Value.none))).update s.heap.objs.size (Obj.mapSeq (·.pop))).get? b = some o :=
    fun b o hb q => (Heap.get?_update_other _ _ (Ne.symm hb)).trans ((Heap.get?_update_other _ _ (Ne.symm hb)).trans q)
  generalize eh3 : (h1.update s.heap.objs.size (Obj.mapSeq (·.push Value.none))).update s.heap.objs.size (Obj.mapSeq (·.pop)) = h3 at at3 oth
  refine wpAny_pure ⟨plainId_quiet PySem.F.plain_extend_loop _, nw_loop (s := s) (lo := s.heap.objs.size) (h1 := s.heap) D1 hSf (Nat.le_refl _) (fun b hb => Nat.le_of_lt (hfp b (D1.sub b hb))) hn .none (fun h' tk acc c as kp hS hal hG hacc => ?_)
    n 0 h3 _ _ #[] [] (Nat.sub_zero _) (Nat.zero_le _) (D0.frame _ _ _ _ st1 hSf oth fun o q => ⟨_, at3⟩)
      (fun b o n1 n2 q => oth b o n1 (k1 b o q)) at3 rfl rfl ⟨List.Pairwise.nil, (fun _ ha => nomatch ha), (fun j a hj => by simp at hj)⟩ (fun _ ha => nomatch ha) (Heap.lt_size at3)⟩
  exact ⟨rfl, hQ h' tk acc c as (fun b o n2 q => kp b o (Nat.ne_of_lt (Heap.lt_size q)) n2 q) hS hal hG hacc⟩
/-- a zip of two lists, at any turn -/
def ZpAt (z TI TO i1 i2 l1 l2 : Addr) (xs ys : Array Value) (i : Nat) (h : Heap) : Prop := IsPair h TI (.ref i1) (.ref i2) ∧ h.IsListIter i1 l1 i ∧ h.IsListIter i2 l2 i ∧ h.IsList l1 xs ∧ h.IsList l2 ys ∧
  ((IsZip h z TI TO .none ∧ ∃ a b, IsPair h TO a b) ∨ ∃ T f oT, IsZipHeld h z TI TO T f ∧ h.get? T = some oT ∧ T ≠ z ∧ T ≠ i1 ∧ T ≠ i2)
theorem zip_src {z TI TO i1 i2 l1 l2 : Addr} {xs ys : Array Value} (D : ZipApart z TI TO i1 i2 l1 l2) {A' : Around} (hA : A'.handled = none) :
    NewSrc prog w A' z [z, TO, i1, i2] [z, TI, TO, i1, i2, l1, l2] (min xs.size ys.size) (fun i o => ∃ x y, xs[i]? = some x ∧ ys[i]? = some y ∧ o = { cls := .type "tuple", data := .seq #[x, y] }) (ZpAt z TI TO i1 i2 l1 l2 xs ys) where
  sub := fun b hb => by simp at hb ⊢; rcases hb with rfl | rfl | rfl | rfl <;> simp
  frame := fun i h h' S st hS hk hl => by
    simp only [List.mem_cons, List.not_mem_nil, or_false, not_or] at hS
    obtain ⟨dz, dTI, dTO, di1, di2, dl1, dl2⟩ := hS
    obtain ⟨hTI, h1, h2, hl1, hl2, hz⟩ := st
    refine ⟨hk _ _ (Ne.symm dTI) hTI, h1.at fun o e => hk _ o (Ne.symm di1) e, h2.at fun o e => hk _ o (Ne.symm di2) e, hl1.at fun o e => hk _ o (Ne.symm dl1) e, hl2.at fun o e => hk _ o (Ne.symm dl2) e, ?_⟩
    rcases hz with ⟨hz, a, b, hTO⟩ | ⟨T, f, oT, hz, hT, r1, r2, r3⟩
    · exact .inl ⟨hk _ _ (Ne.symm dz) hz, a, b, hk _ _ (Ne.symm dTO) hTO⟩
    · by_cases e : T = S
      · subst e
        obtain ⟨o', ho⟩ := hl _ hT
        exact .inr ⟨T, f, o', hk _ _ (Ne.symm dz) hz, ho, r1, r2, r3⟩
      · exact .inr ⟨T, f, oT, hk _ _ (Ne.symm dz) hz, hk _ _ e hT, r1, r2, r3⟩
  item := fun i s₁ Q₁ E₁ hi st hQ => by
    obtain ⟨hTI, h1, h2, hl1, hl2, hz⟩ := st
    have hix : i < xs.size := Nat.lt_of_lt_of_le hi (Nat.min_le_left ..)
    have hiy : i < ys.size := Nat.lt_of_lt_of_le hi (Nat.min_le_right ..)
    have ex := Array.getElem?_eq_getElem hix
    have ey := Array.getElem?_eq_getElem hiy
    have lt : ∀ {c o}, s₁.heap.get? c = some o → s₁.heap.objs.size ≠ c := fun e => Nat.ne_of_gt (Heap.lt_size e)
    have n1 : s₁.heap.objs.size ≠ i1 := let ⟨_, e, _⟩ := h1; lt e
    have n2 : s₁.heap.objs.size ≠ i2 := let ⟨_, e, _⟩ := h2; lt e
    rcases hz with ⟨hz, a, b, hTO⟩ | ⟨T, f, oT, hz, hT, r1, r2, r3⟩
    · refine wpAny_pyNext_zip_item D hz hTI hTO h1 h2 hl1 hl2 ex ey fun h' a1 a2 a3 a4 a5 a6 hk => ?_
      exact hQ h' s₁.toks _ ⟨_, _, ex, ey, rfl⟩
        ⟨hk _ _ D.TIz D.TITO D.TIi1 D.TIi2 hTI, a3, a4, hl1.at fun o e => hk _ o D.l1z D.l1TO D.l1i1 D.l1i2 e, hl2.at fun o e => hk _ o D.l2z D.l2TO D.l2i1 D.l2i2 e,
          .inr ⟨s₁.heap.objs.size, false, _, a1, a5, lt hz, n1, n2⟩⟩ a5 a6
        fun c o hc e => hk c o (fun x => hc (by simp [x])) (fun x => hc (by simp [x])) (fun x => hc (by simp [x])) (fun x => hc (by simp [x])) e
    · refine wpAny_pyNext_zip_item_held D hz hT hTI h1 h2 hl1 hl2 ex ey fun h' a1 a3 a4 a5 a6 hk => ?_
      exact hQ h' s₁.toks _ ⟨_, _, ex, ey, rfl⟩
        ⟨hk _ _ D.TIz D.TIi1 D.TIi2 hTI, a3, a4, hl1.at fun o e => hk _ o D.l1z D.l1i1 D.l1i2 e, hl2.at fun o e => hk _ o D.l2z D.l2i1 D.l2i2 e,
          .inr ⟨T, true, oT, a1, hk _ _ r1 r2 r3 hT, r1, r2, r3⟩⟩ a5 a6
        fun c o hc e => hk c o (fun x => hc (by simp [x])) (fun x => hc (by simp [x])) (fun x => hc (by simp [x])) e
  done := fun s₁ Q₁ E₁ st hQ => by
    obtain ⟨hTI, h1, h2, hl1, hl2, hz⟩ := st
    have hend : xs[min xs.size ys.size]? = none ∨ ys[min xs.size ys.size]? = none := by
      rcases Nat.le_total xs.size ys.size with h | h
      · exact .inl (Array.getElem?_eq_none (by rw [Nat.min_eq_left h]; exact Nat.le_refl _))
      · exact .inr (Array.getElem?_eq_none (by rw [Nat.min_eq_right h]; exact Nat.le_refl _))
    rcases hz with ⟨hz, a, b, hTO⟩ | ⟨T, f, oT, hz, hT, r1, r2, r3⟩
    · exact wpAny_pyNext_zip_end hA D hz hTI hTO h1 h2 hl1 hl2 hend fun h' hk => hQ h' s₁.toks fun c o hc e => hk c o (fun x => hc (by simp [x])) (fun x => hc (by simp [x])) (fun x => hc (by simp [x])) (fun x => hc (by simp [x])) e
    · exact wpAny_pyNext_zip_end_held hA D hz hT hTI h1 h2 hl1 hl2 hend fun h' hk => hQ h' s₁.toks fun c o hc e => hk c o (fun x => hc (by simp [x])) (fun x => hc (by simp [x])) (fun x => hc (by simp [x])) e
theorem ZpAt.type {z TI TO i1 i2 l1 l2 : Addr} {xs ys : Array Value} {i : Nat} (x : ZpAt z TI TO i1 i2 l1 l2 xs ys i s.heap) : s.TypeIs (.ref z) "zip" := by
  rcases x.2.2.2.2.2 with ⟨hz, _⟩ | ⟨T, f, oT, hz, _⟩ <;> exact ⟨_, hz, rfl⟩
theorem zp_self {z TI TO i1 i2 l1 l2 : Addr} {xs ys : Array Value} {i : Nat} (x : ZpAt z TI TO i1 i2 l1 l2 xs ys i s.heap) {Q : Value → Shared → Prop} (h : Q (.ref z) s) : wpAny (model prog w) A (pyIter (.ref z)) Q E s := by
  rcases x.2.2.2.2.2 with ⟨hz, _⟩ | ⟨T, f, oT, hz, _⟩
  · exact wpAny_pyIter_zip hz h
  · exact wpAny_pyIter_slot ⟨_, hz, rfl⟩ F.slot_zip_iter (wpAny_call_entry F.slot_zip_iter ⟨_, hz, rfl⟩ F.entry_zip_iter (wpAny_pure ⟨_, rfl, "zip", _, ⟨_, hz, rfl⟩, F.slot_zip_next.lookup, h⟩) (F.args_zip_iter_1 _))
end
end PySem

/-! The data layer, part 28: list(zip(xs, ys)) on data. -/
namespace DL
open PySem PySem.Spec PyProof.Rows L2
def layP (H : Hp) : List Addr → List (V × V) → Hp
  | a :: as, z :: zs => layP (upd H a (.tup [z.1, z.2])) as zs
  | _, _ => H
theorem layP_out : ∀ (as : List Addr) (H : Hp) (zs : List (V × V)) (b : Addr), b ∉ as → layP H as zs b = H b
  | [], _, _, _, _ => rfl
  | a :: as, H, [], _, _ => rfl
  | a :: as, H, z :: zs, b, h => by
    simp only [List.mem_cons, not_or] at h
    unfold layP
    rw [layP_out as _ _ _ h.2, upd_ne h.1]
theorem layP_in : ∀ (as : List Addr) (H : Hp) (zs : List (V × V)) (i : Nat) (b : Addr) (z : V × V), as.Nodup → as[i]? = some b → zs[i]? = some z → layP H as zs b = some (.tup [z.1, z.2])
  | [], _, _, _, _, _, _, h, _ => by cases h
  | a :: as, H, [], i, _, _, _, _, h => by cases h
  | a :: as, H, y :: zs, 0, b, z, nd, h1, h2 => by
    cases h1
    cases h2
    unfold layP
    rw [layP_out as _ _ _ (List.nodup_cons.mp nd).1, upd_same]
  | a :: as, H, y :: zs, i + 1, b, z, nd, h1, h2 => by
    unfold layP
    exact layP_in as (upd H a (.tup [y.1, y.2])) zs i b z (List.nodup_cons.mp nd).2 h1 h2
section
variable {K : PySem.W.Frag} {mg : Str → Option Value} {Z φ : List Addr} {S : Store}
theorem dat_layP : ∀ (as : List Addr) (H : Hp) (ds es : List D) (vs us : List V), as.length = (vs.zip us).length → as.Nodup → (∀ b ∈ as, H b = none) → Rel K mg Z φ S H → DatL K mg φ (gnd Z φ S H) ds vs → DatL K mg φ (gnd Z φ S H) es us →
    Rel K mg Z φ S (layP H as (vs.zip us)) ∧ Evo Z φ S H φ S (layP H as (vs.zip us)) ∧ DatL K mg φ (gnd Z φ S (layP H as (vs.zip us))) (zipD ds es) (as.map V.ref)
  | as, H, [], es, vs, us, hl, _, _, R, d, _ => by
    unfold DatL at d
    subst d
    cases as with
    | nil => exact ⟨R, Evo.refl, DatL.nil⟩
    | cons a as => simp at hl
  | as, H, d :: ds, [], vs, us, hl, _, _, R, _, d' => by
    unfold DatL at d'
    subst d'
    cases as with
    | nil =>
      have : zipD (d :: ds) [] = [] := by simp [zipD]
      rw [this]
      have e : layP H [] (vs.zip []) = H := by simp [layP]
      rw [e]
      exact ⟨R, Evo.refl, DatL.nil⟩
    | cons a as => simp at hl
  | [], H, d :: ds, e :: es, vs, us, hl, _, _, R, dd, dd' => by
    obtain ⟨v, r, rfl, h1, h2⟩ := dd.uncons
    obtain ⟨u, q, rfl, g1, g2⟩ := dd'.uncons
    simp at hl
  | a :: as, H, d :: ds, e :: es, vs, us, hl, nd, hn, R, dd, dd' => by
    obtain ⟨v, r, rfl, h1, h2⟩ := dd.uncons
    obtain ⟨u, q, rfl, g1, g2⟩ := dd'.uncons
    have d1 : DatL K mg φ (gnd Z φ S H) [d, e] [v, u] := .cons h1 (.cons g1 DatL.nil)
    obtain ⟨R1, E1, t1⟩ := dat_newT R d1 (hn a List.mem_cons_self)
    obtain ⟨n1, n2⟩ := List.nodup_cons.mp nd
    obtain ⟨R2, E2, t2⟩ := dat_layP as (upd H a (.tup [v, u])) ds es r q (by simpa using hl) n2 (fun b hb => by
      rw [upd_ne (fun z => n1 (by rw [← z]; exact hb))]
      exact hn b (List.mem_cons_of_mem _ hb)) R1 (DatL.evo E1 h2) (DatL.evo E1 g2)
    refine ⟨R2, E1.trans E2, ?_⟩
    exact .cons (Dat.evo E2 t1) t2
end
section
variable {X : Cx} {W : WX} {k : Nat} {a b : Expr} {fa : FA} {pos p p2 q2 : Pos}
def tListZip (K : PySem.W.Frag) (ta : TA) : TE := fun σ H Q => ta σ H fun vs H1 => ∃ l m xs ys, vs = [.ref l, .ref m] ∧ SqL K H1 l xs ∧ SqL K H1 m ys ∧ ∀ p as, as.length = (xs.zip ys).length → (p :: as).Nodup → (∀ b ∈ p :: as, H1 b = none) →
  Q (.ref p) (upd (layP H1 as (xs.zip ys)) p (.lst (as.map V.ref)))
abbrev zipPT (its its2 : List Value) : Nat → Obj → Prop := fun i o => ∃ x y, its.toArray[i]? = some x ∧ its2.toArray[i]? = some y ∧ o = { cls := .type "tuple", data := .seq #[x, y] }
theorem listZip_inv {pins : List (Addr × Obj)} {σ : L2.St} {H : Hp} {s : Shared} {xs ys : List V} {its its2 : List Value} {p : Addr} {h' : Heap} {tk : Nat} {acc : Array Value} {cc : Nat} {as : List Addr} (I : L2.Inv X pins σ H s) (rv : Vals xs its) (rv2 : Vals ys its2) (hz : xs.length ≤ sizeLine)
    (hk : ∀ b o, s.heap.get? b = some o → h'.get? b = some o) (hp : s.heap.objs.size ≤ p) (hS : h'.get? p = some { cls := .type "list", dict := none, data := .seq acc cc, slots := #[] }) (hl : as.length = min its.toArray.size its2.toArray.size) (g : NwG (zipPT its its2) p h' as) (hacc : acc.toList = as.map Value.ref) :
    L2.Inv X pins σ (upd (layP H as (xs.zip ys)) p (.lst (as.map V.ref))) { s with heap := h', toks := tk } ∧ as.length = (xs.zip ys).length ∧ (p :: as).Nodup ∧ ∀ b ∈ p :: as, H b = none := by
  have nd : as.Nodup := g.asc.imp fun h => Nat.ne_of_lt h
  have ln : as.length = (xs.zip ys).length := by
    rw [hl, List.size_toArray, List.size_toArray, List.length_zip, rv.length, rv2.length]
  have up : ∀ b ∈ as, p < b := g.above
  have npa : p ∉ as := fun z => Nat.lt_irrefl _ (up p z)
  have fr : ∀ b ∈ p :: as, H b = none := fun b hb => by
    rcases List.mem_cons.mp hb with z | z
    · rw [z]; exact I.hok.fresh hp
    · exact I.hok.fresh (Nat.le_trans hp (Nat.le_of_lt (up b z)))
  refine ⟨inv_lay I hk (fun b o q => ?_) fun b o e n => ?_, ln, List.nodup_cons.mpr ⟨npa, nd⟩, fr⟩
  · have hb : b ∉ p :: as := fun z => by
      rw [fr b z] at q
      cases q
    simp only [List.mem_cons, not_or] at hb
    rw [upd_ne hb.1, layP_out _ _ _ _ hb.2]
    exact q
  · by_cases hb : b = p
    · subst hb
      rw [upd_same] at e
      cases e
      refine ⟨hp, by rw [List.length_map, ln, List.length_zip]; omega, acc.toList, cc, ?_, by simpa using hS⟩
      rw [hacc]
      exact vals_refs as
    · rw [upd_ne hb] at e
      by_cases ha : b ∈ as
      · obtain ⟨i, hi⟩ := List.getElem?_of_mem ha
        obtain ⟨o', ⟨y, y2, q1, q1', rfl⟩, q2⟩ := g.at_ i b hi
        have get : ∀ {zs : List V} {jts : List Value} {y : Value}, Vals zs jts → jts.toArray[i]? = some y → ∃ x, zs[i]? = some x ∧ RelV x y := fun rv q1 => by
          have q1' := by simpa using q1
          rename_i zs jts y
          have hi' : i < zs.length := by
            have := (List.getElem?_eq_some_iff.mp q1').1
            rw [rv.length]
            exact this
          obtain ⟨u, hu, ru⟩ := rv.get (List.getElem?_eq_getElem hi')
          rw [q1'] at hu
          cases hu
          exact ⟨_, List.getElem?_eq_getElem hi', ru⟩
        obtain ⟨x, hx, rx⟩ := get rv q1
        obtain ⟨x2, hx2, rx2⟩ := get rv2 q1'
        have hzz : (xs.zip ys)[i]? = some (x, x2) := by rw [List.getElem?_zip_eq_some]; exact ⟨hx, hx2⟩
        rw [layP_in as H _ i b (x, x2) nd hi hzz] at e
        cases e
        exact ⟨Nat.le_trans hp (Nat.le_of_lt (up b ha)), by show 2 ≤ sizeLine; decide, [y, y2], .cons rx (.cons rx2 .nil), _, q2, rfl, 0, rfl⟩
      · rw [layP_out _ _ _ _ ha, n] at e
        cases e
theorem pe_listZip {ta : TA} (C : Cn X W k) (hg : Gl X "list") (hm : X.mg "list" = none) (hg2 : Gl X "zip") (hm2 : X.mg "zip" = none) (ha : PA X [a, b] ta) (na : starEach [a, b] X.env = (false, eval a X.env) :: starEach [b] X.env := by rfl) (hpl : (backTo q2 (starEach [b] X.env)).any (·.1) = false := by rfl) :
    PE X (.Call (.Name "list" p) [.Call (.Name "zip" p2) [a, b] [] q2] [] pos) (tListZip X.K ta) := by
  refine ⟨fun pins s σ H Q I h => ?_⟩
  refine PyProof.Rows.Call_ (ld_blt I hg hm (by rfl) ?_)
  refine PyProof.Rows.callWith_type1 (PyProof.Rows.args_cons ?_ rfl) rfl rfl
  refine PyProof.Rows.Call_ (ld_blt I hg2 hm2 (by rfl) (PyProof.Rows.callWith_type1 (thn (ha.run q2 pins s σ H _ I h) fun us s1 ⟨vs, H1, I1, r1, q1⟩ => ?_) na hpl))
  obtain ⟨l, m, xs, ys, rfl, hqx, hqy, w1⟩ := q1
  rcases r1 with _ | ⟨e1, _ | ⟨e2, _ | _⟩⟩
  cases e1
  cases e2
  obtain ⟨its, rv, p1, hz⟩ := I1.list hqx
  obtain ⟨its2, rv2, p2', hz2⟩ := I1.list hqy
  refine call_zip_2 p1.isList p2'.isList fun h1 hz1 hTI hTO hi1 hi2 hsz hk => PyProof.Rows.args_nil ?_
  have D := PySem.W.ktu_apart s1.heap.objs.size l m p1.lt p2'.lt
  have st : ZpAt (s1.heap.objs.size + 4) (s1.heap.objs.size + 2) (s1.heap.objs.size + 3) s1.heap.objs.size (s1.heap.objs.size + 1) l m its.toArray its2.toArray 0 h1 := ⟨hTI, hi1, hi2, p1.isList.at fun o e => hk _ o e, p2'.isList.at fun o e => hk _ o e, .inl ⟨hz1, _, _, hTO⟩⟩
  refine nw_list (s := { s1 with heap := h1 }) (T := "zip") (by decide) (by decide) F.zip_no_size F.zip_no_guess (fun A' hA => zip_src D hA) (I1.ok.hd C.calm) (fun c hc => ?_) (Heap.lt_size hz1) (fun h' g d t os x => ZpAt.type x) (fun A' s' Q' E' x q => zp_self x q) st (by simp only [List.size_toArray]; rw [← rv.length]; exact Nat.le_trans (Nat.min_le_left ..) hz) fun h' tk acc cc as kp hS hal g hacc => ?_
  · have a1 := p1.lt
    have a2 := p2'.lt
    simp only [List.mem_cons, List.not_mem_nil, or_false] at hc
    show c < h1.objs.size
    rw [hsz]
    have t5 : ∀ k : Nat, k < 5 → s1.heap.objs.size + k < s1.heap.objs.size + 5 := fun k h => Nat.add_lt_add_left h _
    rcases hc with z | z | z | z | z | z | z <;> rw [z]
    · exact t5 4 (by decide)
    · exact t5 2 (by decide)
    · exact t5 3 (by decide)
    · exact t5 0 (by decide)
    · exact t5 1 (by decide)
    · exact Nat.lt_of_lt_of_le a1 (Nat.le_add_right _ _)
    · exact Nat.lt_of_lt_of_le a2 (Nat.le_add_right _ _)
  · have hk' : ∀ c o, s1.heap.get? c = some o → h'.get? c = some o := fun c o q => kp c o (fun z => by
      have a1 := Heap.lt_size q
      simp only [List.mem_cons, List.not_mem_nil, or_false] at z
      rcases z with z | z | z | z <;> rw [z] at a1 <;> first | exact Nat.lt_irrefl _ a1 | exact Nat.not_lt_of_le (Nat.le_add_right _ _) a1) (hk c o q)
    obtain ⟨J, l1, l2, l3⟩ := listZip_inv (tk := tk) I1 rv rv2 hz hk' (by show s1.heap.objs.size ≤ h1.objs.size; omega) hS hal g hacc
    exact ⟨.ref h1.objs.size, _, J, rfl, w1 _ as l1 l2 l3⟩
def gLZip : GC := fun ds S => match ds with
  | [.lst xs, .lst ys] => .ok (.lst (zipD xs ys)) S
  | _ => .stuck
theorem de_listZip (C : Cn X W k) (hg : Gl X "list") (hm : X.mg "list" = none) (hg2 : Gl X "zip") (hm2 : X.mg "zip" = none) (ha : DA X W [a, b] fa) (na : starEach [a, b] X.env = (false, eval a X.env) :: starEach [b] X.env := by rfl) (hpl : (backTo q2 (starEach [b] X.env)).any (·.1) = false := by rfl) :
    DE X W (.Call (.Name "list" p) [.Call (.Name "zip" p2) [a, b] [] q2] [] pos) (fCB gLZip fa) := by
  obtain ⟨t, pp, q⟩ := ha.ex
  refine .mk (pe_listZip C hg hm hg2 hm2 pp na hpl) fun Z φ S ρ σ H Q R sl w => q Z φ S ρ σ H _ R sl (w.bind fun ds S1 vs φ1 H1 R1 E1 dd w1 => ?_)
  unfold gLZip at w1
  split at w1
  · rename_i xs ys
    obtain ⟨u, v, rfl, h1, h2⟩ := datL2 dd
    obtain ⟨l, us, rfl, g1, d1⟩ := dLst h1
    obtain ⟨m, ws, rfl, g2, d2⟩ := dLst h2
    refine ⟨l, m, us, ws, rfl, .of (gnd_some g1), .of (gnd_some g2), fun p as hl nd fr => ?_⟩
    obtain ⟨n1, n2⟩ := List.nodup_cons.mp nd
    obtain ⟨R2, E2, t2⟩ := dat_layP as H1 xs ys us ws hl n2 (fun b hb => fr b (List.mem_cons_of_mem _ hb)) R1 d1 d2
    obtain ⟨R3, E3, g3⟩ := dat_newL R2 t2 (p := p) (by rw [layP_out _ _ _ _ n1]; exact fr p List.mem_cons_self)
    exact w1 _ _ _ R3 (E2.trans E3) g3
  · exact w1.elim
@[simp] theorem e_gLZip (xs ys : List D) (S : Store) : gLZip [.lst xs, .lst ys] S = .ok (.lst (zipD xs ys)) S := rfl
end
end DL

/-! The data layer, part 29: the whole of a tuple as a slice; t[::-1]; int(truth). -/
namespace HT
open PySem PySem.Spec PyProof.Rows
section
variable {prog : Program} {w : World} {A : Around} {E : Value → Shared → Prop} {s : Shared}
theorem exact_ {t : Addr} {items : Array Value} {Q : Bool → Shared → Prop} (ht : IsTup s.heap t items) (h : Q true s) : wpAny (model prog w) A (Builtin.Tuple.tupleIsExact (.ref t)) Q E s := by
  unfold Builtin.Tuple.tupleIsExact
  refine wpAny_bind (wpAny_typeOf ht.typeIs (wpAny_pure ?_))
  simpa using h
theorem getItem_tuple_whole {t sl : Addr} {items : Array Value} {vl vu : Value} {lo hi : Option Int} {Q : Value → Shared → Prop} (ht : IsTup s.heap t items) (hs : s.heap.IsSliceOf sl vl vu .none) (pl : IsPart vl lo) (pu : IsPart vu hi)
    (h0 : sIx items.size 0 lo = 0) (h1 : sIx items.size items.size hi = items.size) (h : Q (.ref t) s) : wpAny (model prog w) A (getItem (.ref t) (.ref sl)) Q E s := by
  obtain ⟨os, hos, hcs, hds⟩ := id hs
  have hTs : s.TypeIs (.ref sl) "slice" := ⟨os, hos, hcs⟩
  unfold getItem
  try with_reducible refine wpAny_holding ?_
  first | refine wpAny_bind (wpAny_pure ?_) | skip
  refine wpAny_bind (wpAny_sequenceKey ht.typeIs (by decide) ?_)
  refine wpAny_bind (wpAny_callSpecial?_slot (name := Str.ofString "__getitem__") ht.typeIs PyProof.Rows.slot_tuple_getitem
    (wpAny_call_entry PyProof.Rows.slot_tuple_getitem ht.typeIs entry_tuple_getitem ?_ (args_tuple_getitem _ _)))
  show wpAny _ _ (Builtin.Tuple.tupleItemsOf (.ref t) >>= _) _ _ s
  refine wpAny_bind (tupleItemsOf_ ht ?_)
  refine wpAny_bind (wpAny_typeOf hTs ?_)
  rw [if_pos (by decide)]
  refine wpAny_bind (sliceApplied_gen hs pl pu ?_)
  rw [h0, h1]
  have hyes : (((0 : Nat) : Int) == 0 && (1 : Int) == 1 && (items.size - 0) == items.size) = true := by simp
  show wpAny _ _ (if (((0 : Nat) : Int) == 0 && (1 : Int) == 1 && (items.size - 0) == items.size) = true then _ else _) _ _ s
  rw [if_pos hyes]
  refine wpAny_bind (exact_ ht ?_)
  first
    | (simp only [if_true]; exact wpAny_bind (wpAny_rule (wpAny_pure ⟨_, rfl, wpAny_pure h⟩)))
    | (rw [if_pos rfl]; exact wpAny_bind (wpAny_rule (wpAny_pure ⟨_, rfl, wpAny_pure h⟩)))
    | (wp_walk; exact ⟨_, rfl, h⟩)
theorem sliceApplied_rev {sl : Addr} {vl vu vs : Value} {n : Nat} {Q : Int × Int × Nat → Shared → Prop} (hs : s.heap.IsSliceOf sl vl vu vs) (pl : IsPart vl none) (pu : IsPart vu none) (ps : IsPart vs (some (-1)))
    (h : Q ((n : Int) - 1, -1, n) s) : wpAny (model prog w) A (Builtin.Slice.sliceApplied (.ref sl) (pure (n : Int))) Q E s := by
  obtain ⟨os, hos, hcs, hds⟩ := id hs
  unfold Builtin.Slice.sliceApplied Builtin.Slice.sliceFields
  refine wpAny_bind (wpAny_bind (wpAny_field hos hds (x := vl) rfl (wpAny_bind (wpAny_field hos hds (x := vu) rfl (wpAny_bind (wpAny_field hos hds (x := vs) rfl (wpAny_pure ?_)))))))
  refine wpAny_bind (slicePart_ ps ?_)
  show wpAny _ _ (if ((-1 : Int) == 0) = true then _ else _) _ _ s
  rw [if_neg (by decide)]
  refine wpAny_bind (slicePart_ pl (wpAny_bind (slicePart_ pu (wpAny_bind (wpAny_pure ?_)))))
  have e1 : Builtin.Slice.sliceAdjust none none (-1) (n : Int) = ((n : Int) - 1, -1) := rfl
  have e2 : Builtin.Slice.slicePlaces ((n : Int) - 1) (-1) (-1) = n := by
    unfold Builtin.Slice.slicePlaces
    have h1 : ¬ ((-1 : Int) > 0) := by decide
    have e : (- (-1 : Int)) = 1 := by decide
    simp only [h1, if_false, e, Int.ediv_one]
    split <;> omega
  show wpAny _ _ (match Builtin.Slice.sliceAdjust none none (-1) (n : Int) with | (lo, hi) => pure (lo, (-1 : Int), Builtin.Slice.slicePlaces lo hi (-1))) _ _ s
  rw [e1]
  show wpAny _ _ (pure ((n : Int) - 1, (-1 : Int), Builtin.Slice.slicePlaces ((n : Int) - 1) (-1) (-1))) _ _ s
  rw [e2]
  exact wpAny_pure h
theorem pick_rev (xs : Array Value) : ((List.range xs.size).filterMap fun (m : Nat) => xs[((xs.size : Int) - 1 + (m : Int) * (-1)).toNat]?).toArray = xs.toList.reverse.toArray := by
  have e : (fun (m : Nat) => xs[((xs.size : Int) - 1 + (m : Int) * (-1)).toNat]?) = (fun i => xs[i]?) ∘ fun k => xs.size - 1 - k := by
    funext m
    show _ = xs[xs.size - 1 - m]?
    have : ((xs.size : Int) - 1 + (m : Int) * (-1)).toNat = xs.size - 1 - m := by omega
    rw [this]
  rw [e, ← List.filterMap_map, PySem.W.krv_range, List.filterMap_reverse, PySem.W.krv_all]
theorem getItem_tuple_rev {t sl : Addr} {items : Array Value} {vl vu vs : Value} {Q : Value → Shared → Prop} (ht : IsTup s.heap t items) (hs : s.heap.IsSliceOf sl vl vu vs) (pl : IsPart vl none) (pu : IsPart vu none) (ps : IsPart vs (some (-1)))
    (h : Q (.ref s.heap.objs.size) { s with heap := s.heap.push { cls := .type "tuple", data := .seq items.toList.reverse.toArray } })
    (hsz : items.size ≤ sizeLine) : wpAny (model prog w) A (getItem (.ref t) (.ref sl)) Q E s := by
  have htake : sizeOk (.seq items.toList.reverse.toArray) := by
    show items.toList.reverse.toArray.size ≤ sizeLine
    rw [List.size_toArray, List.length_reverse, Array.length_toList]
    exact hsz
  obtain ⟨os, hos, hcs, hds⟩ := id hs
  have hTs : s.TypeIs (.ref sl) "slice" := ⟨os, hos, hcs⟩
  unfold getItem
  try with_reducible refine wpAny_holding ?_
  first | refine wpAny_bind (wpAny_pure ?_) | skip
  refine wpAny_bind (wpAny_sequenceKey ht.typeIs (by decide) ?_)
  refine wpAny_bind (wpAny_callSpecial?_slot (name := Str.ofString "__getitem__") ht.typeIs PyProof.Rows.slot_tuple_getitem
    (wpAny_call_entry PyProof.Rows.slot_tuple_getitem ht.typeIs entry_tuple_getitem ?_ (args_tuple_getitem _ _)))
  show wpAny _ _ (Builtin.Tuple.tupleItemsOf (.ref t) >>= _) _ _ s
  refine wpAny_bind (tupleItemsOf_ ht ?_)
  refine wpAny_bind (wpAny_typeOf hTs ?_)
  rw [if_pos (by decide)]
  refine wpAny_bind (sliceApplied_rev hs pl pu ps ?_)
  have hno : ¬ (((((items.size : Int) - 1) == 0 && (-1 : Int) == 1 && items.size == items.size) = true)) := by
    have : ((-1 : Int) == 1) = false := by decide
    rw [this, Bool.and_false, Bool.false_and]
    exact Bool.false_ne_true
  show wpAny _ _ (if ((((items.size : Int) - 1) == 0 && (-1 : Int) == 1 && items.size == items.size) = true) then _ else _) _ _ s
  rw [if_neg hno, pick_rev]
  first
    | exact wpAny_bind (m := Builtin.Tuple.tupleExact _) (wpAny_newObj_type (wpAny_pure ⟨_, rfl, wpAny_pure h⟩) htake)
    | exact wpAny_bind (m := Builtin.Tuple.tupleExact _) (wpAny_newObj_type (wpAny_bind (wpAny_pure (wpAny_pure ⟨_, rfl, wpAny_pure h⟩))) htake)
    | exact wpAny_bind (wpAny_bind (m := Builtin.Tuple.tupleExact _) (wpAny_newObj_type (wpAny_pure (wpAny_pure ⟨_, rfl, wpAny_pure h⟩)) htake))
    | exact wpAny_bind (wpAny_bind (m := Builtin.Tuple.tupleExact _) (wpAny_newObj_type (wpAny_pure ⟨_, rfl, wpAny_pure h⟩) htake))
end
end HT
namespace L2
open PySem PySem.Spec PyProof.Rows
section
variable {X : Cx}
/-- the whole of a tuple -/
def rSlTW (K : PySem.W.Frag) : V → Option Int → Option Int → Hp → VK → Prop := fun x lo hi H Q => ∃ a xs, x = .ref a ∧ SqT K H a xs ∧ (HT.sIx xs.length 0 lo = 0 ∧ HT.sIx xs.length xs.length hi = xs.length) ∧ Q (.ref a) H
theorem sl_tupW : SlR X (rSlTW X.K) := by
  intro pins s σ H x v vl vu lo hi sl Q I rx hs pl pu h
  obtain ⟨a, xs, rfl, hx, hw, q⟩ := h
  cases rx
  obtain ⟨its, r, ht, hz⟩ := I.tuple hx
  have hlen : its.toArray.size = xs.length := by rw [List.size_toArray]; exact r.length.symm
  refine ⟨"tuple", _, PyProof.Rows.slot_tuple_getitem.lookup, ht.typeIs, ?_⟩
  exact HT.getItem_tuple_whole ht hs pl pu (by rw [hlen]; exact hw.1) (by rw [hlen]; exact hw.2) ⟨.ref a, H, I, rfl, q⟩
def tRevT (K : PySem.W.Frag) (te : TE) : TE := fun σ H Q => te σ H fun x H1 => ∃ a xs, x = .ref a ∧ SqT K H1 a xs ∧ ∀ p, H1 p = none → Q (.ref p) (upd H1 p (.tup xs.reverse))
theorem pe_revT {e : Expr} {te : TE} {k : Nat} {p1 p2 p3 pos : Pos} (he : PE X e te) : PE X (.Subscript e (.Slice none none (some (.UnaryOp .USub (.Constant (.int 1) k p1) p2)) p3) pos) (tRevT X.K te) := by
  refine ⟨fun pins s σ H Q I h => ?_⟩
  refine Subscript_ (thn (he.run pins s σ H _ I h) fun v s1 ⟨x, H1, I1, r1, q1⟩ => ?_)
  obtain ⟨a, xs, ex, hx, q⟩ := q1
  subst ex
  cases r1
  have hst : PO X (some (.UnaryOp .USub (.Constant (.int 1) k p1) p2)) (tPart (tUn (rU fun i => .int (-i)) (tC (.int 1)))) := po_some (pe_un un_neg pe_int)
  refine wpAny_Slice (thn (po_none.run pins s1 σ H1 (fun o H2 => o = none ∧ H2 = H1) I1 ⟨rfl, rfl⟩) fun vl s2 ⟨l, H2, I2, pl, el, e2⟩ => ?_)
  subst el e2
  refine thn (po_none.run pins s2 σ H2 (fun o H3 => o = none ∧ H3 = H2) I2 ⟨rfl, rfl⟩) fun vu s3 ⟨u, H3, I3, pu, eu, e3⟩ => ?_
  subst eu e3
  refine thn (hst.run pins s3 σ H3 (fun o H4 => o = some (-1) ∧ H4 = H3) I3 ⟨1, rfl, -1, rfl, rfl, rfl⟩) fun vs s4 ⟨o, H4, I4, ps, eo, e4⟩ => ?_
  subst eo e4
  have I5 : Inv X pins σ H4 { s4 with heap := s4.heap.push { cls := .type "slice", data := .fields #[vl, vu, vs] } } := I4.kept (t' := s4.toks) fun b ob q => Heap.get?_push_of_some _ q
  obtain ⟨its, r, ht, hz⟩ := I5.tuple hx
  have hlen : its.toArray.size = xs.length := by rw [List.size_toArray]; exact r.length.symm
  show wpAny (model X.prog X.w) X.A (subscriptTail e (.Slice none none (some (.UnaryOp .USub (.Constant (.int 1) k p1) p2)) p3) (.ref a) (.ref s4.heap.objs.size)) (EP X pins σ Q) X.xe { s4 with heap := s4.heap.push { cls := .type "slice", data := .fields #[vl, vu, vs] } }
  refine tail_any (ops := [.ref a, .ref s4.heap.objs.size]) ht.typeIs (PyProof.Rows.slot_tuple_getitem.lookup) ?_ (by with_unfolding_all rfl)
  refine HT.getItem_tuple_rev ht (Heap.IsSliceOf.new _ vl vu vs) pl pu ps ?_ (by rw [hlen]; exact hz)
  refine ⟨.ref _, _, I5.laid (t' := s4.toks) (o := .tup xs.reverse) (fun b ob q => Heap.get?_push_of_some _ q) (Nat.le_refl _) ?_, rfl, q _ (I5.hok.fresh (Nat.le_refl _))⟩
  exact ⟨by rw [List.length_reverse]; exact hz, _, r.reverse, IsTup.new _ _⟩
end
end L2
namespace DL
open PySem PySem.Spec PyProof.Rows L2
section
variable {X : Cx} {W : WX} {k : Nat} {e : Expr} {fe : FE} {pos p p1 p2 p3 : Pos}
def gRevT (x : D) (S : Store) : Res D := match x with
  | .tup xs => .ok (.tup xs.reverse) S
  | _ => .stuck
theorem datL_rev {φ : List Addr} {G : Hp} {xs : List D} {vs : List V} (h : DatL X.K X.mg φ G xs vs) : DatL X.K X.mg φ G xs.reverse vs.reverse := by
  induction xs generalizing vs with
  | nil =>
    unfold DatL at h
    subst h
    exact DatL.nil
  | cons d ds ih =>
    obtain ⟨v, r, rfl, h1, h2⟩ := h.uncons
    rw [List.reverse_cons, List.reverse_cons]
    exact (ih h2).append (.cons h1 DatL.nil)
theorem de_revT {j : Nat} (hx : DE X W e fe) : DE X W (.Subscript e (.Slice none none (some (.UnaryOp .USub (.Constant (.int 1) j p1) p2)) p3) pos) (fun ρ S => (fe ρ S).bind gRevT) := by
  obtain ⟨t, pe, q⟩ := hx.ex
  refine .mk (pe_revT pe) fun Z φ S ρ σ H Q R sl w => q Z φ S ρ σ H _ R sl (w.bind fun x S1 v φ1 H1 R1 E1 d w1 => ?_)
  unfold gRevT at w1
  split at w1
  · rename_i xs
    obtain ⟨a, vs, rfl, h1, h2⟩ := tupOf_ok d rfl
    refine ⟨a, vs, rfl, h1, fun p hp => ?_⟩
    obtain ⟨r, e, g⟩ := dat_newT R1 (datL_rev h2) hp
    exact w1 _ _ _ r e g
  · exact w1.elim
/-- slices, the whole of a tuple too -/
def gSlW (x : D) (lo hi : Option Int) (S : Store) : Res D := match x with
  | .tup xs => if HT.sIx xs.length 0 lo = 0 ∧ HT.sIx xs.length xs.length hi = xs.length then .ok (.tup xs) S else .ok (.tup (cutD xs lo hi)) S
  | d => match asL S d with
    | some xs => .ok (.lst (cutD xs lo hi)) S
    | none => .stuck
def fSlW (fx : FE) (fl fh : FO) : FE := fun ρ S => (fx ρ S).bind fun x S => (fl ρ S).bind fun l S => (fh ρ S).bind fun h S => gSlW x l h S
theorem de_sliceW {lo hi : Option Expr} {fl fh : FO} (hx : DE X W e fe) (hl : DO X W lo fl) (hh : DO X W hi fh) : DE X W (.Subscript e (.Slice lo hi none p2) pos) (fSlW fe fl fh) := by
  obtain ⟨t, pe, q⟩ := hx.ex
  refine .mk (pe_slice ((sl_tup.or sl_list).or sl_tupW) pe hl hh) fun Z φ S ρ σ H Q R sl w => q Z φ S ρ σ H _ R sl (w.bind fun x S1 v φ1 H1 R1 E1 d w1 => ?_)
  refine ⟨Z, φ1, S1, ρ, R1, sl.evo E1, w1.bind fun l S2 l' φ2 H2 R2 E2 el w2 => ?_⟩
  cases el
  refine ⟨Z, φ2, S2, ρ, R2, (sl.evo E1).evo E2, w2.bind fun h S3 h' φ3 H3 R3 E3 eh w3 => ?_⟩
  cases eh
  have d3 : Dat X.K X.mg φ3 (gnd Z φ3 S3 H3) x v := Dat.evo E3 (Dat.evo E2 d)
  unfold gSlW at w3
  split at w3
  · rename_i xs
    have d4 := d3
    unfold Dat at d3
    obtain ⟨a, vs, rfl, q1, q2⟩ := d3
    have q1' : SqT X.K H3 a vs := sqt_mono (fun b u hb => gnd_some hb) q1
    by_cases hc : HT.sIx xs.length 0 l = 0 ∧ HT.sIx xs.length xs.length h = xs.length
    · rw [if_pos hc] at w3
      exact .inr ⟨a, vs, rfl, q1', by rw [q2.length]; exact hc, w3.now R3 d4⟩
    · rw [if_neg hc] at w3
      refine .inl (.inl ⟨a, vs, rfl, q1', by rw [q2.length]; exact hc, fun p hp => ?_⟩)
      obtain ⟨r, e, g⟩ := dat_newT R3 (cut_dat q2 l h) hp
      exact w3 _ _ _ r e g
  · split at w3
    · rename_i xs hq
      obtain ⟨a, vs, rfl, q1, q2⟩ := asL_ok R3 d3 hq
      refine .inl (.inr ⟨a, vs, rfl, q1, fun p hp => ?_⟩)
      obtain ⟨r, e, g⟩ := dat_newL R3 (cut_dat q2 l h) hp
      exact w3 _ _ _ r e g
    · exact w3.elim
/-- int(truth) -/
def gIntB : GC := fun ds S => match ds with
  | [.int i] => .ok (.int i) S
  | [.bl b] => .ok (.int (if b then 1 else 0)) S
  | _ => .stuck
theorem de_intB {fa : FA} (hg : Gl X "int") (hm : X.mg "int" = none) (ha : DA X W [e] fa) (he : starEach [e] X.env = (false, eval e X.env) :: starEach [] X.env := by rfl) (hpl : (backTo pos (starEach [] X.env)).any (·.1) = false := by rfl) :
    DE X W (.Call (.Name "int" p) [e] [] pos) (fCB gIntB fa) :=
  de_callTy call_int1 (fun Z φ S H ds vs Q E R d w => by
    unfold gIntB at w
    split at w
    · obtain ⟨v, rfl, h1⟩ := datL1 d
      cases dInt h1
      exact .inl ⟨_, rfl, w.now R (dat_int _)⟩
    · obtain ⟨v, rfl, h1⟩ := datL1 d
      unfold Dat at h1
      subst h1
      exact .inr ⟨_, rfl, w.now R (dat_int _)⟩
    · exact w.elim) hg hm (by rfl) ha (by decide) (by decide) he hpl
@[simp] theorem e_gRevT (xs : List D) (S : Store) : gRevT (.tup xs) S = .ok (.tup xs.reverse) S := rfl
@[simp] theorem e_fSlW (fx : FE) (fl fh : FO) (ρ : EnvD) (S : Store) : fSlW fx fl fh ρ S = (fx ρ S).bind fun x S => (fl ρ S).bind fun l S => (fh ρ S).bind fun h S => gSlW x l h S := rfl
@[simp] theorem e_gIntB_b (b : Bool) (S : Store) : gIntB [.bl b] S = .ok (.int (if b then 1 else 0)) S := rfl
end
end DL

/-! The data layer, part 30: x in l, deep. -/
namespace DL
open PySem PySem.Spec PyProof.Rows L2
section
variable {X : Cx} {W : WX} {k : Nat}
def gInP : G2 := fun x y S => match pyOf S x, pyOf S y with
  | some d, some (.list es) => if SeqAt.shaped d && SeqAt.shaped (.list es) then .ok (.bl (es.any fun z => PyData.eqv z d)) S else .stuck
  | _, _ => .stuck
theorem opd_inP : OpD X (L2.rInD X.K) gInP := fun Z φ S H x y u v Q E R dx dy w => by
  unfold gInP at w
  split at w
  · rename_i d es e1 e2
    obtain ⟨h, w1⟩ := want_if w
    rw [Bool.and_eq_true] at h
    exact ⟨d, es, pyOf_ok R dx e1, pyOf_ok R dy e2, h.1, h.2, w1.now R (dat_bl _)⟩
  · exact w.elim
end
end DL

/-! The data layer, part 31: texts: split, join, startswith, int(text), str(number), f'..', text[lo:hi]. -/
namespace DL
open PySem PySem.Spec PyProof.Rows L2
section
variable {X : Cx} {W : WX} {k : Nat} {o e : Expr} {fo fe : FE} {pos apos cpos p p2 : Pos}
theorem dat_strs {φ : List Addr} {G : Hp} : ∀ ys : List Str, DatL X.K X.mg φ G (ys.map D.str) (ys.map V.str)
  | [] => DatL.nil
  | y :: ys => .cons (dat_str _) (dat_strs ys)
noncomputable def gSplit : GM := fun x ds S => match x, ds with
  | .str a, [.str b] => @ite _ ((b.length == 0) = false ∧ a.length + 2 ≤ sizeLine) (Classical.propDecidable _) (.ok (.lst ((Txt.split a b).map D.str)) S) .stuck
  | _, _ => .stuck
theorem want_ifc {P : Prop} {α β : Type} {Rr : List Addr → Hp → α → β → Prop} {Z φ : List Addr} {S : Store} {H : Hp} {r : Res α} {Q : β → Hp → Prop} {E : XK} (w : Want X.K X.mg Rr Z φ S H (@ite _ P (Classical.propDecidable _) r .stuck) Q E) : P ∧ Want X.K X.mg Rr Z φ S H r Q E := by
  by_cases h : P
  · rw [if_pos h] at w
    exact ⟨h, w⟩
  · rw [if_neg h] at w
    exact w.elim
theorem md_split : MethD X (fun x xs H Q => ∃ a b, x = .str a ∧ xs = [.str b] ∧ (b.length == 0) = false ∧ a.length + 2 ≤ sizeLine ∧ rNewStrs (Txt.split a b) H Q) gSplit := fun Z φ S H x u ds vs Q E R dx d w => by
  unfold gSplit at w
  split at w
  · rename_i a b
    obtain ⟨h, w1⟩ := want_ifc w
    cases dStr dx
    obtain ⟨v, rfl, h1⟩ := datL1 d
    cases dStr h1
    refine ⟨a, b, rfl, rfl, h.1, h.2, fun p hp => ?_⟩
    obtain ⟨r, e, g⟩ := dat_newL R (dat_strs (Txt.split a b)) hp
    exact w1 _ _ _ r e g
  · exact w.elim
def strsOf : List D → Option (List Str)
  | [] => some []
  | .str i :: ds => (strsOf ds).map (i :: ·)
  | _ => none
theorem strsOf_ok {φ : List Addr} {G : Hp} : ∀ {ds : List D} {vs : List V} {ns : List Str}, DatL X.K X.mg φ G ds vs → strsOf ds = some ns → vs = ns.map V.str
  | [], vs, ns, d, e => by
    unfold DatL at d
    subst d
    cases e
    rfl
  | x :: ds, vs, ns, d, e => by
    obtain ⟨v, r, rfl, h1, h2⟩ := d.uncons
    cases x with
    | str i =>
      simp only [strsOf] at e
      cases q : strsOf ds with
      | none => rw [q] at e; cases e
      | some ms =>
        rw [q] at e
        cases e
        cases dStr h1
        rw [strsOf_ok h2 q]
        rfl
    | _ => cases e
noncomputable def gJoin : GM := fun x ds S => match x, ds with
  | .str a, [d] => (match (asQ S d).bind strsOf with
    | some ys => @ite _ ((ys.map (·.length)).sum + ys.length * a.length ≤ 16777216) (Classical.propDecidable _) (.ok (.str (Txt.join a ys)) S) .stuck
    | none => .stuck)
  | _, _ => .stuck
theorem md_join : MethD X (fun x xs H Q => ∃ a p, ∃ ys : List Str, x = .str a ∧ xs = [.ref p] ∧ (SqL X.K H p (ys.map V.str) ∨ SqT X.K H p (ys.map V.str)) ∧ (ys.map (·.length)).sum + ys.length * a.length ≤ 16777216 ∧ Q (.str (Txt.join a ys)) H) gJoin := fun Z φ S H x u ds vs Q E R dx d w => by
  unfold gJoin at w
  split at w
  · rename_i a d0
    cases dStr dx
    obtain ⟨v, rfl, h1⟩ := datL1 d
    split at w
    · rename_i ys e
      obtain ⟨xs, e1, e2⟩ := Option.bind_eq_some_iff.mp e
      obtain ⟨l, zs, rfl, h2, h3⟩ := asQ_ok R h1 e1
      obtain ⟨h, w1⟩ := want_ifc w
      rw [strsOf_ok h3 e2] at h2
      exact ⟨a, l, ys, rfl, rfl, h2, h, w1.now R (dat_str _)⟩
    · exact w.elim
  · exact w.elim
def gStarts : GM := fun x ds S => match x, ds with
  | .str a, [.str b] => .ok (.bl (Txt.startswith a b)) S
  | _, _ => .stuck
theorem md_starts : MethD X (fun x xs H Q => ∃ a b, x = .str a ∧ xs = [.str b] ∧ Q (.bl (Txt.startswith a b)) H) gStarts := fun Z φ S H x u ds vs Q E R dx d w => by
  unfold gStarts at w
  split at w
  · cases dStr dx
    obtain ⟨v, rfl, h1⟩ := datL1 d
    cases dStr h1
    exact ⟨_, _, rfl, rfl, w.now R (dat_bl _)⟩
  · exact w.elim
/-- str(number) -/
noncomputable def gStrI : GC := fun ds S => match ds with
  | [.int i] => @ite _ (i.natAbs.log2 < 1920) (Classical.propDecidable _) (.ok (.str (toString i)) S) .stuck
  | _ => .stuck
theorem cd_strI : CallD X (fun xs H Q => ∃ i, xs = [.int i] ∧ i.natAbs.log2 < 1920 ∧ Q (.str (toString i)) H) gStrI := fun Z φ S H ds vs Q E R d w => by
  unfold gStrI at w
  split at w
  · obtain ⟨h, w1⟩ := want_ifc w
    obtain ⟨v, rfl, h1⟩ := datL1 d
    cases dInt h1
    exact ⟨_, rfl, h, w1.now R (dat_str _)⟩
  · exact w.elim
theorem de_strI {fa : FA} (hg : Gl X "str") (hm : X.mg "str" = none) (ha : DA X W [e] fa) (he : starEach [e] X.env = (false, eval e X.env) :: starEach [] X.env := by rfl) (hpl : (backTo pos (starEach [] X.env)).any (·.1) = false := by rfl) :
    DE X W (.Call (.Name "str" p) [e] [] pos) (fCB gStrI fa) := de_callTy call_str_int cd_strI hg hm (by rfl) ha (by decide) (by decide) he hpl
/-- int(text) -/
noncomputable def gIntS : GC := fun ds S => match ds with
  | [.str a] => (match PySem.intText? a with
    | some n => @ite _ (a.length ≤ 640) (Classical.propDecidable _) (.ok (.int n) S) .stuck
    | none => .stuck)
  | _ => .stuck
theorem cd_intS : CallD X (fun xs H Q => ∃ a n, xs = [.str a] ∧ PySem.intText? a = some n ∧ a.length ≤ 640 ∧ Q (.int n) H) gIntS := fun Z φ S H ds vs Q E R d w => by
  unfold gIntS at w
  split at w
  · split at w
    · rename_i n hn
      obtain ⟨h, w1⟩ := want_ifc w
      obtain ⟨v, rfl, h1⟩ := datL1 d
      cases dStr h1
      exact ⟨_, n, rfl, hn, h, w1.now R (dat_int _)⟩
    · exact w.elim
  · exact w.elim
theorem de_intS {fa : FA} (hg : Gl X "int") (hm : X.mg "int" = none) (ha : DA X W [e] fa) (he : starEach [e] X.env = (false, eval e X.env) :: starEach [] X.env := by rfl) (hpl : (backTo pos (starEach [] X.env)).any (·.1) = false := by rfl) :
    DE X W (.Call (.Name "int" p) [e] [] pos) (fCB gIntS fa) := de_callTy call_int_str cd_intS hg hm (by rfl) ha (by decide) (by decide) he hpl
end
end DL

/-! The data layer, part 32: texts, the derivations. -/
namespace DL
open PySem PySem.Spec PyProof.Rows L2
section
variable {X : Cx} {W : WX} {k : Nat} {o e : Expr} {fo fe : FE} {pos apos cpos p p2 : Pos} {fa : FA}
theorem de_split (ho : DE X W o fo) (ha : DA X W [e] fa) (hbase : attributeBase o "split" X.env (eval o X.env) = eval o X.env := by rfl)
    (hfew : ((backTo cpos (starEach [e] X.env)).all (fun x => !x.1) && (backToKw cpos (keywordEach [] X.env)).all (fun x => x.1.isSome) && decide ([e].length + ([] : List Keyword).length + (if ([] : List Keyword).isEmpty then 0 else 1) < 30)) = true := by rfl)
    (hline : (apos.endLine == cpos.line) = true := by rfl) (hs : starEach [e] X.env = (false, eval e X.env) :: starEach [] X.env := by rfl) (hplain : (backTo cpos (starEach [] X.env)).any (·.1) = false := by rfl) :
    DE X W (.Call (.Attribute o "split" apos) [e] [] cpos) (fBM "str" gSplit fo fa) := de_bm PySem.F.plainAttrs_str PySem.F.slot_str_split PySem.F.type_str_split mt_split md_split (.inr (.inr rfl)) ho ha hbase hfew hline hs hplain
theorem de_join (ho : DE X W o fo) (ha : DA X W [e] fa) (hbase : attributeBase o "join" X.env (eval o X.env) = eval o X.env := by rfl)
    (hfew : ((backTo cpos (starEach [e] X.env)).all (fun x => !x.1) && (backToKw cpos (keywordEach [] X.env)).all (fun x => x.1.isSome) && decide ([e].length + ([] : List Keyword).length + (if ([] : List Keyword).isEmpty then 0 else 1) < 30)) = true := by rfl)
    (hline : (apos.endLine == cpos.line) = true := by rfl) (hs : starEach [e] X.env = (false, eval e X.env) :: starEach [] X.env := by rfl) (hplain : (backTo cpos (starEach [] X.env)).any (·.1) = false := by rfl) :
    DE X W (.Call (.Attribute o "join" apos) [e] [] cpos) (fBM "str" gJoin fo fa) := de_bm PySem.F.plainAttrs_str PySem.F.slot_str_join PySem.F.type_str_join mt_join md_join (.inr (.inr rfl)) ho ha hbase hfew hline hs hplain
theorem de_starts (ho : DE X W o fo) (ha : DA X W [e] fa) (hbase : attributeBase o "startswith" X.env (eval o X.env) = eval o X.env := by rfl)
    (hfew : ((backTo cpos (starEach [e] X.env)).all (fun x => !x.1) && (backToKw cpos (keywordEach [] X.env)).all (fun x => x.1.isSome) && decide ([e].length + ([] : List Keyword).length + (if ([] : List Keyword).isEmpty then 0 else 1) < 30)) = true := by rfl)
    (hline : (apos.endLine == cpos.line) = true := by rfl) (hs : starEach [e] X.env = (false, eval e X.env) :: starEach [] X.env := by rfl) (hplain : (backTo cpos (starEach [] X.env)).any (·.1) = false := by rfl) :
    DE X W (.Call (.Attribute o "startswith" apos) [e] [] cpos) (fBM "str" gStarts fo fa) := de_bm PySem.F.plainAttrs_str PySem.F.slot_str_startswith PySem.F.type_str_startswith mt_startswith md_starts (.inr (.inr rfl)) ho ha hbase hfew hline hs hplain
/-- text[lo:hi] -/
noncomputable def gSlS (x : D) (lo hi : Option Int) (S : Store) : Res D := match x with
  | .str z => @ite _ (z.length ≤ sizeLine) (Classical.propDecidable _) (.ok (.str (cutS z lo hi)) S) .stuck
  | _ => .stuck
noncomputable def fSlS (fx : FE) (fl fh : FO) : FE := fun ρ S => (fx ρ S).bind fun x S => (fl ρ S).bind fun l S => (fh ρ S).bind fun h S => gSlS x l h S
theorem de_sliceS {lo hi : Option Expr} {fl fh : FO} (hx : DE X W e fe) (hl : DO X W lo fl) (hh : DO X W hi fh) : DE X W (.Subscript e (.Slice lo hi none p2) pos) (fSlS fe fl fh) := by
  obtain ⟨t, pe, q⟩ := hx.ex
  refine .mk (pe_slice sl_str pe hl hh) fun Z φ S ρ σ H Q R sl w => q Z φ S ρ σ H _ R sl (w.bind fun x S1 v φ1 H1 R1 E1 d w1 => ?_)
  refine ⟨Z, φ1, S1, ρ, R1, sl.evo E1, w1.bind fun l S2 l' φ2 H2 R2 E2 el w2 => ?_⟩
  cases el
  refine ⟨Z, φ2, S2, ρ, R2, (sl.evo E1).evo E2, w2.bind fun h S3 h' φ3 H3 R3 E3 eh w3 => ?_⟩
  cases eh
  have d3 : Dat X.K X.mg φ3 (gnd Z φ3 S3 H3) x v := Dat.evo E3 (Dat.evo E2 d)
  unfold gSlS at w3
  split at w3
  · rename_i z
    obtain ⟨hz, w4⟩ := want_ifc w3
    cases dStr d3
    exact ⟨z, rfl, hz, w4.now R3 (dat_str _)⟩
  · exact w3.elim
/-- {x} in an f-string -/
noncomputable def fFmt (fe : FE) : FE := fun ρ S => (fe ρ S).bind fun x S => match x with
  | .str y => @ite _ (y.length ≤ sizeLine) (Classical.propDecidable _) (.ok (.str y) S) .stuck
  | .int i => @ite _ (i.natAbs.log2 < 1920) (Classical.propDecidable _) (.ok (.str (toString i)) S) .stuck
  | _ => .stuck
theorem de_fmt (he : DE X W e fe) : DE X W (.FormattedValue e (-1) none pos) (fFmt fe) := by
  obtain ⟨t, pe, q⟩ := he.ex
  refine .mk (pe_fmt pe) fun Z φ S ρ σ H Q R sl w => q Z φ S ρ σ H _ R sl (w.bind fun x S1 v φ1 H1 R1 E1 d w1 => ?_)
  cases x with
  | str y =>
    obtain ⟨h, w2⟩ := want_ifc w1
    cases dStr d
    exact .inl ⟨y, rfl, h, w2.now R1 (dat_str _)⟩
  | int i =>
    obtain ⟨h, w2⟩ := want_ifc w1
    cases dInt d
    exact .inr ⟨i, rfl, h, w2.now R1 (dat_str _)⟩
  | _ => exact w1.elim
/-- f'..' of two parts -/
noncomputable def fJ2 (fa fb : FE) : FE := fun ρ S => (fa ρ S).bind fun x S => match x with
  | .str y => @ite _ ((Str.empty ++ y).length ≤ sizeLine) (Classical.propDecidable _) ((fb ρ S).bind fun z S => match z with
    | .str u => @ite _ ((Str.empty ++ y ++ u).length ≤ sizeLine) (Classical.propDecidable _) (.ok (.str (Str.empty ++ y ++ u)) S) .stuck
    | _ => .stuck) .stuck
  | _ => .stuck
theorem de_joined2 {e2 : Expr} {fb : FE} (ha : DE X W e fe) (hb : DE X W e2 fb) : DE X W (.JoinedStr [e, e2] pos) (fJ2 fe fb) := by
  obtain ⟨t, pa, q⟩ := ha.ex
  obtain ⟨u, pb, q2⟩ := hb.ex
  refine .mk (pe_joined (.cons pa (.cons pb .nil))) fun Z φ S ρ σ H Q R sl w => q Z φ S ρ σ H _ R sl (w.bind fun x S1 v φ1 H1 R1 E1 d w1 => ?_)
  cases x with
  | str y =>
    obtain ⟨h, w2⟩ := want_ifc w1
    cases dStr d
    refine ⟨y, rfl, h, q2 Z φ1 S1 ρ σ H1 _ R1 (sl.evo E1) (w2.bind fun z S2 v2 φ2 H2 R2 E2 d2 w3 => ?_)⟩
    cases z with
    | str z =>
      obtain ⟨h', w4⟩ := want_ifc w3
      cases dStr d2
      exact ⟨z, rfl, h', w4.now R2 (dat_str _)⟩
    | _ => exact w3.elim
  | _ => exact w1.elim
/-- sign in text -/
def gInC (neg : Bool) : G2 := fun x y S => match x, y with
  | .str a, .str z => (match a.cps.toList with
    | [c] => if a = ⟨#[c]⟩ then .ok (.bl (if neg then !decide (c ∈ z.cps.toList) else decide (c ∈ z.cps.toList))) S else .stuck
    | _ => .stuck)
  | _, _ => .stuck
theorem opd_inC : OpD X (fun x y H Q => ∃ (c : Nat) (z : Str), x = .str ⟨#[c]⟩ ∧ y = .str z ∧ Q (.bl (decide (c ∈ z.cps.toList))) H) (gInC false) := fun Z φ S H x y u v Q E R dx dy w => by
  unfold gInC at w
  split at w
  · split at w
    · rename_i c hc
      obtain ⟨h, w1⟩ := want_if w
      cases dStr dx
      cases dStr dy
      exact ⟨c, _, by rw [← h], rfl, w1.now R (dat_bl _)⟩
    · exact w.elim
  · exact w.elim
theorem opd_notInC : OpD X (fun x y H Q => ∃ (c : Nat) (z : Str), x = .str ⟨#[c]⟩ ∧ y = .str z ∧ Q (.bl (!decide (c ∈ z.cps.toList))) H) (gInC true) := fun Z φ S H x y u v Q E R dx dy w => by
  unfold gInC at w
  split at w
  · split at w
    · rename_i c hc
      obtain ⟨h, w1⟩ := want_if w
      cases dStr dx
      cases dStr dy
      exact ⟨c, _, by rw [← h], rfl, w1.now R (dat_bl _)⟩
    · exact w.elim
  · exact w.elim
end
end DL

/-! The data layer, part 33: text * number. -/
namespace DL
open PySem PySem.Spec PyProof.Rows L2
def repS (z : Str) (n : Nat) : Str := ⟨(List.replicate n z.cps).foldl (· ++ ·) #[]⟩
theorem repS_len (z : Str) (n : Nat) : (repS z n).length = z.length * n := by
  have : ∀ (k : Nat) (acc : Array Nat), ((List.replicate k z.cps).foldl (· ++ ·) acc).size = acc.size + z.cps.size * k := by
    intro k
    induction k with
    | zero => intro acc; simp
    | succ k ih =>
      intro acc
      rw [List.replicate_succ, List.foldl_cons, ih, Array.size_append, Nat.mul_succ]
      omega
  show ((List.replicate n z.cps).foldl (· ++ ·) #[]).size = z.cps.size * n
  rw [this]
  simp
section
variable {X : Cx} {W : WX} {a b : Expr} {fa fb : FE} {pos : Pos}
def rMulS : R2 := fun x y H Q => ∃ (z : Str) (n : Nat), x = .str z ∧ y = .int n ∧ n ≤ 1000 ∧ z.length ≤ 1000 ∧ Q (.str (repS z n)) H
theorem op_mulS : OpR X (binaryOp .Mult) rMulS := by
  intro pins s σ H x y v u Q I rx ry h
  obtain ⟨z, n, rfl, rfl, hn, hz, q⟩ := h
  obtain ⟨t, rfl⟩ := rx
  obtain ⟨t', rfl⟩ := ry
  have big : (1000000 : Nat) < 16777216 := by decide
  have lz : z.length * n ≤ 1000 * 1000 := Nat.mul_le_mul hz hn
  refine P.mul_str ?_ (fun h1 _ => ?_) (fun h1 _ => ?_) ?_
  · have h1 : ¬ ((n : Int) < -(2 ^ 63 : Int)) := by omega
    have h2 : ¬ ((n : Int) ≥ 2 ^ 63) := by omega
    rw [decide_eq_false h1, decide_eq_false h2]
    rfl
  · have : (1001 : Int) ≤ (2 ^ 63 - 1) / (n : Int) := by
      rw [Int.le_ediv_iff_mul_le (by omega)]
      omega
    omega
  · rw [Int.toNat_natCast]
    have hs : sizeLine = 16777216 := sizeLine_eq
    have : ¬ (z.length * n > sizeLine) := by rw [hs]; omega
    exact decide_eq_false this
  · by_cases h1 : (n : Int) < 1
    · rw [if_pos h1]
      have : n = 0 := by omega
      subst this
      refine ⟨by decide, ?_⟩
      exact ⟨.str (repS z 0), H, I.tok _, ⟨_, rfl⟩, q⟩
    · rw [if_neg h1]
      by_cases h2 : ((n : Int) == 1 || z.length == 0) = true
      · rw [if_pos h2]
        have e : repS z n = z := by
          rcases Bool.or_eq_true_iff.mp h2 with e | e
          · have : n = 1 := by
              have := eq_of_beq e
              omega
            subst this
            simp [repS]
          · have hl : z.length = 0 := eq_of_beq e
            have hc : z.cps = #[] := Array.eq_empty_of_size_eq_zero hl
            have : ∀ k : Nat, (List.replicate k (#[] : Array Nat)).foldl (· ++ ·) #[] = #[] := by
              intro k
              induction k with
              | zero => rfl
              | succ k ih => simp [List.replicate_succ, ih]
            unfold repS
            rw [hc, this]
            cases z
            simp at hc
            rw [hc]
        rw [e] at q
        exact ⟨.str z, H, I, ⟨t, rfl⟩, q⟩
      · rw [if_neg h2, Int.toNat_natCast]
        exact ⟨by
          have hs : sizeLine = 16777216 := sizeLine_eq
          have e := repS_len z n
          unfold repS at e
          rw [e, hs]
          omega, ⟨.str (repS z n), H, I.tok _, ⟨_, rfl⟩, q⟩⟩
noncomputable def gMulS : G2 := fun x y S => match x, y with
  | .str z, .int n => @ite _ (0 ≤ n ∧ n ≤ 1000 ∧ z.length ≤ 1000) (Classical.propDecidable _) (.ok (.str (repS z n.toNat)) S) .stuck
  | _, _ => .stuck
theorem opd_mulS : OpD X rMulS gMulS := fun Z φ S H x y u v Q E R dx dy w => by
  unfold gMulS at w
  split at w
  · rename_i z n
    obtain ⟨⟨h0, h1, h2⟩, w1⟩ := want_ifc w
    cases dStr dx
    cases dInt dy
    refine ⟨z, n.toNat, rfl, by rw [Int.toNat_of_nonneg h0], by omega, h2, w1.now R (dat_str _)⟩
  · exact w.elim
theorem de_mulS (ha : DE X W a fa) (hb : DE X W b fb) : DE X W (.BinOp a .Mult b pos) (fBin gMulS fa fb) := de_bin op_mulS opd_mulS ha hb
end
end DL

/-! The data layer, part 34: the signs of a text walked over; split as a list that changes. -/
namespace DL
open PySem PySem.Spec PyProof.Rows L2
section
variable {X : Cx} {W : WX} {k : Nat} {o e tg : Expr} {fo fe : FE} {pos apos cpos p p2 : Pos} {fa : FA}
def signs (z : Str) : List D := z.cps.toList.map fun c => .str ⟨#[c]⟩
def signC : D → Store → Res ItD := fun d S => match d with
  | .str z => .ok ⟨signs z, none⟩ S
  | _ => .stuck
def fSigns (fe : FE) : FI := fun ρ S => (fe ρ S).bind signC
theorem ri_signs {Z φ : List Addr} {S : Store} {H : Hp} {z : Str} : RI X.K X.mg Z φ S H ⟨signs z, none⟩ (Its z) :=
  fun i Z' φ' S' H' hZ R hp hs ok => by
    refine ⟨fun d hd => ?_, fun hl => ?_⟩
    · have hd' : (signs z)[i]? = some d := hd
      unfold signs at hd'
      rw [List.getElem?_map] at hd'
      cases hc : z.cps.toList[i]? with
      | none => rw [hc] at hd'; cases hd'
      | some c =>
        rw [hc] at hd'
        cases hd'
        have hc' : z.cps[i]? = some c := by simpa using hc
        have hi : i < z.cps.size := (Array.getElem?_eq_some_iff.mp hc').1
        refine ⟨hi, fun y' H'' yl => ?_⟩
        obtain ⟨rfl, c', e1, rfl⟩ := yl
        rw [hc'] at e1
        cases e1
        exact ⟨R, Evo.refl, dat_str _⟩
    · have hl' : (signs z).length ≤ i := hl
      unfold signs at hl'
      show z.cps.size ≤ i
      simpa using hl'
theorem di_signs (he : DE X W e fe) : DI X W tg e (fSigns fe) := by
  obtain ⟨t, pe, q⟩ := he.ex
  refine .mk (pi_str pe) fun Z φ S ρ σ H R R0 sl w => q Z φ S ρ σ H _ R0 sl (w.bind fun d S1 v φ1 H1 R1 E1 dd w1 => ?_)
  unfold signC at w1
  split at w1
  · cases dStr dd
    exact ⟨_, rfl, w1 _ _ _ R1 Evo.refl ri_signs⟩
  · exact w1.elim
noncomputable def gSplitO : GM := fun x ds S => match x, ds with
  | .str a, [.str b] => @ite _ ((b.length == 0) = false ∧ a.length + 2 ≤ sizeLine) (Classical.propDecidable _) (.ok (.oid S.length) (S ++ [.lst ((Txt.split a b).map D.str)])) .stuck
  | _, _ => .stuck
theorem md_splitO : MethD X (fun x xs H Q => ∃ a b, x = .str a ∧ xs = [.str b] ∧ (b.length == 0) = false ∧ a.length + 2 ≤ sizeLine ∧ rNewStrs (Txt.split a b) H Q) gSplitO := fun Z φ S H x u ds vs Q E R dx d w => by
  unfold gSplitO at w
  split at w
  · rename_i a b
    obtain ⟨h, w1⟩ := want_ifc w
    cases dStr dx
    obtain ⟨v, rfl, h1⟩ := datL1 d
    cases dStr h1
    refine ⟨a, b, rfl, rfl, h.1, h.2, fun p hp => ?_⟩
    obtain ⟨r, e, g⟩ := dat_newO R (dat_strs (Txt.split a b)) hp
    exact w1 _ _ _ r e g
  · exact w.elim
theorem de_splitO (ho : DE X W o fo) (ha : DA X W [e] fa) (hbase : attributeBase o "split" X.env (eval o X.env) = eval o X.env := by rfl)
    (hfew : ((backTo cpos (starEach [e] X.env)).all (fun x => !x.1) && (backToKw cpos (keywordEach [] X.env)).all (fun x => x.1.isSome) && decide ([e].length + ([] : List Keyword).length + (if ([] : List Keyword).isEmpty then 0 else 1) < 30)) = true := by rfl)
    (hline : (apos.endLine == cpos.line) = true := by rfl) (hs : starEach [e] X.env = (false, eval e X.env) :: starEach [] X.env := by rfl) (hplain : (backTo cpos (starEach [] X.env)).any (·.1) = false := by rfl) :
    DE X W (.Call (.Attribute o "split" apos) [e] [] cpos) (fBM "str" gSplitO fo fa) := de_bm PySem.F.plainAttrs_str PySem.F.slot_str_split PySem.F.type_str_split mt_split md_splitO (.inr (.inr rfl)) ho ha hbase hfew hline hs hplain
end
end DL

/-! The data layer, part 35: exceptions caught and kept. -/
namespace DL
open PySem PySem.Spec PyProof.Rows L2

theorem excV_ok {P : Program} {w : World} {H : Hp} {hp : Heap} {a : Addr} {cls : Value} {dd : Option Addr} {ob : Obj} {fs : Array Value} (e : hp.get? a = some ob) (z : Zc cls dd ob) (d : ob.data = .fields fs) : ObjOk P w H hp a (ExcV cls dd a) :=
  ⟨⟨ob, fs, e, z, d⟩, ⟨ob, e⟩, fun _ _ ⟨o, v, q, r⟩ kp => ⟨o, v, kp o q, r⟩⟩
section
variable {X : Cx} {pins : List (Addr × Obj)} {σ : L2.St} {H : Hp} {s : Shared}
/-- an object that wasn't there at the entry is tracked from now on -/
theorem inv_track {a : Addr} {o : HO} (I : L2.Inv X pins σ H s) (n0 : X.s_0.heap.get? a = none) (na : H a = none) (nl : a ≠ X.env.locals) (nc : ∀ x c, X.env.cells.lookup x = some c → c ≠ a)
    (np : ∀ p ∈ X.pn ++ pins, p.1 ≠ a) (ok : ObjOk X.prog X.w (upd H a o) s.heap a o) : L2.Inv X pins σ (upd H a o) s := by
  have n00 : ∀ b ob, X.s_0.heap.get? b = some ob → b ≠ a := fun b ob e z => by
    rw [z, n0] at e
    cases e
  refine ⟨I.ok, I.os, I.bare, ⟨I.base.keep, I.base.slot, fun b ob e n hx => ?_, I.base.there, fun b xs e => ?_, fun b ob u e => ?_, fun b ps e => ?_⟩, I.loc, I.cell, ?_, fun x c e => ?_, fun p hp => ?_, fun b u e => ?_, I.len⟩
  · rw [upd_ne (n00 b ob e)]
    exact I.base.free b ob e n hx
  · have q := I.base.tups b xs e
    rw [upd_ne (ne_of_none q na)]
    exact q
  · have q := I.base.frzs b ob u e
    rw [upd_ne (ne_of_none q na)]
    exact q
  · obtain ⟨more, q⟩ := I.base.tbls b ps e
    exact ⟨more, by rw [upd_ne (ne_of_none q na)]; exact q⟩
  · rw [upd_ne (fun z => nl z.symm)]
    exact I.free
  · rw [upd_ne (nc x c e)]
    exact I.freeC x c e
  · obtain ⟨q1, q2, q3⟩ := I.pin p hp
    exact ⟨q1, by rw [upd_ne (np p hp)]; exact q2, q3⟩
  · by_cases hb : b = a
    · subst hb
      rw [upd_same] at e
      cases e
      exact ok
    · rw [upd_ne hb] at e
      exact (I.hok b u e).stay (fun c v _ q => q) (fun c q => by rw [upd_ne (ne_of_none q na)]; exact q) fun c xs q => by rw [upd_ne (ne_of_none q na)]; exact q
theorem inv_toSuite (I : L2.Inv X pins σ H s) (a : Addr) : L2.Inv (X.suite a (X.pn ++ pins)) [] σ H s :=
  ⟨I.ok.suite _ _, I.os, I.bare, I.base, I.loc, I.cell, I.free, I.freeC, fun p hp => I.pin p (List.append_nil (X.pn ++ pins) ▸ hp), I.hok, I.len⟩
theorem inv_ofSuite {a : Addr} {pn' : List (Addr × Obj)} (I : L2.Inv (X.suite a (X.pn ++ pins)) pn' σ H s) (ok : X.Ok) : L2.Inv X pins σ H s :=
  ⟨ok, I.os, I.bare, I.base, I.loc, I.cell, I.free, I.freeC, fun p hp => I.pin p (List.mem_append_left _ hp), I.hok, I.len⟩
end
/-! ### try with clauses, each perhaps with a name -/
structure Hd where
  c : Value
  nm : Option Nat
  ts : Addr → Value → Option Addr → TS
def endsAt (nm : Option Nat) (Dd : Ends) : Ends := match nm with
  | none => Dd
  | some i => { nx := fun σ' H' => Dd.nx (σ'.set i none) H', rt := Dd.rt, bk := fun σ' H' => Dd.bk (σ'.set i none) H', ct := fun σ' H' => Dd.ct (σ'.set i none) H' }
def slotAt (nm : Option Nat) (a : Addr) (σ : L2.St) : L2.St := match nm with
  | none => σ
  | some i => σ.set i (some (.ref a))
/-- what the clauses want of what the body raises -/
def wHds (K : PySem.W.Frag) (Wo : WX) (Dd : Ends) : List Hd → WX
  | [] => Wo
  | q :: r => fun cls d σ H => ∃ b, PySem.W.exmOne K cls q.c = some b ∧ (b = true → ∀ a, H a = none → q.ts a cls d (endsAt q.nm Dd) (slotAt q.nm a σ) (upd H a (ExcV cls d a))) ∧ (b = false → wHds K Wo Dd r cls d σ H)
inductive HdsT (X : Cx) : List ExceptHandler → List Hd → Prop
  | nil : HdsT X [] []
  | plain {x : Str} {c : Value} {ts : Addr → Value → Option Addr → TS} {b0 : Stmt} {bs : List Stmt} {np hp : Pos} {hds : List ExceptHandler} {l : List Hd} (hc : Names X x c)
      (hs : ∀ (a : Addr) (cls : Value) (d : Option Addr) (pn : List (Addr × Obj)), PSs (X.suite a pn) (b0 :: bs) (ts a cls d)) (r : HdsT X hds l) : HdsT X (.ExceptHandler (some (.Name x np)) none (b0 :: bs) hp :: hds) (⟨c, none, ts⟩ :: l)
  | named {x n : Str} {i : Nat} {c : Value} {ts : Addr → Value → Option Addr → TS} {b0 : Stmt} {bs : List Stmt} {np hp : Pos} {hds : List ExceptHandler} {l : List Hd} (hc : Names X x c) (hN : X.N.Nodup) (hi : X.N[i]? = some n) (hn : X.env.kindOf n = some .local)
      (hs : ∀ (a : Addr) (cls : Value) (d : Option Addr) (pn : List (Addr × Obj)), PSs (X.suite a pn) (b0 :: bs) (ts a cls d)) (r : HdsT X hds l) : HdsT X (.ExceptHandler (some (.Name x np)) (some n) (b0 :: bs) hp :: hds) (⟨c, some i, ts⟩ :: l)
section
variable {X : Cx} {body : List Stmt} {h0 : ExceptHandler} {hds : List ExceptHandler} {l : List Hd} {pos : Pos} {tb : WX → TS} {Wo : WX}
theorem ps_try_T (stk : X.stack = X.env :: X.outer) (frm : X.env.frame = some X.env.locals) (nex : X.ex = []) (tk : Takes X Wo)
    (hb : ∀ (Wn : WX) (pn : List (Addr × Obj)) (xe : Value → Shared → Prop), Takes (X.tr pn xe) Wn → PassesOwn (model X.prog X.w) X.A X.env xe → PSs (X.tr pn xe) body (tb Wn))
    (hh : HdsT X (h0 :: hds) l) : PS X (.Try body (h0 :: hds) [] [] pos) (fun Dd σ H => tb (wHds X.K Wo Dd l) Dd σ H) := by
  refine ⟨fun pins s σ H Dd I h => ?_⟩
  have ok := I.ok
  have frs0 : X.A.frames = some (X.env :: X.outer) := ok.frames.trans (congrArg some stk)
  refine wpAny_Try_except ?_
  refine wpAny_mono ((hb (wHds X.K Wo Dd l) (X.pn ++ pins) (fun err t1 => wpAny (model X.prog X.w) X.A (noteFrame err X.env) (fun _ t2 => wpAny (model X.prog X.w) X.A (setFlight err none) (fun _ t3 =>
    wpAny (model X.prog X.w) X.A (handleBy err X.env (h0 :: hds)) (SP X pins Dd) X.xe t3) X.xe t2) X.xe t1) (fun u s2 caught => ?_) PassesOwn.looking).run [] s σ H Dd (I.toTry _) h) (fun fl s1 hsp => ?_) (fun _ _ z => z)
  · obtain ⟨a, B, sI, pins1, σ1, H1, cls, d, rfl, J0, nb, up, sky, na, os, ag, want⟩ := caught
    have J : L2.Inv X pins σ1 H1 sI := J0.ofTry ok
    rw [show (X.tr (X.pn ++ pins) _).stack = X.env :: X.outer from stk] at sky
    show wpAny (model X.prog X.w) X.A (noteFrame (.ref a) X.env) _ _ _
    refine Sky.land Zc.steady frs0 frm sky fun hp3 fly3 up3 => ?_
    have J3 : L2.Inv X pins σ1 H1 { s2 with heap := hp3 } := J.landed nb fly3.1 (up.trans up3) os ag
    have unfr : ∀ {hp : Heap} {ob : Obj} {vs : Array Value}, hp.FunFrames B (X.env :: X.outer) → hp.get? a = some ob → ob.data = .fields vs → a ∉ frs (X.env :: X.outer) := fun {hp ob vs} ff e dd hm => by
      obtain ⟨_, ob', e1, hnf⟩ := ff.mem hm
      rw [e] at e1
      cases e1
      exact hnf _ dd
    obtain ⟨oe3, vs3, at3, z3, dt3⟩ := fly3.there
    have offStack := unfr fly3.2.2.1 at3 dt3
    have offLocals : a ≠ X.env.locals := fun z => offStack (List.mem_filterMap.mpr ⟨X.env, List.mem_cons_self, by rw [frm, z]⟩)
    have newI : sI.heap.get? a = none := by
      cases e : sI.heap.get? a with
      | none => rfl
      | some ob =>
        have q := nb a ob e (by rw [show (X.tr (X.pn ++ pins) _).stack = X.env :: X.outer from stk]; exact offStack)
        rw [fly3.2.1] at q
        cases q
    have new0 : X.s_0.heap.get? a = none := by
      cases e : X.s_0.heap.get? a with
      | none => rfl
      | some ob =>
        obtain ⟨ob', q⟩ := J.base.there a ob e (by rw [nex]; exact fun z => nomatch z)
        rw [newI] at q
        cases q
    have offPins : ∀ p ∈ X.pn ++ pins, p.1 ≠ a := fun p hp z => by
      have q := (J.pin p hp).1
      rw [z, newI] at q
      cases q
    have offCells : ∀ x c, X.env.cells.lookup x = some c → c ≠ a := fun x c e z => by
      obtain ⟨v, ob, q, _⟩ := J.cell x c e
      rw [z, newI] at q
      cases q
    -- the state of a suite
    have begun : ∀ {hp4 : Heap}, HandSPX.FlyingZ B (X.env :: X.outer) a (Zc cls d) hp4 → sI.heap.UpToSlots hp4 → L2.Inv X pins σ1 (upd H1 a (ExcV cls d a)) { s2 with heap := hp4 } := fun {hp4} fly4 up4 => by
      have J4 : L2.Inv X pins σ1 H1 { s2 with heap := hp4 } := J.landed nb fly4.1 up4 os ag
      obtain ⟨oe4, vs4, at4, z4, dt4⟩ := fly4.there
      exact inv_track J4 new0 na offLocals offCells offPins (excV_ok at4 z4 dt4)
    -- the class that a clause names
    have named : ∀ {x : Str} {c : Value} {np : Pos} {Q E : Value → Shared → Prop}, Names X x c → Q c { s2 with heap := hp3 } → wpAny (model X.prog X.w) (X.A.mark (some (.ref a))) (eval (.Name x np) X.env) Q E { s2 with heap := hp3 } := fun {x c np Q E} hc q => by
      obtain ⟨hg, hdbg, hm | ⟨hm, hv, hnn⟩⟩ := hc
      · exact ld_glob (X := X.suite a (X.pn ++ pins)) (inv_toSuite J3 a) hg hm q hdbg
      · exact ld_blt (X := X.suite a (X.pn ++ pins)) (inv_toSuite J3 a) hg hm hv q hnn hdbg
    have TY : PySem.W.Looks (model X.prog X.w) hp3 (typeOf (.ref a)) cls := fun A' Q E t kp q => wpAny_typeOf_ref (kp _ _ at3) (by rw [z3.1]; exact q)
    have go : ∀ {hs' : List ExceptHandler} {l' : List Hd}, HdsT X hs' l' → wHds X.K Wo Dd l' cls d σ1 H1 →
        wpAny (model X.prog X.w) X.A (handleBy (.ref a) X.env hs') (SP X pins Dd) X.xe { s2 with heap := hp3 } := by
      intro hs' l' ht
      induction ht with
      | nil =>
        intro want
        refine wpAny_handleBy_nil ?_
        obtain ⟨_, _, _, ob, vs, T, oT, ts', q1, _, q2, q3, _⟩ := id fly3
        unfold PySem.passOn
        refine wpAny_bind (wpAny_field q1 q2 q3 ?_)
        rw [if_neg (show ¬ ((Value.ref T == Value.none) = true) from by simp)]
        have thrown : wpAny (model X.prog X.w) X.A (setFlight (.ref a) X.env.frame) (fun _ t => wpAny (model X.prog X.w) X.A (throw (.ref a) : Sem Flow) (SP X pins Dd) X.xe t) X.xe { s2 with heap := hp3 } := by
          rw [frm]
          refine HandSPX.setFlight_upZ fly3 fun hp4 held up4 => wpAny_throw (tk _ _ ?_)
          exact ⟨a, B, sI, pins, σ1, H1, cls, d, rfl, J, nb, (up.trans up3).trans up4, .inr (.inr (by rw [stk]; exact held)), na, os, ag, want⟩
        first
          | exact wpAny_bind thrown
          | exact wpAny_bind (wpAny_pure (wpAny_bind thrown))
      | @plain x c ts b0 bs np hpos hs2 l2 hc hsu _ ih =>
        rintro ⟨b, hb1, yes, no⟩
        refine wpAny_handleBy_cons (codeAny_handlers_test (named hc ((PySem.W.exm_one (M := model X.prog X.w) J3.kIn TY hb1).here ?_))) (by intro q; cases q)
        cases b with
        | false =>
          show wpAny _ X.A (handleBy (.ref a) X.env hs2) _ _ _
          exact ih (no rfl)
        | true =>
          refine codeAny_handlers_suite (HandSPX.lands_againZ fly3 fun hp4 fly4 up4 => ?_)
          refine wpAny_mono ((hsu a cls d (X.pn ++ pins)).run [] _ _ _ _ (inv_toSuite (begun fly4 ((up.trans up3).trans up4)) a) (yes rfl a na)) (fun fl s6 hsp => ?_) (fun _ _ z => False.elim z)
          cases fl with
          | next =>
            obtain ⟨σ6, H6, S6, q6⟩ := hsp
            exact ⟨_, _, inv_ofSuite S6 ok, q6⟩
          | brk =>
            obtain ⟨σ6, H6, S6, q6⟩ := hsp
            exact ⟨_, _, inv_ofSuite S6 ok, q6⟩
          | cont =>
            obtain ⟨σ6, H6, S6, q6⟩ := hsp
            exact ⟨_, _, inv_ofSuite S6 ok, q6⟩
          | ret u =>
            obtain ⟨v6, σ6, H6, S6, r6, q6⟩ := hsp
            exact ⟨_, _, _, inv_ofSuite S6 ok, r6, q6⟩
      | @named x n i c ts b0 bs np hpos hs2 l2 hc hN hi hln hsu _ ih =>
        rintro ⟨b, hb1, yes, no⟩
        refine wpAny_handleBy_cons (codeAny_handlers_test (named hc ((PySem.W.exm_one (M := model X.prog X.w) J3.kIn TY hb1).here ?_))) (by intro q; cases q)
        cases b with
        | false =>
          show wpAny _ X.A (handleBy (.ref a) X.env hs2) _ _ _
          exact ih (no rfl)
        | true =>
          refine codeAny_handlers_suite_as (HandSPX.lands_againZ fly3 fun hp4 fly4 up4 => ?_)
          refine store_ok (X := X.suite a (X.pn ++ pins)) (v := .ref a) (inv_toSuite (begun fly4 ((up.trans up3).trans up4)) a) hN hi (show Loc X.env.scope n from .inl hln) rfl (fun s5 S5 => ?_) (.inr hln)
          refine wpAny_mono ((hsu a cls d (X.pn ++ pins)).run [] s5 _ _ _ S5 (yes rfl a na)) (fun fl s6 hsp => ?_) (fun _ _ z => False.elim z)
          have behind : ∀ {σ6 : L2.St} {H6 : Hp} {Q : Shared → Prop}, L2.Inv (X.suite a (X.pn ++ pins)) [] σ6 H6 s6 → (∀ s7, L2.Inv X pins (σ6.set i none) H6 s7 → Q s7) →
              wpAny (model X.prog X.w) X.A (do bindName X.env n .none; unbindBehindTheSuite X.env n hpos) (fun _ s7 => Q s7) X.xe s6 := fun {σ6 H6 Q} S6 hq => gone_ok (inv_ofSuite S6 ok) hN hi hln hq
          cases fl with
          | next =>
            obtain ⟨σ6, H6, S6, q6⟩ := hsp
            exact behind S6 fun s7 J7 => ⟨_, _, J7, q6⟩
          | brk =>
            obtain ⟨σ6, H6, S6, q6⟩ := hsp
            exact behind S6 fun s7 J7 => ⟨_, _, J7, q6⟩
          | cont =>
            obtain ⟨σ6, H6, S6, q6⟩ := hsp
            exact behind S6 fun s7 J7 => ⟨_, _, J7, q6⟩
          | ret u =>
            obtain ⟨v6, σ6, H6, S6, r6, q6⟩ := hsp
            exact behind S6 fun s7 J7 => ⟨_, _, _, J7, r6, q6⟩
    exact go hh want
  · cases fl with
    | next =>
      obtain ⟨σ2, H2, J2, q⟩ := hsp
      exact wpAny_execs_nil ⟨σ2, H2, J2.ofTry ok, q⟩
    | brk =>
      obtain ⟨σ2, H2, J2, q⟩ := hsp
      exact ⟨σ2, H2, J2.ofTry ok, q⟩
    | cont =>
      obtain ⟨σ2, H2, J2, q⟩ := hsp
      exact ⟨σ2, H2, J2.ofTry ok, q⟩
    | ret u =>
      obtain ⟨v, σ2, H2, J2, r, q⟩ := hsp
      exact ⟨v, σ2, H2, J2.ofTry ok, r, q⟩
end
end DL

/-! The data layer, part 36: try, isinstance of exceptions, raise. -/
namespace DL
open PySem PySem.Spec PyProof.Rows L2

/-! ### mirrors -/
structure HM where
  c : List (Str × Bool)
  nm : Option Nat
  g : FS
def Out.undo (i : Nat) : Out → Out
  | .nx ρ S => .nx (ρ.set i none) S
  | .bk ρ S => .bk (ρ.set i none) S
  | .ct ρ S => .ct (ρ.set i none) S
  | .ex _ _ _ _ => .stuck
  | o => o
def Out.calm : Out → Out
  | .ex _ _ _ _ => .stuck
  | o => o
def hdM : List HM → Str → List (Str × D) → EnvD → Store → Out
  | [], C, fs, ρ, S => .ex C fs ρ S
  | q :: r, C, fs, ρ, S => match q.c.lookup C with
    | some true => (match q.nm with
      | none => (q.g ρ S).calm
      | some i => (q.g (ρ.set i (some (.exc C fs))) S).undo i)
    | some false => hdM r C fs ρ S
    | none => .stuck
def gTry (gb : FS) (hs : List HM) : FS := fun ρ S => match gb ρ S with
  | .ex C fs ρ' S' => hdM hs C fs ρ' S'
  | o => o
section
variable {X : Cx} {W : WX} {k : Nat} {pos : Pos}
theorem slots_unset {K : PySem.W.Frag} {mg : Str → Option Value} {φ : List Addr} {G : Hp} {ρ : EnvD} {σ : L2.St} (i : Nat) (h : Slots K mg φ G ρ σ) : Slots K mg φ G (ρ.set i none) (σ.set i none) := by
  refine ⟨by rw [List.length_set, List.length_set]; exact h.1, fun j d e => ?_⟩
  by_cases hj : j = i
  · subst hj
    by_cases hl : j < ρ.length
    · rw [List.getElem?_set_self hl] at e
      cases e
    · rw [List.getElem?_eq_none (by rw [List.length_set]; omega)] at e
      cases e
  · rw [List.getElem?_set_ne (fun z => hj z.symm)] at e ⊢
    exact h.2 j d e
/-- clauses and their mirrors -/
inductive HdsD (X : Cx) : List ExceptHandler → List HM → List Hd → Prop
  | nil : HdsD X [] [] []
  | plain {x : Str} {c : Value} {t : List (Str × Bool)} {g : FS} {b0 : Stmt} {bs : List Stmt} {np hp : Pos} {hds : List ExceptHandler} {ms : List HM} {l : List Hd} (hc : Names X x c) (ht : ∀ C b A, t.lookup C = some b → X.mg C = some (.ref A) → PySem.W.exmOne X.K (.ref A) c = some b)
      (hs : ∀ (a : Addr) (pn : List (Addr × Obj)), DSs (X.suite a pn) W0 (b0 :: bs) g) (r : HdsD X hds ms l) : HdsD X (.ExceptHandler (some (.Name x np)) none (b0 :: bs) hp :: hds) (⟨t, none, g⟩ :: ms) (⟨c, none, fun _ _ _ => tDS X W0 g⟩ :: l)
  | named {x n : Str} {i : Nat} {c : Value} {t : List (Str × Bool)} {g : FS} {b0 : Stmt} {bs : List Stmt} {np hp : Pos} {hds : List ExceptHandler} {ms : List HM} {l : List Hd} (hc : Names X x c) (hN : X.N.Nodup) (hi : X.N[i]? = some n) (hn : X.env.kindOf n = some .local)
      (ht : ∀ C b A, t.lookup C = some b → X.mg C = some (.ref A) → PySem.W.exmOne X.K (.ref A) c = some b)
      (hs : ∀ (a : Addr) (pn : List (Addr × Obj)), DSs (X.suite a pn) W0 (b0 :: bs) g) (r : HdsD X hds ms l) : HdsD X (.ExceptHandler (some (.Name x np)) (some n) (b0 :: bs) hp :: hds) (⟨t, some i, g⟩ :: ms) (⟨c, some i, fun _ _ _ => tDS X W0 g⟩ :: l)
theorem HdsD.toT : ∀ {hds : List ExceptHandler} {ms : List HM} {l : List Hd}, HdsD X hds ms l → HdsT X hds l
  | _, _, _, .nil => .nil
  | _, _, _, .plain hc _ hs r => .plain hc (fun a _ _ pn => hs a pn) r.toT
  | _, _, _, .named hc hN hi hn _ hs r => .named hc hN hi hn (fun a _ _ pn => hs a pn) r.toT
theorem HdsD.want {Dd : Ends} {Z φ : List Addr} {S : Store} {H : Hp} {ρ : EnvD} {σ : L2.St} {C : Str} {fs : List (Str × D)} {A : Addr} {dx : Option Addr} (hA : X.mg C = some (.ref A)) (R : Rel X.K X.mg Z φ S H) (sl : Slots X.K X.mg φ (gnd Z φ S H) ρ σ) (xd : ExD X.K X.mg φ (gnd Z φ S H) fs dx) :
    ∀ {hds : List ExceptHandler} {ms : List HM} {l : List Hd}, HdsD X hds ms l → WantS X W Z φ S H (hdM ms C fs ρ S) Dd → wHds X.K W Dd l (.ref A) dx σ H
  | _, _, _, .nil, w => w A dx σ φ H hA R Evo.refl sl xd
  | _, _, _, .plain (c := c) (t := t) (g := g) hc ht hs r, w => by
    unfold hdM at w
    cases e : t.lookup C with
    | none => simp only [e] at w; exact w.elim
    | some b =>
      simp only [e] at w
      refine ⟨b, ht C b A e hA, fun hb a na => ?_, fun hb => ?_⟩
      · subst hb
        obtain ⟨R1, E1, _⟩ := R.fresh (o := ExcV (.ref A) dx a) na
        refine ⟨Z, φ, S, ρ, R1, sl.evo E1, ?_⟩
        have w1 : WantS X W Z φ S (upd H a (ExcV (.ref A) dx a)) (g ρ S).calm Dd := WantS.go E1 w
        revert w1
        cases g ρ S <;> intro w1
        · exact w1
        · exact w1
        · exact w1
        · exact w1
        · exact w1.elim
        · exact w1
      · subst hb
        exact r.want hA R sl xd w
  | _, _, _, .named (c := c) (t := t) (g := g) (i := i) hc hN hi hn ht hs r, w => by
    unfold hdM at w
    cases e : t.lookup C with
    | none => simp only [e] at w; exact w.elim
    | some b =>
      simp only [e] at w
      refine ⟨b, ht C b A e hA, fun hb a na => ?_, fun hb => ?_⟩
      · subst hb
        obtain ⟨R1, E1, at1⟩ := R.fresh (o := ExcV (.ref A) dx a) na
        have da : Dat X.K X.mg φ (gnd Z φ S (upd H a (ExcV (.ref A) dx a))) (.exc C fs) (.ref a) := by
          unfold Dat
          refine ⟨a, A, dx, rfl, hA, at1, xd.imp id fun ⟨z, b, fvs, q0, q1, q2⟩ => ⟨z, b, fvs, q0, E1.ext _ _ q1, DatF.mono (List.prefix_refl _) E1.ext _ _ q2⟩⟩
        refine ⟨Z, φ, S, ρ.set i (some (.exc C fs)), R1, (sl.evo E1).set da, ?_⟩
        have w1 : WantS X W Z φ S (upd H a (ExcV (.ref A) dx a)) ((g (ρ.set i (some (.exc C fs))) S).undo i) Dd := WantS.go E1 w
        revert w1
        cases g (ρ.set i (some (.exc C fs))) S <;> intro w1
        · exact fun σ' φ' H' r1 e1 d => w1 (σ'.set i none) φ' H' r1 e1 (slots_unset i d)
        · exact w1
        · exact fun σ' φ' H' r1 e1 d => w1 (σ'.set i none) φ' H' r1 e1 (slots_unset i d)
        · exact fun σ' φ' H' r1 e1 d => w1 (σ'.set i none) φ' H' r1 e1 (slots_unset i d)
        · exact w1.elim
        · exact w1
      · subst hb
        exact r.want hA R sl xd w
theorem isS_try {gb : FS} {hds : List ExceptHandler} {ms : List HM} {l : List Hd} (hh : HdsD X hds ms l) : IsS X W (fun Dd σ H => tDS X (wHds X.K W Dd l) gb Dd σ H) (gTry gb ms) := fun Z φ S ρ σ H Dd R sl w => by
  refine ⟨Z, φ, S, ρ, R, sl, ?_⟩
  unfold gTry at w
  cases e : gb ρ S with
  | ex C fs ρ1 S1 =>
    rw [e] at w
    exact fun A dx σ1 φ1 H1 m R1 E1 sl1 xd => hh.want m R1 sl1 xd (WantS.go E1 w)
  | nx ρ1 S1 => rw [e] at w; exact w
  | rt d S1 => rw [e] at w; exact w
  | bk ρ1 S1 => rw [e] at w; exact w
  | ct ρ1 S1 => rw [e] at w; exact w
  | stuck => rw [e] at w; exact w
theorem ds_try (C : Cn X W k) (stk : X.stack = X.env :: X.outer) (frm : X.env.frame = some X.env.locals) (nex : X.ex = []) {body : List Stmt} {h0 : ExceptHandler} {hds : List ExceptHandler} {gb : FS} {ms : List HM} {l : List Hd}
    (hb : ∀ (Wn : WX) (pn : List (Addr × Obj)) (xe : Value → Shared → Prop), Cn (X.tr pn xe) Wn k → DSs (X.tr pn xe) Wn body gb) (hh : HdsD X (h0 :: hds) ms l) : DS X W (.Try body (h0 :: hds) [] [] pos) (gTry gb ms) :=
  .mk (ps_try_T (tb := fun Wn => tDS X Wn gb) stk frm nex C.tk (fun Wn pn xe tk po => hb Wn pn xe ⟨C.room, C.gd, C.calm, C.nd, po, tk⟩) hh.toT) (isS_try hh)
/-- name = value, within a suite -/
theorem ds_setS {e : Expr} {fe : FE} (nd : X.N.Nodup) {i : Nat} {x : Str} {pos' : Pos} (hi : X.N[i]? = some x) (hx : Loc X.env.scope x) (he : DE X W e fe) (hs : swapsWith e (some (.Name x pos')) pos.line X.env = pure false := by rfl)
    (hf : X.fn x = true ∨ X.env.scope.names.lookup x = some .local := by first | exact .inl rfl | exact .inr rfl | assumption) : DS X W (.Assign [.Name x pos'] e pos) (gSet i fe) :=
  ds_setP (fun t p => ps_set nd hi hx p hs hf) he
end

/-! ### isinstance of an exception -/
/-- isinstance(e, c) of exceptions of the text's own classes without a dict -/
def rIsX (K : PySem.W.Frag) : List V → Hp → VK → Prop := fun xs H Q => ∃ (a A : Addr) (c : V) (cv : Value) (b : Bool), xs = [.ref a, c] ∧ H a = some (ExcV (.ref A) none a) ∧ (∀ u, RelV c u → u = cv) ∧ ExcC K A ∧ PySem.W.kitOne K (.ref A) cv = some b ∧ Q (.bl b) H
theorem call_isX {X : Cx} : CallR X (.builtin "isinstance") (rIsX X.K) := by
  intro pins s σ H xs us Q I rel h
  obtain ⟨a, A, c, cv, b, rfl, ha, hcv, EC, e, q⟩ := h
  cases rel with
  | cons r1 rest =>
    cases rest with
    | cons r2 rest =>
      cases rest
      cases r1
      cases hcv _ r2
      obtain ⟨⟨ob, vs, q1, q2, q3⟩, _, _⟩ := I.hok a _ ha
      have J : PySem.W.InstAt s.heap a ob A none := by
        obtain ⟨oc, od, oda, osl⟩ := ob
        obtain ⟨z1, z2⟩ := q2
        dsimp only at z1 z2 q3
        subst z1 z2 q3
        exact ⟨q1, rfl, rfl, trivial⟩
      exact PySem.W.kia_one (PySem.W.handS_kitx_exc EC.hg EC.hk EC.hs EC.hd EC.ha EC.hn EC.ht EC.hm) I.kIn J e (fun z => nomatch z) fun tk => ⟨.bl b, H, I.kept (t' := tk) fun _ _ z => z, rfl, q⟩
section
variable {X : Cx} {W : WX} {k : Nat} {e b : Expr} {pos p : Pos}
/-- the second one: an own class, or a built-in one -/
def isArg : D → D → Bool
  | .cls c, .cls c' => decide (c = c')
  | .ty n, .ty m => decide (n = m)
  | _, _ => false
def gIsX (t : List (Str × Bool)) (c : D) : GC := fun ds S => match ds with
  | [.exc C [], c'] => if isArg c c' then (match t.lookup C with
    | some b => .ok (.bl b) S
    | none => .stuck) else .stuck
  | _ => .stuck
theorem cd_isX {t : List (Str × Bool)} {c : D} {cv : Value} (hc : (∃ x A, c = .cls x ∧ X.mg x = some (.ref A) ∧ cv = .ref A) ∨ ∃ n, c = .ty n ∧ cv = .type n) (ht : ∀ C b A, t.lookup C = some b → X.mg C = some (.ref A) → ExcC X.K A ∧ PySem.W.kitOne X.K (.ref A) cv = some b) :
    CallD X (rIsX X.K) (gIsX t c) := fun Z φ S H ds vs Q E R d w => by
  unfold gIsX at w
  split at w
  · rename_i C c'
    obtain ⟨v, u, rfl, h1, h2⟩ := datL2 d
    obtain ⟨hi, w1⟩ := want_if w
    cases e : t.lookup C with
    | none => simp only [e] at w1; exact w1.elim
    | some b =>
      simp only [e] at w1
      unfold Dat at h1
      obtain ⟨a, A, dx, rfl, hA, ha, hx⟩ := h1
      have ex : dx = none := hx.elim (·.2) fun z => absurd rfl z.1
      subst ex
      obtain ⟨h3, h4⟩ := ht C b A e hA
      refine ⟨a, A, u, cv, b, rfl, gnd_sub _ _ ha, fun w' hw' => ?_, h3, h4, w1.now R (dat_bl _)⟩
      rcases hc with ⟨x, A', rfl, hm, rfl⟩ | ⟨n, rfl, rfl⟩
      · cases c' <;> simp only [isArg, Bool.false_eq_true, decide_eq_true_eq] at hi
        subst hi
        unfold Dat at h2
        obtain ⟨A2, rfl, q⟩ := h2
        rw [hm] at q
        cases q
        exact hw'
      · cases c' <;> simp only [isArg, Bool.false_eq_true, decide_eq_true_eq] at hi
        subst hi
        unfold Dat at h2
        subst h2
        exact hw'
  · exact w.elim
end
end DL

/-! The data layer, part 37: a lambda without parameters handed to a def that calls it once. -/
namespace DL
open PySem PySem.Spec PyProof.Rows L2

/-! ### the lambda is made -/
theorem upd_comm {H : Hp} {a b : Addr} {o u : HO} (h : a ≠ b) : upd (upd H a o) b u = upd (upd H b u) a o := by
  funext c
  unfold upd
  by_cases h1 : c = b
  · rw [if_pos h1, if_pos h1, if_neg (fun z => h (z.symm.trans h1))]
  · rw [if_neg h1, if_neg h1]
section
variable {X : Cx} {W : WX} {pins : List (Addr × Obj)} {σ : L2.St} {H : Hp} {s : Shared} {Z φ : List Addr} {S : Store}
theorem set_self {α : Type} : ∀ {l : List α} {i : Nat} {a : α}, l[i]? = some a → l.set i a = l
  | [], _, _, h => by cases h
  | b :: l, 0, a, h => by cases h; rfl
  | b :: l, i + 1, a, h => by rw [List.set_cons_succ, set_self (l := l) h]
/-- one more row of a table, with the code object that it tells of -/
theorem rel_row (R : Rel X.K X.mg Z φ S H) {p : He.Defn} {q : Str} {j : Nat} {a c : Addr} {ps more : Array Value} (hS : S[j]? = some (.tbl p q)) (hφ : φ[j]? = some a) (hP : H a = some (.tbl ps)) (hc : H c = none) (hT : TriplesOk (ps ++ more).toList)
    (hm : ∀ (pos : Pos) (cv : Value), codeAmong pos (ps ++ more).toList = some cv → codeAmong pos ps.toList = some cv ∨ cv = .ref c) :
    Rel X.K X.mg Z φ S (upd (upd H a (.tbl (ps ++ more))) c (LamX.CodeO c q)) ∧ Evo Z φ S H φ S (upd (upd H a (.tbl (ps ++ more))) c (LamX.CodeO c q)) ∧ gnd Z φ S (upd (upd H a (.tbl (ps ++ more))) c (LamX.CodeO c q)) c = some (LamX.CodeO c q) := by
  obtain ⟨R1, E1, at1⟩ := R.fresh (o := LamX.CodeO c q) hc
  have ne : a ≠ c := ne_of_none hP hc
  obtain ⟨ea, ps', e1, e2, e3⟩ := R.ob j a _ hφ hS
  rw [hP] at e1
  cases e1
  have ok : SOk X.K X.mg φ (gnd Z φ S (upd H c (LamX.CodeO c q))) (upd (upd H c (LamX.CodeO c q)) a (.tbl (ps ++ more))) a (.tbl p q) := by
    refine ⟨ea, _, upd_same, hT, fun pos cv hcv => ?_⟩
    rcases hm pos cv hcv with z | z
    · obtain ⟨c0, q1, q2⟩ := e3 pos cv z
      exact ⟨c0, q1, E1.ext _ _ q2⟩
    · exact ⟨c, z, at1⟩
  obtain ⟨R2, E2⟩ := R1.mutate (u := .tbl p q) (ho := .tbl (ps ++ more)) hφ hS rfl rfl ok
  have eg := gnd_mut (Z := Z) (H := upd H c (LamX.CodeO c q)) (ho := .tbl (ps ++ more)) hφ hS (u := .tbl p q) rfl rfl
  rw [set_self hS, ← upd_comm ne] at R2 E2 eg
  exact ⟨R2, E1.trans E2, by rw [eg]; exact at1⟩
theorem lam_makeD {p : He.Defn} {j : Nat} {params : Arguments} {body : Expr} {scope : Scope} {pos : Pos} {E Q : Value → Shared → Prop} (I : L2.Inv X pins σ H s) (R : Rel X.K X.mg Z φ S H) (hS : S[j]? = some (.tbl p (X.env.qual ++ "<lambda>")))
    (hcode : X.env.code = .ref (He.cT X.K p).1) (TB : LamX.TabB X.base X.mg (He.cT X.K p).1 (He.cT X.K p).2) (hdef : defaultsOf params X.env = ([], [])) (hfree : ∀ y ∈ scope.names, y.2 = .free → ∃ c, X.env.cells.lookup y.1 = some c)
    (h : ∀ (f c : Addr) (pm ctv : Value) (H1 : Hp) (s1 : Shared), L2.Inv X pins σ H1 s1 → Rel X.K X.mg Z φ S H1 → Evo Z φ S H φ S H1 →
      s1.heap.get? f = some (PySem.W.kla_obj "<lambda>" (X.env.qual ++ "<lambda>") params body scope (cloFrom X.env.cells scope.names []) pm c ctv) → H1 f = none → f ∉ frs X.stack → gnd Z φ S H1 c = some (LamX.CodeO c (X.env.qual ++ "<lambda>")) → Q (.ref f) s1) :
    wpAny (model X.prog X.w) X.A (eval (.Lambda params body scope pos) X.env) Q E s := by
  obtain ⟨a, hφ, _⟩ := rel_get R hS
  obtain ⟨ea, ps, hP, ht, codes⟩ := R.ob j a _ hφ hS
  subst ea
  refine PySem.W.kla_eval hdef ?_
  have atP : s.heap.get? (He.cT X.K p).2 = some { cls := .none, data := .fields ps } := I.hok _ _ hP
  have away : ∀ f, s.heap.objs.size ≤ f → f ∉ frs X.stack := fun f hf z => by
    rcases List.mem_cons.mp (I.stkSub _ z) with e | e
    · have q := I.lt
      rw [← e] at q
      exact absurd (Nat.lt_of_lt_of_le q hf) (Nat.lt_irrefl _)
    · exact I.nofs hf e
  cases hc : codeAmong pos ps.toList with
  | some cv =>
    obtain ⟨c, e, hco⟩ := codes pos cv hc
    subst e
    refine PySem.W.kla_makeFunctionHit (ps := ps) (P := (He.cT X.K p).2) (c := (He.cT X.K p).1) (mg := X.mg) (closure_ok hfree) I.ok.glob (I.mod.glob.keeps I.bk) hcode (TB.code.keeps I.bk) atP ht hc (TB.bm.keeps I.bk) fun ctv hp tk grows old => ?_
    have I1 := I.kept (t' := tk) (h' := hp.push (PySem.W.kla_obj "<lambda>" (X.env.qual ++ "<lambda>") params body scope (cloFrom X.env.cells scope.names []) ((X.mg "__name__").getD .none) c ctv)) fun b o e => Heap.get?_push_of_some _ (grows b o e)
    exact h hp.objs.size c ((X.mg "__name__").getD .none) ctv H _ I1 R Evo.refl (Heap.get?_push_size _ rfl) (I.hok.fresh old) (away _ old) hco
  | none =>
    refine PySem.W.kla_makeFunction (ps := ps) (P := (He.cT X.K p).2) (c := (He.cT X.K p).1) (mg := X.mg) (closure_ok hfree) I.ok.glob (I.mod.glob.keeps I.bk) hcode (TB.code.keeps I.bk) atP ht hc TB.gP (TB.bm.keeps I.bk) fun c ctv hp tk grows fresh below record table => ?_
    obtain ⟨c2, oc, vs, t, e2, hoc, hd, hv⟩ := record
    cases e2
    have old : s.heap.objs.size ≤ hp.objs.size := Nat.le_trans fresh (Nat.le_of_lt below)
    have nc : H c = none := I.hok.fresh fresh
    have I1 := LamX.inv_table (t' := tk) (more := #[rawInt pos.line, rawInt pos.col, .ref c]) (h' := hp.push (PySem.W.kla_obj "<lambda>" (X.env.qual ++ "<lambda>") params body scope (cloFrom X.env.cells scope.names []) ((X.mg "__name__").getD .none) c ctv)) I hP
      (fun b o hb e => Heap.get?_push_of_some _ (grows b o hb e)) (Heap.get?_push_of_some _ table) fresh ⟨oc, vs, t, Heap.get?_push_of_some _ hoc, hd, hv⟩
    have el : (ps ++ #[rawInt pos.line, rawInt pos.col, .ref c]).toList = ps.toList ++ [rawInt pos.line, rawInt pos.col, .ref c] := by simp
    obtain ⟨R1, E1, at1⟩ := rel_row (more := #[rawInt pos.line, rawInt pos.col, .ref c]) R hS hφ hP nc (by rw [el]; exact PySem.TriplesOk_snoc _ _ _ _ ht) fun pos' cv hcv => LamX.among_app _ ht (by rw [← el]; exact hcv)
    refine h hp.objs.size c ((X.mg "__name__").getD .none) ctv _ _ I1 R1 E1 (Heap.get?_push_size _ rfl) ?_ (away _ old) at1
    have n1 : hp.objs.size ≠ c := Nat.ne_of_gt below
    have n2 : hp.objs.size ≠ (He.cT X.K p).2 := Nat.ne_of_gt (Nat.lt_of_lt_of_le (Heap.lt_size atP) old)
    rw [upd_ne n1, upd_ne n2]
    exact I.hok.fresh old
end

/-! ### the lambda is called -/
section
variable {X : Cx} {pins : List (Addr × Obj)} {σ : L2.St} {H : Hp} {s : Shared}
/-- x(), in the def that was handed the lambda; what is raised is wished for at that def's slots -/
theorem pe_actD {CXg : CXT} {Eg : XK} {Ng : List Str} {qg : Str} {sg : Scope} {g f c : Addr} {cdg pm ctv : Value} {params : Arguments} {body : Expr} {scope : Scope} {k i : Nat} {a : Str} {pn : List (Addr × Obj)} {xe : Value → Shared → Prop} {Wt : WX} {tb : XK → TE} {p1 p2 : Pos}
    (I : L2.Inv X pins σ H s) (L : LamX.LamS X.env.scope scope) (hf : s.heap.get? f = some (PySem.W.kla_obj "<lambda>" (X.env.qual ++ "<lambda>") params body scope (cloFrom X.env.cells scope.names []) pm c ctv)) (hfn : H f = none) (hfr : f ∉ frs X.stack)
    (hbind : bindArgs (PySem.W.kla_fn "<lambda>" (X.env.qual ++ "<lambda>") params body scope (cloFrom X.env.cells scope.names []) pm (.ref c) ctv) ⟨[], []⟩ = pure [])
    (tk : Takes ((cxOf CXg X.prog X.w X.K X.mg X.base Ng qg sg g cdg X.A X.stack s H Eg).tr pn xe) Wt) (hr : Room (k + 1) (X.A.deeper (envOfC qg sg s.heap.objs.size g cdg)))
    (hbody : ∀ (A : Around) (outer : List Env) (t : Shared) (Ht : Hp) (E : XK), Room k (A.deeper (LamX.lamEnv X scope t.heap.objs.size f c)) → A.guards = X.A.guards → PE (LamX.lamCx X A outer t Ht E scope f c) body (tb E))
    (hN : Ng[i]? = some a) (hv : Vis sg a) (hd : (a == ("__debug__" : Str)) = false := by decide) (hcd : (a == ("__classdict__" : Str)) = false := by decide) :
    PE ((cxOf CXg X.prog X.w X.K X.mg X.base Ng qg sg g cdg X.A X.stack s H Eg).tr pn xe) (.Call (.Name a p1) [] [] p2)
      (fun σ1 H1 Q => σ1[i]? = some (some (.ref f)) ∧ H1 c = some (LamX.CodeO c (X.env.qual ++ "<lambda>")) ∧ tb (fun cls d H2 => Wt cls d σ1 H2) σ H1 Q) := by
  refine ⟨fun pins1 t1 σ1 H1 Q I1 ⟨slot, code, rd⟩ => ?_⟩
  refine wpAny_Call_Name_kw (thn ((pe_var (pos := p1) (i := i) hN hv hd hcd).run pins1 t1 σ1 H1 (fun v H2 => v = .ref f ∧ H2 = H1) I1 ⟨.ref f, slot, rfl, rfl⟩) fun u t2 ⟨v, H2, I2, rel, same⟩ => ?_)
  obtain ⟨e1, e2⟩ := same
  subst e1
  rw [e2] at I2
  obtain rfl : u = Value.ref f := rel
  have thunk : t2.heap.get? f = some (PySem.W.kla_obj "<lambda>" (X.env.qual ++ "<lambda>") params body scope (cloFrom X.env.cells scope.names []) pm c ctv) := I2.base.keep f _ hf hfn hfr (fun z => nomatch (show f ∈ ([] : List Addr) from z))
  refine PySem.W.callWith_F0 ⟨_, _, _, _, thunk⟩ ?_
  have kept : Un (frs X.stack) [] H H1 s.heap t2.heap := I2.base
  obtain ⟨⟨oc, vs, t, q1, q2, q3⟩, _, _⟩ := I2.hok c _ code
  have room := hr
  refine wpAny_call (codeAny_mono (R := CR (L2.CX X.prog X.w) (envOfC qg sg s.heap.objs.size g cdg :: X.stack) X.prog X.w H1 t2 Q (fun cls d H2 => Wt cls d σ1 H2)) ?_ fun res t3 hq => ?_)
  · refine PySem.W.kla_callFunE room.depth thunk rfl L.co L.gen rfl ⟨c, oc, vs, t, rfl, q1, q2, q3⟩ ?_
    rw [show bindArgs (PySem.W.kla_fn "<lambda>" (X.env.qual ++ "<lambda>") params body scope (cloFrom X.env.cells scope.names []) pm (.ref c) ctv) ⟨([] : List Value) ++ [], []⟩ = pure [] from hbind]
    refine wpAny_pure (wpAny_newFunctionEnv (fun y hy => (L.own y hy).2) (fun y hy => absurd hy (by simp)) (fun hp names sub => ⟨I2.nolimit.fresh _ sub, ?_⟩) L.kind)
    show codeAny _ _ (.expr body (LamX.lamEnv X scope t2.heap.objs.size f c)) _ _
    have grows : ∀ b o, t2.heap.get? b = some o → hp.get? b = some o := fun b o e => sub.extBut b o (Nat.ne_of_lt (Heap.lt_size e)) (Heap.get?_push_of_some _ e)
    have J := LamX.lam_start2 (A := X.A.deeper (envOfC qg sg s.heap.objs.size g cdg)) (outer := envOfC qg sg s.heap.objs.size g cdg :: X.stack) (E := fun cls d H2 => Wt cls d σ1 H2) (f := f) (c' := c) (tk := t2.toks + ([] : List (Str × Value)).length) I L I2.env0 room.hd kept names grows
    refine PySem.W.kla_codeExpr (wpAny_mono ((hbody _ _ t2 H1 _ (room.deeper _) rfl).run [] _ _ H1 Q J rd) (fun v t3 hq => ?_) fun _ _ z => z)
    obtain ⟨w', H3, J3, rv, q⟩ := hq
    exact ⟨w', H3, J3.os, J3.bare, J3.base, J3.hok, rv, q⟩
  · cases res with
    | error e => exact tk e t3 (XE.of_call I2 (fun _ _ _ z => z) hq)
    | ok fl =>
      cases fl with
      | ret u => exact I2.after hq
      | next => exact hq.elim
      | brk => exact hq.elim
      | cont => exact hq.elim
end

/-! ### the def that calls it -/
/-- the def's statements, th what the lambda answers -/
def TsD (Y : Cx) (W : WX) (f c : Addr) (q : Str) (tl : XK → Hp → VK → Prop) (sts : List Stmt) (m : (Store → Res D) → FS) : Prop :=
  ∃ t : TS, PSs Y sts t ∧ ∀ (th : Store → Res D) (Z φ : List Addr) (S : Store) (ρ : EnvD) (σ : L2.St) (H : Hp) (Dd : Ends), Rel Y.K Y.mg Z φ S H → Slots Y.K Y.mg φ (gnd Z φ S H) ρ σ → σ[0]? = some (some (.ref f)) → H c = some (LamX.CodeO c q) →
    (∀ (Q : VK) (E : XK), Want Y.K Y.mg (RDat Y.K Y.mg) Z φ S H (th S) Q E → tl E H Q) → WantS Y W Z φ S H (m th ρ S) Dd → t Dd σ H
/-- the lambda's call in the def -/
def Act (Y : Cx) (f c : Addr) (q : Str) (tl : XK → Hp → VK → Prop) (a : Str) : Prop := ∀ (Wt : WX) (pn : List (Addr × Obj)) (xe : Value → Shared → Prop) (p1 p2 : Pos), Takes (Y.tr pn xe) Wt →
  PE (Y.tr pn xe) (.Call (.Name a p1) [] [] p2) (fun σ1 H1 Q => σ1[0]? = some (some (.ref f)) ∧ H1 c = some (LamX.CodeO c q) ∧ tl (fun cls d H2 => Wt cls d σ1 H2) H1 Q)
section
variable {Y : Cx} {W : WX} {k : Nat} {f c : Addr} {q : Str} {tl : XK → Hp → VK → Prop} {a : Str} {sts : List Stmt} {m : (Store → Res D) → FS} {pos : Pos}
/-- name = constant -/
theorem ts_const (C : Cn Y W k) {i : Nat} {x : Str} {e : Expr} {v : V} {d : D} {pos' : Pos} (hi0 : (i == 0) = false) (hi : Y.N[i]? = some x) (hx : Loc Y.env.scope x) (he : PE Y e (L2.tC v)) (hd : ∀ φ G, Dat Y.K Y.mg φ G d v) (r : TsD Y W f c q tl sts m)
    (hs : swapsWith e (some (.Name x pos')) pos.line Y.env = pure false := by rfl) (hf : Y.fn x = true ∨ Y.env.scope.names.lookup x = some .local := by first | exact .inl rfl | exact .inr rfl | assumption) :
    TsD Y W f c q tl (.Assign [.Name x pos'] e pos :: sts) (fun th => gSeq (gSet i (fC d)) (m th)) := by
  obtain ⟨t, pt, qt⟩ := r
  refine ⟨_, pss_cons (ps_set C.nd hi hx he hs hf) pt, fun th Z φ S ρ σ H Dd R sl h0 hc hth w => ?_⟩
  refine qt th Z φ S (ρ.set i (some d)) (σ.set i (some v)) H Dd R (sl.set (hd _ _)) ?_ hc hth w
  rw [List.getElem?_set_ne (fun z => by rw [z] at hi0; cases hi0)]
  exact h0
/-- the try; what follows it -/
theorem ts_try (C : Cn Y W k) (stk : Y.stack = Y.env :: Y.outer) (frm : Y.env.frame = some Y.env.locals) (nex : Y.ex = []) {body : List Stmt} {h0 : ExceptHandler} {hds : List ExceptHandler} {gb : (Store → Res D) → FS} {ms : List HM} {l : List Hd} {g : FS} {tb : WX → TS}
    (hb : ∀ (Wn : WX) (pn : List (Addr × Obj)) (xe : Value → Shared → Prop), Takes (Y.tr pn xe) Wn → PSs (Y.tr pn xe) body (tb Wn))
    (hi : ∀ (Wn : WX) (th : Store → Res D) (Z φ : List Addr) (S : Store) (ρ : EnvD) (σ : L2.St) (H : Hp) (Dd : Ends), Rel Y.K Y.mg Z φ S H → Slots Y.K Y.mg φ (gnd Z φ S H) ρ σ → σ[0]? = some (some (.ref f)) → H c = some (LamX.CodeO c q) →
      (∀ (Q : VK) (E : XK), Want Y.K Y.mg (RDat Y.K Y.mg) Z φ S H (th S) Q E → tl E H Q) → WantS Y Wn Z φ S H (gb th ρ S) Dd → tb Wn Dd σ H)
    (hh : HdsD Y (h0 :: hds) ms l) (r : DSs Y W sts g) : TsD Y W f c q tl (.Try body (h0 :: hds) [] [] pos :: sts) (fun th => gSeq (gTry (gb th) ms) g) := by
  refine ⟨_, pss_cons (ps_try_T stk frm nex C.tk (fun Wn pn xe tk _ => hb Wn pn xe tk) hh.toT) r, fun th Z φ S ρ σ H Dd R sl hs hc hth w => ?_⟩
  have w0 : WantS Y W Z φ S H (gTry (gb th) ms ρ S) { Dd with nx := tDS Y W g Dd } := by
    have w1 : WantS Y W Z φ S H ((gTry (gb th) ms ρ S).seq g) Dd := w
    cases e : gTry (gb th) ms ρ S with
    | nx ρ1 S1 =>
      rw [e] at w1
      exact fun σ1 φ1 H1 R1 E1 sl1 => ⟨Z, φ1, S1, ρ1, R1, sl1, WantS.go E1 w1⟩
    | rt d S1 => rw [e] at w1; exact w1
    | bk ρ1 S1 => rw [e] at w1; exact w1
    | ct ρ1 S1 => rw [e] at w1; exact w1
    | ex C fs ρ1 S1 => rw [e] at w1; exact w1
    | stuck => rw [e] at w1; exact w1
  refine hi _ th Z φ S ρ σ H _ R sl hs hc hth ?_
  unfold gTry at w0
  cases e : gb th ρ S with
  | ex C fs ρ1 S1 =>
    rw [e] at w0
    exact fun A dx σ1 φ1 H1 m R1 E1 sl1 xd => hh.want m R1 sl1 xd (WantS.go E1 w0)
  | nx ρ1 S1 => rw [e] at w0; exact w0
  | rt d S1 => rw [e] at w0; exact w0
  | bk ρ1 S1 => rw [e] at w0; exact w0
  | ct ρ1 S1 => rw [e] at w0; exact w0
  | stuck => rw [e] at w0; exact w0
/-- name = a() -/
def gActSet (i : Nat) (th : Store → Res D) : FS := fun ρ S => (th S).into ρ fun d S => .nx (ρ.set i (some d)) S
theorem ts_trySet (act : Act Y f c q tl a) (C : Cn Y W k) (stk : Y.stack = Y.env :: Y.outer) (frm : Y.env.frame = some Y.env.locals) (nex : Y.ex = []) {i : Nat} {x : Str} {p1 p2 pa pb : Pos} {h0 : ExceptHandler} {hds : List ExceptHandler} {ms : List HM} {l : List Hd} {g : FS}
    (hi : Y.N[i]? = some x) (hx : Loc Y.env.scope x) (hh : HdsD Y (h0 :: hds) ms l) (r : DSs Y W sts g) (hs : swapsWith (.Call (.Name a p1) [] [] p2) (some (.Name x pa)) pb.line Y.env = pure false := by rfl)
    (hf : Y.fn x = true ∨ Y.env.scope.names.lookup x = some .local := by first | exact .inl rfl | exact .inr rfl | assumption) :
    TsD Y W f c q tl (.Try [.Assign [.Name x pa] (.Call (.Name a p1) [] [] p2) pb] (h0 :: hds) [] [] pos :: sts) (fun th => gSeq (gTry (gActSet i th) ms) g) :=
  ts_try C stk frm nex (fun Wn pn xe tk => pss_one (ps_set (X := Y.tr pn xe) C.nd hi hx (act Wn pn xe p1 p2 tk) hs hf))
    (fun Wn th Z φ S ρ σ H Dd R sl h0 hc hth w => ⟨h0, hc, hth _ _ (WantS.into (W := Wn) sl w fun d S1 v φ1 H1 R1 E1 dd w1 => w1 _ φ1 H1 R1 Evo.refl ((sl.evo E1).set dd))⟩) hh r
/-- a() -/
def gActX (th : Store → Res D) : FS := fun ρ S => (th S).into ρ fun _ S => .nx ρ S
theorem ts_tryX (act : Act Y f c q tl a) (C : Cn Y W k) (stk : Y.stack = Y.env :: Y.outer) (frm : Y.env.frame = some Y.env.locals) (nex : Y.ex = []) {p1 p2 pb : Pos} {h0 : ExceptHandler} {hds : List ExceptHandler} {ms : List HM} {l : List Hd} {g : FS}
    (hh : HdsD Y (h0 :: hds) ms l) (r : DSs Y W sts g) (hs : swapsWith (.Call (.Name a p1) [] [] p2) none pb.line Y.env = pure false := by rfl) :
    TsD Y W f c q tl (.Try [.Expr (.Call (.Name a p1) [] [] p2) pb] (h0 :: hds) [] [] pos :: sts) (fun th => gSeq (gTry (gActX th) ms) g) :=
  ts_try C stk frm nex (fun Wn pn xe tk => pss_one (ps_expr (X := Y.tr pn xe) (act Wn pn xe p1 p2 tk) hs))
    (fun Wn th Z φ S ρ σ H Dd R sl h0 hc hth w => ⟨h0, hc, hth _ _ (WantS.into (W := Wn) sl w fun d S1 v φ1 H1 R1 E1 dd w1 => w1 _ φ1 H1 R1 Evo.refl (sl.evo E1))⟩) hh r
end

/-! ### its promise -/
structure FnT (P : Program) (w : World) (K : PySem.W.Frag) (mg : Str → Option Value) (base : Heap) (k : Nat) (x : Str) (sg : Scope) (g : Addr) (fd : FuncData) (a : Str) (Ng : List Str) (m : (Store → Res D) → FS) : Prop where
  slot : Ng[0]? = some a
  vis : Vis sg a
  run : ∀ (A : Around) (outer : List Env) (s : Shared) (H : Hp) (f c : Addr) (q : Str) (tl : XK → Hp → VK → Prop) (Q : VK) (E : XK) (th : Store → Res D) (Z φ : List Addr) (S : Store), Room (k + 1) A → A.guards = some [] → Env0 P w K mg base A outer s H →
    (∀ cdv : Value, Room k (A.deeper (envOfC x sg s.heap.objs.size g cdv)) → Act (cxOf (L2.CX P w) P w K mg base Ng x sg g cdv A outer s H E) f c q tl a) → H c = some (LamX.CodeO c q) → Rel K mg Z φ S H →
    (∀ (Q : VK) (E : XK), Want K mg (RDat K mg) Z φ S H (th S) Q E → tl E H Q) → Want K mg (RDat K mg) Z φ S H (m th (List.replicate Ng.length none) S).res Q E →
    codeAny (model P w) A (.call (.ref g) ⟨[.ref f], []⟩) (CR (L2.CX P w) outer P w H s Q E) s
theorem slots_none {K : PySem.W.Frag} {mg : Str → Option Value} {φ : List Addr} {G : Hp} {σ : L2.St} : Slots K mg φ G (List.replicate σ.length none) σ :=
  ⟨List.length_replicate, fun i d e => by
    have h := (List.getElem?_eq_some_iff.mp e)
    obtain ⟨h1, h2⟩ := h
    rw [List.getElem_replicate] at h2
    cases h2⟩
theorem fnT {P : Program} {w : World} {K : PySem.W.Frag} {mg : Str → Option Value} {base : Heap} {x : Str} {params : Arguments} {body : List Stmt} {scope : Scope} {kws : List (Str × V)} {g : Addr} {fd : FuncData} {Ng : List Str} {a : Str} {k : Nat} {m : (Store → Res D) → FS}
    (F : FunD K x x params body scope [] kws g fd) (Sc : FnScope Ng [a] scope) (hslot : Ng[0]? = some a) (hvis : Vis scope a) (hbd : ∀ (s : Shared) (u : Value), BindsTo s fd ⟨[u], []⟩ [(a, u)])
    (hb : ∀ (cdv : Value) (A : Around) (outer : List Env) (s : Shared) (H : Hp) (E : XK) (f c : Addr) (q : Str) (tl : XK → Hp → VK → Prop), Cn (cxOf (L2.CX P w) P w K mg base Ng x scope g cdv A outer s H E) (fun c d _ H' => E c d H') k →
      Act (cxOf (L2.CX P w) P w K mg base Ng x scope g cdv A outer s H E) f c q tl a → TsD (cxOf (L2.CX P w) P w K mg base Ng x scope g cdv A outer s H E) (fun c d _ H' => E c d H') f c q tl body m) : FnT P w K mg base k x scope g fd a Ng m := by
  obtain ⟨oc, od, dV, kV, doc, pm, an, cdv, ct, osl, rfl, lk, hcd, _, _⟩ := F.ex
  refine ⟨hslot, hvis, fun A outer s H f c q tl Q E th Z φ S hr hgd e0 act hc R hth want => ?_⟩
  refine LamX.run_ofS (N := Ng) (ps := [a]) (us := [.ref f]) (vs := [.ref f]) lk hcd Sc hr e0 (hbd s (.ref f)) (.cons rfl .nil) rfl fun hr' => ?_
  obtain ⟨t, pt, qt⟩ := hb cdv A outer s H E f c q tl ⟨hr', hgd, rfl, Sc.nd, passes_of rfl, takes_of rfl rfl rfl rfl⟩ (act cdv hr')
  refine ⟨t, pt, ?_⟩
  have len : (L2.start Ng [V.ref f]).length = Ng.length := by
    unfold L2.start
    have h1 : 0 < Ng.length := (List.getElem?_eq_some_iff.mp hslot).1
    simp [List.length_append, List.length_replicate]
    omega
  have sl : Slots K mg φ (gnd Z φ S H) (List.replicate Ng.length none) (L2.start Ng [V.ref f]) := by
    rw [← len]
    exact slots_none
  refine qt th Z φ S (List.replicate Ng.length none) (L2.start Ng [.ref f]) H _ R sl (by unfold L2.start; rfl) hc hth ?_
  cases e : m th (List.replicate Ng.length none) S with
  | nx ρ S1 =>
    rw [e] at want
    exact fun σ φ1 H1 R1 E1 _ => want .non φ1 H1 R1 E1 (by unfold RDat Dat; rfl)
  | rt d S1 =>
    rw [e] at want
    exact want
  | ex C fs ρ S1 =>
    rw [e] at want
    exact fun A1 dx σ φ1 H1 m1 R1 E1 _ xd => want A1 dx φ1 H1 m1 R1 E1 xd
  | bk ρ S1 => rw [e] at want; exact want.elim
  | ct ρ S1 => rw [e] at want; exact want.elim
  | stuck => rw [e] at want; exact want.elim
/-- fnG, the def's own code object told -/
theorem fnGx {P : Program} {w : World} {K : PySem.W.Frag} {mg : Str → Option Value} {base : Heap} {x qual : Str} {params : Arguments} {body : List Stmt} {scope : Scope} {dvs : List V} {kws : List (Str × V)} {f : Addr} {fd : FuncData} {N ps : List Str} {k : Nat} {g : FS}
    (F : FunD K x qual params body scope dvs kws f fd) (S : FnScope N ps scope)
    (hb : ∀ (cdv : Value) (A : Around) (outer : List Env) (s : Shared) (H : Hp) (E : XK), (∃ oc od dV kV doc pm an ct osl, K.lookup f = some ⟨oc, od, .func (PySem.W.fnOf x qual params body scope dV kV doc pm an cdv ct), osl⟩ ∧ PySem.W.codeIn K cdv qual = true) → Cn (cxOf (L2.CX P w) P w K mg base N qual scope f cdv A outer s H E) (fun c d _ H' => E c d H') k →
      DSs (cxOf (L2.CX P w) P w K mg base N qual scope f cdv A outer s H E) (fun c d _ H' => E c d H') body g) : FnG P w K mg base (k + 1) f fd ps (spD K mg ps.length (semOf N.length g)) := by
  obtain ⟨oc, od, dV, kV, doc, pm, an, cdv, ct, osl, rfl, lk, hcd, _, _⟩ := F.ex
  refine ⟨fun vs H Q E h => h.1, fun A outer s H args us vs Q E hr hgd e0 hbd r hsp => ?_⟩
  have hl : us.length = ps.length := r.length.symm.trans hsp.1
  have keep : ∀ b o, base.get? b = some o → s.heap.get? b = some o := fun b o e => (e0.bs b o e).1
  have inK : K.In s.heap := e0.mod.kin.keeps keep
  have par : ∀ y ∈ ps.zip us, scope.names.lookup y.1 = some .local ∨
      (scope.names.lookup y.1 = some .cell ∧ ((cellsFrom (s.heap.objs.size + 1) scope.names []).lookup y.1).isSome = true) := by
    rintro ⟨n, v⟩ hy
    exact (S.par n (List.of_mem_zip hy).1).imp id fun q => ⟨q, PySem.W.cellsFrom_some _ _ _ (.inl q)⟩
  refine codeAny_call_function hr.depth (inK _ _ lk) rfl S.co S.gen rfl
    (PySem.W.codeRec_of inK hcd) (hbd _ _ _ _ ?_)
  refine wpAny_newFunctionEnv_cells S.kind par fun env he s1 entered => ?_
  subst he
  refine ⟨(e0.mod.nolimit.keeps keep).keeps entered.toInCall.keep, codeAny_func ?_⟩
  -- the body's own context
  have body' := hb cdv A outer s H E ⟨oc, od, dV, kV, doc, pm, an, ct, osl, lk, hcd⟩ ⟨hr.deeper _, hgd, rfl, S.nd, passes_of rfl, takes_of rfl rfl rfl rfl⟩
  obtain ⟨hlen, Z, φ, S0, ds, R, dl, w0⟩ := hsp
  have I0 := inv_start (CX := L2.CX P w) (mg := mg) (base := base) (cd := cdv) (qual := qual) (f := f) (E := E) S hr.hd e0 hlen r entered
  have q0 : tDS (cxOf (L2.CX P w) P w K mg base N qual scope f cdv A outer s H E) (fun c d _ H' => E c d H') g { nx := fun _ H' => Q .non H', rt := Q } (L2.start N vs) H := by
    refine ⟨Z, φ, S0, startD N.length ds, R, slots_start dl, ?_⟩
    unfold semOf at w0
    cases hg : g (startD N.length ds) S0 with
    | nx ρ S1 =>
      rw [hg] at w0
      exact fun σ φ1 H1 R1 E1 _ => w0 .non φ1 H1 R1 E1 (by unfold RDat Dat; rfl)
    | rt d S1 =>
      rw [hg] at w0
      exact w0
    | ex C fs ρ S1 =>
      rw [hg] at w0
      exact fun A1 dx σ φ1 H1 m R1 E1 _ x => w0 A1 dx φ1 H1 m R1 E1 x
    | _ =>
      rw [hg] at w0
      exact w0.elim
  refine wpAny_mono (PSs.run body' [] s1 (L2.start N vs) H _ I0 q0) (fun fl s' hs => ?_) fun _ _ z => z
  have fin : ∀ {σ' : L2.St} {H' : Hp} {v : V} {u : Value}, Inv (cxOf (L2.CX P w) P w K mg base N qual scope f cdv A outer s H E) [] σ' H' s' → RelV v u →
      Q v H' → CE outer P w H s Q u s' := fun J rv q => ⟨_, _, J.os, J.bare, J.base, J.hok, rv, q⟩
  cases fl with
  | ret u =>
    obtain ⟨v, σ', H', J, rv, q⟩ := hs
    exact fin J rv q
  | next =>
    obtain ⟨σ', H', J, q⟩ := hs
    exact fin (v := .non) J rfl q
  | brk => exact hs.choose_spec.choose_spec.2.elim
  | cont => exact hs.choose_spec.choose_spec.2.elim
/-- a def whose body makes lambdas: its code object is known -/
theorem fnGc {P : Program} {w : World} {K : PySem.W.Frag} {mg : Str → Option Value} {base : Heap} {x qual : Str} {params : Arguments} {body : List Stmt} {scope : Scope} {dvs : List V} {kws : List (Str × V)} {at_ : He.Defn} {fd : FuncData} {N ps : List Str} {k : Nat} {g : FS}
    (F : FunD K x qual params body scope dvs kws (He.fAd K at_) fd) (Sc : FnScope N ps scope)
    (hb : ∀ (cdv : Value) (A : Around) (outer : List Env) (s : Shared) (H : Hp) (E : XK), cdv = .ref (He.cT K at_).1 → Cn (cxOf (L2.CX P w) P w K mg base N qual scope (He.fAd K at_) cdv A outer s H E) (fun c d _ H' => E c d H') k →
      DSs (cxOf (L2.CX P w) P w K mg base N qual scope (He.fAd K at_) cdv A outer s H E) (fun c d _ H' => E c d H') body g) : FnG P w K mg base (k + 1) (He.fAd K at_) fd ps (spD K mg ps.length (semOf N.length g)) := by
  refine fnGx F Sc fun cdv A outer s H E hl C => hb cdv A outer s H E ?_ C
  obtain ⟨oc, od, dV, kV, doc, pm, an, ct, osl, lk, hcd⟩ := hl
  obtain ⟨c0, ec⟩ := He.codeIn_ref hcd
  rw [ec]
  exact congrArg Value.ref (He.codeOf_eq lk ec).symm

/-! ### the caller -/
def isTab (p : He.Defn) (q : Str) : SO → Bool
  | .tbl p' q' => decide (p' = p) && decide (q' = q)
  | _ => false
theorem tab_at {p : He.Defn} {q : Str} : ∀ {S : Store}, S.any (isTab p q) = true → ∃ j : Nat, S[j]? = some (SO.tbl p q)
  | [], h => by cases h
  | o :: S, h => by
    rw [List.any_cons, Bool.or_eq_true] at h
    rcases h with h | h
    · cases o with
      | tbl p' q' =>
        unfold isTab at h
        rw [Bool.and_eq_true, decide_eq_true_eq, decide_eq_true_eq] at h
        exact ⟨0, by rw [h.1, h.2]; rfl⟩
      | _ => cases h
    · obtain ⟨j, e⟩ := tab_at h
      exact ⟨j + 1, e⟩
/-- x(lambda: body) -/
def fTold (p : He.Defn) (q : Str) (n : Nat) (m : (Store → Res D) → FS) (fb : FE) : FE := fun ρ S => if S.any (isTab p q) = true then (m (fun S => fb ρ S) (List.replicate n none) S).res else .stuck
section
variable {X : Cx} {W : WX} {k k' : Nat}
theorem de_told {x a : Str} {g : Addr} {fd : FuncData} {sg : Scope} {Ng : List Str} {m : (Store → Res D) → FS} {at_ : He.Defn} {q : Str} {params : Arguments} {body : Expr} {scope : Scope} {fb : FE} {p lpos pos : Pos} (F : FnT X.prog X.w X.K X.mg X.base k x sg g fd a Ng m) (C : Cn X W k') (hg : Gl X x) (hm : X.mg x = some (.ref g))
    (hkp : PySem.W.keepIn X.K (.ref g) = true) (hq : X.env.qual ++ "<lambda>" = q) (hcode : X.env.code = .ref (He.cT X.K at_).1) (TB : LamX.TabB X.base X.mg (He.cT X.K at_).1 (He.cT X.K at_).2) (L : LamX.LamS X.env.scope scope) (hdef : defaultsOf params X.env = ([], []))
    (hbind : ∀ (q : Str) (cl : List (Str × Addr)) (pm cv ctv : Value), bindArgs (PySem.W.kla_fn "<lambda>" q params body scope cl pm cv ctv) ⟨[], []⟩ = pure []) {j : Nat} (hj : k = j + 1) (hle : k + 1 ≤ k')
    (hbody : ∀ (A : Around) (outer : List Env) (t : Shared) (H : Hp) (E : XK) (f c : Addr), Cn (LamX.lamCx X A outer t H E scope f c) (fun c d _ H' => E c d H') j → DE (LamX.lamCx X A outer t H E scope f c) (fun c d _ H' => E c d H') body fb)
    (hdb : (x == ("__debug__" : Str)) = false := by decide) (hd : (a == ("__debug__" : Str)) = false := by decide) (hcd : (a == ("__classdict__" : Str)) = false := by decide) :
    DE X W (.Call (.Name x p) [.Lambda params body scope lpos] [] pos) (fTold at_ q Ng.length m fb) := by
  refine ⟨fun pins s σ H Q I ⟨Z, φ, S, ρ, R, sl, w⟩ => ?_⟩
  unfold fTold at w
  obtain ⟨ht, w1⟩ := want_if w
  obtain ⟨j', hS⟩ := tab_at ht
  subst hq
  refine wpAny_Call_Name_kw (ld_glob I hg hm ?_ hdb)
  refine PySem.W.callWith_K (h₀ := X.base) I.ok.mod.kin hkp ?_ (by rfl) (by rfl)
  show wpAny _ _ (spliced ((false, eval (.Lambda params body scope lpos) X.env) :: backTo pos (starEach [] X.env))) _ _ s
  refine Calls.spliced_cons (lam_makeD I R hS hcode TB hdef (L.has I.ok) fun f c pm ctv H1 s1 I1 R1 E1 hf hfn hfr hc => ?_)
  refine Calls.spliced_nil ⟨I1.kIn, ?_⟩
  have sl1 := sl.evo E1
  have room : Room (k + 1) X.A := C.room.mono hle
  refine wpAny_call (codeAny_mono (F.run X.A X.stack s1 H1 f c _ (fun E H' Q' => tD X.K X.mg (fun cls d _ H2 => E cls d H2) fb σ H' Q') Q (WE W σ) (fun S => fb ρ S) Z φ S room C.gd I1.env0 (fun cdv hr Wt pn xe p1 p2 tk => ?_) (gnd_sub _ _ hc) R1
    (fun Q' E' w' => ⟨Z, φ, S, ρ, R1, sl1, w'⟩) (w1.go E1)) fun res s2 hq2 => ?_)
  · subst hj
    exact pe_actD (tb := fun E => tD X.K X.mg (fun cls d _ H2 => E cls d H2) fb) (Ng := Ng) (sg := sg) (i := 0) (k := j) I1 L hf hfn hfr (hbind _ _ _ _ _) tk hr (fun A outer t Ht E hr2 hgd => hbody A outer t Ht E f c ⟨hr2, hgd.trans C.gd, rfl, C.nd, passes_of rfl, takes_of rfl rfl rfl rfl⟩) F.slot F.vis hd hcd
  · cases res with
    | error e => exact passAt C.tk σ pins H1 s1 e s2 I1 hq2
    | ok fl =>
      cases fl with
      | ret u => exact I1.after hq2
      | next => exact hq2.elim
      | brk => exact hq2.elim
      | cont => exact hq2.elim
end
end DL

/-! The data layer, part 38: the law's end where defs make lambdas. -/
namespace DL
open PySem PySem.Spec PyProof.Rows L2

/-- the tables of the defs that make lambdas -/
def tabA (K : PySem.W.Frag) (tq : List (He.Defn × Str)) : List Addr := tq.map fun p => (He.cT K p.1).2
def tabS (tq : List (He.Defn × Str)) : Store := tq.map fun p => .tbl p.1 p.2
theorem tabA_mem {K : PySem.W.Frag} {tq : List (He.Defn × Str)} {b : Addr} (h : b ∈ tabA K tq) : ∃ p ∈ tq, (He.cT K p.1).2 = b := List.mem_map.mp h
theorem rel_tabs {K : PySem.W.Frag} {mg : Str → Option Value} {H : Hp} {tq : List (He.Defn × Str)} (nd : (tabA K tq).Nodup) (hH : ∀ b ∈ tabA K tq, H b = some (.tbl #[])) : Rel K mg [] (tabA K tq) (tabS tq) H := by
  refine ⟨by simp [tabA, tabS], nd, (fun _ _ z => (nomatch z)), (fun _ z => (nomatch z)), fun b hb => ?_, fun n b o h1 h2 => ?_⟩
  · rw [hH b hb]
    exact fun z => nomatch z
  · have hb := List.mem_of_getElem? h1
    unfold tabA at h1
    unfold tabS at h2
    rw [List.getElem?_map] at h1 h2
    cases e : tq[n]? with
    | none => rw [e] at h1; cases h1
    | some p =>
      rw [e] at h1 h2
      cases h1
      cases h2
      exact ⟨rfl, #[], hH _ hb, trivial, fun pos cv z => by simp [codeAmong] at z⟩
theorem live_tabs {K : PySem.W.Frag} : ∀ tq : List (He.Defn × Str), liveA (tabA K tq) (tabS tq) = tabA K tq
  | [] => rfl
  | p :: r => by
    show liveA ((He.cT K p.1).2 :: tabA K r) (.tbl p.1 p.2 :: tabS r) = _
    unfold liveA
    rw [if_pos (show (SO.tbl p.1 p.2).live = true from rfl), live_tabs r]
    rfl
/-- the law's call, from its mirror; tq: the defs that make lambdas, and what these are called -/
theorem law_runsT {P : Program} {w : World} {K : PySem.W.Frag} {mg mb : Str → Option Value} {k : Nat} {fa a : Addr} {fd : FuncData} {x : Str} {sem : Sem'} {s1 : Shared} {vs : List Value} {ns : List Int} {tq : List (He.Defn × Str)}
    (kin : K.In s1.heap) (hns : s1.heap.Ns mainGlobals mg) (hb : s1.heap.Ns builtinsNs mb) (hbb : ∀ x : Str, x ≠ "__name__" → mb x = bootBuiltins x) (hlim : s1.heap.NoLimit) (gens : s1.gens = #[])
    (tabs : ∀ p ∈ tq, s1.heap.get? (He.cT K p.1).2 = some { cls := .none, data := .fields #[] }) (out : ∀ p ∈ tq, K.lookup (He.cT K p.1).2 = none) (heads : ∀ p ∈ tq, PySem.W.CodeHd s1.heap (He.cT K p.1).1 (He.cT K p.1).2) (nd : (tabA K tq).Nodup)
    (hbm : ∃ (bm : Addr) (ob : Obj), mg "__builtins__" = some (.ref bm) ∧ bm ≠ builtinsNs ∧ s1.heap.get? bm = some ob ∧ ob.cls = .type "module" ∧ ob.dict = some builtinsNs ∧ ob.data = .plain)
    (ha : s1.heap.get? a = some { cls := .type "list", data := .seq vs.toArray }) (hi : IntsAre vs ns) (hl : ns.length ≤ sizeLine) (room : Room k callerA)
    (F : ∀ base : Heap, K.In base → base.Ns mainGlobals mg → (∀ p ∈ tq, LamX.TabB base mg (He.cT K p.1).1 (He.cT K p.1).2) → FnG P w K mg base k fa fd [x] (spD K mg 1 sem)) (hbind : ∀ (s : Shared) (u : Value), BindsTo s fd ⟨[u], []⟩ [(x, u)])
    (good : ∃ S, sem [.scr (ns.map D.int)] (tabS tq) = .ok (.bl true) S) :
    codeAny (model P w) callerA (.call (.ref fa) ⟨[.ref a], []⟩) (fun r s' => r = .ok (.ret (.bool true)) ∧ OldK s1.heap s'.heap ∧ s'.os = s1.os ∧ AllBare s'.gens) s1 := by
  have rv := vals_ints hi
  have empty : ∀ b ∈ tabA K tq, s1.heap.get? b = some { cls := .none, data := .fields #[] } := fun b hb => by
    obtain ⟨p, hp, e⟩ := tabA_mem hb
    rw [← e]
    exact tabs p hp
  have notTab : a ∉ tabA K tq := fun z => by
    have q := empty a z
    rw [ha] at q
    exact nomatch (show Data.seq vs.toArray _ = Data.fields #[] from congrArg Obj.data (Option.some.inj q))
  have inTab : ∀ p ∈ tq, (He.cT K p.1).2 ∈ tabA K tq := fun p hp => List.mem_map.mpr ⟨p, hp, rfl⟩
  have spq : ∀ H : Hp, (∀ b ∈ tabA K tq, H b = some (.tbl #[])) → SqL K H a (ns.map V.int) → spD K mg 1 sem [.ref a] H (fun v _ => v = .bl true) fun _ _ _ => False := fun H hT hq => by
    refine ⟨rfl, [], tabA K tq, tabS tq, [.scr (ns.map D.int)], rel_tabs nd hT, .cons ?_ DatL.nil, ?_⟩
    · unfold Dat
      refine ⟨a, _, rfl, ?_, dat_ints ns⟩
      have keep : ∀ o, H a = some o → gnd [] (tabA K tq) (tabS tq) H a = some o := fun o e => without_some.mpr ⟨by rw [live_tabs, List.nil_append]; exact notTab, e⟩
      exact hq.imp (fun r => r.imp (keep _) fun ⟨ob, q⟩ => ⟨ob, keep _ q⟩) id
    · obtain ⟨S, e⟩ := good
      rw [e]
      intro v φ' H' _ _ d
      unfold RDat Dat at d
      exact d
  -- what may be tracked: the script, the tables
  have main : ∀ H : Hp, (∀ b ∈ tabA K tq, H b = some (.tbl #[])) → (∀ b, H b = none ∨ b ∈ tabA K tq ∨ ∃ ob xs, H b = some (.frz ob (.lst xs))) → SqL K H a (ns.map V.int) → HOk P w H s1.heap → (∀ b, H b ≠ none → b = a ∨ b ∈ tabA K tq) → (H a ≠ none → K.lookup a = none) →
      codeAny (model P w) callerA (.call (.ref fa) ⟨[.ref a], []⟩) (fun r s' => r = .ok (.ret (.bool true)) ∧ OldK s1.heap s'.heap ∧ s'.os = s1.os ∧ AllBare s'.gens) s1 := by
    intro H hT only hq hok alone free
    have plain : ∀ {b : Addr} {o : Obj}, s1.heap.get? b = some o → (∀ l n, o.data ≠ .seq l n) → o.data ≠ .fields #[] → H b = none := fun {b o} e n1 n2 => by
      cases q : H b with
      | none => rfl
      | some u =>
        rcases alone b (by rw [q]; exact fun z => nomatch z) with z | z
        · subst z
          rw [ha] at e
          cases e
          exact absurd rfl (n1 _ _)
        · rw [empty b z] at e
          cases e
          exact absurd rfl n2
    have dic : ∀ {b : Addr} {o : Obj} {es : Array DictEntry} {ep : Nat}, s1.heap.get? b = some o → o.data = .dict es ep → H b = none := fun {b o es ep} e d =>
      plain e (fun l n z => nomatch d.symm.trans z) fun z => nomatch d.symm.trans z
    have ns2 : ∀ {b : Addr} {m : Str → Option Value}, s1.heap.Ns b m → (hidT s1.heap H).Ns b m := fun {b m} ⟨o, es, ep, e, d, r⟩ => ⟨o, es, ep, hidT_get e (dic e d), d, r⟩
    have kin2 : K.In (hidT s1.heap H) := fun b o e => hidT_get (kin b o e) (by
      cases q : H b with
      | none => rfl
      | some u =>
        rcases alone b (by rw [q]; exact fun z => nomatch z) with z | z
        · subst z
          rw [free (by rw [q]; exact fun z => nomatch z)] at e
          cases e
        · obtain ⟨p, hp, ep⟩ := tabA_mem z
          rw [← ep, out p hp] at e
          cases e)
    obtain ⟨mc, c1, c2⟩ := hlim
    have TB : ∀ p ∈ tq, LamX.TabB (hidT s1.heap H) mg (He.cT K p.1).1 (He.cT K p.1).2 := fun p hp => by
      refine ⟨?_, ?_, fun z => ?_⟩
      · obtain ⟨o, us, v1, v2, v3, v4, v5, v6, v7, q0, q9, q1, q2, q3⟩ := heads p hp
        refine ⟨o, us, v1, v2, v3, v4, v5, v6, v7, hidT_get q0 (plain q0 (fun l n z => nomatch q1.symm.trans z) fun z => ?_), q9, q1, q2, q3⟩
        have z2 : us = #[] := Data.fields.inj (q1.symm.trans z)
        rw [z2] at q2
        cases q2
      · obtain ⟨bm, ob, b1, b2, b3, b4, b5, b6⟩ := hbm
        refine ⟨bm, ob, b1, b2, fun z => ?_, fun z => ?_, hidT_get b3 (plain b3 (fun l n z => nomatch b6.symm.trans z) fun z => nomatch b6.symm.trans z), b4, b5, b6⟩
        · obtain ⟨o, es, ep, e, d, _⟩ := hns
          rw [z, e] at b3
          cases b3
          exact nomatch d.symm.trans b6
        · rw [z, tabs p hp] at b3
          cases b3
          exact nomatch b6
      · obtain ⟨o, es, ep, e, d, _⟩ := hns
        rw [z, tabs p hp] at e
        cases e
        exact nomatch d
    have env0 : Env0 P w K mg (hidT s1.heap H) callerA [] s1 H := ⟨rfl, ⟨kin2, ns2 hns, ⟨mb, ns2 hb, hbb⟩, ⟨mc, ns2 c1, c2⟩⟩, fun b o e => of_hidT e, Nat.le_of_eq (hidT_size _ _), trivial, fun b z => absurd (show b ∈ ([] : List Addr) from z) (by simp), hok, .of_eq gens⟩
    refine codeAny_mono ((F _ kin2 (ns2 hns) TB).run callerA [] s1 H ⟨[.ref a], []⟩ [.ref a] [.ref a] _ _ room rfl env0 (hbind s1 (.ref a)) (.cons rfl .nil) (spq H hT hq)) fun r s' h => ?_
    match r, h with
    | .error e, ⟨_, _, _, _, _, _, _, _, _, _, _, _, z⟩ => exact z.elim
    | .ok (.ret u), ⟨v, H', os, bare, un, hok', rr, q⟩ =>
      cases (show v = .bl true from q)
      obtain rfl : u = Value.bool true := rr
      have stays : ∀ b o, b ∉ tabA K tq → s1.heap.get? b = some o → s'.heap.get? b = some o := fun b o nb e => by
        rcases only b with z | z | ⟨ob, xs, z⟩
        · exact un.keep b o e z (fun y => absurd (show b ∈ ([] : List Addr) from y) (by simp)) (by simp)
        · exact absurd z nb
        · obtain ⟨e1, _⟩ := hok b _ z
          obtain ⟨e2, _⟩ := hok' b _ (un.frzs b ob _ z)
          rw [e] at e1
          cases e1
          exact e2
      have longer : ∀ b ∈ tabA K tq, ∃ rows : Array Value, s'.heap.get? b = some { cls := .none, data := .fields rows } := fun b hb => by
        obtain ⟨rows, z⟩ := un.tbls b #[] (hT b hb)
        exact ⟨_, hok' b _ z⟩
      refine ⟨rfl, ⟨fun b o e => ?_, fun b o e => ?_⟩, os, bare⟩
      · by_cases q : b ∈ tabA K tq
        · obtain ⟨p, hp, ep⟩ := tabA_mem q
          obtain ⟨rows, hm⟩ := longer b q
          subst ep
          rw [tabs p hp] at e
          cases e
          exact .inr (.inl ⟨((heads p hp).tab (tabs p hp)).isCodeTable, rfl, #[], rows, rfl, by rw [Array.empty_append]; exact hm⟩)
        · exact .inl (stays b o q e)
      · by_cases q : b ∈ tabA K tq
        · exact ⟨_, (longer b q).choose_spec⟩
        · exact ⟨o, stays b o q e⟩
  cases kl : K.lookup a with
  | some o =>
    have e := kin a o kl
    rw [ha] at e
    cases e
    have at_ : ∀ b, b ∈ tabA K tq → (fun b => if b ∈ tabA K tq then some (HO.tbl #[]) else none : Hp) b = some (.tbl #[]) := fun b hb => if_pos hb
    have no_ : ∀ b, b ∉ tabA K tq → (fun b => if b ∈ tabA K tq then some (HO.tbl #[]) else none : Hp) b = none := fun b hb => if_neg hb
    refine main (fun b => if b ∈ tabA K tq then some (.tbl #[]) else none) at_ (fun b => ?_) (.inr ⟨_, vs.toArray, _, kl, rfl, rfl, rfl, by rw [List.size_toArray, hi.length]; exact hl, by simpa using rv⟩) (fun b u z => ?_) (fun b z => ?_) fun z => absurd (no_ a notTab) z
    · by_cases q : b ∈ tabA K tq
      · exact .inr (.inl q)
      · exact .inl (no_ b q)
    · by_cases q : b ∈ tabA K tq
      · cases (at_ b q).symm.trans z
        exact empty b q
      · cases (no_ b q).symm.trans z
    · by_cases q : b ∈ tabA K tq
      · exact .inr q
      · exact absurd (no_ b q) z
  | none =>
    have at_a : (fun b => if b = a then some (HO.frz { cls := .type "list", data := .seq vs.toArray } (.lst (ns.map V.int))) else if b ∈ tabA K tq then some (.tbl #[]) else none : Hp) a = some (HO.frz { cls := .type "list", data := .seq vs.toArray } (.lst (ns.map V.int))) := if_pos rfl
    have at_ : ∀ b, b ∈ tabA K tq → (fun b => if b = a then some (HO.frz { cls := .type "list", data := .seq vs.toArray } (.lst (ns.map V.int))) else if b ∈ tabA K tq then some (.tbl #[]) else none : Hp) b = some (.tbl #[]) := fun b hb => (if_neg (show ¬ b = a from fun z => notTab (by rw [← z]; exact hb))).trans (if_pos hb)
    have no_ : ∀ b, b ≠ a → b ∉ tabA K tq → (fun b => if b = a then some (HO.frz { cls := .type "list", data := .seq vs.toArray } (.lst (ns.map V.int))) else if b ∈ tabA K tq then some (.tbl #[]) else none : Hp) b = none := fun b hb hb2 => (if_neg hb).trans (if_neg hb2)
    refine main (fun b => if b = a then some (.frz { cls := .type "list", data := .seq vs.toArray } (.lst (ns.map V.int))) else if b ∈ tabA K tq then some (.tbl #[]) else none) at_ (fun b => ?_) (.inl (.inr ⟨_, at_a⟩)) (fun b u z => ?_) (fun b z => ?_) fun _ => kl
    · by_cases q : b = a
      · exact .inr (.inr ⟨_, _, if_pos q⟩)
      · by_cases q2 : b ∈ tabA K tq
        · exact .inr (.inl q2)
        · exact .inl (no_ b q q2)
    · by_cases q : b = a
      · subst q
        cases at_a.symm.trans z
        exact ⟨ha, by rw [List.length_map]; exact hl, vs, _, rv, ha⟩
      · by_cases q2 : b ∈ tabA K tq
        · cases (at_ b q2).symm.trans z
          exact empty b q2
        · cases (no_ b q q2).symm.trans z
    · by_cases q : b = a
      · exact .inl q
      · by_cases q2 : b ∈ tabA K tq
        · exact .inr q2
        · exact absurd (no_ b q q2) z
/-- a law over a head by facts -/
theorem walk_ofGT {l : PySem.W.OpenLaw} {n k : Nat} {q : Program} {loose : List Str} {XP : (Str → Option Value) → Heap → Prop} {YP : World → Heap → Prop} {d : DefRec} {x : Str} {sem : Sem'} {tq : List (He.Defn × Str)}
    (hn : l.most = some n) (hn2 : n ≤ sizeLine) (hdf : d.params.defaults = []) (room : Room k callerA) (good : ∀ ns : List Int, ns.length ≤ n → ∃ S, sem [.scr (ns.map D.int)] (tabS tq) = .ok (.bl true) S)
    (F : ∀ (w : World) (mg : Str → Option Value) (fa : Addr) (h : Heap), YP w h → h.Ns mainGlobals mg → mg d.name = some (.ref fa) →
      ∃ (K : PySem.W.Frag) (fd : FuncData), K.In h ∧ (∀ p ∈ tq, h.get? (He.cT K p.1).2 = some { cls := .none, data := .fields #[] }) ∧ (∀ p ∈ tq, K.lookup (He.cT K p.1).2 = none) ∧ (∀ p ∈ tq, PySem.W.codeHdIn K (He.cT K p.1).1 (He.cT K p.1).2 = true) ∧ (tabA K tq).Nodup ∧
        (∀ (s : Shared) (u : Value), BindsTo s fd ⟨[u], []⟩ [(x, u)]) ∧
        ∀ base : Heap, K.In base → base.Ns mainGlobals mg → (∀ p ∈ tq, LamX.TabB base mg (He.cT K p.1).1 (He.cT K p.1).2) → FnG l.prog w K mg base k fa fd [x] (spD K mg 1 sem)) :
    PySem.W.WalkO q loose XP YP l.row.toRowW d [] (fun f vs => PySem.call f vs) := by
  refine Att.attach_call hn hdf fun w s0 s1 mg mb fa o pm cd doc a vs ns G Y ho hd hcd hmg hob hints hlen gens => ?_
  obtain ⟨K, fd, kin, t1, t2, t3, t4, hb, hF⟩ := F w mg fa _ Y G.T.g hmg
  exact law_runsT kin G.T.g G.T.b G.T.builtins G.T.nolimit gens t1 t2 (fun p hp => PySem.W.codeHd_of_K kin (t3 p hp)) t4 G.T.bmain hob hints (Nat.le_trans hlen hn2) room hF hb (good ns hlen)

/-! ### the head -/
structure SaysO (fa : List He.Fa) (fn : List He.DefD) (tq : List (He.Defn × Str)) (ex : PySem.W.Frag → Bool) (h : Heap) (K : PySem.W.Frag) : Prop where
  says : He.SaysD fa fn K
  ex : ex K = true
  nd : (tabA K tq).Nodup
  hd : ∀ p ∈ tq, PySem.W.codeHdIn K (He.cT K p.1).1 (He.cT K p.1).2 = true
  out : ∀ p ∈ tq, K.lookup (He.cT K p.1).2 = none
  tabs : ∀ p ∈ tq, h.get? (He.cT K p.1).2 = some { cls := .none, data := .fields #[] }
def obsL (n : Nat) (fa : List He.Fa) (fn : List He.DefD) (tq : List (He.Defn × Str)) (ex : PySem.W.Frag → Bool) (g : Addr → Option Obj) : He.AlD × Bool :=
  (He.obsD fa fn (He.frT g (He.asD g n)), ex (He.frT g (He.asD g n)) && (decide (tabA (He.frT g (He.asD g n)) tq).Nodup && He.tabsB g (tq.map (·.1)) (He.frT g (He.asD g n))))
theorem saysO_of {n : Nat} {fa : List He.Fa} {fn : List He.DefD} {tq : List (He.Defn × Str)} {ex : PySem.W.Frag → Bool} {h : Heap} (e : obsL n fa fn tq ex h.get? = (He.valD fn, true)) : SaysO fa fn tq ex h (He.frT h.get? (He.asD h.get? n)) := by
  have e1 := congrArg Prod.fst e
  have e2 : (ex (He.frT h.get? (He.asD h.get? n)) && (decide (tabA (He.frT h.get? (He.asD h.get? n)) tq).Nodup && He.tabsB h.get? (tq.map (·.1)) (He.frT h.get? (He.asD h.get? n)))) = true := congrArg Prod.snd e
  obtain ⟨q1, q2⟩ := He.ba e2
  obtain ⟨q3, q4⟩ := He.ba q2
  have each : ∀ p ∈ tq, PySem.W.codeHdIn (He.frT h.get? (He.asD h.get? n)) (He.cT (He.frT h.get? (He.asD h.get? n)) p.1).1 (He.cT (He.frT h.get? (He.asD h.get? n)) p.1).2 = true ∧ ∃ o, h.get? (He.cT (He.frT h.get? (He.asD h.get? n)) p.1).2 = some o ∧ He.emptyTab o = true := fun p hp => by
    obtain ⟨z1, z2⟩ := He.ba (List.all_eq_true.mp q4 p.1 (List.mem_map.mpr ⟨p, hp, rfl⟩))
    refine ⟨z1, ?_⟩
    cases q : h.get? (He.cT (He.frT h.get? (He.asD h.get? n)) p.1).2 with
    | none => rw [q] at z2; cases z2
    | some o =>
      rw [q] at z2
      exact ⟨o, rfl, z2⟩
  refine ⟨e1, q1, of_decide_eq_true q3, fun p hp => (each p hp).1, fun p hp => ?_, fun p hp => ?_⟩
  · obtain ⟨_, o, z1, z2⟩ := each p hp
    exact He.frT_none z1 z2
  · obtain ⟨_, o, z1, z2⟩ := each p hp
    rw [z1, He.emptyTab_eq z2]
def hookL (n : Nat) (fa : List He.Fa) (fn : List He.DefD) (tq : List (He.Defn × Str)) (ex : PySem.W.Frag → Bool) : PySem.W.Hook where
  α := He.AlD × Bool
  obs := fun s => obsL n fa fn tq ex s.heap.get?
  val := fun _ => (He.valD fn, true)
  says := fun _ h => ∃ K : PySem.W.Frag, K.In h ∧ SaysO fa fn tq ex h K
  of := fun _ _ e => ⟨_, He.frT_in, saysO_of e⟩
  keeps := fun _ _ _ ⟨K, hK, c⟩ k => ⟨K, PySem.W.Frag.In.keeps hK k, ⟨c.says, c.ex, c.nd, c.hd, c.out, fun p hp => k _ _ (c.tabs p hp)⟩⟩
theorem obsL_eq {n : Nat} {fa : List He.Fa} {fn : List He.DefD} {tq : List (He.Defn × Str)} {ex : PySem.W.Frag → Bool} {g : Addr → Option Obj} {s : Shared} (h : ∀ a, g a = s.heap.get? a) : obsL n fa fn tq ex g = (hookL n fa fn tq ex).obs s := by
  have e : g = s.heap.get? := funext h
  rw [e] <;> rfl

/-! ### facts of exception classes -/
abbrev bmV : List Value := [.type "ValueError", .type "Exception", .type "BaseException", .type "object"]
/-- an own class over ValueError without an own __init__: what raise asks -/
structure RaiC (K : PySem.W.Frag) (C : Addr) : Prop where
  ex : PySem.W.excIn K C bmV "ValueError.__new__" = true
  kp : PySem.W.keepIn K (.ref C) = true
  sb : PySem.W.subIn K (.ref C) (.type "BaseException") = some true
  ty : PySem.W.typeIn K (.ref C) = some (.type "type")
def raiB (K : PySem.W.Frag) (c : Str) : Bool := PySem.W.excIn K (He.ga K c) bmV "ValueError.__new__" && (PySem.W.keepIn K (.ref (He.ga K c)) && (decide (PySem.W.subIn K (.ref (He.ga K c)) (.type "BaseException") = some true) && (PySem.W.typeIn K (.ref (He.ga K c)) == some (Value.type "type"))))
theorem raiB_ok {K : PySem.W.Frag} {c : Str} (h : raiB K c = true) : RaiC K (He.ga K c) := by
  obtain ⟨h1, h⟩ := He.ba h
  obtain ⟨h2, h⟩ := He.ba h
  obtain ⟨h3, h4⟩ := He.ba h
  exact ⟨h1, h2, of_decide_eq_true h3, eq_of_beq h4⟩
theorem ds_raiseC {X : Cx} {W : WX} {k : Nat} {x : Str} {C : Addr} {msg : Str} {j : Nat} {p p2 apos pos : Pos} (Cc : Cn X W k) (q : RaiC X.K C) (gC : X.mg x = some (.ref C)) (hg : Gl X x) (hdb : (x == ("__debug__" : Str)) = false := by decide) :
    DS X W (.Raise (some (.Call (.Name x p) [.Constant (.str msg) j p2] [] apos)) none pos) (fun ρ S => .ex x [] ρ S) :=
  ds_raise Cc PySem.F.excBase_ValueError q.ex gC q.kp (raises_own q.sb q.ty) hg hdb
/-- what isinstance asks of an exception's class -/
def iseB (K : PySem.W.Frag) (c : Str) : Bool := He.eqO (PySem.W.findIn K (.ref (He.ga K c)) "__getattribute__") (some (some (.builtin "BaseException.__getattribute__"))) && (He.eqO (PySem.W.findIn K (.ref (He.ga K c)) "__getattr__") (some none) && (decide (PySem.W.subIn K (.ref (He.ga K c)) (.type "BaseException") = some true) &&
  (PySem.W.hasDictIn K (He.ga K c) && (He.eqO (PySem.W.findIn K (.ref (He.ga K c)) "__class__") (some (some (.builtin "object.__class__"))) && (He.eqO (PySem.W.specialIn K (.builtin "object.__class__") "__get__") (some (some (.builtin "getset_descriptor.__get__"))) &&
    (decide (PySem.W.takesIn K (.builtin "object.__class__") = some true) && decide (PySem.W.mroIn K (He.ga K c) (.type "object") = some true)))))))
theorem iseB_ok {K : PySem.W.Frag} {c : Str} (h : iseB K c = true) : ExcC K (He.ga K c) := by
  obtain ⟨h1, h⟩ := He.ba h
  obtain ⟨h2, h⟩ := He.ba h
  obtain ⟨h3, h⟩ := He.ba h
  obtain ⟨h4, h⟩ := He.ba h
  obtain ⟨h5, h⟩ := He.ba h
  obtain ⟨h6, h⟩ := He.ba h
  obtain ⟨h7, h8⟩ := He.ba h
  exact ⟨He.eqO_ok h1, He.eqO_ok h2, of_decide_eq_true h3, h4, He.eqO_ok h5, He.eqO_ok h6, of_decide_eq_true h7, of_decide_eq_true h8⟩
/-- a table: which classes an except clause, isinstance takes -/
def exmT (K : PySem.W.Frag) (c : Value) (t : List (Str × Bool)) : Bool := t.all fun q => decide (PySem.W.exmOne K (.ref (He.ga K q.1)) c = some q.2)
def kitT (K : PySem.W.Frag) (c : Value) (t : List (Str × Bool)) : Bool := t.all fun q => decide (PySem.W.kitOne K (.ref (He.ga K q.1)) c = some q.2)
theorem lookup_mem' {α : Type} {x : Str} {b : α} : ∀ {t : List (Str × α)}, t.lookup x = some b → (x, b) ∈ t
  | [], h => by cases h
  | (y, c) :: r, h => by
    rw [List.lookup_cons] at h
    cases e : x == y with
    | true =>
      rw [e] at h
      cases h
      rw [eq_of_beq e]
      exact List.mem_cons_self
    | false =>
      rw [e] at h
      exact List.mem_cons_of_mem _ (lookup_mem' h)
theorem exmT_ok {K : PySem.W.Frag} {mg : Str → Option Value} {c : Value} {t : List (Str × Bool)} (h : exmT K c t = true) (hg : ∀ q ∈ t, mg q.1 = some (.ref (He.ga K q.1))) : ∀ C b A, t.lookup C = some b → mg C = some (.ref A) → PySem.W.exmOne K (.ref A) c = some b := fun C b A e hA => by
  have m := lookup_mem' e
  have q := hg _ m
  rw [hA] at q
  cases q
  exact of_decide_eq_true (List.all_eq_true.mp h _ m)
theorem kitT_ok {K : PySem.W.Frag} {mg : Str → Option Value} {c : Value} {t : List (Str × Bool)} (h : kitT K c t = true) (hg : ∀ q ∈ t, mg q.1 = some (.ref (He.ga K q.1))) (hc : ∀ q ∈ t, ExcC K (He.ga K q.1)) : ∀ C b A, t.lookup C = some b → mg C = some (.ref A) → ExcC K A ∧ PySem.W.kitOne K (.ref A) c = some b := fun C b A e hA => by
  have m := lookup_mem' e
  have q := hg _ m
  rw [hA] at q
  cases q
  exact ⟨hc _ m, of_decide_eq_true (List.all_eq_true.mp h _ m)⟩
section
variable {X : Cx} {W : WX} {k : Nat} {e b : Expr} {pos p : Pos} {fa : FA}
/-- isinstance(e, C), C an own class -/
theorem de_isX {c : Str} {A : Addr} {t : List (Str × Bool)} (hg : Gl X "isinstance") (hm : X.mg "isinstance" = none) (hA : X.mg c = some (.ref A)) (ht : ∀ C b A', t.lookup C = some b → X.mg C = some (.ref A') → ExcC X.K A' ∧ PySem.W.kitOne X.K (.ref A') (.ref A) = some b) (ha : DA X W [e, b] fa)
    (he : starEach [e, b] X.env = (false, eval e X.env) :: starEach [b] X.env := by rfl) (hpl : (backTo pos (starEach [b] X.env)).any (·.1) = false := by rfl) : DE X W (.Call (.Name "isinstance" p) [e, b] [] pos) (fCB (gIsX t (.cls c)) fa) :=
  de_callB call_isX (cd_isX (.inl ⟨c, A, rfl, hA, rfl⟩) ht) hg hm (by rfl) ha (by decide) (by decide) he hpl
/-- isinstance(e, ValueError) -/
theorem de_isXT {n : String} {t : List (Str × Bool)} (hg : Gl X "isinstance") (hm : X.mg "isinstance" = none) (ht : ∀ C b A', t.lookup C = some b → X.mg C = some (.ref A') → ExcC X.K A' ∧ PySem.W.kitOne X.K (.ref A') (.type n) = some b) (ha : DA X W [e, b] fa)
    (he : starEach [e, b] X.env = (false, eval e X.env) :: starEach [b] X.env := by rfl) (hpl : (backTo pos (starEach [b] X.env)).any (·.1) = false := by rfl) : DE X W (.Call (.Name "isinstance" p) [e, b] [] pos) (fCB (gIsX t (.ty n)) fa) :=
  de_callB call_isX (cd_isX (.inr ⟨n, rfl, rfl⟩) ht) hg hm (by rfl) ha (by decide) (by decide) he hpl
end
end DL

/-! The data layer, part 39: // with a great divisor. -/
namespace DL
open PySem L2
noncomputable def cDivW (_ j : Int) : Bool := @decide (0 < j ∧ j < 10000000000000000000000000000000000000000) (Classical.propDecidable _)
noncomputable def gDivW : G2 := gI cDivW fun i j => .int (i / j)
section
variable {X : Cx} {W : WX} {a b : Expr} {fa fb : FE} {pos : Pos}
theorem de_fdivW (ha : DE X W a fa) (hb : DE X W b fb) : DE X W (.BinOp a .FloorDiv b pos) (fBin gDivW fa fb) :=
  de_bin op_fdivW (opd_I (fun i j h => by
    have h2 := @of_decide_eq_true _ (Classical.propDecidable _) h
    exact wide_div (b := 133) h2.1 (by have : (2 : Nat) ^ 133 = 10889035741470030830827987437816582766592 := by decide
                                       omega) (by decide) (by decide)) fun i j φ G => by unfold Dat; rfl) ha hb
/-- an empty dict that changes no more -/
def fDictE : FE := fun _ S => .ok (.dic []) S
theorem de_dictE : DE X W (.Dict [] [] pos) fDictE := .mk pe_dnewK fun Z φ S ρ σ H Q R sl w => fun p hp => by
  obtain ⟨r, e, at_⟩ := R.fresh (o := .dK []) hp
  refine w _ _ _ r e ?_
  unfold RDat Dat
  exact ⟨p, [], rfl, at_, by unfold DatK; rfl⟩
end
end DL

/-! The data layer, part 40: for k in f(..), where f gives a new dict. -/
namespace DL
open PySem PySem.Spec PyProof.Rows L2
/-- the keys of a dict, locked from now on -/
theorem pi_keysL {X : Cx} {tg e : Expr} {td : TE} (he : PE X e td) : PI X tg e (fun σ H R => td σ H fun x H1 => ∃ d kvs, x = .ref d ∧ H1 d = some (.dK kvs) ∧ ∀ o, R (Itk d o kvs) (upd H1 d (.frz o (.dK kvs)))) := by
  refine ⟨fun pins s σ H R I h => thn (he.run pins s σ H _ I h) fun u s1 ⟨x, H1, I1, rx, d, kvs, ex, hd, q⟩ => ?_⟩
  subst ex
  obtain rfl : u = Value.ref d := rx
  obtain ⟨o, I2⟩ := I1.lock hd trivial
  obtain ⟨hs, hgd, hx, es, ep, vs, hdt, hsz, kv, hm⟩ := I2.frzK upd_same
  refine iter_keys hs hgd hx hdt (pi_one (tk := s1.toks) I2 _ (turn_keys _ hdt) ⟨_, Heap.get?_push_size _ rfl, rfl, ?_⟩ (q o))
  rw [hsz] <;> rfl
/-- the keys of the new dict that a def gives; pure data are handed to it -/
def keysSub (sem : Sem') (args : List D) (S : Store) : Res ItD := if pureL args = true then (match sem args [] with
  | .ok (.oid n) Sc => (match Sc[n]? with
    | some (.dic kd) => .ok ⟨kd.map fun q => keyV q.1, none⟩ S
    | _ => .stuck)
  | _ => .stuck) else .stuck
def fKeysNew (sem : Sem') (gD : List D → List D → List D) (np nk n : Nat) (fa fk : FA) : FI := fun ρ S => (fa ρ S).bind fun ds S => (fk ρ S).bind fun es S => if ds.length = np ∧ es.length = nk ∧ (gD ds es).length = n then keysSub sem (gD ds es) S else .stuck
theorem datK_get {K : PySem.W.Frag} {mg : Str → Option Value} {φ : List Addr} {G : Hp} : ∀ {ks : List (Key × D)} {kvs : List (Key × V)} {i : Nat}, DatK K mg φ G ks kvs → (kvs[i]?).map (·.1) = (ks[i]?).map (·.1)
  | [], _, i, h => by
    unfold DatK at h
    subst h
    rfl
  | (k, d) :: ks, _, 0, h => by
    unfold DatK at h
    obtain ⟨v, r, rfl, _, _⟩ := h
    rfl
  | (k, d) :: ks, _, i + 1, h => by
    unfold DatK at h
    obtain ⟨v, r, rfl, _, h2⟩ := h
    exact datK_get (i := i) h2
theorem dat_key {K : PySem.W.Frag} {mg : Str → Option Value} {φ : List Addr} {G : Hp} (k : Key) : Dat K mg φ G (keyV k) (kV k) := by
  cases k <;> (unfold keyV Dat; rfl)
theorem wantI_if {P : Prop} [Decidable P] {K : PySem.W.Frag} {mg : Str → Option Value} {Z φ : List Addr} {S : Store} {H : Hp} {r : Res ItD} {Q : It → Hp → Prop} {E : XK} (w : WantI K mg Z φ S H (if P then r else .stuck) Q E) : P ∧ WantI K mg Z φ S H r Q E := by
  by_cases h : P
  · rw [if_pos h] at w
    exact ⟨h, w⟩
  · rw [if_neg h] at w
    exact w.elim
section
variable {X : Cx} {W : WX} {k k' np : Nat} {f : Addr} {fd : FuncData} {ps ks : List Str} {sem : Sem'} {x : Str} {p pos : Pos} {e : Expr} {es : List Expr} {kws : List Keyword} {fa fk : FA} {gD : List D → List D → List D} {tg : Expr}
/-- what the callee must be asked -/
theorem keys_sp {n : Nat} {args : List D} {vs : List V} {Z φ : List Addr} {S : Store} {H : Hp} {Q : It → Hp → Prop} {E E' : XK} (hl : vs.length = n) (R : Rel X.K X.mg Z φ S H) (d : DatL X.K X.mg φ (gnd Z φ S H) args vs) (w : WantI X.K X.mg Z φ S H (keysSub sem args S) Q E) :
    spD X.K X.mg n sem vs H (fun v H1 => ∃ a kvs, v = .ref a ∧ H1 a = some (.dK kvs) ∧ ∀ o, Q (Itk a o kvs) (upd H1 a (.frz o (.dK kvs)))) E' := by
  unfold keysSub at w
  obtain ⟨pu, w1⟩ := wantI_if w
  refine ⟨hl, Z ++ liveA φ S, [], [], args, ⟨rfl, List.nodup_nil, (fun _ z => (nomatch z)), fun a ha => ?_, (fun _ z => (nomatch z)), (fun n a o z => by simp at z)⟩, ?_, ?_⟩
  · rcases List.mem_append.mp ha with z | z
    · exact R.zh a z
    · exact R.ph a (liveA_sub z)
  · have e : gnd (Z ++ liveA φ S) [] [] H = gnd Z φ S H := by
      unfold gnd
      simp [liveA]
    rw [e]
    exact d.pure pu
  · cases hs : sem args [] with
    | stuck => rw [hs] at w1; exact w1.elim
    | ex C fs Sc => rw [hs] at w1; exact w1.elim
    | ok r Sc =>
      rw [hs] at w1
      cases r with
      | oid n1 =>
        cases hn : Sc[n1]? with
        | none => simp only [hn] at w1; exact w1.elim
        | some so =>
          cases so with
          | dic kd =>
            simp only [hn] at w1
            intro v φ1 H1 R1 E1 dv
            unfold RDat Dat at dv
            obtain ⟨a, rfl, ha⟩ := dv
            obtain ⟨kvs, q1, q2⟩ := R1.ob n1 a _ ha hn
            have la : a ∈ liveA φ1 Sc := mem_liveA ha hn rfl
            have new : H a = none := by
              cases z : H a with
              | none => rfl
              | some o =>
                have := E1.lv a la (by rw [z]; exact fun z => nomatch z)
                simp [liveA] at this
            have keep : Same H H1 := fun b o z => E1.out b o z (by simp [liveA])
            refine ⟨a, kvs, rfl, q1, fun o => ?_⟩
            have keep2 : Same H (upd H1 a (.frz o (.dK kvs))) := fun b u z => by
              rw [upd_ne (ne_of_none z new)]
              exact keep b u z
            obtain ⟨R2, E2⟩ := R.same keep2
            refine w1 (Itk a o kvs) φ _ R2 E2 ?_
            have ga : gnd Z φ S (upd H1 a (.frz o (.dK kvs))) a = some (.frz o (.dK kvs)) := without_some.mpr ⟨R.out_gnd new, upd_same⟩
            intro i Z' φ' S' H' _ R' _ sm _
            have ha' := gnd_sub _ _ (sm _ _ ga)
            have len : kvs.length = kd.length := datK_length q2
            refine ⟨fun d' hd' => ?_, fun hi => ⟨ha', by simpa [len] using hi⟩⟩
            simp only [List.getElem?_map] at hd'
            cases hk : kd[i]? with
            | none => rw [hk] at hd'; cases hd'
            | some kv =>
              rw [hk] at hd'
              cases hd'
              have lt : i < kvs.length := by
                rw [len]
                exact (List.getElem?_eq_some_iff.mp hk).1
              refine ⟨⟨ha', lt⟩, ?_⟩
              rintro x H'' ⟨rfl, k0, v0, g1, rfl⟩
              have g2 := datK_get (i := i) q2
              rw [g1, hk] at g2
              cases g2
              exact ⟨R', Evo.refl, dat_key _⟩
          | _ => simp only [hn] at w1; exact w1.elim
      | _ => exact w1.elim
theorem di_keysNew (F : FnG X.prog X.w X.K X.mg X.base k f fd ps (spD X.K X.mg ps.length sem)) (C : Cn X W k') (hg : Gl X x) (hm : X.mg x = some (.ref f)) (hk : PySem.W.keepIn X.K (.ref f) = true) (hb : KB X.K fd ps np ks gD)
    (ha : DA X W (e :: es) fa) (hkw : DKw X W kws fk) (hle : k ≤ k' := by decide) (hall : (backToKw pos (keywordEach kws X.env)).all (·.1.isSome) = true := by rfl) (hks : (backToKw pos (keywordEach kws X.env)).filterMap (·.1) = ks := by rfl)
    (hdb : (x == ("__debug__" : Str)) = false := by decide) (he : starEach (e :: es) X.env = (false, eval e X.env) :: starEach es X.env := by rfl)
    (hpl : ((backTo pos (starEach (e :: es) X.env)).any (·.1) || (backToKw pos (keywordEach kws X.env)).any (·.1.isNone)) = false := by rfl) :
    DI X W tg (.Call (.Name x p) (e :: es) kws pos) (fKeysNew sem gD np ks.length ps.length fa fk) := by
  obtain ⟨ta, pa, qa⟩ := ha.ex
  obtain ⟨tk, pk, qk⟩ := hkw.ex
  obtain ⟨g, gV, hB, hN⟩ := hb.ex
  have pe : PE X (.Call (.Name x p) (e :: es) kws pos) (fun σ H Q => ta σ H fun vs H1 => tk σ H1 fun zs H2 => vs.length = np ∧ zs.length = ks.length ∧ spD X.K X.mg ps.length sem (gV vs zs) H2 Q (WE W σ)) := by
    refine ⟨fun pins s σ H Q I h => ?_⟩
    refine wpAny_Call_Name_kw (ld_glob I hg hm ?_ hdb)
    refine PySem.W.callWith_KW (h₀ := X.base) I.ok.mod.kin hk hall (thn (pa.run pos pins s σ H _ I h) fun us s1 ⟨vs, H1, I1, r, q⟩ => ?_) hpl he
    refine thn (pk.run pos pins s1 σ H1 _ I1 q) fun ws s2 ⟨zs, H2, I2, rz, l1, l2, q2⟩ => ⟨I2.kIn, ?_⟩
    rw [hks]
    exact run_fnG F C hle I2 (hB.to s2 us ws I2.kIn (r.length.symm.trans l1) (rz.length.symm.trans l2)) (hB.rel r rz) q2
  refine .mk (pi_keysL pe) fun Z φ S ρ σ H Q R sl w => ?_
  unfold fKeysNew at w
  refine qa Z φ S ρ σ H _ R sl (w.bind fun ds S1 vs φ1 H1 R1 E1 d1 w1 => qk Z φ1 S1 ρ σ H1 _ R1 (sl.evo E1) (w1.bind fun es' S2 zs φ2 H2 R2 E2 d2 w2 => ?_))
  obtain ⟨⟨c1, c2, c3⟩, w3⟩ := wantI_if w2
  have dd := hN X.K X.mg φ2 _ ds es' vs zs (DatL.evo E2 d1) d2
  exact ⟨by rw [d1.length, c1], by rw [d2.length, c2], keys_sp (by rw [dd.length, c3]) R2 dd w3⟩
end
end DL

/-! The data layer, part 41: dict displays with entries, as objects. -/
namespace DL
open PySem PySem.Spec PyProof.Rows L2
abbrev FP := EnvD → Store → Res (List (D × D))
abbrev RPr (K : PySem.W.Frag) (mg : Str → Option Value) : List Addr → Hp → List (D × D) → List (V × V) → Prop := fun φ G ds vs => DatL K mg φ G (ds.map (·.1)) (vs.map (·.1)) ∧ DatL K mg φ G (ds.map (·.2)) (vs.map (·.2))
def DPs (X : Cx) (W : WX) (pos : Pos) (keys : List (Option Expr)) (values : List Expr) (fp : FP) : Prop := ∃ trs, PPs X pos keys values trs ∧ keys.all (·.isSome) = true ∧ keys.length = values.length ∧
  ∀ Z φ S ρ σ H (Q : List (V × V) → Hp → Prop), Rel X.K X.mg Z φ S H → Slots X.K X.mg φ (gnd Z φ S H) ρ σ → Want X.K X.mg (RPr X.K X.mg) Z φ S H (fp ρ S) Q (WE W σ) → tPairs trs σ H Q
def fPs0 : FP := fun _ S => .ok [] S
def fPs (fk fv : FE) (fr : FP) : FP := fun ρ S => (fk ρ S).bind fun x S => (fv ρ S).bind fun y S => (fr ρ S).bind fun ps S => .ok ((x, y) :: ps) S
section
variable {X : Cx} {W : WX} {pos : Pos}
theorem dps_nil : DPs X W pos [] [] fPs0 := ⟨[], pps_nil, rfl, rfl, fun Z φ S ρ σ H Q R sl w => w.now R ⟨DatL.nil, DatL.nil⟩⟩
theorem dps_cons {k v : Expr} {ks : List (Option Expr)} {vs : List Expr} {fk fv : FE} {fr : FP} (hk : DE X W k fk) (hv : DE X W v fv) (hr : DPs X W pos ks vs fr) : DPs X W pos (some k :: ks) (v :: vs) (fPs fk fv fr) := by
  obtain ⟨tk, pk, qk⟩ := hk.ex
  obtain ⟨tv, pv, qv⟩ := hv.ex
  obtain ⟨trs, pr, ha, hl, qr⟩ := hr
  refine ⟨_, pps_cons pk pv pr, by simp [ha], by simp [hl], fun Z φ S ρ σ H Q R sl w => qk Z φ S ρ σ H _ R sl (w.bind fun x S1 u φ1 H1 R1 E1 dx w1 => ?_)⟩
  refine qv Z φ1 S1 ρ σ H1 _ R1 (sl.evo E1) (w1.bind fun y S2 u2 φ2 H2 R2 E2 dy w2 => ?_)
  refine qr Z φ2 S2 ρ σ H2 _ R2 ((sl.evo E1).evo E2) (w2.bind fun ps S3 us φ3 H3 R3 E3 dp w3 => ?_)
  exact w3.now R3 ⟨.cons (Dat.evo E3 (Dat.evo E2 dx)) dp.1, .cons (Dat.evo E3 dy) dp.2⟩
def keysK : List (D × D) → Option (List (Key × D))
  | [] => some []
  | (x, y) :: r => match keyD x, keysK r with
    | some k, some ks => some ((k, y) :: ks)
    | _, _ => none
def mergeD (ks more : List (Key × D)) : List (Key × D) := more.foldl (fun acc kv => putKD acc kv.1 kv.2) ks
theorem datK_merge {K : PySem.W.Frag} {mg : Str → Option Value} {φ : List Addr} {G : Hp} : ∀ {more : List (Key × D)} {mvs : List (Key × V)} {ks : List (Key × D)} {kvs : List (Key × V)}, DatK K mg φ G more mvs → DatK K mg φ G ks kvs → DatK K mg φ G (mergeD ks more) (mergeK kvs mvs)
  | [], _, ks, kvs, h, h0 => by
    unfold DatK at h
    subst h
    exact h0
  | (k, d) :: r, mvs, ks, kvs, h, h0 => by
    unfold DatK at h
    obtain ⟨v, ms, rfl, hd, hr⟩ := h
    have := datK_merge hr (datK_put (k := k) hd h0)
    exact this
theorem keysK_ok {φ : List Addr} {G : Hp} : ∀ {ps : List (D × D)} {us : List (V × V)} {kds : List (Key × D)}, RPr X.K X.mg φ G ps us → keysK ps = some kds → ∃ kvs : List (Key × V), us = kvs.map (fun kv => (kV kv.1, kv.2)) ∧ DatK X.K X.mg φ G kds kvs ∧ kvs.length = kds.length
  | [], us, kds, h, e => by
    cases e
    obtain ⟨h1, _⟩ := h
    have := DatL.length h1
    cases us with
    | nil => exact ⟨[], rfl, by unfold DatK; rfl, rfl⟩
    | cons _ _ => simp at this
  | (x, y) :: r, us, kds, h, e => by
    obtain ⟨h1, h2⟩ := h
    cases us with
    | nil => have := DatL.length h1; simp at this
    | cons u us =>
      obtain ⟨u1, u2⟩ := u
      unfold keysK at e
      split at e
      · rename_i k ks hk hks
        cases e
        simp only [List.map_cons] at h1 h2
        unfold DatL at h1 h2
        obtain ⟨_, _, e1, d1, r1⟩ := h1
        obtain ⟨_, _, e2, d2, r2⟩ := h2
        cases e1
        cases e2
        obtain ⟨kvs, rfl, dk, hl⟩ := keysK_ok ⟨r1, r2⟩ hks
        refine ⟨(k, u2) :: kvs, by rw [List.map_cons, keyD_ok d1 hk], ?_, by simp [hl]⟩
        unfold DatK
        exact ⟨_, _, rfl, d2, dk⟩
      · cases e
def dispAt (n : Nat) (ps : List (D × D)) (S : Store) : Res D := match keysK ps, S[n]? with
  | some kds, some (.dic []) => if kds.length ≤ 15 then .ok (.oid n) (S.set n (.dic (mergeD [] kds))) else .stuck
  | _, _ => .stuck
/-- {k: v, ..}, an object -/
def fDisp (fp : FP) : FE := fun ρ S => (fp ρ (S ++ [.dic []])).bind fun ps S' => dispAt S.length ps S'
theorem de_disp {keys : List (Option Expr)} {values : List Expr} {fp : FP} (h : DPs X W pos keys values fp) (h0 : keys ≠ [] := by intro h; cases h) (h15 : keys.length ≤ 15 := by decide) : DE X W (.Dict keys values pos) (fDisp fp) := by
  obtain ⟨trs, p, ha, hl, q⟩ := h
  refine .mk (pe_disp p ha hl h0 h15) fun Z φ S ρ σ H Q R sl w => fun a hp => ?_
  obtain ⟨R0, E0⟩ := R.newOid (so := .dic []) (same_upd (o := .dK []) hp) hp (by rw [upd_same]; exact fun z => nomatch z) rfl ⟨[], upd_same, by unfold DatK; rfl⟩
  refine q Z _ _ ρ σ _ _ R0 (sl.evo E0) ((w.go E0).bind fun ps S2 us φ2 H2 R2 E2 dp w2 => ?_)
  have h1 : (φ ++ [a])[S.length]? = some a := by rw [List.getElem?_append_right (by rw [R.len]; exact Nat.le_refl _), ← R.len, Nat.sub_self]; rfl
  have hφ : φ2[S.length]? = some a := by
    obtain ⟨t, rfl⟩ := E2.pre
    rw [List.getElem?_append_left (List.getElem?_eq_some_iff.mp h1).1]
    exact h1
  unfold dispAt at w2
  split at w2
  · rename_i kds hk hS
    by_cases hc : kds.length ≤ 15
    · rw [if_pos hc] at w2
      obtain ⟨kvs, rfl, dk, hlen⟩ := keysK_ok dp hk
      obtain ⟨k0, h3, h4⟩ := R2.ob S.length a _ hφ hS
      unfold DatK at h4
      subst h4
      refine ⟨h3, kvs, rfl, by rw [hlen]; exact hc, ?_⟩
      obtain ⟨R3, E3⟩ := R2.mutate (u := .dic (mergeD [] kds)) (ho := .dK (mergeK [] kvs)) hφ hS rfl rfl ⟨_, upd_same, datK_merge dk (by unfold DatK; rfl)⟩
      refine w2 _ _ _ R3 E3 ?_
      unfold RDat Dat
      exact ⟨a, rfl, hφ⟩
    · rw [if_neg hc] at w2
      exact w2.elim
  · exact w2.elim
end
end DL

/-! The data layer, part 42: the least of a list of pairs of numbers. -/
namespace PySem.W
open PySem PySem.SeqAt PyProof.Rows
section
variable {prog : Program} {w : World} {A : Around} {E : Value → Shared → Prop} {s : Shared}
theorem min_list_at {l : Addr} {vs : Array Value} {x : PyData} {xs : List PyData} {as : List Addr} {Q : Value → Shared → Prop} (hh : A.handled = none) (hl : s.heap.IsList l vs) (hr : ReadsAll s.heap vs.toList (x :: xs) as) (ha : AlikeAll (x :: xs)) (hu : A.units + 1 + PyData.depthAll (x :: xs) < cLine)
    (h : ∀ (i : Nat) v h' tk, vs[i]? = some v → (x :: xs).getD i .none = minD x xs → (∀ b o, s.heap.get? b = some o → h'.get? b = some o) → Q v { s with heap := h', toks := tk }) :
    wpAny (model prog w) A (call (.builtin "min") [.ref l]) Q E s := by
  have hn : vs.size = xs.length + 1 := readsAll_len hr
  refine call_min_walkH (iter_listW (A := A.in1) hh hl fun s₂ e W st hfp hw hk => ?_)
  refine ⟨_, _, _, _, _, _, _, s.heap, _, rfl, W, st, hfp, by omega, hw, hk, cmpIn_lt (A := A.in1) hr ha (by show A.units + 1 + _ < _; exact hu), fun v s' hP m => ?_⟩
  obtain ⟨h', tk, rfl, hk'⟩ := moved_old e rfl m
  have e1 : vs.size - 1 = xs.length := by omega
  have e2 := (argBest_fold dataLt PyData.none x xs xs.length (Nat.le_refl _)).2
  rw [List.take_length] at e2
  rw [e1] at hP
  exact h _ v h' tk hP e2 hk'
end
end PySem.W
namespace DL
open PySem PySem.Spec PySem.W PySem.SeqAt PyProof.Rows L2
def intD : D → Option Int
  | .int i => some i
  | _ => none
theorem intD_ok {d : D} {i : Int} (h : intD d = some i) : d = .int i := by
  cases d <;> simp [intD] at h
  rw [h]
def pairD : D → Option (Int × Int)
  | .tup xs => match xs with
    | [x, y] => (intD x).bind fun i => (intD y).map fun j => (i, j)
    | _ => none
  | _ => none
theorem pairD_ok {d : D} {q : Int × Int} (h : pairD d = some q) : d = .tup [.int q.1, .int q.2] := by
  cases d with
  | tup xs =>
    match xs, h with
    | [x, y], h =>
      have h' : ((intD x).bind fun i => (intD y).map fun j => (i, j)) = some q := h
      obtain ⟨i, h1, h2⟩ := Option.bind_eq_some_iff.mp h'
      obtain ⟨j, h3, rfl⟩ := Option.map_eq_some_iff.mp h2
      rw [intD_ok h1, intD_ok h3]
    | [], h => cases h
    | [_], h => cases h
    | _ :: _ :: _ :: _, h => cases h
  | _ => cases h
def pairsOf : List D → Option (List (Int × Int))
  | [] => some []
  | d :: r => (pairD d).bind fun p => (pairsOf r).map (p :: ·)
def ltP (p q : Int × Int) : Bool := decide (p.1 < q.1 ∨ (p.1 = q.1 ∧ p.2 < q.2))
def minP (p : Int × Int) (ps : List (Int × Int)) : Int × Int := ps.foldl (fun a y => if ltP y a then y else a) p
def pdP (p : Int × Int) : PyData := .tuple [.int p.1, .int p.2]
theorem pdP_inj {p q : Int × Int} (h : pdP p = pdP q) : p = q := by
  obtain ⟨a, b⟩ := p
  obtain ⟨c, d⟩ := q
  injection h with h
  injection h with h1 h2
  injection h1 with h1
  injection h2 with h2 _
  injection h2 with h2
  simp only at h1 h2
  rw [h1, h2]
theorem minD_pairs : ∀ (ps : List (Int × Int)) (p : Int × Int), PySem.W.minD (pdP p) (ps.map pdP) = pdP (minP p ps)
  | [], _ => rfl
  | q :: ps, p => by
    have h : PySem.W.minD (pdP p) ((q :: ps).map pdP) = PySem.W.minD (if dataLt (pdP q) (pdP p) = true then pdP q else pdP p) (ps.map pdP) := rfl
    have h2 : minP p (q :: ps) = minP (if ltP q p = true then q else p) ps := rfl
    rw [h, h2]
    have e : dataLt (pdP q) (pdP p) = ltP q p := dataLt_ii _ _ _ _
    rw [e]
    by_cases hc : ltP q p = true
    · rw [if_pos hc, if_pos hc]; exact minD_pairs ps q
    · rw [if_neg hc, if_neg hc]; exact minD_pairs ps p
theorem alike_pairs (ps : List (Int × Int)) : PySem.W.AlikeAll (ps.map pdP) := by
  refine ⟨fun x hx y hy => ?_, fun x hx => ?_⟩
  · obtain ⟨p, _, rfl⟩ := List.mem_map.mp hx
    obtain ⟨q, _, rfl⟩ := List.mem_map.mp hy
    unfold pdP
    simp [alike, alikeAll]
  · obtain ⟨p, _, rfl⟩ := List.mem_map.mp hx
    intro h
    cases h
theorem depth_pairs : ∀ (ps : List (Int × Int)), PyData.depthAll (ps.map pdP) ≤ 2
  | [] => by simp [PyData.depthAll]
  | p :: ps => by
    have := depth_pairs ps
    simp only [List.map_cons, PyData.depthAll, pdP, PyData.depth]
    omega
def PrI (K : PySem.W.Frag) (H : Hp) (x : V) (q : Int × Int) : Prop := ∃ t, x = .ref t ∧ SqT K H t [V.int q.1, V.int q.2]
def rMinP (K : PySem.W.Frag) : List V → Hp → VK → Prop := fun vs H Q => ∃ (a : Addr) (xs : List V) (p : Int × Int) (ps : List (Int × Int)), vs = [V.ref a] ∧ SqL K H a xs ∧ Paired (PrI K H) xs (p :: ps) ∧
  ∀ (i : Nat) (x : V), xs[i]? = some x → (p :: ps)[i]? = some (minP p ps) → Q x H
section
variable {X : Cx} {W : WX} {k : Nat} {pos : Pos}
theorem tup_reads {pins : List (Addr × Obj)} {σ : L2.St} {H : Hp} {s : Shared} (I : Inv X pins σ H s) : ∀ {xs : List V} {us : List Value} {ps : List (Int × Int)}, Vals xs us → Paired (PrI X.K H) xs ps → ReadsAll s.heap us (ps.map pdP) []
  | [], _, _, .nil, .nil => .nil
  | x :: xs, u :: us, _, .cons r t, .cons (b := p) h hr => by
    obtain ⟨t', rfl, hs⟩ := h
    cases (show u = Value.ref t' from r)
    obtain ⟨ys, rw', ⟨o, ho, hc, n, hd⟩, _⟩ := I.tuple hs
    have hi := Vals.ints (ns := [p.1, p.2]) rw'
    have := ReadsAll.cons (h := s.heap) (v := .ref t') (d := pdP p) (as := []) (bs := []) (Reads.tuple ho hc hd (by
      have q : ∀ {zs : List Value} {ns : List Int}, IntsAre zs ns → ReadsAll s.heap zs (ns.map .int) [] := by
        intro zs ns h
        induction h with
        | nil => exact .nil
        | cons n t _ ih => exact .cons (as := []) (bs := []) (.int _ _) ih
      exact q hi)) (tup_reads I t hr)
    exact this
theorem cr_minP (hc : X.calm = true) (hu : X.A.units + 64 < cLine) : CallR X (.builtin "min") (rMinP X.K) := by
  intro pins s σ H vs us Q I r h
  obtain ⟨a, xs, p, ps, rfl, hs, hp, q⟩ := h
  obtain ⟨its, rv, hl, _⟩ := I.list hs
  rw [Vals.ref1 r]
  refine PySem.W.min_list_at (x := pdP p) (xs := ps.map pdP) (as := []) (I.ok.hd hc) hl.isList (by simpa using tup_reads I rv hp) (by have := alike_pairs (p :: ps); simpa using this) (by have := depth_pairs (p :: ps); simp only [List.map_cons] at this; omega) fun i v h' tk hv hm hk => ?_
  have hv' : its[i]? = some v := by simpa using hv
  have hlen : i < xs.length := by
    have := (List.getElem?_eq_some_iff.mp hv').1
    rw [rv.length]; exact this
  obtain ⟨x, hx⟩ : ∃ x, xs[i]? = some x := ⟨xs[i], List.getElem?_eq_getElem hlen⟩
  have hrel : RelV x v := by
    have : ∀ {xs : List V} {us : List Value} {i : Nat} {x : V} {u : Value}, Vals xs us → xs[i]? = some x → us[i]? = some u → RelV x u := by
      intro xs us i x u h
      induction h generalizing i with
      | nil => intro h1; simp at h1
      | cons h _ ih =>
        intro h1 h2
        cases i with
        | zero => simp at h1 h2; subst h1 h2; exact h
        | succ i => exact ih (by simpa using h1) (by simpa using h2)
    exact this rv hx hv'
  refine ⟨x, H, I.kept hk, hrel, q i x hx ?_⟩
  have hpl : (p :: ps).length = xs.length := (Paired.length hp).symm
  have hi : i < (p :: ps).length := by rw [hpl]; exact hlen
  rw [minD_pairs] at hm
  have e : (pdP p :: ps.map pdP).getD i .none = pdP (p :: ps)[i] := by
    rw [← List.map_cons, List.getD_eq_getElem?_getD, List.getElem?_map, List.getElem?_eq_getElem hi]; rfl
  rw [e] at hm
  rw [List.getElem?_eq_getElem hi, pdP_inj hm]
def gMinP : GC := fun ds S => match ds with
  | [d] => match (asL S d).bind pairsOf with
    | some (p :: ps) => .ok (.tup [.int (minP p ps).1, .int (minP p ps).2]) S
    | _ => .stuck
  | _ => .stuck
theorem pairsOf_ok {φ : List Addr} {G H : Hp} (sub : Same G H) : ∀ {ds : List D} {us : List V} {ps : List (Int × Int)}, DatL X.K X.mg φ G ds us → pairsOf ds = some ps → Paired (PrI X.K H) us ps ∧ ∀ (i : Nat) (x : V) (q : Int × Int), us[i]? = some x → ps[i]? = some q → Dat X.K X.mg φ G (.tup [.int q.1, .int q.2]) x
  | [], us, ps, h, e => by
    injection e with e
    subst e
    unfold DatL at h
    subst h
    exact ⟨.nil, fun i x q h1 => by simp at h1⟩
  | d :: r, us, ps, h, e => by
    obtain ⟨p, hp, e'⟩ := Option.bind_eq_some_iff.mp e
    obtain ⟨qs, hq, rfl⟩ := Option.map_eq_some_iff.mp e'
    unfold DatL at h
    obtain ⟨v, vs, rfl, h1, h2⟩ := h
    obtain ⟨i1, i2⟩ := pairsOf_ok sub h2 hq
    rw [pairD_ok hp] at h1
    refine ⟨.cons ?_ i1, fun i x q e1 e2 => ?_⟩
    · unfold Dat at h1
      obtain ⟨t, ws, rfl, hs, hd⟩ := h1
      obtain ⟨v1, v2, rfl, d1, d2⟩ := datL2 hd
      unfold Dat at d1 d2
      subst d1 d2
      exact ⟨t, rfl, sqt_mono sub hs⟩
    · cases i with
      | zero => simp at e1 e2; subst e1 e2; exact h1
      | succ i => exact i2 i x q (by simpa using e1) (by simpa using e2)
theorem cd_minP : CallD X (rMinP X.K) gMinP := fun Z φ S H ds vs Q E R d w => by
  unfold gMinP at w
  split at w
  · obtain ⟨v, rfl, h1⟩ := datL1 d
    split at w
    · rename_i p ps e1
      obtain ⟨es, a1, a2⟩ := Option.bind_eq_some_iff.mp e1
      obtain ⟨a, us, rfl, h2, h3⟩ := asL_ok R h1 a1
      obtain ⟨q1, q2⟩ := pairsOf_ok gnd_sub h3 a2
      exact ⟨a, us, p, ps, rfl, h2, q1, fun i x e1 e2 => w.now R (q2 i x _ e1 e2)⟩
    · exact w.elim
  · exact w.elim
theorem de_minP (C : Cn X W k) {fa : FA} (hg : Gl X "min") (hm : X.mg "min" = none) (ha : DA X W [e] fa) (he : starEach [e] X.env = (false, eval e X.env) :: starEach [] X.env := by rfl) (hpl : (backTo pos (starEach [] X.env)).any (·.1) = false := by rfl) :
    DE X W (.Call (.Name "min" p) [e] [] pos) (fCB gMinP fa) :=
  de_callB (cr_minP C.calm C.u64) cd_minP hg hm (by rfl) ha (by decide) (by decide) he hpl
end
end DL

/-! The data layer, part 43: d.get(None, x); dict(a list of pairs). -/
namespace DL
open PySem PySem.Spec PyProof.Rows L2
section
variable {X : Cx} {W : WX} {k : Nat} {o e f : Expr} {fo fe ff : FE} {p pos apos cpos : Pos} {td ty tx : TE}
theorem d_getNone {pins : List (Addr × Obj)} {σ : L2.St} {H : Hp} {s : Shared} {a : Addr} {kvs : List (Key × V)} {A : Around} {E : Value → Shared → Prop} {d : V} {r : Value} {Q : Value → Shared → Prop} (I : Inv X pins σ H s) (e : Rd H a (.dK kvs)) (rd : RelV d r) (h : ∀ w' s', Inv X pins σ H s' → RelV d w' → Q w' s') :
    wpAny (model X.prog X.w) A (call (.builtin "dict.get") [.ref a, .none, r]) Q E s := by
  obtain ⟨_, hd, vs, _, dd⟩ := dk_rd I.hok e
  obtain ⟨f, hm, hf⟩ := none_map dd
  refine call_meetsIn PySem.F.slot_dict_get dd.typeIs PySem.F.entry_dict_get (PySem.F.args_dict_get_3 _ _ _) (meets_dict_get_default (noneKind X.prog X.w) a (show (noneKind X.prog X.w).is none .none = true from rfl) hd r) ⟨_, hm, h _ _ (I.tok _) ?_⟩
  rw [hf]
  exact rd
def tDGet2N (td ty tx : TE) : TE := fun σ H Q => td σ H fun x H1 => ∃ a, x = .ref a ∧ IsD H1 a ∧ ty σ H1 fun y H2 => tx σ H2 fun z H3 => (∃ o, DGet H3 a y o ∧ Q (o.getD z) H3) ∨ ∃ kvs, y = .non ∧ Rd H3 a (.dK kvs) ∧ Q z H3
theorem pe_dget2N (hu : X.A.units + 1 < cLine) (ho : PE X o td) (he : PE X e ty) (hf : PE X f tx) (m : M2 X o "get" apos e f cpos) : PE X (.Call (.Attribute o "get" apos) [e, f] [] cpos) (tDGet2N td ty tx) := by
  refine ⟨fun pins s σ H Q I h => ?_⟩
  refine wpAny_Call_method m.base m.few m.line PySem.F.plainAttrs_dict PySem.F.slot_dict_get PySem.F.type_dict_get (thn (ho.run pins s σ H _ I h) fun u s1 ⟨x, H1, I1, rx, a, ex, d, q1⟩ => ?_)
  subst ex
  obtain rfl : u = Value.ref a := rx
  obtain ⟨t1, t2, _⟩ := isD_at I1 d
  refine ⟨t1, t2, ?_⟩
  rw [m.trees]
  refine Calls.callWith_builtin rfl (Calls.evalArgs_plain (Calls.spliced_cons (thn (he.run pins s1 σ H1 _ I1 q1) fun iv s2 ⟨y, H2, I2, ry, q2⟩ =>
    Calls.spliced_cons (thn (hf.run pins s2 σ H2 _ I2 q2) fun fv s3 ⟨z, H3, I3, rz, q3⟩ => Calls.spliced_nil ?_))))
  rcases q3 with ⟨ov, g, q3⟩ | ⟨kvs, ey, g, q3⟩
  · exact d_get2 hu I3 g ry rz fun w' s4 I4 rw' => ⟨_, H3, I4, rw', q3⟩
  · subst ey
    obtain rfl : iv = Value.none := ry
    exact d_getNone I3 g rz fun w' s4 I4 rw' => ⟨_, H3, I4, rw', q3⟩
def gGetN (x y z : D) (S : Store) : Res D := if y.isNon then (if (asD S x).isSome then .ok z S else .stuck) else gGet x y z S
/-- d.get(y, z), y may be None -/
def fGet2N (fo fe ff : FE) : FE := fun ρ S => (fo ρ S).bind fun x S => if (asD S x).isSome then (fe ρ S).bind fun y S => (ff ρ S).bind fun z S => gGetN x y z S else .stuck
theorem de_get2N (C : Cn X W k) (ho : DE X W o fo) (he : DE X W e fe) (hf : DE X W f ff) (m : M2 X o "get" apos e f cpos) : DE X W (.Call (.Attribute o "get" apos) [e, f] [] cpos) (fGet2N fo fe ff) := by
  obtain ⟨to, po, qo⟩ := ho.ex
  obtain ⟨te, pe, qe⟩ := he.ex
  obtain ⟨tf, pf, qf⟩ := hf.ex
  refine .mk (pe_dget2N C.u1 po pe pf m) fun Z φ S ρ σ H Q R sl w => qo Z φ S ρ σ H _ R sl (w.bind fun x S1 v φ1 H1 R1 E1 dx w1 => ?_)
  obtain ⟨hs, w2⟩ := want_if w1
  obtain ⟨a, e1, e2⟩ := isD_of R1 dx hs
  refine ⟨a, e1, e2, qe Z φ1 S1 ρ σ H1 _ R1 (sl.evo E1) (w2.bind fun y S2 u φ2 H2 R2 E2 dy w3 => ?_)⟩
  refine qf Z φ2 S2 ρ σ H2 _ R2 ((sl.evo E1).evo E2) (w3.bind fun z S3 u3 φ3 H3 R3 E3 dz w4 => ?_)
  unfold gGetN at w4
  by_cases hy : y.isNon = true
  · rw [if_pos hy] at w4
    obtain ⟨h5, w5⟩ := want_if w4
    obtain ⟨ks, e5⟩ := Option.isSome_iff_exists.mp h5
    obtain ⟨p, kvs, e3, h1, _⟩ := asD_ok R3 (Dat.evo E3 (Dat.evo E2 dx)) e5
    rw [e1] at e3
    cases e3
    have hu : u = .non := by
      have := isNon_V dy
      rw [hy] at this
      exact of_decide_eq_true this
    exact .inr ⟨kvs, hu, .inl h1, w5.now R3 dz⟩
  · rw [if_neg hy] at w4
    exact .inl (want_get R3 (Dat.evo E3 (Dat.evo E2 dx)) (Dat.evo E3 dy) dz w4 a e1)
/-! ### dict(pairs) -/
def pairKD : D → Option (Key × D)
  | .tup xs => match xs with
    | [x, y] => (keyD x).map fun q => (q, y)
    | _ => none
  | _ => none
theorem pairKD_ok {d : D} {q : Key × D} (h : pairKD d = some q) : ∃ x, d = .tup [x, q.2] ∧ keyD x = some q.1 := by
  cases d with
  | tup xs =>
    match xs, h with
    | [x, y], h =>
      obtain ⟨j, h1, rfl⟩ := Option.map_eq_some_iff.mp h
      exact ⟨x, rfl, h1⟩
    | [], h => cases h
    | [_], h => cases h
    | _ :: _ :: _ :: _, h => cases h
  | _ => cases h
def pairsKD : List D → Option (List (Key × D))
  | [] => some []
  | d :: r => (pairKD d).bind fun q => (pairsKD r).map (q :: ·)
def gDictP : GC := fun ds S => match ds with
  | [d] => match (asL S d).bind pairsKD with
    | some kds => .ok (.dic (mergeD [] kds)) S
    | none => .stuck
  | _ => .stuck
theorem pairsKD_ok {φ : List Addr} {G H : Hp} (sub : Same G H) : ∀ {ds : List D} {us : List V} {kds : List (Key × D)}, DatL X.K X.mg φ G ds us → pairsKD ds = some kds → ∃ (ps : List Addr) (kvs : List (Key × V)), us = ps.map V.ref ∧ Paired (fun p kv => SqT X.K H p [kV kv.1, kv.2]) ps kvs ∧ DatK X.K X.mg φ G kds kvs
  | [], us, kds, h, e => by
    injection e with e
    subst e
    unfold DatL at h
    subst h
    exact ⟨[], [], rfl, .nil, by unfold DatK; rfl⟩
  | d :: r, us, kds, h, e => by
    obtain ⟨q, hq, e'⟩ := Option.bind_eq_some_iff.mp e
    obtain ⟨ks, hk, rfl⟩ := Option.map_eq_some_iff.mp e'
    unfold DatL at h
    obtain ⟨v, vs, rfl, h1, h2⟩ := h
    obtain ⟨ps, kvs, rfl, i1, i2⟩ := pairsKD_ok sub h2 hk
    obtain ⟨x, rfl, hx⟩ := pairKD_ok hq
    unfold Dat at h1
    obtain ⟨t, ws, rfl, hs, hd⟩ := h1
    obtain ⟨v1, v2, rfl, d1, d2⟩ := datL2 hd
    rw [keyD_ok d1 hx] at hs
    refine ⟨t :: ps, (q.1, v2) :: kvs, rfl, .cons (sqt_mono sub hs) i1, ?_⟩
    obtain ⟨qk, qd⟩ := q
    unfold DatK
    exact ⟨_, _, rfl, d2, i2⟩
theorem cd_dictP : CallD X (fun xs H Q => ∃ (a : Addr) (ps : List Addr) (kvs : List (Key × V)), xs = [.ref a] ∧ SqL X.K H a (ps.map V.ref) ∧ Paired (fun p kv => SqT X.K H p [kV kv.1, kv.2]) ps kvs ∧ ∀ p, H p = none → Q (.ref p) (upd H p (.dK (mergeK [] kvs)))) gDictP := fun Z φ S H ds vs Q E R d w => by
  unfold gDictP at w
  split at w
  · obtain ⟨v, rfl, h1⟩ := datL1 d
    split at w
    · rename_i kds e1
      obtain ⟨es, a1, a2⟩ := Option.bind_eq_some_iff.mp e1
      obtain ⟨a, us, rfl, h2, h3⟩ := asL_ok R h1 a1
      obtain ⟨ps, kvs, rfl, q1, q2⟩ := pairsKD_ok gnd_sub h3 a2
      refine ⟨a, ps, kvs, rfl, h2, q1, fun p hp => ?_⟩
      obtain ⟨r, e, g⟩ := R.fresh (o := .dK (mergeK [] kvs)) hp
      refine w _ _ _ r e ?_
      show Dat _ _ _ _ _ _
      unfold Dat
      exact ⟨p, _, rfl, g, datK_merge (DatK.mono e.pre e.ext _ _ q2) (by unfold DatK; rfl)⟩
    · exact w.elim
  · exact w.elim
theorem de_dictP (C : Cn X W k) {fa : FA} (hg : Gl X "dict") (hm : X.mg "dict" = none) (ha : DA X W [e] fa) (he : starEach [e] X.env = (false, eval e X.env) :: starEach [] X.env := by rfl) (hpl : (backTo pos (starEach [] X.env)).any (·.1) = false := by rfl) :
    DE X W (.Call (.Name "dict" p) [e] [] pos) (fCB gDictP fa) :=
  de_callTy (call_dictP C.calm) cd_dictP hg hm (by rfl) ha (by decide) (by decide) he hpl
end
end DL

namespace K03
open PySem PySem.Spec PyProof.Rows L2 DL
def top (i : Nat) : Stmt := PySem.Challenge.pw_reachyard_k66_enough.main.body.getD i (.Pass ⟨0, 0, 0, 0⟩)
abbrev tb_BadNumber : List (Str × Bool) := [("BadNumber", true)]
abbrev tb_ValueError : List (Str × Bool) := [("BadNumber", true)]
abbrev tb_YardError : List (Str × Bool) := [("BadNumber", true)]
/-! ### _law_state -/
abbrev s_p_law_state : Stmt := top 26
abbrev N_p_law_state : List Str := ["_law_script", "_law_k", "_law_cell", "_law_found", "_law_primes", "_law_prime", "_law_one"]
def d_p_law_state : He.DefD := ⟨("_law_state", none), "_law_state", "_law_state", defArgs s_p_law_state, defBody s_p_law_state, defScope s_p_law_state, [], []⟩
noncomputable def m_p_law_state : FS := (gSeq (gSet 2 (fIf (toB (fBin gNe (fVar 0) (fLst (fun _ S => .ok [] S)))) (fCB gAbs (fCons (fBin gIx (fVar 0) (fBin gMod (fVar 1) (fCB gLen (fCons (fVar 0) (fun _ S => .ok [] S))))) (fun _ S => .ok [] S))) (fC (.int 0)))) (gSeq (gIf (toB (fBin gGe (fVar 2) (fBin gPow (fC (.int 10)) (fC (.int 18))))) (gRet (fLstO (fCons (fBin gSub (fVar 2) (fBin gPow (fC (.int 10)) (fC (.int 18)))) (fun _ S => .ok [] S)))) gNil) (gSeq (gSet 3 (fC (.int 0))) (gSeq (gSet 4 (fLst (fCons (fC (.int 2147483629)) (fCons (fC (.int 2147483587)) (fCons (fC (.int 2147483579)) (fCons (fC (.int 2147483563)) (fCons (fC (.int 2147483549)) (fCons (fC (.int 2147483543)) (fCons (fC (.int 2147483497)) (fCons (fC (.int 2147483489)) (fun _ S => .ok [] S))))))))))) (gSeq (gFor (fSeq (fBin gAdd (fVar 4) (fLst (fCons (fC (.int 2147483477)) (fCons (fC (.int 2147483423)) (fCons (fC (.int 2147483399)) (fCons (fC (.int 2147483353)) (fCons (fC (.int 2147483323)) (fCons (fC (.int 2147483269)) (fCons (fC (.int 2147483249)) (fun _ S => .ok [] S))))))))))) (mName 5) (gSeq (gSet 6 (fBin gMod (fBin gMul (fBin gPow (fBin gAdd (fBin gAdd (fBin gMod (fVar 2) (fVar 5)) (fBin gMul (fC (.int 7919)) (fVar 1))) (fC (.int 48271))) (fC (.int 2))) (fC (.int 69621))) (fVar 5))) (gSet 3 (fBin gAdd (fBin gMul (fVar 3) (fC (.int 2147483647))) (fBin gMod (fBin gMul (fVar 6) (fBin gAdd (fVar 6) (fBin gDiv (fVar 5) (fC (.int 7))))) (fVar 5)))))) (gRet (fLstO (fCons (fVar 3) (fun _ S => .ok [] S)))))))))
noncomputable def S_p_law_state : Sem' := semOf 7 m_p_law_state
/-! ### _law_next -/
abbrev s_p_law_next : Stmt := top 27
abbrev N_p_law_next : List Str := ["_law_state_here", "_law_most", "_law_found"]
def d_p_law_next : He.DefD := ⟨("_law_next", none), "_law_next", "_law_next", defArgs s_p_law_next, defBody s_p_law_next, defScope s_p_law_next, [], []⟩
noncomputable def m_p_law_next : FS := (gSeq (gSet 2 (fBin gMod (fBin gIx (fVar 0) (fC (.int 0))) (fVar 1))) (gSeq (gPut (fVar 0) (fC (.int 0)) (fBin gDivW (fBin gIx (fVar 0) (fC (.int 0))) (fVar 1))) (gRet (fVar 2))))
noncomputable def S_p_law_next : Sem' := semOf 3 m_p_law_next
/-! ### _law_pick -/
abbrev s_p_law_pick : Stmt := top 28
abbrev N_p_law_pick : List Str := ["_law_state_here", "_law_some"]
def d_p_law_pick : He.DefD := ⟨("_law_pick", none), "_law_pick", "_law_pick", defArgs s_p_law_pick, defBody s_p_law_pick, defScope s_p_law_pick, [], []⟩
noncomputable def m_p_law_pick : FS := (gRet (fBin gIx (fVar 1) (fCall (callSub S_p_law_next) (fun ds es => pick [(0, 0), (0, 1)] ds es []) 2 0 2 (fCons (fVar 0) (fCons (fCB gLen (fCons (fVar 1) (fun _ S => .ok [] S))) (fun _ S => .ok [] S))) (fun _ S => .ok [] S))))
noncomputable def S_p_law_pick : Sem' := semOf 2 m_p_law_pick
/-! ### _law_near -/
abbrev s_p_law_near : Stmt := top 29
abbrev N_p_law_near : List Str := ["_law_state_here", "_law_least_one", "_law_most_one", "_law_way"]
def d_p_law_near : He.DefD := ⟨("_law_near", none), "_law_near", "_law_near", defArgs s_p_law_near, defBody s_p_law_near, defScope s_p_law_near, [], []⟩
noncomputable def m_p_law_near : FS := (gSeq (gSet 3 (fCall (callSub S_p_law_next) (fun ds es => pick [(0, 0), (0, 1)] ds es []) 2 0 2 (fCons (fVar 0) (fCons (fC (.int 10)) (fun _ S => .ok [] S))) (fun _ S => .ok [] S))) (gSeq (gIf (toB (fBin gEq (fVar 3) (fC (.int 9)))) (gRet (fCall (callSub S_p_law_pick) (fun ds es => pick [(0, 0), (0, 1)] ds es []) 2 0 2 (fCons (fVar 0) (fCons (fLst (fCons (fC .non) (fCons (fC (.bl true)) (fCons (fC (.str "6")) (fCons (fTup (fCons (fC (.int 6)) (fun _ S => .ok [] S))) (fCons (fLst (fun _ S => .ok [] S)) (fCons (fUn gNeg (fC (.int 1))) (fun _ S => .ok [] S)))))))) (fun _ S => .ok [] S))) (fun _ S => .ok [] S))) gNil) (gSeq (gIf (toB (fBin gEq (fVar 3) (fC (.int 8)))) (gRet (fBin gSub (fVar 1) (fC (.int 1)))) gNil) (gSeq (gIf (toB (fBin gGt (fVar 3) (fC (.int 5)))) (gRet (fBin gIx (fLst (fCons (fVar 1) (fCons (fVar 2) (fun _ S => .ok [] S)))) (fBin gSub (fVar 3) (fC (.int 6))))) gNil) (gRet (fBin gAdd (fVar 1) (fCall (callSub S_p_law_next) (fun ds es => pick [(0, 0), (0, 1)] ds es []) 2 0 2 (fCons (fVar 0) (fCons (fBin gAdd (fBin gSub (fVar 2) (fVar 1)) (fC (.int 1))) (fun _ S => .ok [] S))) (fun _ S => .ok [] S))))))))
noncomputable def S_p_law_near : Sem' := semOf 4 m_p_law_near
/-! ### _law_said -/
abbrev s_p_law_said : Stmt := top 31
abbrev N_p_law_said : List Str := ["_law_work", "_law_caught", "_law_found", "e"]
def d_p_law_said : He.DefD := ⟨("_law_said", none), "_law_said", "_law_said", defArgs s_p_law_said, defBody s_p_law_said, defScope s_p_law_said, [], []⟩
noncomputable def m_p_law_said : (Store → Res D) → FS := fun th => (gSeq (gSet 1 (fC .non)) (gSeq (gSet 2 (fC .non)) (gSeq (gTry (gActSet 2 th) (⟨tb_BadNumber, some 3, (gSet 1 (fIf (toB (fCB (gIsX tb_ValueError (.ty "ValueError")) (fCons (fVar 3) (fCons (fC (.ty "ValueError")) (fun _ S => .ok [] S))))) (fC (.str "number")) (fC (.str "other"))))⟩ :: (⟨tb_YardError, none, (gSet 1 (fC (.str "other")))⟩ :: []))) (gRet (fIf (toB (fBin gIs (fVar 1) (fC .non))) (fVar 2) (fVar 1))))))
/-! ### _law_good -/
abbrev s_p_law_good : Stmt := top 30
abbrev N_p_law_good : List Str := ["_law_thing", "_law_least_one"]
def d_p_law_good : He.DefD := ⟨("_law_good", none), "_law_good", "_law_good", defArgs s_p_law_good, defBody s_p_law_good, defScope s_p_law_good, [], []⟩
noncomputable def m_p_law_good : FS := (gRet (fAndV (fCB gIsi (fCons (fVar 0) (fCons (fC (.ty "int")) (fun _ S => .ok [] S)))) (fAndV (fNotV (fCB gIsi (fCons (fVar 0) (fCons (fC (.ty "bool")) (fun _ S => .ok [] S))))) (fBin gGe (fVar 0) (fVar 1)))))
noncomputable def S_p_law_good : Sem' := semOf 2 m_p_law_good
/-! ### is_whole -/
abbrev s_is_whole : Stmt := top 9
abbrev N_is_whole : List Str := ["thing", "least", "most"]
def d_is_whole : He.DefD := ⟨("is_whole", none), "is_whole", "is_whole", defArgs s_is_whole, defBody s_is_whole, defScope s_is_whole, [], []⟩
noncomputable def m_is_whole : FS := (gRet (fAndV (fCB gIsi (fCons (fVar 0) (fCons (fC (.ty "int")) (fun _ S => .ok [] S)))) (fAndV (fNotV (fCB gIsi (fCons (fVar 0) (fCons (fC (.ty "bool")) (fun _ S => .ok [] S))))) (fChain gLe gLe (fVar 1) (fVar 0) (fVar 2)))))
noncomputable def S_is_whole : Sem' := semOf 3 m_is_whole
/-! ### need_sizes -/
abbrev s_need_sizes : Stmt := top 22
abbrev N_need_sizes : List Str := ["cells", "fields"]
def d_need_sizes : He.DefD := ⟨("need_sizes", none), "need_sizes", "need_sizes", defArgs s_need_sizes, defBody s_need_sizes, defScope s_need_sizes, [], []⟩
noncomputable def m_need_sizes : FS := (gIf (fOrT (fNotT (toB (fCB gIsi (fCons (fVar 0) (fCons (fC (.ty "int")) (fun _ S => .ok [] S)))))) (fOrT (toB (fCB gIsi (fCons (fVar 0) (fCons (fC (.ty "bool")) (fun _ S => .ok [] S))))) (fOrT (toB (fBin gLt (fVar 0) (fC (.int 1)))) (fNotT (toB (fCall (callSub S_is_whole) (fun ds es => pick [(0, 0), (0, 1), (0, 2)] ds es []) 3 0 3 (fCons (fVar 1) (fCons (fC (.int 1)) (fCons (fC (.int (6))) (fun _ S => .ok [] S)))) (fun _ S => .ok [] S))))))) (fun ρ S => .ex "BadNumber" [] ρ S) gNil)
noncomputable def S_need_sizes : Sem' := semOf 2 m_need_sizes
/-! ### enough -/
abbrev s_enough : Stmt := top 23
abbrev N_enough : List Str := ["cells", "fields", "pay", "more"]
def d_enough : He.DefD := ⟨("enough", none), "enough", "enough", defArgs s_enough, defBody s_enough, defScope s_enough, [], [("fields", .int 6)]⟩
noncomputable def m_enough : FS := (gSeq (gExpr (fCall (callSub S_need_sizes) (fun ds es => pick [(0, 0), (0, 1)] ds es []) 2 0 2 (fCons (fVar 0) (fCons (fVar 1) (fun _ S => .ok [] S))) (fun _ S => .ok [] S))) (gSeq (gIf (fOrT (fNotT (toB (fCB gIsi (fCons (fVar 2) (fCons (fC (.ty "int")) (fun _ S => .ok [] S)))))) (fOrT (toB (fCB gIsi (fCons (fVar 2) (fCons (fC (.ty "bool")) (fun _ S => .ok [] S))))) (toB (fBin gLt (fVar 2) (fC (.int (6))))))) (fun ρ S => .ex "BadNumber" [] ρ S) gNil) (gSeq (gSet 3 (fBin gAdd (fBin gDiv (fBin gAdd (fBin gMul (fC (.int 4)) (fVar 0)) (fC (.int 4))) (fBin gSub (fVar 2) (fC (.int 5)))) (fC (.int 1)))) (gRet (fBin gMul (fBin gAdd (fVar 0) (fBin gMul (fC (.int 2)) (fVar 3))) (fBin gAdd (fC (.int 1)) (fVar 1)))))))
noncomputable def S_enough : Sem' := semOf 4 m_enough
/-! ### too_small -/
abbrev s_too_small : Stmt := top 24
abbrev N_too_small : List Str := ["cells", "half", "young", "fields", "first", "rest", "rows"]
def d_too_small : He.DefD := ⟨("too_small", none), "too_small", "too_small", defArgs s_too_small, defBody s_too_small, defScope s_too_small, [], [("young", .int 24), ("fields", .int 6)]⟩
noncomputable def m_too_small : FS := (gSeq (gExpr (fCall (callSub S_need_sizes) (fun ds es => pick [(0, 0), (0, 1)] ds es []) 2 0 2 (fCons (fVar 0) (fCons (fVar 3) (fun _ S => .ok [] S))) (fun _ S => .ok [] S))) (fun _ _ => .stuck))
noncomputable def S_too_small : Sem' := semOf 7 m_too_small
/-! ### law -/
abbrev s_law : Stmt := top 32
abbrev N_law : List Str := ["_law_script", "_law_cell", "_law_state_here", "_law_many", "_law_each", "_law_paid", "_law_left_out", "_law_found", "_law_sizes", "_law_due"]
def d_law : He.DefD := ⟨("law", none), "law", "law", defArgs s_law, defBody s_law, defScope s_law, [], []⟩
noncomputable def m_law : FS := (gSeq (gFor (fRng1 (fCons (fCB gMax (fCons (fC (.int 1)) (fCons (fCB gMin (fCons (fC (.int 12)) (fCons (fCB gLen (fCons (fVar 0) (fun _ S => .ok [] S))) (fun _ S => .ok [] S)))) (fun _ S => .ok [] S)))) (fun _ S => .ok [] S))) (mName 1) (gSeq (gSet 2 (fCall S_p_law_state (fun ds es => pick [(0, 0), (0, 1)] ds es []) 2 0 2 (fCons (fVar 0) (fCons (fVar 1) (fun _ S => .ok [] S))) (fun _ S => .ok [] S))) (gSeq (gSet 3 (fCall (callSub S_p_law_near) (fun ds es => pick [(0, 0), (0, 1), (0, 2)] ds es []) 3 0 3 (fCons (fVar 2) (fCons (fC (.int 1)) (fCons (fCall (callSub S_p_law_pick) (fun ds es => pick [(0, 0), (0, 1)] ds es []) 2 0 2 (fCons (fVar 2) (fCons (fLst (fCons (fC (.int 20)) (fCons (fBin gPow (fC (.int 10)) (fC (.int 30))) (fun _ S => .ok [] S)))) (fun _ S => .ok [] S))) (fun _ S => .ok [] S)) (fun _ S => .ok [] S)))) (fun _ S => .ok [] S))) (gSeq (gAsg (mTup 2 (mCons (mName 4) (mCons (mName 5) (fun ds ρ _ => match ds with | [] => some ρ | _ => none)))) (fTup (fCons (fCall (callSub S_p_law_near) (fun ds es => pick [(0, 0), (0, 1), (0, 2)] ds es []) 3 0 3 (fCons (fVar 2) (fCons (fC (.int 1)) (fCons (fC (.int 6)) (fun _ S => .ok [] S)))) (fun _ S => .ok [] S)) (fCons (fCall (callSub S_p_law_near) (fun ds es => pick [(0, 0), (0, 1), (0, 2)] ds es []) 3 0 3 (fCons (fVar 2) (fCons (fC (.int 6)) (fCons (fCall (callSub S_p_law_pick) (fun ds es => pick [(0, 0), (0, 1)] ds es []) 2 0 2 (fCons (fVar 2) (fCons (fLst (fCons (fC (.int 40)) (fCons (fBin gPow (fC (.int 10)) (fC (.int 9))) (fun _ S => .ok [] S)))) (fun _ S => .ok [] S))) (fun _ S => .ok [] S)) (fun _ S => .ok [] S)))) (fun _ S => .ok [] S)) (fun _ S => .ok [] S))))) (gSeq (gSet 6 (fBin gEq (fCall (callSub S_p_law_next) (fun ds es => pick [(0, 0), (0, 1)] ds es []) 2 0 2 (fCons (fVar 2) (fCons (fC (.int 3)) (fun _ S => .ok [] S))) (fun _ S => .ok [] S)) (fC (.int 0)))) (gSeq (gIf (toB (fVar 6)) (gSeq (gSet 7 (fTold ("law", none) ((("law" : Str) ++ ".<locals>.") ++ "<lambda>") 4 m_p_law_said (fCall (callSub S_enough) (fun ds es => pick [(1, 0), (2, 0), (1, 1)] ds es [.int 6]) 0 2 3 (fun _ S => .ok [] S) (fCons (fVar 3) (fCons (fVar 5) (fun _ S => .ok [] S)))))) (gSet 4 (fC (.int 6)))) (gSet 7 (fTold ("law", none) ((("law" : Str) ++ ".<locals>.") ++ "<lambda>") 4 m_p_law_said (fCall (callSub S_enough) (fun ds es => pick [(0, 0), (1, 1), (1, 0)] ds es []) 1 2 3 (fCons (fVar 3) (fun _ S => .ok [] S)) (fCons (fVar 5) (fCons (fVar 4) (fun _ S => .ok [] S))))))) (gSeq (gSet 8 (fAndV (fCall (callSub S_p_law_good) (fun ds es => pick [(0, 0), (0, 1)] ds es []) 2 0 2 (fCons (fVar 3) (fCons (fC (.int 1)) (fun _ S => .ok [] S))) (fun _ S => .ok [] S)) (fAndV (fCall (callSub S_p_law_good) (fun ds es => pick [(0, 0), (0, 1)] ds es []) 2 0 2 (fCons (fVar 4) (fCons (fC (.int 1)) (fun _ S => .ok [] S))) (fun _ S => .ok [] S)) (fBin gLt (fVar 4) (fC (.int 7)))))) (gSeq (gSet 9 (fC (.str "number"))) (gSeq (gIf (fAndT (toB (fVar 8)) (toB (fCall (callSub S_p_law_good) (fun ds es => pick [(0, 0), (0, 1)] ds es []) 2 0 2 (fCons (fVar 5) (fCons (fC (.int 6)) (fun _ S => .ok [] S))) (fun _ S => .ok [] S)))) (gSet 9 (fBin gMul (fBin gAdd (fVar 3) (fBin gMul (fC (.int 2)) (fBin gAdd (fBin gDiv (fBin gAdd (fBin gMul (fC (.int 4)) (fVar 3)) (fC (.int 4))) (fBin gSub (fVar 5) (fC (.int 5)))) (fC (.int 1))))) (fBin gAdd (fC (.int 1)) (fVar 4)))) gNil) (gSeq (gIf (fOrT (toB (fBin gNe (fVar 7) (fVar 9))) (toB (fCB gIsi (fCons (fVar 7) (fCons (fC (.ty "bool")) (fun _ S => .ok [] S)))))) (gRet (fC (.bl false))) gNil) (gIf (fAndT (fNotT (toB (fVar 8))) (toB (fBin gNe (fTold ("law", none) ((("law" : Str) ++ ".<locals>.") ++ "<lambda>") 4 m_p_law_said (fCall (callSub S_too_small) (fun ds es => pick [(1, 1), (1, 2), (2, 0), (1, 0)] ds es [.int 24]) 0 3 4 (fun _ S => .ok [] S) (fCons (fVar 4) (fCons (fVar 3) (fCons (fC (.int 9)) (fun _ S => .ok [] S)))))) (fC (.str "number"))))) (gRet (fC (.bl false))) gNil))))))))))) (gRet (fC (.bl true))))
noncomputable def S_law : Sem' := semOf 10 m_law
def fn : List He.DefD := [d_p_law_state, d_p_law_next, d_p_law_pick, d_p_law_near, d_p_law_said, d_p_law_good, d_is_whole, d_need_sizes, d_enough, d_too_small, d_law]
def fa : List He.Fa := [.glo "_law_state", .glo "_law_next", .glo "_law_pick", .glo "_law_near", .glo "_law_said", .glo "_law_good", .glo "is_whole", .glo "need_sizes", .glo "enough", .glo "too_small", .glo "law", .free "ValueError", .free "abs", .free "bool", .free "int", .free "isinstance", .free "len", .free "max", .free "min", .free "range", .int "LEAST_PAY" (6), .int "MOST_FIELDS" (6), .glo "BadNumber", .glo "YardError"]
def exB (K : PySem.W.Frag) : Bool := raiB K "BadNumber" && (iseB K "BadNumber" && (exmT K (.ref (He.ga K "BadNumber")) tb_BadNumber && (exmT K (.ref (He.ga K "YardError")) tb_YardError && (kitT K (.type "ValueError") tb_ValueError && (true)))))
def tq : List (He.Defn × Str) := [(("law", none), (("law" : Str) ++ ".<locals>.") ++ "<lambda>")]
structure Txt (K : PySem.W.Frag) (mg : Str → Option Value) : Prop where
  says : He.SaysD fa fn K
  glo : ∀ {x : Str}, (He.Fa.glo x).ok K = true → mg x = some (.ref (He.ga K x))
  free : ∀ {x : Str}, (He.Fa.free x).ok K = true → mg x = none
  int : ∀ {x : Str} {i : Int}, (He.Fa.int x i).ok K = true → ∃ t, mg x = some (.int i t)
  str : ∀ {x z : Str}, (He.Fa.str x z).ok K = true → ∃ t, mg x = some (.str z t)
  ex : exB K = true
section
variable {K : PySem.W.Frag} {mg : Str → Option Value}
theorem txt_of {h : Heap} (X : K.In h) (G : h.Ns mainGlobals mg) (c : He.SaysD fa fn K) (cx : exB K = true) : Txt K mg := ⟨c, fun q => He.glo_ok X G q, fun q => He.free_ok X G q, fun q => He.int_ok X G q, fun q => He.str_ok X G q, cx⟩
theorem glo_p_law_state (T : Txt K mg) : mg "_law_state" = some (.ref (He.fAd K d_p_law_state.at_)) := T.glo (T.says.fact 0 (f := .glo "_law_state") rfl)
theorem glo_p_law_next (T : Txt K mg) : mg "_law_next" = some (.ref (He.fAd K d_p_law_next.at_)) := T.glo (T.says.fact 1 (f := .glo "_law_next") rfl)
theorem glo_p_law_pick (T : Txt K mg) : mg "_law_pick" = some (.ref (He.fAd K d_p_law_pick.at_)) := T.glo (T.says.fact 2 (f := .glo "_law_pick") rfl)
theorem glo_p_law_near (T : Txt K mg) : mg "_law_near" = some (.ref (He.fAd K d_p_law_near.at_)) := T.glo (T.says.fact 3 (f := .glo "_law_near") rfl)
theorem glo_p_law_said (T : Txt K mg) : mg "_law_said" = some (.ref (He.fAd K d_p_law_said.at_)) := T.glo (T.says.fact 4 (f := .glo "_law_said") rfl)
theorem glo_p_law_good (T : Txt K mg) : mg "_law_good" = some (.ref (He.fAd K d_p_law_good.at_)) := T.glo (T.says.fact 5 (f := .glo "_law_good") rfl)
theorem glo_is_whole (T : Txt K mg) : mg "is_whole" = some (.ref (He.fAd K d_is_whole.at_)) := T.glo (T.says.fact 6 (f := .glo "is_whole") rfl)
theorem glo_need_sizes (T : Txt K mg) : mg "need_sizes" = some (.ref (He.fAd K d_need_sizes.at_)) := T.glo (T.says.fact 7 (f := .glo "need_sizes") rfl)
theorem glo_enough (T : Txt K mg) : mg "enough" = some (.ref (He.fAd K d_enough.at_)) := T.glo (T.says.fact 8 (f := .glo "enough") rfl)
theorem glo_too_small (T : Txt K mg) : mg "too_small" = some (.ref (He.fAd K d_too_small.at_)) := T.glo (T.says.fact 9 (f := .glo "too_small") rfl)
theorem glo_law (T : Txt K mg) : mg "law" = some (.ref (He.fAd K d_law.at_)) := T.glo (T.says.fact 10 (f := .glo "law") rfl)
theorem free_ValueError (T : Txt K mg) : mg "ValueError" = none := T.free (T.says.fact 11 (f := .free "ValueError") rfl)
theorem free_abs (T : Txt K mg) : mg "abs" = none := T.free (T.says.fact 12 (f := .free "abs") rfl)
theorem free_bool (T : Txt K mg) : mg "bool" = none := T.free (T.says.fact 13 (f := .free "bool") rfl)
theorem free_int (T : Txt K mg) : mg "int" = none := T.free (T.says.fact 14 (f := .free "int") rfl)
theorem free_isinstance (T : Txt K mg) : mg "isinstance" = none := T.free (T.says.fact 15 (f := .free "isinstance") rfl)
theorem free_len (T : Txt K mg) : mg "len" = none := T.free (T.says.fact 16 (f := .free "len") rfl)
theorem free_max (T : Txt K mg) : mg "max" = none := T.free (T.says.fact 17 (f := .free "max") rfl)
theorem free_min (T : Txt K mg) : mg "min" = none := T.free (T.says.fact 18 (f := .free "min") rfl)
theorem free_range (T : Txt K mg) : mg "range" = none := T.free (T.says.fact 19 (f := .free "range") rfl)
theorem int_LEAST_PAY (T : Txt K mg) : ∃ t, mg "LEAST_PAY" = some (.int (6) t) := T.int (T.says.fact 20 (f := .int "LEAST_PAY" (6)) rfl)
theorem int_MOST_FIELDS (T : Txt K mg) : ∃ t, mg "MOST_FIELDS" = some (.int (6) t) := T.int (T.says.fact 21 (f := .int "MOST_FIELDS" (6)) rfl)
theorem gloc_BadNumber (T : Txt K mg) : mg "BadNumber" = some (.ref (He.ga K "BadNumber")) := T.glo (T.says.fact 22 (f := .glo "BadNumber") rfl)
theorem gloc_YardError (T : Txt K mg) : mg "YardError" = some (.ref (He.ga K "YardError")) := T.glo (T.says.fact 23 (f := .glo "YardError") rfl)
theorem raic_BadNumber (T : Txt K mg) : RaiC K (He.ga K "BadNumber") := raiB_ok (He.ba T.ex).1
theorem isec_BadNumber (T : Txt K mg) : ExcC K (He.ga K "BadNumber") := iseB_ok (He.ba (He.ba T.ex).2).1
theorem exm0_BadNumber (T : Txt K mg) : exmT K (.ref (He.ga K "BadNumber")) tb_BadNumber = true := id (He.ba (He.ba (He.ba T.ex).2).2).1
theorem exm0_YardError (T : Txt K mg) : exmT K (.ref (He.ga K "YardError")) tb_YardError = true := id (He.ba (He.ba (He.ba (He.ba T.ex).2).2).2).1
theorem kit0_ValueError (T : Txt K mg) : kitT K (.type "ValueError") tb_ValueError = true := id (He.ba (He.ba (He.ba (He.ba (He.ba T.ex).2).2).2).2).1
theorem exmc_BadNumber (T : Txt K mg) : ∀ C b A, tb_BadNumber.lookup C = some b → mg C = some (.ref A) → PySem.W.exmOne K (.ref A) (.ref (He.ga K "BadNumber")) = some b := exmT_ok (exm0_BadNumber T) (by intro q hq; rw [List.mem_singleton.mp hq]; exact gloc_BadNumber T)
theorem exmc_YardError (T : Txt K mg) : ∀ C b A, tb_YardError.lookup C = some b → mg C = some (.ref A) → PySem.W.exmOne K (.ref A) (.ref (He.ga K "YardError")) = some b := exmT_ok (exm0_YardError T) (by intro q hq; rw [List.mem_singleton.mp hq]; exact gloc_BadNumber T)
theorem kitc_ValueError (T : Txt K mg) : ∀ C b A, tb_ValueError.lookup C = some b → mg C = some (.ref A) → ExcC K A ∧ PySem.W.kitOne K (.ref A) (.type "ValueError") = some b := kitT_ok (kit0_ValueError T) (by intro q hq; rw [List.mem_singleton.mp hq]; exact gloc_BadNumber T) (by intro q hq; rw [List.mem_singleton.mp hq]; exact isec_BadNumber T)
theorem fun_p_law_state (T : Txt K mg) : ∃ fd, FunD K d_p_law_state.name d_p_law_state.qual d_p_law_state.params d_p_law_state.body d_p_law_state.scope (d_p_law_state.dvs K) (d_p_law_state.kws K) (He.fAd K d_p_law_state.at_) fd := T.says.def_ 0 (d := d_p_law_state) rfl
theorem fun_p_law_next (T : Txt K mg) : ∃ fd, FunD K d_p_law_next.name d_p_law_next.qual d_p_law_next.params d_p_law_next.body d_p_law_next.scope (d_p_law_next.dvs K) (d_p_law_next.kws K) (He.fAd K d_p_law_next.at_) fd := T.says.def_ 1 (d := d_p_law_next) rfl
theorem fun_p_law_pick (T : Txt K mg) : ∃ fd, FunD K d_p_law_pick.name d_p_law_pick.qual d_p_law_pick.params d_p_law_pick.body d_p_law_pick.scope (d_p_law_pick.dvs K) (d_p_law_pick.kws K) (He.fAd K d_p_law_pick.at_) fd := T.says.def_ 2 (d := d_p_law_pick) rfl
theorem fun_p_law_near (T : Txt K mg) : ∃ fd, FunD K d_p_law_near.name d_p_law_near.qual d_p_law_near.params d_p_law_near.body d_p_law_near.scope (d_p_law_near.dvs K) (d_p_law_near.kws K) (He.fAd K d_p_law_near.at_) fd := T.says.def_ 3 (d := d_p_law_near) rfl
theorem fun_p_law_said (T : Txt K mg) : ∃ fd, FunD K d_p_law_said.name d_p_law_said.qual d_p_law_said.params d_p_law_said.body d_p_law_said.scope (d_p_law_said.dvs K) (d_p_law_said.kws K) (He.fAd K d_p_law_said.at_) fd := T.says.def_ 4 (d := d_p_law_said) rfl
theorem fun_p_law_good (T : Txt K mg) : ∃ fd, FunD K d_p_law_good.name d_p_law_good.qual d_p_law_good.params d_p_law_good.body d_p_law_good.scope (d_p_law_good.dvs K) (d_p_law_good.kws K) (He.fAd K d_p_law_good.at_) fd := T.says.def_ 5 (d := d_p_law_good) rfl
theorem fun_is_whole (T : Txt K mg) : ∃ fd, FunD K d_is_whole.name d_is_whole.qual d_is_whole.params d_is_whole.body d_is_whole.scope (d_is_whole.dvs K) (d_is_whole.kws K) (He.fAd K d_is_whole.at_) fd := T.says.def_ 6 (d := d_is_whole) rfl
theorem fun_need_sizes (T : Txt K mg) : ∃ fd, FunD K d_need_sizes.name d_need_sizes.qual d_need_sizes.params d_need_sizes.body d_need_sizes.scope (d_need_sizes.dvs K) (d_need_sizes.kws K) (He.fAd K d_need_sizes.at_) fd := T.says.def_ 7 (d := d_need_sizes) rfl
theorem fun_enough (T : Txt K mg) : ∃ fd, FunD K d_enough.name d_enough.qual d_enough.params d_enough.body d_enough.scope (d_enough.dvs K) (d_enough.kws K) (He.fAd K d_enough.at_) fd := T.says.def_ 8 (d := d_enough) rfl
theorem fun_too_small (T : Txt K mg) : ∃ fd, FunD K d_too_small.name d_too_small.qual d_too_small.params d_too_small.body d_too_small.scope (d_too_small.dvs K) (d_too_small.kws K) (He.fAd K d_too_small.at_) fd := T.says.def_ 9 (d := d_too_small) rfl
theorem fun_law (T : Txt K mg) : ∃ fd, FunD K d_law.name d_law.qual d_law.params d_law.body d_law.scope (d_law.dvs K) (d_law.kws K) (He.fAd K d_law.at_) fd := T.says.def_ 10 (d := d_law) rfl
end
theorem ok_p_law_state {P : Program} {w : World} {K : PySem.W.Frag} {mg : Str → Option Value} {base : Heap} (T : Txt K mg) (TB : ∀ p ∈ tq, LamX.TabB base mg (He.cT K p.1).1 (He.cT K p.1).2) : ∃ fd, FunD K d_p_law_state.name d_p_law_state.qual d_p_law_state.params d_p_law_state.body d_p_law_state.scope (d_p_law_state.dvs K) (d_p_law_state.kws K) (He.fAd K d_p_law_state.at_) fd ∧
    FnG P w K mg base 1 (He.fAd K d_p_law_state.at_) fd ["_law_script", "_law_k"] (spD K mg 2 S_p_law_state) := by
  have b_abs := free_abs T
  have b_len := free_len T
  obtain ⟨fd, F⟩ := fun_p_law_state T
  refine ⟨fd, F, fnG (N := N_p_law_state) (ps := ["_law_script", "_law_k"]) (k := 0) (g := m_p_law_state) F ⟨rfl, rfl, rfl, by decide +kernel, rfl, by decide +kernel, by decide +kernel⟩ fun cdv A outer s H E C => ?_⟩
  exact (dss_cons (ds_set C (i := 2) rfl (by first | exact Or.inl rfl | exact Or.inr rfl) (de_ifExp (dt_cmp (opr_ne C) opd_ne (de_var (pv 0)) (de_lst da_nil) (nomark _)) (de_abs rfl b_abs (da_cons (de_sub1 C (de_var (pv 0)) (de_mod (de_var (pv 1)) (de_len rfl b_len (da_cons (de_var (pv 0)) da_nil)))) da_nil)) de_int)) (dss_cons (ds_if (dt_cmp op_ge opd_ge (de_var (pv 2)) (de_pow de_int de_int) (nomark _)) (dss_one (ds_ret (de_lstO (da_cons (de_sub (de_var (pv 2)) (de_pow de_int de_int)) da_nil)))) dss_nil) (dss_cons (ds_set C (i := 3) rfl (by first | exact Or.inl rfl | exact Or.inr rfl) de_int) (dss_cons (ds_set C (i := 4) rfl (by first | exact Or.inl rfl | exact Or.inr rfl) (de_lst (da_cons de_int (da_cons de_int (da_cons de_int (da_cons de_int (da_cons de_int (da_cons de_int (da_cons de_int (da_cons de_int da_nil)))))))))) (dss_cons (ds_for C (di_seq (de_add (de_var (pv 4)) (de_lst (da_cons de_int (da_cons de_int (da_cons de_int (da_cons de_int (da_cons de_int (da_cons de_int (da_cons de_int da_nil)))))))))) (dg_name (i := 5) (pg_name C.nd rfl (by first | exact Or.inl rfl | exact Or.inr rfl))) (dss_cons (ds_set C (i := 6) rfl (by first | exact Or.inl rfl | exact Or.inr rfl) (de_mod (de_mul (de_pow (de_add (de_add (de_mod (de_var (pv 2)) (de_var (pv 5))) (de_mul de_int (de_var (pv 1)))) de_int) de_int) de_int) (de_var (pv 5)))) (dss_one (ds_set C (i := 3) rfl (by first | exact Or.inl rfl | exact Or.inr rfl) (de_add (de_mul (de_var (pv 3)) de_int) (de_mod (de_mul (de_var (pv 6)) (de_add (de_var (pv 6)) (de_fdiv (de_var (pv 5)) de_int))) (de_var (pv 5)))))))) (dss_one (ds_ret (de_lstO (da_cons (de_var (pv 3)) da_nil)))))))))
theorem ok_p_law_next {P : Program} {w : World} {K : PySem.W.Frag} {mg : Str → Option Value} {base : Heap} (T : Txt K mg) (TB : ∀ p ∈ tq, LamX.TabB base mg (He.cT K p.1).1 (He.cT K p.1).2) : ∃ fd, FunD K d_p_law_next.name d_p_law_next.qual d_p_law_next.params d_p_law_next.body d_p_law_next.scope (d_p_law_next.dvs K) (d_p_law_next.kws K) (He.fAd K d_p_law_next.at_) fd ∧
    FnG P w K mg base 1 (He.fAd K d_p_law_next.at_) fd ["_law_state_here", "_law_most"] (spD K mg 2 S_p_law_next) := by
  obtain ⟨fd, F⟩ := fun_p_law_next T
  refine ⟨fd, F, fnG (N := N_p_law_next) (ps := ["_law_state_here", "_law_most"]) (k := 0) (g := m_p_law_next) F ⟨rfl, rfl, rfl, by decide +kernel, rfl, by decide +kernel, by decide +kernel⟩ fun cdv A outer s H E C => ?_⟩
  exact (dss_cons (ds_set C (i := 2) rfl (by first | exact Or.inl rfl | exact Or.inr rfl) (de_mod (de_sub1 C (de_var (pv 0)) de_int) (de_var (pv 1)))) (dss_cons (ds_put C (de_var (pv 0)) de_int (de_fdivW (de_sub1 C (de_var (pv 0)) de_int) (de_var (pv 1)))) (dss_one (ds_ret (de_var (pv 2))))))
theorem ok_p_law_pick {P : Program} {w : World} {K : PySem.W.Frag} {mg : Str → Option Value} {base : Heap} (T : Txt K mg) (TB : ∀ p ∈ tq, LamX.TabB base mg (He.cT K p.1).1 (He.cT K p.1).2) : ∃ fd, FunD K d_p_law_pick.name d_p_law_pick.qual d_p_law_pick.params d_p_law_pick.body d_p_law_pick.scope (d_p_law_pick.dvs K) (d_p_law_pick.kws K) (He.fAd K d_p_law_pick.at_) fd ∧
    FnG P w K mg base 2 (He.fAd K d_p_law_pick.at_) fd ["_law_state_here", "_law_some"] (spD K mg 2 S_p_law_pick) := by
  obtain ⟨fd_p_law_next, D_p_law_next, G_p_law_next⟩ := ok_p_law_next (P := P) (w := w) (base := base) T TB
  have m_p_law_next := glo_p_law_next T
  have b_len := free_len T
  obtain ⟨fd, F⟩ := fun_p_law_pick T
  refine ⟨fd, F, fnG (N := N_p_law_pick) (ps := ["_law_state_here", "_law_some"]) (k := 1) (g := m_p_law_pick) F ⟨rfl, rfl, rfl, by decide +kernel, rfl, by decide +kernel, by decide +kernel⟩ fun cdv A outer s H E C => ?_⟩
  exact (dss_one (ds_ret (de_sub1 C (de_var (pv 1)) (de_call (x := "_law_next") G_p_law_next callOk_sub C rfl m_p_law_next D_p_law_next.kp (kb_all D_p_law_next rfl 2 [] [(0, 0), (0, 1)] fun _ _ _ _ _ _ us ws l1 l2 => match us, ws, l1, l2 with | [_, _], [], _, _ => rfl) (da_cons (de_var (pv 0)) (da_cons (de_len rfl b_len (da_cons (de_var (pv 1)) da_nil)) da_nil)) dkw_nil))))
theorem ok_p_law_near {P : Program} {w : World} {K : PySem.W.Frag} {mg : Str → Option Value} {base : Heap} (T : Txt K mg) (TB : ∀ p ∈ tq, LamX.TabB base mg (He.cT K p.1).1 (He.cT K p.1).2) : ∃ fd, FunD K d_p_law_near.name d_p_law_near.qual d_p_law_near.params d_p_law_near.body d_p_law_near.scope (d_p_law_near.dvs K) (d_p_law_near.kws K) (He.fAd K d_p_law_near.at_) fd ∧
    FnG P w K mg base 3 (He.fAd K d_p_law_near.at_) fd ["_law_state_here", "_law_least_one", "_law_most_one"] (spD K mg 3 S_p_law_near) := by
  obtain ⟨fd_p_law_next, D_p_law_next, G_p_law_next⟩ := ok_p_law_next (P := P) (w := w) (base := base) T TB
  have m_p_law_next := glo_p_law_next T
  obtain ⟨fd_p_law_pick, D_p_law_pick, G_p_law_pick⟩ := ok_p_law_pick (P := P) (w := w) (base := base) T TB
  have m_p_law_pick := glo_p_law_pick T
  obtain ⟨fd, F⟩ := fun_p_law_near T
  refine ⟨fd, F, fnG (N := N_p_law_near) (ps := ["_law_state_here", "_law_least_one", "_law_most_one"]) (k := 2) (g := m_p_law_near) F ⟨rfl, rfl, rfl, by decide +kernel, rfl, by decide +kernel, by decide +kernel⟩ fun cdv A outer s H E C => ?_⟩
  exact (dss_cons (ds_set C (i := 3) rfl (by first | exact Or.inl rfl | exact Or.inr rfl) (de_call (x := "_law_next") G_p_law_next callOk_sub C rfl m_p_law_next D_p_law_next.kp (kb_all D_p_law_next rfl 2 [] [(0, 0), (0, 1)] fun _ _ _ _ _ _ us ws l1 l2 => match us, ws, l1, l2 with | [_, _], [], _, _ => rfl) (da_cons (de_var (pv 0)) (da_cons de_int da_nil)) dkw_nil)) (dss_cons (ds_if (dt_cmp (opr_eq C) opd_eq (de_var (pv 3)) de_int (nomark _)) (dss_one (ds_ret (de_call (x := "_law_pick") G_p_law_pick callOk_sub C rfl m_p_law_pick D_p_law_pick.kp (kb_all D_p_law_pick rfl 2 [] [(0, 0), (0, 1)] fun _ _ _ _ _ _ us ws l1 l2 => match us, ws, l1, l2 with | [_, _], [], _, _ => rfl) (da_cons (de_var (pv 0)) (da_cons (de_lst (da_cons de_non (da_cons de_bl (da_cons de_str (da_cons (de_tup (da_cons de_int da_nil)) (da_cons (de_lst da_nil) (da_cons (de_neg de_int) da_nil))))))) da_nil)) dkw_nil))) dss_nil) (dss_cons (ds_if (dt_cmp (opr_eq C) opd_eq (de_var (pv 3)) de_int (nomark _)) (dss_one (ds_ret (de_sub (de_var (pv 1)) de_int))) dss_nil) (dss_cons (ds_if (dt_cmp op_gt opd_gt (de_var (pv 3)) de_int (nomark _)) (dss_one (ds_ret (de_sub1 C (de_lst (da_cons (de_var (pv 1)) (da_cons (de_var (pv 2)) da_nil))) (de_sub (de_var (pv 3)) de_int)))) dss_nil) (dss_one (ds_ret (de_add (de_var (pv 1)) (de_call (x := "_law_next") G_p_law_next callOk_sub C rfl m_p_law_next D_p_law_next.kp (kb_all D_p_law_next rfl 2 [] [(0, 0), (0, 1)] fun _ _ _ _ _ _ us ws l1 l2 => match us, ws, l1, l2 with | [_, _], [], _, _ => rfl) (da_cons (de_var (pv 0)) (da_cons (de_add (de_sub (de_var (pv 2)) (de_var (pv 1))) de_int) da_nil)) dkw_nil))))))))
theorem ok_p_law_said {P : Program} {w : World} {K : PySem.W.Frag} {mg : Str → Option Value} {base : Heap} (T : Txt K mg) (TB : ∀ p ∈ tq, LamX.TabB base mg (He.cT K p.1).1 (He.cT K p.1).2) : ∃ fd, FunD K d_p_law_said.name d_p_law_said.qual d_p_law_said.params d_p_law_said.body d_p_law_said.scope (d_p_law_said.dvs K) (d_p_law_said.kws K) (He.fAd K d_p_law_said.at_) fd ∧
    FnT P w K mg base 31 "_law_said" d_p_law_said.scope (He.fAd K d_p_law_said.at_) fd "_law_work" N_p_law_said m_p_law_said := by
  have b_ValueError := free_ValueError T
  have b_isinstance := free_isinstance T
  have gx_BadNumber := gloc_BadNumber T
  have gx_YardError := gloc_YardError T
  have kit_ValueError := kitc_ValueError T
  have exm_BadNumber := exmc_BadNumber T
  have exm_YardError := exmc_YardError T
  obtain ⟨fd, F⟩ := fun_p_law_said T
  refine ⟨fd, F, fnT (k := 31) (m := m_p_law_said) F ⟨rfl, rfl, rfl, by decide +kernel, rfl, by decide +kernel, by decide +kernel⟩ rfl (by first | exact Or.inl rfl | exact Or.inr (Or.inl rfl)) (fun s v => L2.FunD.bindsA (ps := ["_law_work"]) F (fun _ _ _ _ _ _ us hl => match us, hl with | [_], _ => rfl) s [v] rfl) fun cdv A outer s H E f c q tl C act => ?_⟩
  exact (ts_const C (i := 1) (d := .non) (by rfl) rfl (by first | exact Or.inl rfl | exact Or.inr rfl) pe_non (fun _ _ => dat_non) (ts_const C (i := 2) (d := .non) (by rfl) rfl (by first | exact Or.inl rfl | exact Or.inr rfl) pe_non (fun _ _ => dat_non) (ts_trySet act C rfl rfl rfl (i := 2) rfl (by first | exact Or.inl rfl | exact Or.inr rfl) (.named ⟨rfl, by decide, .inl gx_BadNumber⟩ C.nd (i := 3) rfl rfl exm_BadNumber (fun a pn => (dss_one (ds_setS (by exact C.nd) (i := 1) rfl (by first | exact Or.inl rfl | exact Or.inr rfl) (de_ifExp (dt_val (de_isXT rfl b_isinstance kit_ValueError (da_cons (de_var (pv 3)) (da_cons (de_ty rfl b_ValueError (by rfl)) da_nil)))) de_str de_str)))) (.plain ⟨rfl, by decide, .inl gx_YardError⟩ exm_YardError (fun a pn => (dss_one (ds_setS (by exact C.nd) (i := 1) rfl (by first | exact Or.inl rfl | exact Or.inr rfl) de_str))) .nil)) (dss_one (ds_ret (de_ifExp (dt_cmp op_isN opd_is (de_var (pv 1)) de_non (nomark _)) (de_var (pv 2)) (de_var (pv 1))))))))
theorem ok_p_law_good {P : Program} {w : World} {K : PySem.W.Frag} {mg : Str → Option Value} {base : Heap} (T : Txt K mg) (TB : ∀ p ∈ tq, LamX.TabB base mg (He.cT K p.1).1 (He.cT K p.1).2) : ∃ fd, FunD K d_p_law_good.name d_p_law_good.qual d_p_law_good.params d_p_law_good.body d_p_law_good.scope (d_p_law_good.dvs K) (d_p_law_good.kws K) (He.fAd K d_p_law_good.at_) fd ∧
    FnG P w K mg base 1 (He.fAd K d_p_law_good.at_) fd ["_law_thing", "_law_least_one"] (spD K mg 2 S_p_law_good) := by
  have b_bool := free_bool T
  have b_int := free_int T
  have b_isinstance := free_isinstance T
  obtain ⟨fd, F⟩ := fun_p_law_good T
  refine ⟨fd, F, fnG (N := N_p_law_good) (ps := ["_law_thing", "_law_least_one"]) (k := 0) (g := m_p_law_good) F ⟨rfl, rfl, rfl, by decide +kernel, rfl, by decide +kernel, by decide +kernel⟩ fun cdv A outer s H E C => ?_⟩
  exact (dss_one (ds_ret (de_and (de_isi rfl b_isinstance (da_cons (de_var (pv 0)) (da_cons (de_ty rfl b_int (by rfl)) da_nil))) (de_and (de_not (de_isi rfl b_isinstance (da_cons (de_var (pv 0)) (da_cons (de_ty rfl b_bool (by rfl)) da_nil)))) (de_one (de_cmp op_ge opd_ge (de_var (pv 0)) (de_var (pv 1)) (nomark _)))))))
theorem ok_is_whole {P : Program} {w : World} {K : PySem.W.Frag} {mg : Str → Option Value} {base : Heap} (T : Txt K mg) (TB : ∀ p ∈ tq, LamX.TabB base mg (He.cT K p.1).1 (He.cT K p.1).2) : ∃ fd, FunD K d_is_whole.name d_is_whole.qual d_is_whole.params d_is_whole.body d_is_whole.scope (d_is_whole.dvs K) (d_is_whole.kws K) (He.fAd K d_is_whole.at_) fd ∧
    FnG P w K mg base 1 (He.fAd K d_is_whole.at_) fd ["thing", "least", "most"] (spD K mg 3 S_is_whole) := by
  have b_bool := free_bool T
  have b_int := free_int T
  have b_isinstance := free_isinstance T
  obtain ⟨fd, F⟩ := fun_is_whole T
  refine ⟨fd, F, fnG (N := N_is_whole) (ps := ["thing", "least", "most"]) (k := 0) (g := m_is_whole) F ⟨rfl, rfl, rfl, by decide +kernel, rfl, by decide +kernel, by decide +kernel⟩ fun cdv A outer s H E C => ?_⟩
  exact (dss_one (ds_ret (de_and (de_isi rfl b_isinstance (da_cons (de_var (pv 0)) (da_cons (de_ty rfl b_int (by rfl)) da_nil))) (de_and (de_not (de_isi rfl b_isinstance (da_cons (de_var (pv 0)) (da_cons (de_ty rfl b_bool (by rfl)) da_nil)))) (de_one (de_chain op_le op_le opd_le opd_le (de_var (pv 1)) (de_var (pv 0)) (de_var (pv 2))))))))
theorem ok_need_sizes {P : Program} {w : World} {K : PySem.W.Frag} {mg : Str → Option Value} {base : Heap} (T : Txt K mg) (TB : ∀ p ∈ tq, LamX.TabB base mg (He.cT K p.1).1 (He.cT K p.1).2) : ∃ fd, FunD K d_need_sizes.name d_need_sizes.qual d_need_sizes.params d_need_sizes.body d_need_sizes.scope (d_need_sizes.dvs K) (d_need_sizes.kws K) (He.fAd K d_need_sizes.at_) fd ∧
    FnG P w K mg base 2 (He.fAd K d_need_sizes.at_) fd ["cells", "fields"] (spD K mg 2 S_need_sizes) := by
  obtain ⟨fd_is_whole, D_is_whole, G_is_whole⟩ := ok_is_whole (P := P) (w := w) (base := base) T TB
  have m_is_whole := glo_is_whole T
  have b_bool := free_bool T
  have b_int := free_int T
  have b_isinstance := free_isinstance T
  obtain ⟨_, i_MOST_FIELDS⟩ := int_MOST_FIELDS T
  have gx_BadNumber := gloc_BadNumber T
  have rai_BadNumber := raic_BadNumber T
  obtain ⟨fd, F⟩ := fun_need_sizes T
  refine ⟨fd, F, fnG (N := N_need_sizes) (ps := ["cells", "fields"]) (k := 1) (g := m_need_sizes) F ⟨rfl, rfl, rfl, by decide +kernel, rfl, by decide +kernel, by decide +kernel⟩ fun cdv A outer s H E C => ?_⟩
  exact (dss_one (ds_if (DW.dt (dw_or (dt_not (dt_val (de_isi rfl b_isinstance (da_cons (de_var (pv 0)) (da_cons (de_ty rfl b_int (by rfl)) da_nil))))) (dw_or (dt_val (de_isi rfl b_isinstance (da_cons (de_var (pv 0)) (da_cons (de_ty rfl b_bool (by rfl)) da_nil)))) (dw_or (dt_cmp op_lt opd_lt (de_var (pv 0)) de_int (nomark _)) (dw_or1 (dt_not (dt_val (de_call (x := "is_whole") G_is_whole callOk_sub C rfl m_is_whole D_is_whole.kp (kb_all D_is_whole rfl 3 [] [(0, 0), (0, 1), (0, 2)] fun _ _ _ _ _ _ us ws l1 l2 => match us, ws, l1, l2 with | [_, _, _], [], _, _ => rfl) (da_cons (de_var (pv 1)) (da_cons de_int (da_cons (de_globI rfl i_MOST_FIELDS) da_nil))) dkw_nil)))))))) (dss_one (ds_raiseC C rai_BadNumber gx_BadNumber rfl)) dss_nil))
theorem ok_enough {P : Program} {w : World} {K : PySem.W.Frag} {mg : Str → Option Value} {base : Heap} (T : Txt K mg) (TB : ∀ p ∈ tq, LamX.TabB base mg (He.cT K p.1).1 (He.cT K p.1).2) : ∃ fd, FunD K d_enough.name d_enough.qual d_enough.params d_enough.body d_enough.scope (d_enough.dvs K) (d_enough.kws K) (He.fAd K d_enough.at_) fd ∧
    FnG P w K mg base 3 (He.fAd K d_enough.at_) fd ["cells", "fields", "pay"] (spD K mg 3 S_enough) := by
  obtain ⟨fd_need_sizes, D_need_sizes, G_need_sizes⟩ := ok_need_sizes (P := P) (w := w) (base := base) T TB
  have m_need_sizes := glo_need_sizes T
  have b_bool := free_bool T
  have b_int := free_int T
  have b_isinstance := free_isinstance T
  obtain ⟨_, i_LEAST_PAY⟩ := int_LEAST_PAY T
  obtain ⟨_, i_MOST_FIELDS⟩ := int_MOST_FIELDS T
  have gx_BadNumber := gloc_BadNumber T
  have rai_BadNumber := raic_BadNumber T
  obtain ⟨fd, F⟩ := fun_enough T
  refine ⟨fd, F, fnG (N := N_enough) (ps := ["cells", "fields", "pay"]) (k := 2) (g := m_enough) F ⟨rfl, rfl, rfl, by decide +kernel, rfl, by decide +kernel, by decide +kernel⟩ fun cdv A outer s H E C => ?_⟩
  exact (dss_cons (ds_expr (de_call (x := "need_sizes") G_need_sizes callOk_sub C rfl m_need_sizes D_need_sizes.kp (kb_all D_need_sizes rfl 2 [] [(0, 0), (0, 1)] fun _ _ _ _ _ _ us ws l1 l2 => match us, ws, l1, l2 with | [_, _], [], _, _ => rfl) (da_cons (de_var (pv 0)) (da_cons (de_var (pv 1)) da_nil)) dkw_nil)) (dss_cons (ds_if (DW.dt (dw_or (dt_not (dt_val (de_isi rfl b_isinstance (da_cons (de_var (pv 2)) (da_cons (de_ty rfl b_int (by rfl)) da_nil))))) (dw_or (dt_val (de_isi rfl b_isinstance (da_cons (de_var (pv 2)) (da_cons (de_ty rfl b_bool (by rfl)) da_nil)))) (dw_or1 (dt_cmp op_lt opd_lt (de_var (pv 2)) (de_globI rfl i_LEAST_PAY) (nomark _)))))) (dss_one (ds_raiseC C rai_BadNumber gx_BadNumber rfl)) dss_nil) (dss_cons (ds_set C (i := 3) rfl (by first | exact Or.inl rfl | exact Or.inr rfl) (de_add (de_fdiv (de_add (de_mul de_int (de_var (pv 0))) de_int) (de_sub (de_var (pv 2)) de_int)) de_int)) (dss_one (ds_ret (de_mul (de_add (de_var (pv 0)) (de_mul de_int (de_var (pv 3)))) (de_add de_int (de_var (pv 1)))))))))
theorem ok_too_small {P : Program} {w : World} {K : PySem.W.Frag} {mg : Str → Option Value} {base : Heap} (T : Txt K mg) (TB : ∀ p ∈ tq, LamX.TabB base mg (He.cT K p.1).1 (He.cT K p.1).2) : ∃ fd, FunD K d_too_small.name d_too_small.qual d_too_small.params d_too_small.body d_too_small.scope (d_too_small.dvs K) (d_too_small.kws K) (He.fAd K d_too_small.at_) fd ∧
    FnG P w K mg base 3 (He.fAd K d_too_small.at_) fd ["cells", "half", "young", "fields"] (spD K mg 4 S_too_small) := by
  obtain ⟨fd_need_sizes, D_need_sizes, G_need_sizes⟩ := ok_need_sizes (P := P) (w := w) (base := base) T TB
  have m_need_sizes := glo_need_sizes T
  obtain ⟨_, i_LEAST_PAY⟩ := int_LEAST_PAY T
  obtain ⟨_, i_MOST_FIELDS⟩ := int_MOST_FIELDS T
  obtain ⟨fd, F⟩ := fun_too_small T
  refine ⟨fd, F, fnG (N := N_too_small) (ps := ["cells", "half", "young", "fields"]) (k := 2) (g := m_too_small) F ⟨rfl, rfl, rfl, by decide +kernel, rfl, by decide +kernel, by decide +kernel⟩ fun cdv A outer s H E C => ?_⟩
  exact (dss_cons (ds_expr (de_call (x := "need_sizes") G_need_sizes callOk_sub C rfl m_need_sizes D_need_sizes.kp (kb_all D_need_sizes rfl 2 [] [(0, 0), (0, 1)] fun _ _ _ _ _ _ us ws l1 l2 => match us, ws, l1, l2 with | [_, _], [], _, _ => rfl) (da_cons (de_var (pv 0)) (da_cons (de_var (pv 3)) da_nil)) dkw_nil)) dss_none)
theorem ok_law {P : Program} {w : World} {K : PySem.W.Frag} {mg : Str → Option Value} {base : Heap} (T : Txt K mg) (TB : ∀ p ∈ tq, LamX.TabB base mg (He.cT K p.1).1 (He.cT K p.1).2) : ∃ fd, FunD K d_law.name d_law.qual d_law.params d_law.body d_law.scope (d_law.dvs K) (d_law.kws K) (He.fAd K d_law.at_) fd ∧
    FnG P w K mg base 33 (He.fAd K d_law.at_) fd ["_law_script"] (spD K mg 1 S_law) := by
  obtain ⟨fd_p_law_state, D_p_law_state, G_p_law_state⟩ := ok_p_law_state (P := P) (w := w) (base := base) T TB
  have m_p_law_state := glo_p_law_state T
  obtain ⟨fd_p_law_near, D_p_law_near, G_p_law_near⟩ := ok_p_law_near (P := P) (w := w) (base := base) T TB
  have m_p_law_near := glo_p_law_near T
  obtain ⟨fd_p_law_pick, D_p_law_pick, G_p_law_pick⟩ := ok_p_law_pick (P := P) (w := w) (base := base) T TB
  have m_p_law_pick := glo_p_law_pick T
  obtain ⟨fd_p_law_next, D_p_law_next, G_p_law_next⟩ := ok_p_law_next (P := P) (w := w) (base := base) T TB
  have m_p_law_next := glo_p_law_next T
  obtain ⟨fd_p_law_said, D_p_law_said, G_p_law_said⟩ := ok_p_law_said (P := P) (w := w) (base := base) T TB
  have m_p_law_said := glo_p_law_said T
  obtain ⟨fd_enough, D_enough, G_enough⟩ := ok_enough (P := P) (w := w) (base := base) T TB
  have m_enough := glo_enough T
  obtain ⟨fd_p_law_good, D_p_law_good, G_p_law_good⟩ := ok_p_law_good (P := P) (w := w) (base := base) T TB
  have m_p_law_good := glo_p_law_good T
  obtain ⟨fd_too_small, D_too_small, G_too_small⟩ := ok_too_small (P := P) (w := w) (base := base) T TB
  have m_too_small := glo_too_small T
  have b_bool := free_bool T
  have b_isinstance := free_isinstance T
  have b_len := free_len T
  have b_max := free_max T
  have b_min := free_min T
  have b_range := free_range T
  obtain ⟨_, i_LEAST_PAY⟩ := int_LEAST_PAY T
  obtain ⟨_, i_MOST_FIELDS⟩ := int_MOST_FIELDS T
  obtain ⟨fd, F⟩ := fun_law T
  refine ⟨fd, F, fnGc (N := N_law) (ps := ["_law_script"]) (k := 32) (g := m_law) F ⟨rfl, rfl, rfl, by decide +kernel, rfl, by decide +kernel, by decide +kernel⟩ fun cdv A outer s H E hcode C => ?_⟩
  exact (dss_cons (ds_for C (di_range1 rfl b_range (da_cons (de_max C rfl b_max (da_cons de_int (da_cons (de_min C rfl b_min (da_cons de_int (da_cons (de_len rfl b_len (da_cons (de_var (pv 0)) da_nil)) da_nil))) da_nil))) da_nil)) (dg_name (i := 1) (pg_name C.nd rfl (by first | exact Or.inl rfl | exact Or.inr rfl))) (dss_cons (ds_set C (i := 2) rfl (by first | exact Or.inl rfl | exact Or.inr rfl) (de_call (x := "_law_state") G_p_law_state callOk_share C rfl m_p_law_state D_p_law_state.kp (kb_all D_p_law_state rfl 2 [] [(0, 0), (0, 1)] fun _ _ _ _ _ _ us ws l1 l2 => match us, ws, l1, l2 with | [_, _], [], _, _ => rfl) (da_cons (de_var (pv 0)) (da_cons (de_var (pv 1)) da_nil)) dkw_nil)) (dss_cons (ds_set C (i := 3) rfl (by first | exact Or.inl rfl | exact Or.inr rfl) (de_call (x := "_law_near") G_p_law_near callOk_sub C rfl m_p_law_near D_p_law_near.kp (kb_all D_p_law_near rfl 3 [] [(0, 0), (0, 1), (0, 2)] fun _ _ _ _ _ _ us ws l1 l2 => match us, ws, l1, l2 with | [_, _, _], [], _, _ => rfl) (da_cons (de_var (pv 2)) (da_cons de_int (da_cons (de_call (x := "_law_pick") G_p_law_pick callOk_sub C rfl m_p_law_pick D_p_law_pick.kp (kb_all D_p_law_pick rfl 2 [] [(0, 0), (0, 1)] fun _ _ _ _ _ _ us ws l1 l2 => match us, ws, l1, l2 with | [_, _], [], _, _ => rfl) (da_cons (de_var (pv 2)) (da_cons (de_lst (da_cons de_int (da_cons (de_pow de_int de_int) da_nil))) da_nil)) dkw_nil) da_nil))) dkw_nil)) (dss_cons (ds_asg (de_tup (da_cons (de_call (x := "_law_near") G_p_law_near callOk_sub C rfl m_p_law_near D_p_law_near.kp (kb_all D_p_law_near rfl 3 [] [(0, 0), (0, 1), (0, 2)] fun _ _ _ _ _ _ us ws l1 l2 => match us, ws, l1, l2 with | [_, _, _], [], _, _ => rfl) (da_cons (de_var (pv 2)) (da_cons de_int (da_cons de_int da_nil))) dkw_nil) (da_cons (de_call (x := "_law_near") G_p_law_near callOk_sub C rfl m_p_law_near D_p_law_near.kp (kb_all D_p_law_near rfl 3 [] [(0, 0), (0, 1), (0, 2)] fun _ _ _ _ _ _ us ws l1 l2 => match us, ws, l1, l2 with | [_, _, _], [], _, _ => rfl) (da_cons (de_var (pv 2)) (da_cons de_int (da_cons (de_call (x := "_law_pick") G_p_law_pick callOk_sub C rfl m_p_law_pick D_p_law_pick.kp (kb_all D_p_law_pick rfl 2 [] [(0, 0), (0, 1)] fun _ _ _ _ _ _ us ws l1 l2 => match us, ws, l1, l2 with | [_, _], [], _, _ => rfl) (da_cons (de_var (pv 2)) (da_cons (de_lst (da_cons de_int (da_cons (de_pow de_int de_int) da_nil))) da_nil)) dkw_nil) da_nil))) dkw_nil) da_nil))) (dg_tup C.calm (dgs_cons (dg_name (i := 4) (pg_name C.nd rfl (by first | exact Or.inl rfl | exact Or.inr rfl))) (dgs_cons (dg_name (i := 5) (pg_name C.nd rfl (by first | exact Or.inl rfl | exact Or.inr rfl))) dgs_nil)))) (dss_cons (ds_set C (i := 6) rfl (by first | exact Or.inl rfl | exact Or.inr rfl) (de_cmp (opr_eq C) opd_eq (de_call (x := "_law_next") G_p_law_next callOk_sub C rfl m_p_law_next D_p_law_next.kp (kb_all D_p_law_next rfl 2 [] [(0, 0), (0, 1)] fun _ _ _ _ _ _ us ws l1 l2 => match us, ws, l1, l2 with | [_, _], [], _, _ => rfl) (da_cons (de_var (pv 2)) (da_cons de_int da_nil)) dkw_nil) de_int (nomark _))) (dss_cons (ds_if (dt_val (de_var (pv 6))) (dss_cons (ds_set C (i := 7) rfl (by first | exact Or.inl rfl | exact Or.inr rfl) (de_told (x := "_law_said") (at_ := ("law", none)) G_p_law_said C rfl m_p_law_said D_p_law_said.kp rfl hcode (TB (("law", none), ((("law" : Str) ++ ".<locals>.") ++ "<lambda>")) List.mem_cons_self) (show LamX.LamS (defScope s_law) _ from LamX.lamS_by (by decide +kernel)) rfl (fun _ _ _ _ _ => rfl) rfl (by decide) (fun A outer t H E f c CL => (de_call0 (x := "enough") G_enough callOk_sub CL rfl m_enough D_enough.kp (kb_dfl D_enough 0 ["cells", "pay"] [("fields", .int 6)] [.int 6] [(1, 0), (2, 0), (1, 1)] (by simp [He.DefD.kws, d_enough]) (show ∀ q ∈ ([("fields", .int 6)] : List (Str × V)), q ∈ ([("fields", .int 6)] : List (Str × V)) by decide) (fun _ _ _ _ => (.cons (by unfold Dat; rfl) DatL.nil)) fun _ _ _ _ _ _ us mv ws l1 l2 l3 => match us, mv, ws, l1, l2, l3 with | [], [_], [_, _], _, _, _ => ⟨_, _, _, _, _, _, rfl, rfl, (by show _ = pure _; rfl)⟩) (dkw_cons (de_var (pv 3)) (dkw_cons (de_var (pv 5)) dkw_nil)))))) (dss_one (ds_set C (i := 4) rfl (by first | exact Or.inl rfl | exact Or.inr rfl) de_int))) (dss_one (ds_set C (i := 7) rfl (by first | exact Or.inl rfl | exact Or.inr rfl) (de_told (x := "_law_said") (at_ := ("law", none)) G_p_law_said C rfl m_p_law_said D_p_law_said.kp rfl hcode (TB (("law", none), ((("law" : Str) ++ ".<locals>.") ++ "<lambda>")) List.mem_cons_self) (show LamX.LamS (defScope s_law) _ from LamX.lamS_by (by decide +kernel)) rfl (fun _ _ _ _ _ => rfl) rfl (by decide) (fun A outer t H E f c CL => (de_call (x := "enough") G_enough callOk_sub CL rfl m_enough D_enough.kp (kb_all D_enough rfl 1 ["pay", "fields"] [(0, 0), (1, 1), (1, 0)] fun _ _ _ _ _ _ us ws l1 l2 => match us, ws, l1, l2 with | [_], [_, _], _, _ => rfl) (da_cons (de_var (pv 3)) da_nil) (dkw_cons (de_var (pv 5)) (dkw_cons (de_var (pv 4)) dkw_nil)))))))) (dss_cons (ds_set C (i := 8) rfl (by first | exact Or.inl rfl | exact Or.inr rfl) (de_and (de_call (x := "_law_good") G_p_law_good callOk_sub C rfl m_p_law_good D_p_law_good.kp (kb_all D_p_law_good rfl 2 [] [(0, 0), (0, 1)] fun _ _ _ _ _ _ us ws l1 l2 => match us, ws, l1, l2 with | [_, _], [], _, _ => rfl) (da_cons (de_var (pv 3)) (da_cons de_int da_nil)) dkw_nil) (de_and (de_call (x := "_law_good") G_p_law_good callOk_sub C rfl m_p_law_good D_p_law_good.kp (kb_all D_p_law_good rfl 2 [] [(0, 0), (0, 1)] fun _ _ _ _ _ _ us ws l1 l2 => match us, ws, l1, l2 with | [_, _], [], _, _ => rfl) (da_cons (de_var (pv 4)) (da_cons de_int da_nil)) dkw_nil) (de_one (de_cmp op_lt opd_lt (de_var (pv 4)) de_int (nomark _)))))) (dss_cons (ds_set C (i := 9) rfl (by first | exact Or.inl rfl | exact Or.inr rfl) de_str) (dss_cons (ds_if (DW.dt (dw_and (dt_val (de_var (pv 8))) (dw_and1 (dt_val (de_call (x := "_law_good") G_p_law_good callOk_sub C rfl m_p_law_good D_p_law_good.kp (kb_all D_p_law_good rfl 2 [] [(0, 0), (0, 1)] fun _ _ _ _ _ _ us ws l1 l2 => match us, ws, l1, l2 with | [_, _], [], _, _ => rfl) (da_cons (de_var (pv 5)) (da_cons de_int da_nil)) dkw_nil))))) (dss_one (ds_set C (i := 9) rfl (by first | exact Or.inl rfl | exact Or.inr rfl) (de_mul (de_add (de_var (pv 3)) (de_mul de_int (de_add (de_fdiv (de_add (de_mul de_int (de_var (pv 3))) de_int) (de_sub (de_var (pv 5)) de_int)) de_int))) (de_add de_int (de_var (pv 4)))))) dss_nil) (dss_cons (ds_if (DW.dt (dw_or (dt_cmp (opr_ne C) opd_ne (de_var (pv 7)) (de_var (pv 9)) (nomark _)) (dw_or1 (dt_val (de_isi rfl b_isinstance (da_cons (de_var (pv 7)) (da_cons (de_ty rfl b_bool (by rfl)) da_nil))))))) (dss_one (ds_ret de_bl)) dss_nil) (dss_one (ds_if (DW.dt (dw_and (dt_not (dt_val (de_var (pv 8)))) (dw_and1 (dt_cmp (opr_ne C) opd_ne (de_told (x := "_law_said") (at_ := ("law", none)) G_p_law_said C rfl m_p_law_said D_p_law_said.kp rfl hcode (TB (("law", none), ((("law" : Str) ++ ".<locals>.") ++ "<lambda>")) List.mem_cons_self) (show LamX.LamS (defScope s_law) _ from LamX.lamS_by (by decide +kernel)) rfl (fun _ _ _ _ _ => rfl) rfl (by decide) (fun A outer t H E f c CL => (de_call0 (x := "too_small") G_too_small callOk_sub CL rfl m_too_small D_too_small.kp (kb_dfl D_too_small 0 ["fields", "cells", "half"] [("young", .int 24)] [.int 24] [(1, 1), (1, 2), (2, 0), (1, 0)] (by simp [He.DefD.kws, d_too_small]) (show ∀ q ∈ ([("young", .int 24)] : List (Str × V)), q ∈ ([("young", .int 24), ("fields", .int 6)] : List (Str × V)) by decide) (fun _ _ _ _ => (.cons (by unfold Dat; rfl) DatL.nil)) fun _ _ _ _ _ _ us mv ws l1 l2 l3 => match us, mv, ws, l1, l2, l3 with | [], [_], [_, _, _], _, _, _ => ⟨_, _, _, _, _, _, rfl, rfl, (by show _ = pure _; rfl)⟩) (dkw_cons (de_var (pv 4)) (dkw_cons (de_var (pv 3)) (dkw_cons de_int dkw_nil)))))) de_str (nomark _))))) (dss_one (ds_ret de_bl)) dss_nil)))))))))))) (dss_one (ds_ret de_bl)))
/-! ### the head -/
def loose0 : List Str := ["_wall", "YardError", "BadNumber", "BadProgram", "YOUNG", "MOST_FIELDS", "GREATEST", "is_whole", "is_row", "MOST_HANDS", "MOST_ROWS", "MOST_BOXES", "MOST_BOARD", "FORMS", "bounds_of", "fits_row"]
def loose1 : List Str := ["Program", "LEAST_PAY", "need_sizes", "enough", "too_small", "_law_state", "_law_next", "_law_pick", "_law_near", "_law_good", "_law_said"]
def loose : List Str := loose0 ++ loose1
abbrev R : PySem.W.OpenRow := PySem.W.OpenLaw.row PySem.Challenge.rw_reachyard_k66_enough
abbrev hk : PySem.W.Hook := hookL 6 fa fn tq exB
def ob (s : PySem.W.SharedT) : He.AlD × Bool := obsL 6 fa fn tq exB (HandSHeadRun.getT s)
theorem ob_eq (s : PySem.W.SharedT) : ob s = hk.obs s.abs := obsL_eq (HandSHeadRun.getT_eq s)
theorem runf (w : World) : HandSHeadRun.RunEq R (PySem.W.view R.prog [32]) hk ob 40000 loose (w.withFollow "special-get-raises" false) := by
  intro os
  kernel_rfl
theorem runt (w : World) : HandSHeadRun.RunEq R (PySem.W.view R.prog [32]) hk ob 40000 loose (w.withFollow "special-get-raises" true) := by
  intro os
  kernel_rfl
theorem run (w : World) : HandSHeadRun.RunEq R (PySem.W.view R.prog [32]) hk ob 40000 loose w :=
  PySem.W.byRow2 "special-get-raises" (P := fun w => HandSHeadRun.RunEq R (PySem.W.view R.prog [32]) hk ob 40000 loose w) runf runt w
end K03

/-! Plain laws, part 1: what mirrors come to. -/
namespace DL
open PySem L2

/-! ### calls -/
theorem subArgs_pure {S : Store} : ∀ (ds : List D) (n : Nat), pureL ds = true → subArgs S ds n = some (ds, [])
  | [], _, _ => rfl
  | d :: ds, n, h => by
    unfold pureL at h
    rw [Bool.and_eq_true] at h
    have q := subArgs_pure (S := S) ds n h.2
    cases d with
    | oid k => exact absurd h.1 (by unfold D.pure; exact Bool.false_ne_true)
    | _ =>
      unfold subArgs
      rw [if_pos h.1, q]
      rfl
theorem callSub_ok {sem : Sem'} {args : List D} {d : D} {S S' : Store} (hp : pureL args = true) (h : sem args [] = .ok d S') (hd : d.pure = true) : callSub sem args S = .ok d S := by
  unfold callSub
  rw [subArgs_pure args 0 hp]
  simp only [List.nodup_nil, if_true, subOf, List.map_nil, h, hd, List.length_nil, List.take_zero, List.all_nil, Nat.zero_le, decide_true, Bool.and_true, Bool.and_self]
  rw [show putBack S [] S' = S by unfold putBack; rfl]
theorem callSub_st {sem : Sem'} {args : List D} {d : D} {S S' : Store} {n : Nat} {xs ys : List D} (hS : S[n]? = some (.lst xs)) (hx : pureL xs = true) (hp : pureL args = true) (h : sem (.oid 0 :: args) [.lst xs] = .ok d (.lst ys :: S')) (hd : d.pure = true) (hy : pureL ys = true) :
    callSub sem (.oid n :: args) S = .ok d (S.set n (.lst ys)) := by
  unfold callSub
  have e : subArgs S (.oid n :: args) 0 = some (.oid 0 :: args, [n]) := by
    unfold subArgs
    rw [hS]
    simp only
    rw [if_pos (show SO.pure (.lst xs) = true from hx), subArgs_pure args 1 hp]
    rfl
  have e2 : subOf S [n] = [.lst xs] := by
    unfold subOf
    simp [hS]
  rw [e]
  simp only [e2, h, hd]
  have nd : [n].Nodup := by simp
  rw [if_pos nd]
  have q : (List.all (List.take [n].length (SO.lst ys :: S')) SO.pure && decide ([n].length ≤ (SO.lst ys :: S').length)) = true := by
    simp [SO.pure, hy]
  rw [q]
  rw [if_pos (by rfl)]
  simp [putBack]
/-! ### loops -/
theorem loopF_nil {m : FG} {b : FS} {ρ : EnvD} {S : Store} : loopF none m b [] ρ S = .nx ρ S := by
  unfold loopF
  rw [if_pos (show okC none _ from trivial)]
theorem loopF_cons {m : FG} {b : FS} {d : D} {ds : List D} {ρ ρ1 : EnvD} {S : Store} (hm : m d ρ S = some ρ1) : loopF none m b (d :: ds) ρ S = (match b ρ1 S with
    | .nx ρ S => loopF none m b ds ρ S
    | .ct ρ S => loopF none m b ds ρ S
    | .bk ρ S => .nx ρ S
    | o => o) := by
  rw [loopF]
  rw [if_pos (show okC none _ from trivial), hm]
  all_goals rfl
theorem loopC_nil {d : D} {es : List D} {m : FG} {b : FS} {ρ : EnvD} {S : Store} (h : asL S d = some es) : loopF (some (d, es)) m b [] ρ S = .nx ρ S := by
  unfold loopF
  rw [if_pos (show okC (some (d, es)) _ from h)]
/-- a loop by its invariant -/
theorem loop_inv {m : FG} {b : FS} (I : Nat → EnvD → Store → Prop) : ∀ (ds : List D) (i : Nat) (ρ : EnvD) (S : Store), I i ρ S →
    (∀ j d ρ S, ds[j]? = some d → I (i + j) ρ S → ∃ ρ1 ρ2 S2, m d ρ S = some ρ1 ∧ (b ρ1 S = .nx ρ2 S2 ∨ b ρ1 S = .ct ρ2 S2) ∧ I (i + j + 1) ρ2 S2) → ∃ ρ' S', loopF none m b ds ρ S = .nx ρ' S' ∧ I (i + ds.length) ρ' S'
  | [], i, ρ, S, h0, _ => ⟨ρ, S, loopF_nil, h0⟩
  | d :: ds, i, ρ, S, h0, step => by
    obtain ⟨ρ1, ρ2, S2, h1, h2, h3⟩ := step 0 d ρ S rfl h0
    obtain ⟨ρ', S', q1, q2⟩ := loop_inv I ds (i + 1) ρ2 S2 h3 fun j e ρ S hj hI => by
      have := step (j + 1) e ρ S hj (by rw [show i + (j + 1) = i + 1 + j by omega]; exact hI)
      rw [show i + (j + 1) = i + 1 + j by omega] at this
      exact this
    refine ⟨ρ', S', ?_, by rw [List.length_cons, show i + (ds.length + 1) = i + 1 + ds.length by omega]; exact q2⟩
    rw [loopF_cons h1]
    rcases h2 with h2 | h2 <;> (rw [h2]; exact q1)
/-! ### comprehensions -/
theorem compF_nil {m : FG} {ft : FT} {fe : FE} {ρ : EnvD} {S : Store} : compF none m ft fe [] ρ S = .ok [] S := by
  unfold compF
  rw [if_pos (show okC none _ from trivial)]
theorem compF_cons {m : FG} {ft : FT} {fe : FE} {d : D} {ds : List D} {ρ ρ1 : EnvD} {S : Store} (hm : m d ρ S = some ρ1) :
    compF none m ft fe (d :: ds) ρ S = (ft ρ1 S).noEx.bind fun b S => if b then (fe ρ1 S).noEx.bind fun y S => (compF none m ft fe ds ρ S).bind fun ys S => .ok (y :: ys) S else compF none m ft fe ds ρ S := by
  rw [compF]
  rw [if_pos (show okC none _ from trivial), hm]
/-- no test, the store stays -/
theorem comp_map {m : FG} {fe : FE} {f : D → D} {ρ : EnvD} {S : Store} : ∀ (ds : List D), (∀ d ∈ ds, ∃ ρ1, m d ρ S = some ρ1 ∧ fe ρ1 S = .ok (f d) S) → compF none m fYes fe ds ρ S = .ok (ds.map f) S
  | [], _ => compF_nil
  | d :: ds, h => by
    obtain ⟨ρ1, h1, h2⟩ := h d List.mem_cons_self
    rw [compF_cons h1]
    have q := comp_map (m := m) (fe := fe) (f := f) (ρ := ρ) (S := S) ds fun e he => h e (List.mem_cons_of_mem _ he)
    simp only [fYes, Res.noEx_ok, Res.bind_ok, if_true, h2, q, List.map_cons]
/-- with a test, the store stays -/
theorem comp_filter {m : FG} {ft : FT} {fe : FE} {f : D → D} {p : D → Bool} {ρ : EnvD} {S : Store} : ∀ (ds : List D), (∀ d ∈ ds, ∃ ρ1, m d ρ S = some ρ1 ∧ ft ρ1 S = .ok (p d) S ∧ (p d = true → fe ρ1 S = .ok (f d) S)) → compF none m ft fe ds ρ S = .ok ((ds.filter p).map f) S
  | [], _ => compF_nil
  | d :: ds, h => by
    obtain ⟨ρ1, h1, h2, h3⟩ := h d List.mem_cons_self
    rw [compF_cons h1]
    have q := comp_filter (m := m) (ft := ft) (fe := fe) (f := f) (p := p) (ρ := ρ) (S := S) ds fun e he => h e (List.mem_cons_of_mem _ he)
    cases hp : p d with
    | true => simp [h2, hp, h3 hp, q, List.filter_cons]
    | false => simp [h2, hp, q, List.filter_cons]
/-- no test, the store goes on -/
theorem comp_inv {m : FG} {fe : FE} {ρ : EnvD} (I : Store → Prop) (A : D → Prop) : ∀ (ds : List D) (S : Store), I S → (∀ d ∈ ds, ∀ S, I S → ∃ ρ1 y S', m d ρ S = some ρ1 ∧ fe ρ1 S = .ok y S' ∧ A y ∧ I S') →
    ∃ ys S', compF none m fYes fe ds ρ S = .ok ys S' ∧ ys.length = ds.length ∧ (∀ y ∈ ys, A y) ∧ I S'
  | [], S, h0, _ => ⟨[], S, compF_nil, rfl, fun y hy => by simp at hy, h0⟩
  | d :: ds, S, h0, h => by
    obtain ⟨ρ1, y, S1, h1, h2, h3, h4⟩ := h d List.mem_cons_self S h0
    obtain ⟨ys, S', q1, q2, q3, q4⟩ := comp_inv (m := m) (fe := fe) (ρ := ρ) I A ds S1 h4 fun e he => h e (List.mem_cons_of_mem _ he)
    refine ⟨y :: ys, S', ?_, by simp [q2], fun z hz => ?_, q4⟩
    · rw [compF_cons h1]
      simp only [fYes, Res.noEx_ok, Res.bind_ok, if_true, h2, q1]
    · rcases List.mem_cons.mp hz with e | e
      · rw [e]; exact h3
      · exact q3 z e
theorem rng_mem {lo hi : Int} {d : D} (h : d ∈ rng lo hi) : ∃ i : Int, d = .int i ∧ lo ≤ i ∧ i < hi := by
  unfold rng at h
  obtain ⟨j, hj, rfl⟩ := List.mem_map.mp h
  rw [List.mem_range] at hj
  exact ⟨_, rfl, by omega, by omega⟩
theorem rng_length {lo hi : Int} : (rng lo hi).length = (hi - lo).toNat := by simp [rng]
theorem rng_get {lo hi : Int} {j : Nat} {d : D} (h : (rng lo hi)[j]? = some d) : d = .int (lo + j) ∧ j < (hi - lo).toNat := by
  unfold rng at h
  rw [List.getElem?_map] at h
  by_cases hj : j < (hi - lo).toNat
  · rw [List.getElem?_range hj] at h
    cases h
    exact ⟨rfl, hj⟩
  · rw [List.getElem?_eq_none (by simpa using hj)] at h
    cases h
theorem pureL_append {xs ys : List D} : pureL (xs ++ ys) = (pureL xs && pureL ys) := by
  induction xs with
  | nil => simp [pureL]
  | cons x xs ih => simp [pureL, ih, Bool.and_assoc]
theorem pureL_all {xs : List D} : pureL xs = true ↔ ∀ x ∈ xs, x.pure = true := by
  induction xs with
  | nil => simp [pureL]
  | cons x xs ih => simp [pureL, ih]
end DL

/-! Plain laws, part 2: the mirrors' equations, for simp. -/
namespace DL
open PySem L2
section
variable (ρ : EnvD) (S : Store) (fa fb fc fe : FE) (ta tb : FT) (g g' : FS) (x y : D)
@[simp] theorem e_semOf (n : Nat) (ds : List D) : semOf n g ds S = (g (startD n ds) S).res := rfl
@[simp] theorem e_startD (n : Nat) (ds : List D) : startD n ds = ds.map some ++ List.replicate (n - ds.length) none := rfl
@[simp] theorem e_gSeq : gSeq g g' ρ S = (g ρ S).seq g' := rfl
@[simp] theorem e_gNil : gNil ρ S = .nx ρ S := rfl
@[simp] theorem e_gRet : gRet fe ρ S = (fe ρ S).into ρ fun d S => .rt d S := rfl
@[simp] theorem e_gIf : gIf ta g g' ρ S = (ta ρ S).into ρ fun k S => if k then g ρ S else g' ρ S := rfl
@[simp] theorem e_gSet (i : Nat) : gSet i fe ρ S = (fe ρ S).into ρ fun d S => .nx (ρ.set i (some d)) S := rfl
@[simp] theorem e_gExpr : gExpr fe ρ S = (fe ρ S).into ρ fun _ S => .nx ρ S := rfl
@[simp] theorem e_gAsg (m : FG) : gAsg m fe ρ S = (fe ρ S).into ρ fun d S => match m d ρ S with | some ρ => .nx ρ S | none => .stuck := rfl
@[simp] theorem e_gPut : gPut fa fb fe ρ S = (fe ρ S).into ρ fun d S => (fa ρ S).into ρ fun x S => (fb ρ S).into ρ fun y S => match storeAt x y d S with | some S => .nx ρ S | none => .stuck := rfl
@[simp] theorem e_gStar (i j : Nat) : gStar i j fe ρ S = (fe ρ S).into ρ fun d S => match asL S d with | some (x :: xs) => .nx ((ρ.set i (some x)).set j (some (.oid S.length))) (S ++ [.lst xs]) | _ => .stuck := rfl
@[simp] theorem e_gFor (fi : FI) (m : FG) : gFor fi m g ρ S = (fi ρ S).into ρ fun it S => loopF it.chk m g it.items ρ S := rfl
@[simp] theorem e_gFld (cs : List Str) (f : Str) : gFld cs f fa fe ρ S = (fe ρ S).into ρ fun d S => (fa ρ S).into ρ fun o S => match o with
  | .oid n => (match S[n]? with
    | some (.ins c fs) => if c ∈ cs ∧ fs.length < 1000 then .nx ρ (S.set n (.ins c (putFD f d fs))) else .stuck
    | _ => .stuck)
  | _ => .stuck := rfl
@[simp] theorem e_res_nx : (Out.nx ρ S).res = .ok .non S := rfl
@[simp] theorem e_res_rt : (Out.rt x S).res = .ok x S := rfl
@[simp] theorem e_res_ex (C fs) : (Out.ex C fs ρ S).res = .ex C fs S := rfl
@[simp] theorem e_fVar (i : Nat) : fVar i ρ S = match ρ[i]? with | some (some d) => .ok d S | _ => .stuck := rfl
@[simp] theorem e_fC : fC x ρ S = .ok x S := rfl
@[simp] theorem e_fAndV : fAndV fa fb ρ S = (fa ρ S).bind fun d S => match d with | .bl true => fb ρ S | .bl false => .ok (.bl false) S | _ => .stuck := rfl
@[simp] theorem e_fOrV : fOrV fa fb ρ S = (fa ρ S).bind fun d S => match d with | .bl true => .ok (.bl true) S | .bl false => fb ρ S | _ => .stuck := rfl
@[simp] theorem e_fNotV : fNotV fa ρ S = (fa ρ S).bind fun d S => match d with | .bl k => .ok (.bl (!k)) S | _ => .stuck := rfl
@[simp] theorem e_fAndT : fAndT ta tb ρ S = (ta ρ S).bind fun k S => if k then tb ρ S else .ok false S := rfl
@[simp] theorem e_fOrT : fOrT ta tb ρ S = (ta ρ S).bind fun k S => if k then .ok true S else tb ρ S := rfl
@[simp] theorem e_fNotT : fNotT ta ρ S = (ta ρ S).bind fun k S => .ok (!k) S := rfl
@[simp] theorem e_toB : toB fa ρ S = (fa ρ S).bind fun d S => match d with | .bl k => .ok k S | _ => .stuck := rfl
@[simp] theorem e_fIf : fIf ta fa fb ρ S = (ta ρ S).bind fun k S => if k then fa ρ S else fb ρ S := rfl
@[simp] theorem e_fCons (fr : FA) : fCons fa fr ρ S = (fa ρ S).bind fun x S => (fr ρ S).bind fun xs S => .ok (x :: xs) S := rfl
@[simp] theorem e_fTup (fr : FA) : fTup fr ρ S = (fr ρ S).bind fun xs S => if short xs.length then .ok (.tup xs) S else .stuck := rfl
@[simp] theorem e_fLst (fr : FA) : fLst fr ρ S = (fr ρ S).bind fun xs S => if short xs.length then .ok (.lst xs) S else .stuck := rfl
@[simp] theorem e_fLstO (fr : FA) : fLstO fr ρ S = (fr ρ S).bind fun xs S => if short xs.length then .ok (.oid S.length) (S ++ [.lst xs]) else .stuck := rfl
@[simp] theorem e_fDict0 : fDict0 ρ S = .ok (.oid S.length) (S ++ [.dic []]) := rfl
@[simp] theorem e_fBin (h : G2) : fBin h fa fb ρ S = (fa ρ S).bind fun x S => (fb ρ S).bind fun y S => h x y S := rfl
@[simp] theorem e_fUn (h : D → Store → Res D) : fUn h fa ρ S = (fa ρ S).bind h := rfl
@[simp] theorem e_fChain (h h' : G2) : fChain h h' fa fb fc ρ S = (fa ρ S).bind fun x S => (fb ρ S).bind fun y S => (h x y S).bind fun z S => match z with
  | .bl true => (fc ρ S).bind fun u S => h' y u S
  | .bl false => .ok (.bl false) S
  | _ => .stuck := rfl
@[simp] theorem e_fCB (h : GC) (fr : FA) : fCB h fr ρ S = (fr ρ S).bind h := rfl
@[simp] theorem e_fBM (T : String) (h : GM) (fr : FA) : fBM T h fa fr ρ S = (fa ρ S).bind fun x S => if tyS S x = some T ∧ T ≠ "tuple" then (fr ρ S).bind fun ds S => h x ds S else .stuck := rfl
@[simp] theorem e_fCall (cs : Sem') (gD : List D → List D → List D) (np nk n : Nat) (fr fk : FA) : fCall cs gD np nk n fr fk ρ S = (fr ρ S).bind fun ds S => (fk ρ S).bind fun es S => if ds.length = np ∧ es.length = nk ∧ (gD ds es).length = n then cs (gD ds es) S else .stuck := rfl
@[simp] theorem e_fMeth (cs : Sem') (gD : List D → List D → List D) (c m : Str) (np nk n : Nat) (fr fk : FA) : fMeth cs gD c m np nk n fa fr fk ρ S = (fa ρ S).bind fun o S => match asI S o with
  | some (c', fs) => if c' = c ∧ (fs.lookup m).isNone then (fr ρ S).bind fun ds S => (fk ρ S).bind fun es S => if (o :: ds).length = np ∧ es.length = nk ∧ (gD (o :: ds) es).length = n then cs (gD (o :: ds) es) S else .stuck else .stuck
  | none => .stuck := rfl
@[simp] theorem e_fFld (cs : List Str) (f : Str) : fFld cs f fa ρ S = (fa ρ S).bind fun o S => match asI S o with
  | some (c, fs) => if c ∈ cs then (match fs.lookup f with | some d => .ok d S | none => .stuck) else .stuck
  | none => .stuck := rfl
@[simp] theorem e_fMake (mk : MakeT) (np nk : Nat) (fr fk : FA) : fMake mk np nk fr fk ρ S = (fr ρ S).bind fun ds S => (fk ρ S).bind fun es S => if ds.length = np ∧ es.length = nk then mk ds es S else .stuck := rfl
@[simp] theorem e_fSeq_tup (ds : List D) (h : fa ρ S = .ok (.tup ds) S) : fSeq fa ρ S = .ok ⟨ds, none⟩ S := by unfold fSeq; rw [h]; rfl
@[simp] theorem e_fSeq_lst (ds : List D) (h : fa ρ S = .ok (.lst ds) S) : fSeq fa ρ S = .ok ⟨ds, none⟩ S := by unfold fSeq; rw [h]; rfl
@[simp] theorem e_pick (sel : List (Nat × Nat)) (us ws ms : List D) : pick sel us ws ms = sel.filterMap fun s => (src s.1 us ws ms)[s.2]? := rfl
@[simp] theorem e_src0 {α : Type} (us ws ms : List α) : src 0 us ws ms = us := rfl
@[simp] theorem e_src1 {α : Type} (us ws ms : List α) : src 1 us ws ms = ws := rfl
@[simp] theorem e_src2 {α : Type} (us ws ms : List α) : src 2 us ws ms = ms := rfl
@[simp] theorem e_mName (i : Nat) : mName i x ρ S = some (ρ.set i (some x)) := rfl
@[simp] theorem e_mTup (n : Nat) (ms : List D → EnvD → Store → Option EnvD) (ds : List D) : mTup n ms (.tup ds) ρ S = if ds.length = n then ms ds ρ S else none := rfl
@[simp] theorem e_mCons (m : FG) (ms : List D → EnvD → Store → Option EnvD) (d : D) (ds : List D) : mCons m ms (d :: ds) ρ S = (m d ρ S).bind fun ρ => ms ds ρ S := rfl
@[simp] theorem e_isi1 (n : String) : gIsi [x, .ty n] S = gIsi1 [x, .ty n] S := rfl
@[simp] theorem e_isiN (cs : List D) : gIsi [x, .tup cs] S = gIsiN [x, .tup cs] S := rfl
@[simp] theorem e_gIsi1 (n : String) : gIsi1 [x, .ty n] S = match (tyS S x).bind fun T => isiT T n with | some b => .ok (.bl b) S | none => .stuck := rfl
@[simp] theorem e_gIsiN (cs : List D) : gIsiN [x, .tup cs] S = match (tyS S x).bind fun T => (tysOf cs).bind fun ns => isiA T ns with | some b => .ok (.bl b) S | none => .stuck := rfl
@[simp] theorem e_ty_non : tyS S .non = some "NoneType" := rfl
@[simp] theorem e_ty_bl (b) : tyS S (.bl b) = some "bool" := rfl
@[simp] theorem e_ty_int (b) : tyS S (.int b) = some "int" := rfl
@[simp] theorem e_ty_str (b) : tyS S (.str b) = some "str" := rfl
@[simp] theorem e_ty_tup (b) : tyS S (.tup b) = some "tuple" := rfl
@[simp] theorem e_ty_lst (b) : tyS S (.lst b) = some "list" := rfl
variable (i j : Int) (a b : Bool) (xs ys : List D) (p q : Str)
@[simp] theorem e_gNeg : gNeg (.int i) S = .ok (.int (-i)) S := rfl
@[simp] theorem e_gSub : gSub (.int i) (.int j) S = .ok (.int (i - j)) S := rfl
@[simp] theorem e_gAdd : gAdd (.int i) (.int j) S = .ok (.int (i + j)) S := rfl
@[simp] theorem e_gMul (h : cMul i j = true) : gMul (.int i) (.int j) S = .ok (.int (i * j)) S := by simp [gMul, gI, h]
@[simp] theorem e_gMod (h : 0 < j) : gMod (.int i) (.int j) S = .ok (.int (i % j)) S := by simp [gMod, gI, h]
@[simp] theorem e_gDiv (h : 0 < j) (h2 : j < 1073741824) : gDiv (.int i) (.int j) S = .ok (.int (i / j)) S := by simp [gDiv, gI, cDiv, h, h2]
@[simp] theorem e_gLt : gLt (.int i) (.int j) S = .ok (.bl (decide (i < j))) S := rfl
@[simp] theorem e_gLe : gLe (.int i) (.int j) S = .ok (.bl (decide (i ≤ j))) S := rfl
@[simp] theorem e_gGt : gGt (.int i) (.int j) S = .ok (.bl (decide (j < i))) S := rfl
@[simp] theorem e_gGe : gGe (.int i) (.int j) S = .ok (.bl (decide (j ≤ i))) S := rfl
@[simp] theorem e_gIs : gIs x .non S = .ok (.bl x.isNon) S := rfl
@[simp] theorem e_gIsNot : gIsNot x .non S = .ok (.bl (!x.isNon)) S := rfl
@[simp] theorem e_nn : D.non.isNon = true := rfl
@[simp] theorem e_ni : (D.int i).isNon = false := rfl
@[simp] theorem e_ns : (D.str p).isNon = false := rfl
@[simp] theorem e_nt : (D.tup xs).isNon = false := rfl
@[simp] theorem e_nb : (D.bl a).isNon = false := rfl
@[simp] theorem e_nl : (D.lst xs).isNon = false := rfl
@[simp] theorem e_eq_ss : gEq (.str p) (.str q) S = .ok (.bl (decide (p = q))) S := rfl
@[simp] theorem e_eq_ii : gEq (.int i) (.int j) S = .ok (.bl (decide (i = j))) S := rfl
@[simp] theorem e_ne_ss : gNe (.str p) (.str q) S = .ok (.bl (!decide (p = q))) S := rfl
@[simp] theorem e_ne_ii : gNe (.int i) (.int j) S = .ok (.bl (!decide (i = j))) S := rfl
@[simp] theorem e_len_t : gLen [.tup xs] S = .ok (.int xs.length) S := rfl
@[simp] theorem e_len_l : gLen [.lst xs] S = .ok (.int xs.length) S := rfl
@[simp] theorem e_len_s : gLen [.scr xs] S = .ok (.int xs.length) S := rfl
@[simp] theorem e_ix_t : gIx (.tup xs) (.int i) S = match atI xs i with | some d => .ok d S | none => .stuck := rfl
@[simp] theorem e_ix_l : gIx (.lst xs) (.int i) S = match atI xs i with | some d => .ok d S | none => .stuck := rfl
@[simp] theorem e_ix_s : gIx (.scr xs) (.int i) S = match atI xs i with | some d => .ok d S | none => .stuck := rfl
@[simp] theorem e_asL_l : asL S (.lst xs) = some xs := rfl
@[simp] theorem e_asL_s : asL S (.scr xs) = some xs := rfl
@[simp] theorem e_asQ_t : asQ S (.tup xs) = some xs := rfl
@[simp] theorem e_asQ_l : asQ S (.lst xs) = some xs := rfl
@[simp] theorem e_list_l : gList [.lst xs] S = .ok (.lst xs) S := rfl
@[simp] theorem e_list_t : gList [.tup xs] S = .ok (.lst xs) S := rfl
@[simp] theorem e_list_d (ks : List (Key × D)) : gList [.dic ks] S = .ok (.lst (ks.map fun q => keyV q.1)) S := rfl
@[simp] theorem e_tuple_l : gTuple [.lst xs] S = .ok (.tup xs) S := rfl
@[simp] theorem e_lenum_t : gLEnum [.tup xs] S = .ok (.lst (enumD 0 xs)) S := rfl
@[simp] theorem e_lenum_l : gLEnum [.lst xs] S = .ok (.lst (enumD 0 xs)) S := rfl
@[simp] theorem e_max2 : gMax [.int i, .int j] S = .ok (.int (if j > i then j else i)) S := rfl
@[simp] theorem e_min2 : gMin [.int i, .int j] S = .ok (.int (if j < i then j else i)) S := rfl
@[simp] theorem e_abs : gAbs [.int i] S = .ok (.int (if i < 0 then -i else i)) S := rfl
theorem at_nat {α : Type} (zs : List α) (n : Nat) (h : n < zs.length) : atI zs (n : Int) = zs[n]? := by
  have h2 : (n : Int) < zs.length := by omega
  simp [atI, ixN, h2]
@[simp] theorem e_at_c0 {α : Type} (z : α) (zs : List α) : atI (z :: zs) 0 = some z := by
  have := at_nat (z :: zs) 0 (by simp)
  exact this
@[simp] theorem e_at_c1 {α : Type} (z y : α) (zs : List α) : atI (z :: y :: zs) 1 = some y := by
  have := at_nat (z :: y :: zs) 1 (by simp)
  exact this
@[simp] theorem e_fComp (fi : FI) (m : FG) (own : List Nat) (fin : Fin') : fComp fi m ta fe own fin ρ S = (fi ρ S).bind fun it S => (compF it.chk m ta fe it.items (wipeD ρ own) S).bind fin := rfl
@[simp] theorem e_wipe0 : wipeD ρ [] = ρ := rfl
@[simp] theorem e_wipe1 (v : Nat) (vs : List Nat) : wipeD ρ (v :: vs) = (wipeD ρ vs).set v none := rfl
@[simp] theorem e_finL : finL xs S = if short xs.length then .ok (.lst xs) S else .stuck := rfl
@[simp] theorem e_fRng1 (fr : FA) : fRng1 fr ρ S = (fr ρ S).bind fun ds S => match ds with
  | [.int j] => if cRng j then .ok ⟨rng 0 j, none⟩ S else .stuck
  | _ => .stuck := rfl
theorem e_all_true {α : Type} (l : List α) : gAllAny true [.lst (l.map fun _ => D.bl true)] S = .ok (.bl true) S := by
  have h : bsOf (l.map fun _ => D.bl true) = some (l.map fun _ => true) := by
    induction l with
    | nil => rfl
    | cons z l ih => simp [bsOf, ih]
  simp [gAllAny, h]
@[simp] theorem e_all_true2 {α β : Type} (l : List α) (f : α → β) : gAllAny true [.lst (l.map ((fun _ => D.bl true) ∘ f))] S = .ok (.bl true) S := e_all_true S l
@[simp] theorem e_in_tup : gNotIn x (.tup ys) S = gInQ true x (.tup ys) S := rfl
@[simp] theorem e_in_tup2 : gIn x (.tup ys) S = gInQ false x (.tup ys) S := rfl
@[simp] theorem e_in_lst : gNotIn x (.lst ys) S = gInQ true x (.lst ys) S := rfl
@[simp] theorem e_in_lst2 : gIn x (.lst ys) S = gInQ false x (.lst ys) S := rfl
theorem short_le {n : Nat} (h : n ≤ 1000000) : short n = true := by
  have : (1000000 : Nat) ≤ sizeLine := by decide
  exact decide_eq_true (Nat.le_trans h this)
@[simp] theorem short0 : short 0 = true := short_le (by decide)
@[simp] theorem short1 : short 1 = true := short_le (by decide)
@[simp] theorem short2 : short 2 = true := short_le (by decide)
@[simp] theorem short3 : short 3 = true := short_le (by decide)
@[simp] theorem short4 : short 4 = true := short_le (by decide)
@[simp] theorem short8 : short 8 = true := short_le (by decide)
@[simp] theorem short7 : short 7 = true := short_le (by decide)
end
end DL

/-! Plain laws, part 3: plain data shown and compared. -/
namespace DL
open PySem L2

/-! ### data that can be shown -/
mutual
def D.sim : D → Bool
  | .non => true
  | .bl _ => true
  | .int i => decide (-1000000000000 < i ∧ i < 1000000000000)
  | .str x => PyData.strOk x
  | .tup ds => simL ds
  | .lst ds => simL ds
  | _ => false
def simL : List D → Bool
  | [] => true
  | d :: ds => d.sim && simL ds
end
mutual
def D.dep : D → Nat
  | .tup ds => depL ds + 1
  | .lst ds => depL ds + 1
  | _ => 0
def depL : List D → Nat
  | [] => 0
  | d :: ds => max d.dep (depL ds)
end
mutual
def D.wt : D → Nat
  | .int _ => 64
  | .str x => x.cps.size
  | .tup ds => wtL ds
  | .lst ds => wtL ds
  | _ => 0
def wtL : List D → Nat
  | [] => 0
  | d :: ds => d.wt + 1 + wtL ds
end
mutual
def D.py : D → PyData
  | .non => .none
  | .bl b => .bool b
  | .int i => .int i
  | .str x => .str x
  | .tup ds => .tuple (pyL ds)
  | .lst ds => .list (pyL ds)
  | _ => .none
def pyL : List D → List PyData
  | [] => []
  | d :: ds => d.py :: pyL ds
end
structure Sh (d : D) (p : PyData) : Prop where
  py : toPy d = some p
  lay : p.canLay0 = true
  dep : p.depth = d.dep
  wt : p.weight ≤ d.wt
  sh : p.intsShort 13 = true
  shw : p.showable = true
  hd : p.hasDict = false
structure ShL (d : List D) (p : List PyData) : Prop where
  py : toPyL d = some p
  lay : PyData.canLayAll0 p = true
  dep : PyData.depthAll p = depL d
  wt : PyData.weightAll p ≤ wtL d
  sh : PyData.intsShortAll 13 p = true
  shw : PyData.showableAll p = true
  hd : PyData.hasDictAll p = false
theorem int_short {i : Int} (h1 : -1000000000000 < i) (h2 : i < 1000000000000) : (PyData.shown (.int i)).length ≤ 13 := by
  simp only [PyData.shown]
  by_cases h : 0 ≤ i
  · have q := PyProof.Rows.toString_length_le (v := i) h (k := 12) (by decide) (by show i < 10 ^ 12; omega)
    omega
  · have hn : i < 0 := by omega
    have q := PyProof.Rows.toString_length_le (v := 0 - i) (by omega) (k := 12) (by decide) (by show 0 - i < 10 ^ 12; omega)
    rw [PyProof.Rows.toString_neg hn, PyProof.Rows.ofString_len, String.length_append]
    rw [PyProof.Rows.ofString_len] at q
    have e : ("-" : String).length = 1 := rfl
    omega
theorem log_small {n : Nat} (h : n < 1000000000000) : n.log2 < 63 := by
  by_cases h0 : n = 0
  · subst h0; decide
  · have := Nat.log2_self_le h0
    exact Nat.lt_of_not_le fun q => by
      have : 2 ^ 63 ≤ 2 ^ n.log2 := Nat.pow_le_pow_right (by decide) q
      have e : (2 : Nat) ^ 63 = 9223372036854775808 := by decide
      omega
mutual
theorem D.sh : ∀ d : D, d.sim = true → Sh d d.py
  | .non, _ => ⟨rfl, by simp [D.py, PyData.canLay0], by simp [D.py, PyData.depth, D.dep], by simp [D.py, PyData.weight], by simp [D.py, PyData.intsShort], by simp [D.py, PyData.showable], by simp [D.py, PyData.hasDict]⟩
  | .bl _, _ => ⟨rfl, by simp [D.py, PyData.canLay0], by simp [D.py, PyData.depth, D.dep], by simp [D.py, PyData.weight], by simp [D.py, PyData.intsShort], by simp [D.py, PyData.showable], by simp [D.py, PyData.hasDict]⟩
  | .int i, h => by
    have h' : -1000000000000 < i ∧ i < 1000000000000 := by simpa [D.sim] using h
    have lg := log_small (n := i.natAbs) (by omega)
    refine ⟨rfl, by simp [D.py, PyData.canLay0], by simp [D.py, PyData.depth, D.dep], ?_, ?_, ?_, by simp [D.py, PyData.hasDict]⟩
    · simp only [D.py, PyData.weight, D.wt]
      split <;> omega
    · simp only [D.py, PyData.intsShort]
      exact decide_eq_true (int_short h'.1 h'.2)
    · simp only [D.py, PyData.showable]
      exact decide_eq_true (by omega)
  | .str x, h => by
    have h' : PyData.strOk x = true := by simpa [D.sim] using h
    exact ⟨rfl, by simpa [D.py, PyData.canLay0] using h', by simp [D.py, PyData.depth, D.dep], by simp [D.py, PyData.weight, D.wt], by simp [D.py, PyData.intsShort], by simp [D.py, PyData.showable], by simp [D.py, PyData.hasDict]⟩
  | .tup ds, h => by
    have q := simL_sh ds (by simpa [D.sim] using h)
    exact ⟨by simp [toPy, q.py, D.py], by simpa [D.py, PyData.canLay0] using q.lay, by simp [D.py, PyData.depth, D.dep, q.dep], by simpa [D.py, PyData.weight, D.wt] using q.wt, by simpa [D.py, PyData.intsShort] using q.sh, by simpa [D.py, PyData.showable] using q.shw, by simpa [D.py, PyData.hasDict] using q.hd⟩
  | .lst ds, h => by
    have q := simL_sh ds (by simpa [D.sim] using h)
    exact ⟨by simp [toPy, q.py, D.py], by simpa [D.py, PyData.canLay0] using q.lay, by simp [D.py, PyData.depth, D.dep, q.dep], by simpa [D.py, PyData.weight, D.wt] using q.wt, by simpa [D.py, PyData.intsShort] using q.sh, by simpa [D.py, PyData.showable] using q.shw, by simpa [D.py, PyData.hasDict] using q.hd⟩
  | .ty _, h => by simp [D.sim] at h
  | .cls _, h => by simp [D.sim] at h
  | .scr _, h => by simp [D.sim] at h
  | .dic _, h => by simp [D.sim] at h
  | .ins _ _, h => by simp [D.sim] at h
  | .oid _, h => by simp [D.sim] at h
  | .exc _ _, h => by simp [D.sim] at h
theorem simL_sh : ∀ ds : List D, simL ds = true → ShL ds (pyL ds)
  | [], _ => ⟨rfl, by simp [pyL, PyData.canLayAll0], by simp [pyL, PyData.depthAll, depL], by simp [pyL, PyData.weightAll], by simp [pyL, PyData.intsShortAll], by simp [pyL, PyData.showableAll], by simp [pyL, PyData.hasDictAll]⟩
  | d :: ds, h => by
    have h' : d.sim = true ∧ simL ds = true := by simpa [simL] using h
    have a := D.sh d h'.1
    have b := simL_sh ds h'.2
    have bw := b.wt
    have aw := a.wt
    exact ⟨by simp [toPyL, a.py, b.py, pyL], by simp [pyL, PyData.canLayAll0, a.lay, b.lay], by simp [pyL, PyData.depthAll, depL, a.dep, b.dep], by simp only [pyL, PyData.weightAll, wtL]; omega, by simp [pyL, PyData.intsShortAll, a.sh, b.sh], by simp [pyL, PyData.showableAll, a.shw, b.shw], by simp [pyL, PyData.hasDictAll, a.hd, b.hd]⟩
end
theorem toPy_pyOf {d : D} {p : PyData} (S : Store) (h : toPy d = some p) : pyOf S d = some p := by
  cases d <;> first
    | exact h
    | (simp [toPy] at h)
theorem pyOf_sim {d : D} (S : Store) (h : d.sim = true) : pyOf S d = some d.py := toPy_pyOf S (D.sh d h).py
/-- data that is small enough is shown, wherever -/
theorem repr_D {d : D} (h : d.sim = true) (hd : d.dep ≤ 50) (hw : d.wt ≤ 1048576) (S : Store) : gRepr [d] S = .ok (.str d.py.shown) S := by
  have q := D.sh d h
  have e : (2 : Nat) ^ 20 = 1048576 := by decide
  have lay : PyData.layable0 d.py = true := by
    unfold PyData.layable0
    rw [Bool.and_eq_true, Bool.and_eq_true, e]
    have := q.dep
    have := q.wt
    exact ⟨⟨q.lay, decide_eq_true (by omega)⟩, decide_eq_true (by omega)⟩
  have l := PyProof.Rows.shown_le13 lay q.sh
  have s : (15728653 : Nat) ≤ sizeLine := by decide
  have := q.dep
  simp only [gRepr, pyOf_sim S h]
  rw [if_pos ⟨q.shw, q.hd, by omega, by omega⟩]
/-! ### data that is equal -/
mutual
theorem eqv_refl : ∀ p : PyData, p.hasDict = false → p.eqv p = true
  | .none, _ => by simp [PyData.eqv]
  | .bool _, _ => by simp [PyData.eqv]
  | .int _, _ => by simp [PyData.eqv]
  | .str _, _ => by simp [PyData.eqv]
  | .list xs, h => by
    simp only [PyData.eqv]
    exact eqvAll_refl xs (by simpa [PyData.hasDict] using h)
  | .tuple xs, h => by
    simp only [PyData.eqv]
    exact eqvAll_refl xs (by simpa [PyData.hasDict] using h)
  | .dict _, h => by simp [PyData.hasDict] at h
theorem eqvAll_refl : ∀ p : List PyData, PyData.hasDictAll p = false → PyData.eqvAll p p = true
  | [], _ => by simp [PyData.eqvAll]
  | x :: xs, h => by
    have h' : x.hasDict = false ∧ PyData.hasDictAll xs = false := by simpa [PyData.hasDictAll] using h
    simp only [PyData.eqvAll, eqv_refl x h'.1, eqvAll_refl xs h'.2]
    rfl
end
mutual
/-- no truths in it -/
def D.nb : D → Bool
  | .bl _ => false
  | .tup ds => nbL ds
  | .lst ds => nbL ds
  | _ => true
def nbL : List D → Bool
  | [] => true
  | d :: ds => d.nb && nbL ds
end
mutual
theorem eqv_eq : ∀ d e : D, d.sim = true → e.sim = true → d.nb = true → e.nb = true → d.py.eqv e.py = true → d = e
  | .non, e, _, h, _, n, q => by cases e <;> simp_all [D.sim, D.nb, D.py, PyData.eqv]
  | .int i, e, _, h, _, n, q => by cases e <;> simp_all [D.sim, D.nb, D.py, PyData.eqv]
  | .str i, e, _, h, _, n, q => by cases e <;> simp_all [D.sim, D.nb, D.py, PyData.eqv]
  | .tup ds, e, hd, h, hn, n, q => by
    cases e with
    | tup es =>
      simp only [D.sim, D.nb, D.py, PyData.eqv] at hd h hn n q
      rw [eqvL_eq ds es hd h hn n q]
    | _ => simp_all [D.sim, D.nb, D.py, PyData.eqv]
  | .lst ds, e, hd, h, hn, n, q => by
    cases e with
    | lst es =>
      simp only [D.sim, D.nb, D.py, PyData.eqv] at hd h hn n q
      rw [eqvL_eq ds es hd h hn n q]
    | _ => simp_all [D.sim, D.nb, D.py, PyData.eqv]
  | .bl _, _, _, _, h, _, _ => by simp [D.nb] at h
  | .ty _, _, h, _, _, _, _ => by simp [D.sim] at h
  | .cls _, _, h, _, _, _, _ => by simp [D.sim] at h
  | .scr _, _, h, _, _, _, _ => by simp [D.sim] at h
  | .dic _, _, h, _, _, _, _ => by simp [D.sim] at h
  | .ins _ _, _, h, _, _, _, _ => by simp [D.sim] at h
  | .exc _ _, _, h, _, _, _, _ => by simp [D.sim] at h
  | .oid _, _, h, _, _, _, _ => by simp [D.sim] at h
theorem eqvL_eq : ∀ ds es : List D, simL ds = true → simL es = true → nbL ds = true → nbL es = true → PyData.eqvAll (pyL ds) (pyL es) = true → ds = es
  | [], [], _, _, _, _, _ => rfl
  | [], _ :: _, _, _, _, _, q => by simp [pyL, PyData.eqvAll] at q
  | _ :: _, [], _, _, _, _, q => by simp [pyL, PyData.eqvAll] at q
  | d :: ds, e :: es, hd, h, hn, n, q => by
    simp only [simL, nbL, pyL, PyData.eqvAll, Bool.and_eq_true] at hd h hn n q
    rw [eqv_eq d e hd.1 h.1 hn.1 n.1 q.1, eqvL_eq ds es hd.2 h.2 hn.2 n.2 q.2]
end
theorem shaped_D {d : D} (h : d.sim = true) (hd : d.dep ≤ 60) : SeqAt.shaped d.py = true := by
  have q := D.sh d h
  have := q.dep
  unfold SeqAt.shaped
  rw [q.lay]
  simp
  omega
open Classical in
theorem eqv_dec {d e : D} (h1 : d.sim = true) (h2 : e.sim = true) (n1 : d.nb = true) (n2 : e.nb = true) : d.py.eqv e.py = decide (d = e) := by
  by_cases h : d = e
  · subst h
    rw [eqv_refl _ (D.sh d h1).hd]
    simp
  · cases q : d.py.eqv e.py with
    | true => exact absurd (eqv_eq d e h1 h2 n1 n2 q) h
    | false => simp [h]
theorem scal_D {d e : D} (h : scalD d e = true) : eqS d e = d.py.eqv e.py := by
  cases d <;> cases e <;> simp_all [scalD, eqS, D.py, PyData.eqv] <;> rfl
theorem eq_D {d e : D} (h1 : d.sim = true) (h2 : e.sim = true) (d1 : d.dep ≤ 60) (d2 : e.dep ≤ 60) (S : Store) : gEq d e S = .ok (.bl (d.py.eqv e.py)) S := by
  unfold gEq
  by_cases h : scalD d e = true
  · rw [if_pos (show pScal d e S = true from h)]
    simp only [gEqS, h, if_true, scal_D h, Bool.false_eq_true, if_false]
  · rw [if_neg (show ¬ pScal d e S = true from h)]
    simp only [gEqD, pyOf_sim S h1, pyOf_sim S h2, shaped_D h1 d1, shaped_D h2 d2]
    rfl
theorem ne_D {d e : D} (h1 : d.sim = true) (h2 : e.sim = true) (d1 : d.dep ≤ 60) (d2 : e.dep ≤ 60) (S : Store) : gNe d e S = .ok (.bl (!d.py.eqv e.py)) S := by
  unfold gNe
  by_cases h : scalD d e = true
  · rw [if_pos (show pScal d e S = true from h)]
    simp only [gEqS, h, if_true, scal_D h]
  · rw [if_neg (show ¬ pScal d e S = true from h)]
    simp only [gEqD, pyOf_sim S h1, pyOf_sim S h2, shaped_D h1 d1, shaped_D h2 d2]
    rfl
theorem eq_self {d : D} (h1 : d.sim = true) (d1 : d.dep ≤ 60) (S : Store) : gEq d d S = .ok (.bl true) S := by rw [eq_D h1 h1 d1 d1, eqv_refl _ (D.sh d h1).hd]
theorem ne_self {d : D} (h1 : d.sim = true) (d1 : d.dep ≤ 60) (S : Store) : gNe d d S = .ok (.bl false) S := by rw [ne_D h1 h1 d1 d1, eqv_refl _ (D.sh d h1).hd]; rfl
def seqD : D → Store → Res ItD := fun d S => match d with
  | .tup ds => .ok ⟨ds, none⟩ S
  | .lst ds => .ok ⟨ds, none⟩ S
  | .scr ds => .ok ⟨ds, none⟩ S
  | d => match asL S d with
    | some ds => .ok ⟨ds, some (d, ds)⟩ S
    | none => .stuck
@[simp] theorem e_fSeq (fe : FE) (ρ : EnvD) (S : Store) : fSeq fe ρ S = (fe ρ S).bind seqD := rfl
@[simp] theorem e_seqD_t (ds : List D) (S : Store) : seqD (.tup ds) S = .ok ⟨ds, none⟩ S := rfl
@[simp] theorem e_seqD_l (ds : List D) (S : Store) : seqD (.lst ds) S = .ok ⟨ds, none⟩ S := rfl
@[simp] theorem e_seqD_s (ds : List D) (S : Store) : seqD (.scr ds) S = .ok ⟨ds, none⟩ S := rfl
def enumC : List D → Store → Res ItD := fun ds S => match ds with
  | [.lst ds] => .ok ⟨enumD 0 ds, none⟩ S
  | [d] => match asL S d with
    | some ds => .ok ⟨enumD 0 ds, some (d, ds)⟩ S
    | none => .stuck
  | _ => .stuck
@[simp] theorem e_fEnum (fr : FA) (ρ : EnvD) (S : Store) : fEnum fr ρ S = (fr ρ S).bind enumC := rfl
@[simp] theorem e_enumC_l (ds : List D) (S : Store) : enumC [.lst ds] S = .ok ⟨enumD 0 ds, none⟩ S := rfl
@[simp] theorem e_gAug (i : Nat) (fe : FE) (g : G2) (ρ : EnvD) (S : Store) : gAug i fe g ρ S = match ρ[i]? with
  | some (some x) => (fe ρ S).into ρ fun y S => (g x y S).into ρ fun z S => .nx (ρ.set i (some z)) S
  | _ => .stuck := rfl
@[simp] theorem e_gIp (f : Int → Int → Int) (i j : Int) (S : Store) : gIp f (.int i) (.int j) S = .ok (.int (f i j)) S := rfl
theorem whileF_go {c : FT} {body : FS} {n : Nat} {ρ ρ1 : EnvD} {S S1 S' : Store} (hc : c ρ S = .ok true S') (hb : body ρ S' = .nx ρ1 S1) : whileF c body (n + 1) ρ S = whileF c body n ρ1 S1 := by
  rw [whileF, hc]
  simp [hb]
theorem whileF_end {c : FT} {body : FS} {n : Nat} {ρ : EnvD} {S S' : Store} (hc : c ρ S = .ok false S') : whileF c body (n + 1) ρ S = .nx ρ S' := by
  rw [whileF, hc]
  simp
theorem e_addl (xs ys : List D) (S : Store) (h : short (xs.length + ys.length) = true) : gAdd (.lst xs) (.lst ys) S = .ok (.lst (xs ++ ys)) S := by
  simp [gAdd, isI, isS, isT, gAddL, asLt, h]
theorem simL_all {ds : List D} : simL ds = true ↔ ∀ d ∈ ds, d.sim = true := by
  induction ds with
  | nil => simp [simL]
  | cons d ds ih => simp [simL, ih]
theorem depL_le {n : Nat} {ds : List D} : depL ds ≤ n ↔ ∀ d ∈ ds, d.dep ≤ n := by
  induction ds with
  | nil => simp [depL]
  | cons d ds ih => simp [depL, ← ih, Nat.max_le]
theorem nbL_all {ds : List D} : nbL ds = true ↔ ∀ d ∈ ds, d.nb = true := by
  induction ds with
  | nil => simp [nbL]
  | cons d ds ih => simp [nbL, ih]
theorem wtL_le {n : Nat} {ds : List D} (h : ∀ d ∈ ds, d.wt ≤ n) : wtL ds ≤ (n + 1) * ds.length := by
  induction ds with
  | nil => simp [wtL]
  | cons d ds ih =>
    have h1 := h d List.mem_cons_self
    have h2 := ih fun e he => h e (List.mem_cons_of_mem _ he)
    simp only [wtL, List.length_cons, Nat.mul_add, Nat.mul_one]
    omega
end DL

/-! Plain laws of dict displays, dicts of numbers, the least of a list. -/
namespace DL
open PySem L2
section
variable {ρ : EnvD} {S : Store}
@[simp] theorem e_fDisp (fp : FP) : fDisp fp ρ S = (fp ρ (S ++ [.dic []])).bind fun ps S' => dispAt S.length ps S' := rfl
@[simp] theorem e_fPs0 : fPs0 ρ S = .ok [] S := rfl
@[simp] theorem e_fPs (fk fv : FE) (fr : FP) : fPs fk fv fr ρ S = (fk ρ S).bind fun x S => (fv ρ S).bind fun y S => (fr ρ S).bind fun ps S => .ok ((x, y) :: ps) S := rfl
end
theorem valD_put {ks : List (Key × D)} {k j : Key} {d : D} : valD (putKD ks k d) j = if j = k then some d else valD ks j := by
  have miss : ∀ ks : List (Key × D), (ks.any fun q => decide (q.1 = k)) = false → ks.find? (fun q => decide (q.1 = k)) = none := by
    intro ks h
    rw [List.find?_eq_none]
    intro x hx
    have := List.any_eq_false.mp h x hx
    simpa using this
  unfold putKD
  split
  · rename_i h
    induction ks with
    | nil => simp at h
    | cons q ks ih =>
      unfold valD at ih ⊢
      by_cases hq : q.1 = k
      · rw [List.map_cons, if_pos hq]
        by_cases hj : j = k
        · subst hj
          simp [List.find?_cons, hq]
        · have : ¬ q.1 = j := fun z => hj (by rw [← z]; exact hq)
          rw [if_neg hj]
          simp only [List.find?_cons, this, decide_false]
          by_cases ha : (ks.any fun q => decide (q.1 = k)) = true
          · have := ih ha
            rw [if_neg hj] at this
            exact this
          · have hm : ks.map (fun q => if q.1 = k then (q.1, d) else q) = ks := by
              have hn := miss ks (Bool.eq_false_iff.mpr ha)
              rw [List.find?_eq_none] at hn
              conv => rhs; rw [← List.map_id ks]
              apply List.map_congr_left
              intro x hx
              have := hn x hx
              have hx' : ¬ x.1 = k := by simpa using this
              simp [hx']
            rw [hm]
      · have ha : (ks.any fun q => decide (q.1 = k)) = true := by simpa [hq] using h
        have := ih ha
        rw [List.map_cons, if_neg hq]
        by_cases hj : q.1 = j
        · have hjk : ¬ j = k := fun z => hq (by rw [hj, z])
          simp [List.find?_cons, hj, hjk]
        · simp only [List.find?_cons, hj, decide_false]
          exact this
  · rename_i h
    have hn := miss ks (Bool.eq_false_iff.mpr h)
    unfold valD
    rw [List.find?_append]
    by_cases hj : j = k
    · subst hj
      rw [hn]
      simp
    · rw [if_neg hj]
      cases hf : ks.find? (fun q => decide (q.1 = j)) with
      | some x => simp
      | none =>
        have : ¬ k = j := fun z => hj z.symm
        simp [this]
theorem putKD_len (ks : List (Key × D)) (k : Key) (d : D) : (putKD ks k d).length ≤ ks.length + 1 := by
  unfold putKD
  split <;> simp
theorem pureK_iff : ∀ {ks : List (Key × D)}, pureK ks = true ↔ ∀ q ∈ ks, q.2.pure = true
  | [] => by simp [pureK]
  | (k, d) :: ks => by
    have := pureK_iff (ks := ks)
    simp [pureK, this]
theorem pureK_put {ks : List (Key × D)} {k : Key} {d : D} (h : pureK ks = true) (hd : d.pure = true) : pureK (putKD ks k d) = true := by
  rw [pureK_iff] at h ⊢
  intro q hq
  unfold putKD at hq
  split at hq
  · obtain ⟨x, hx, rfl⟩ := List.mem_map.mp hq
    split
    · exact hd
    · exact h x hx
  · rcases List.mem_append.mp hq with q1 | q1
    · exact h q q1
    · rw [List.mem_singleton.mp q1]
      exact hd
theorem intsOf_map : ∀ ns : List Int, intsOf (ns.map D.int) = some ns
  | [] => rfl
  | n :: ns => by
    show ((intsOf (ns.map D.int)).map (n :: ·)) = _
    rw [intsOf_map ns]
    rfl
theorem toPyL_ints : ∀ ns : List Int, toPyL (ns.map D.int) = some (ns.map PyData.int)
  | [] => rfl
  | n :: ns => by
    have := toPyL_ints ns
    simp [toPyL, toPy, this]
theorem lay_ints : ∀ ns : List Int, PyData.canLayAll0 (ns.map PyData.int) = true
  | [] => rfl
  | n :: ns => by
    have := lay_ints ns
    simp only [List.map_cons, PyData.canLayAll0, PyData.canLay0, this]
    rfl
theorem depth_ints : ∀ ns : List Int, PyData.depthAll (ns.map PyData.int) = 0
  | [] => rfl
  | n :: ns => by
    have := depth_ints ns
    simp [PyData.depthAll, PyData.depth, this]
theorem shaped_ints (ns : List Int) : SeqAt.shaped (.list (ns.map PyData.int)) = true := by
  simp [SeqAt.shaped, PyData.canLay0, lay_ints, PyData.depth, depth_ints]
theorem toPyL_pairs : ∀ ps : List (Int × Int), toPyL (ps.map fun p => D.tup [.int p.1, .int p.2]) = some (ps.map pdP)
  | [] => rfl
  | p :: ps => by
    have := toPyL_pairs ps
    simp [toPyL, toPy, this, pdP]
theorem lay_pairs : ∀ ps : List (Int × Int), PyData.canLayAll0 (ps.map pdP) = true
  | [] => rfl
  | p :: ps => by
    have := lay_pairs ps
    simp only [List.map_cons, PyData.canLayAll0, PyData.canLay0, this, pdP]
    rfl
theorem shaped_pairs (ps : List (Int × Int)) : SeqAt.shaped (.list (ps.map pdP)) = true := by
  have := depth_pairs ps
  have h : PyData.depthAll (ps.map pdP) + 1 ≤ 64 := by omega
  simp [SeqAt.shaped, PyData.canLay0, lay_pairs, PyData.depth]
  omega
theorem eq_nilP {ds : List D} {ps : List PyData} {S : Store} (e1 : toPyL ds = some ps) (e3 : SeqAt.shaped (.list ps) = true) : gEq (.lst ds) (.lst []) S = .ok (.bl ds.isEmpty) S ∧ gNe (.lst ds) (.lst []) S = .ok (.bl (!ds.isEmpty)) S := by
  have e0 : pyOf S (.lst ds) = some (.list ps) := by simp [pyOf, toPy, e1]
  have e2 : pyOf S (.lst []) = some (.list []) := by simp [pyOf, toPy, toPyL]
  have e5 : SeqAt.shaped (.list []) = true := shaped_ints []
  have e4 : PyData.eqv (.list ps) (.list []) = ds.isEmpty := by
    cases ds with
    | nil => cases e1; simp [PyData.eqv, PyData.eqvAll]
    | cons d ds =>
      cases ps with
      | nil =>
        exfalso
        unfold toPyL at e1
        cases h1 : toPy d with
        | none => rw [h1] at e1; cases e1
        | some x =>
          rw [h1] at e1
          cases h2 : toPyL ds with
          | none => rw [h2] at e1; cases e1
          | some y => rw [h2] at e1; cases e1
      | cons p ps => simp [PyData.eqv, PyData.eqvAll]
  constructor
  · show (if pScal (.lst ds) (.lst []) S then _ else gEqD false (.lst ds) (.lst []) S) = _
    rw [if_neg (by simp [pScal, scalD])]
    simp [gEqD, e0, e2, e3, e5, e4]
  · show (if pScal (.lst ds) (.lst []) S then _ else gEqD true (.lst ds) (.lst []) S) = _
    rw [if_neg (by simp [pScal, scalD])]
    simp [gEqD, e0, e2, e3, e5, e4]
@[simp] theorem e_fGet2 {ρ : EnvD} {S : Store} (fo fe ff : FE) : fGet2 fo fe ff ρ S = (fo ρ S).bind fun x S => if (asD S x).isSome then (fe ρ S).bind fun y S => (ff ρ S).bind fun z S => gGet x y z S else .stuck := rfl
@[simp] theorem e_fGet1 {ρ : EnvD} {S : Store} (fo fe : FE) : fGet1 fo fe ρ S = (fo ρ S).bind fun x S => if (asD S x).isSome then (fe ρ S).bind fun y S => gGet x y .non S else .stuck := rfl
/-- min of a list of numbers -/
theorem min_ints {ns : List Int} (h : ns ≠ []) (S : Store) : ∃ m, gMin [.lst (ns.map D.int)] S = .ok (.int m) S ∧ m ∈ ns ∧ ∀ y ∈ ns, m ≤ y := by
  cases ns with
  | nil => exact absurd rfl h
  | cons n ns =>
    obtain ⟨a, b⟩ := minI_spec ns n
    refine ⟨minI n ns, ?_, a, b⟩
    have e : seqInts S (.lst ((n :: ns).map D.int)) = some (n :: ns) := by
      unfold seqInts asL
      simp only [Option.bind_some]
      exact intsOf_map _
    simp only [gMin, two, gMinL, e, List.length_cons, List.length_nil]
    rfl
theorem pairsOf_map : ∀ ps : List (Int × Int), pairsOf (ps.map fun p => D.tup [.int p.1, .int p.2]) = some ps
  | [] => rfl
  | p :: ps => by
    show ((some p : Option (Int × Int)).bind fun p => (pairsOf (ps.map fun p => D.tup [.int p.1, .int p.2])).map (p :: ·)) = _
    rw [pairsOf_map ps]
    rfl
theorem minP_spec : ∀ (ps : List (Int × Int)) (p : Int × Int), minP p ps ∈ p :: ps ∧ ∀ q ∈ p :: ps, ltP q (minP p ps) = false
  | [], p => ⟨by simp [minP], fun q hq => by
    rw [List.mem_singleton.mp hq]
    simp [ltP, minP]⟩
  | r :: ps, p => by
    have h2 : minP p (r :: ps) = minP (if ltP r p = true then r else p) ps := rfl
    rw [h2]
    obtain ⟨a, b⟩ := minP_spec ps (if ltP r p = true then r else p)
    have tr : ∀ x y z : Int × Int, ltP x y = false → ltP y z = false → ltP x z = false := by
      intro x y z h1 h2
      simp only [ltP, decide_eq_false_iff_not] at h1 h2 ⊢
      omega
    have as : ∀ x y : Int × Int, ltP x y = true → ltP y x = false := by
      intro x y h
      simp only [ltP, decide_eq_false_iff_not, decide_eq_true_eq] at h ⊢
      omega
    have b0 := b _ List.mem_cons_self
    refine ⟨?_, fun q hq => ?_⟩
    · rcases List.mem_cons.mp a with e | e
      · rw [e]
        split
        · simp
        · simp
      · exact List.mem_cons_of_mem _ (List.mem_cons_of_mem _ e)
    · rcases List.mem_cons.mp hq with e | e
      · subst e
        split at b0
        · rename_i hc
          rw [if_pos hc]
          exact tr _ _ _ (as _ _ hc) b0
        · rename_i hc
          rw [if_neg hc]
          exact b0
      · rcases List.mem_cons.mp e with e | e
        · subst e
          split at b0
          · rename_i hc
            rw [if_pos hc]
            exact b0
          · rename_i hc
            rw [if_neg hc]
            exact tr _ _ _ (by simpa using hc) b0
        · exact b q (List.mem_cons_of_mem _ e)
theorem min_pairs {ps : List (Int × Int)} (h : ps ≠ []) (S : Store) : ∃ m, gMinP [.lst (ps.map fun p => D.tup [.int p.1, .int p.2])] S = .ok (.tup [.int m.1, .int m.2]) S ∧ m ∈ ps ∧ ∀ q ∈ ps, ltP q m = false := by
  cases ps with
  | nil => exact absurd rfl h
  | cons p ps =>
    obtain ⟨a, b⟩ := minP_spec ps p
    refine ⟨minP p ps, ?_, a, b⟩
    have e : (asL S (.lst ((p :: ps).map fun p => D.tup [.int p.1, .int p.2]))).bind pairsOf = some (p :: ps) := by
      unfold asL
      simp only [Option.bind_some]
      exact pairsOf_map _
    simp only [gMinP, e]
/-- a call that reads a dict -/
theorem callSub_d2 {sem : Sem'} {v d : D} {S S' : Store} {n : Nat} {ks : List (Key × D)} (hS : S[n]? = some (.dic ks)) (hk : pureK ks = true) (hv : v.pure = true) (h : sem [v, .oid 0] [.dic ks] = .ok d (.dic ks :: S')) (hd : d.pure = true) :
    callSub sem [v, .oid n] S = .ok d S := by
  unfold callSub
  have e : subArgs S [v, .oid n] 0 = some ([v, .oid 0], [n]) := by
    have e1 : subArgs S [.oid n] 0 = some ([.oid 0], [n]) := by
      unfold subArgs
      rw [hS]
      simp only
      rw [if_pos (show SO.pure (.dic ks) = true from hk)]
      rfl
    cases v with
    | oid k => simp [D.pure] at hv
    | _ =>
      unfold subArgs
      rw [if_pos hv, e1]
      rfl
  have e2 : subOf S [n] = [.dic ks] := by
    unfold subOf
    simp [hS]
  rw [e]
  simp only [e2, h, hd]
  have nd : [n].Nodup := by simp
  rw [if_pos nd]
  have q : (List.all (List.take [n].length (SO.dic ks :: S')) SO.pure && decide ([n].length ≤ (SO.dic ks :: S').length)) = true := by
    simp [SO.pure, hk]
  rw [q]
  rw [if_pos (by rfl)]
  have : S.set n (.dic ks) = S := by
    obtain ⟨hn, e⟩ := List.getElem?_eq_some_iff.mp hS
    rw [← e]
    exact List.set_getElem_self hn
  simp [putBack, this]
end DL

namespace K03
open PySem L2 DL
abbrev fNo : FA := fun _ S => .ok [] S
theorem set_last {α : Type} (pre : List α) (a b : α) : (pre ++ [a]).set pre.length b = pre ++ [b] := by
  induction pre with
  | nil => rfl
  | cons x pre ih => simp [ih]
theorem get_last {α : Type} (pre : List α) (a : α) : (pre ++ [a])[pre.length]? = some a := by simp
theorem cMul_l {i j : Int} (h1 : -18446744073709551616 < i) (h2 : i < 18446744073709551616) : cMul i j = true := @decide_eq_true _ (Classical.propDecidable _) (.inl ⟨h1, h2⟩)
theorem cMul_r {i j : Int} (h1 : -18446744073709551616 < j) (h2 : j < 18446744073709551616) : cMul i j = true := @decide_eq_true _ (Classical.propDecidable _) (.inr ⟨h1, h2⟩)
theorem cRng_nat {n : Nat} (h : n < 1000000) : cRng (n : Int) = true := by
  unfold cRng
  exact @decide_eq_true _ (Classical.propDecidable _) ⟨by omega, by omega⟩
theorem toPyL_ints (l : List Int) : toPyL (l.map D.int) = some (l.map PyData.int) := by
  induction l with
  | nil => rfl
  | cons n l ih => simp [toPyL, toPy, ih]
theorem lay_alli (l : List Int) : PyData.canLayAll0 (l.map PyData.int) = true ∧ PyData.depthAll (l.map PyData.int) = 0 := by
  induction l with
  | nil => exact ⟨rfl, rfl⟩
  | cons n l ih =>
    simp only [List.map_cons, PyData.canLayAll0, PyData.canLay0, PyData.depthAll, PyData.depth, ih.1, ih.2]
    exact ⟨rfl, rfl⟩
theorem ne_scr (ns : List Int) (S : Store) : gNe (.scr (ns.map D.int)) (.lst []) S = .ok (.bl (!ns.isEmpty)) S := by
  have e1 : pyOf S (.scr (ns.map D.int)) = some (.list (ns.map PyData.int)) := by simp [pyOf, toPy, toPyL_ints]
  have e2 : pyOf S (.lst []) = some (.list []) := by simp [pyOf, toPy, toPyL]
  have e3 : SeqAt.shaped (.list []) = true := by simp [SeqAt.shaped, PyData.canLay0, PyData.canLayAll0, PyData.depth, PyData.depthAll]
  have e5 : SeqAt.shaped (.list (ns.map PyData.int)) = true := by simp [SeqAt.shaped, PyData.canLay0, lay_alli, PyData.depth]
  have e4 : PyData.eqv (.list (ns.map PyData.int)) (.list []) = ns.isEmpty := by
    cases ns <;> simp [PyData.eqv, PyData.eqvAll]
  show (if pScal (.scr (ns.map D.int)) (.lst []) S then _ else gEqD true (.scr (ns.map D.int)) (.lst []) S) = _
  rw [if_neg (by simp [pScal, scalD])]
  simp [gEqD, e1, e2, e3, e5, e4]
theorem pw {a n : Int} {r : Int} (h : 0 ≤ n ∧ n ≤ 1000000 ∧ a.natAbs < 18446744073709551616) (e : a ^ n.toNat = r) (S : Store) : gPow (.int a) (.int n) S = .ok (.int r) S := by
  have h : cPow a n = true := @decide_eq_true _ (Classical.propDecidable _) h
  simp [gPow, gI, h, e]
theorem p109 (S : Store) : gPow (.int 10) (.int 9) S = .ok (.int 1000000000) S := pw (by decide) (by decide) S
theorem p1018 (S : Store) : gPow (.int 10) (.int 18) S = .ok (.int 1000000000000000000) S := pw (by decide) (by decide) S
theorem p1030 (S : Store) : gPow (.int 10) (.int 30) S = .ok (.int 1000000000000000000000000000000) S := pw (by decide) (by decide) S
theorem dvW {i j : Int} (h1 : 0 < j) (h2 : j < 10000000000000000000000000000000000000000) (S : Store) : gDivW (.int i) (.int j) S = .ok (.int (i / j)) S := by
  have h : cDivW i j = true := @decide_eq_true _ (Classical.propDecidable _) ⟨h1, h2⟩
  simp [gDivW, gI, h]
/-! ### the state of a cell of the script -/
noncomputable def sbody : FS := (gSeq (gSet 6 (fBin gMod (fBin gMul (fBin gPow (fBin gAdd (fBin gAdd (fBin gMod (fVar 2) (fVar 5)) (fBin gMul (fC (.int 7919)) (fVar 1))) (fC (.int 48271))) (fC (.int 2))) (fC (.int 69621))) (fVar 5))) (gSet 3 (fBin gAdd (fBin gMul (fVar 3) (fC (.int 2147483647))) (fBin gMod (fBin gMul (fVar 6) (fBin gAdd (fVar 6) (fBin gDiv (fVar 5) (fC (.int 7))))) (fVar 5)))))
theorem sloop_ok {ps : List Int} (hp : ∀ p ∈ ps, 0 < p ∧ p < 2147483648) (x0 x4 : Option D) (k : Nat) (hk : k < 1000000) (cell f : Int) (y5 y6 : Option D) (S : Store) :
    ∃ f' z5 z6, loopF none (mName 5) sbody (ps.map D.int) [x0, some (.int k), some (.int cell), some (.int f), x4, y5, y6] S = .nx [x0, some (.int k), some (.int cell), some (.int f'), x4, z5, z6] S := by
  obtain ⟨ρ', S', h1, f', z5, z6, rfl, rfl⟩ := loop_inv (m := mName 5) (b := sbody) (fun j ρ S' => ∃ (f' : Int) (z5 z6 : Option D), ρ = [x0, some (.int k), some (.int cell), some (.int f'), x4, z5, z6] ∧ S = S')
    (ps.map D.int) 0 [x0, some (.int k), some (.int cell), some (.int f), x4, y5, y6] S ⟨f, y5, y6, rfl, rfl⟩ (by
    rintro j d ρ S' hd ⟨f', z5, z6, rfl, rfl⟩
    obtain ⟨p, hpm, rfl⟩ := List.mem_map.mp (List.mem_of_getElem? hd)
    obtain ⟨p1, p2⟩ := hp p hpm
    have b1 := Int.emod_nonneg cell (b := p) (by omega)
    have b2 := Int.emod_lt_of_pos cell p1
    have m1 : cMul 7919 (k : Int) = true := cMul_l (by decide) (by decide)
    have m2 : ∀ x : Int, cMul x 69621 = true := fun x => cMul_r (by decide) (by decide)
    have m3 : cMul f' 2147483647 = true := cMul_r (by decide) (by decide)
    have q := pw (a := cell % p + 7919 * (k : Int) + 48271) (n := 2) ⟨by decide, by decide, by omega⟩ rfl S
    have c1 := Int.emod_nonneg ((cell % p + 7919 * (k : Int) + 48271) ^ (2 : Int).toNat * 69621) (b := p) (by omega)
    have c2 := Int.emod_lt_of_pos ((cell % p + 7919 * (k : Int) + 48271) ^ (2 : Int).toNat * 69621) p1
    have m4 : ∀ x : Int, cMul ((cell % p + 7919 * (k : Int) + 48271) ^ (2 : Int).toNat * 69621 % p) x = true := fun x => cMul_l (by omega) (by omega)
    have hb : ∃ f2 z, sbody [x0, some (.int k), some (.int cell), some (.int f'), x4, some (.int p), z6] S = .nx [x0, some (.int k), some (.int cell), some (.int f2), x4, some (.int p), z] S := by
      refine ⟨f' * 2147483647 + (cell % p + 7919 * (k : Int) + 48271) ^ (2 : Int).toNat * 69621 % p * ((cell % p + 7919 * (k : Int) + 48271) ^ (2 : Int).toNat * 69621 % p + p / 7) % p, some (.int ((cell % p + 7919 * (k : Int) + 48271) ^ (2 : Int).toNat * 69621 % p)), ?_⟩
      unfold sbody
      simp only [e_gSeq, e_gSet, e_fBin, e_fVar, e_fC, List.getElem?_cons_succ, List.getElem?_cons_zero, Res.bind_ok, e_gMod _ _ _ p1, e_gMul _ _ _ m1, e_gAdd, q, e_gMul _ _ _ (m2 _), Res.into_ok, Out.seq_nx, List.set_cons_succ, List.set_cons_zero, e_gMul _ _ _ m3, e_gMul _ _ _ (m4 _), e_gDiv _ _ _ (show (0 : Int) < 7 by decide) (show (7 : Int) < 1073741824 by decide)]
    obtain ⟨f2, z, hb⟩ := hb
    exact ⟨_, _, S, rfl, .inl hb, _, _, _, rfl, rfl⟩)
  exact ⟨f', z5, z6, h1⟩
theorem state_ok (ns : List Int) (k : Nat) (hk : k < 1000000) (S : Store) : ∃ v : Int, S_p_law_state [.scr (ns.map D.int), .int k] S = .ok (.oid S.length) (S ++ [.lst [.int v]]) := by
  have hcell : ∃ cell : Int, fIf (toB (fBin gNe (fVar 0) (fLst fNo))) (fCB gAbs (fCons (fBin gIx (fVar 0) (fBin gMod (fVar 1) (fCB gLen (fCons (fVar 0) fNo)))) fNo)) (fC (.int 0)) [some (.scr (ns.map D.int)), some (.int k), none, none, none, none, none] S = .ok (.int cell) S := by
    cases ns with
    | nil => exact ⟨0, by simp [show gNe (.scr []) (.lst []) S = .ok (.bl false) S from ne_scr [] S]⟩
    | cons n ns =>
      have lp : (0 : Int) < ((n :: ns).length : Int) := by simp only [List.length_cons]; omega
      have g1 := Int.emod_nonneg (k : Int) (b := ((n :: ns).length : Int)) (by omega)
      have g2 := Int.emod_lt_of_pos (k : Int) lp
      obtain ⟨i, hi⟩ : ∃ i : Nat, (k : Int) % ((n :: ns).length : Int) = (i : Int) := ⟨((k : Int) % ((n :: ns).length : Int)).toNat, by omega⟩
      have hil : i < (n :: ns).length := by omega
      have ea : atI ((n :: ns).map D.int) (i : Int) = some (.int ((n :: ns)[i])) := by
        rw [at_nat _ _ (by simpa using hil), List.getElem?_map, List.getElem?_eq_getElem hil]
        rfl
      refine ⟨if (n :: ns)[i] < 0 then -(n :: ns)[i] else (n :: ns)[i], ?_⟩
      have nn := ne_scr (n :: ns) S
      have md : gMod (.int k) (.int (((n :: ns).map D.int).length : Nat)) S = .ok (.int i) S := by
        rw [List.length_map, e_gMod _ _ _ lp, hi]
      simp only [e_fIf, e_toB, e_fBin, e_fVar, e_fLst, List.getElem?_cons_succ, List.getElem?_cons_zero, Res.bind_ok, List.length_nil, short0, if_true, nn, List.isEmpty_cons, Bool.not_false, e_fCB, e_fCons, e_len_s, md, e_ix_s, ea, e_abs]
  obtain ⟨cell, hcell⟩ := hcell
  by_cases hb : (1000000000000000000 : Int) ≤ cell
  · refine ⟨cell - 1000000000000000000, ?_⟩
    have key : m_p_law_state [some (.scr (ns.map D.int)), some (.int k), none, none, none, none, none] S = .rt (.oid S.length) (S ++ [.lst [.int (cell - 1000000000000000000)]]) := by
      unfold m_p_law_state
      rw [e_gSeq, e_gSet, hcell]
      simp [p1018, hb]
    show (m_p_law_state [some (.scr (ns.map D.int)), some (.int k), none, none, none, none, none] S).res = _
    rw [key]
    rfl
  · let ps : List Int := [2147483629, 2147483587, 2147483579, 2147483563, 2147483549, 2147483543, 2147483497, 2147483489, 2147483477, 2147483423, 2147483399, 2147483353, 2147483323, 2147483269, 2147483249]
    have hps : ∀ p ∈ ps, 0 < p ∧ p < 2147483648 := by decide
    let P8 : D := .lst [.int 2147483629, .int 2147483587, .int 2147483579, .int 2147483563, .int 2147483549, .int 2147483543, .int 2147483497, .int 2147483489]
    obtain ⟨f', z5, z6, hl⟩ := sloop_ok hps (some (.scr (ns.map D.int))) (some P8) k hk cell 0 none none S
    refine ⟨f', ?_⟩
    have no : (toB (fBin gGe (fVar 2) (fBin gPow (fC (.int 10)) (fC (.int 18))))) [some (.scr (ns.map D.int)), some (.int k), some (.int cell), none, none, none, none] S = .ok false S := by
      simp [p1018, hb]
    have key : m_p_law_state [some (.scr (ns.map D.int)), some (.int k), none, none, none, none, none] S = .rt (.oid S.length) (S ++ [.lst [.int f']]) := by
      unfold m_p_law_state
      rw [e_gSeq, e_gSet, hcell]
      simp only [Res.into_ok, Out.seq_nx, List.set_cons_succ, List.set_cons_zero]
      rw [e_gSeq, e_gIf, no]
      simp only [Res.into_ok, Bool.false_eq_true, if_false, e_gNil, Out.seq_nx]
      rw [e_gSeq, e_gSet]
      simp only [e_fC, Res.into_ok, Out.seq_nx, List.set_cons_succ, List.set_cons_zero]
      rw [e_gSeq, e_gSet]
      have p8 : fLst (fCons (fC (.int 2147483629)) (fCons (fC (.int 2147483587)) (fCons (fC (.int 2147483579)) (fCons (fC (.int 2147483563)) (fCons (fC (.int 2147483549)) (fCons (fC (.int 2147483543)) (fCons (fC (.int 2147483497)) (fCons (fC (.int 2147483489)) fNo)))))))) [some (.scr (ns.map D.int)), some (.int k), some (.int cell), some (.int 0), none, none, none] S = .ok P8 S := by simp [P8]
      rw [p8]
      simp only [Res.into_ok, Out.seq_nx, List.set_cons_succ, List.set_cons_zero]
      rw [e_gSeq, e_gFor, e_fSeq, e_fBin]
      have p7 : ∀ ρ : EnvD, fLst (fCons (fC (.int 2147483477)) (fCons (fC (.int 2147483423)) (fCons (fC (.int 2147483399)) (fCons (fC (.int 2147483353)) (fCons (fC (.int 2147483323)) (fCons (fC (.int 2147483269)) (fCons (fC (.int 2147483249)) fNo))))))) ρ S =
          .ok (.lst [.int 2147483477, .int 2147483423, .int 2147483399, .int 2147483353, .int 2147483323, .int 2147483269, .int 2147483249]) S := fun ρ => by simp
      have fv : fVar 4 [some (.scr (ns.map D.int)), some (.int k), some (.int cell), some (.int 0), some P8, none, none] S = .ok P8 S := rfl
      rw [fv]
      simp only [Res.bind_ok]
      rw [p7]
      simp only [Res.bind_ok]
      rw [e_addl _ _ S (short_le (by decide))]
      simp only [Res.bind_ok, e_seqD_l, Res.into_ok]
      refine Eq.trans (congrArg (fun o => Out.seq o (gRet (fLstO (fCons (fVar 3) fNo)))) hl) ?_
      simp
    show (m_p_law_state [some (.scr (ns.map D.int)), some (.int k), none, none, none, none, none] S).res = _
    rw [key]
    rfl
/-! ### draws -/
theorem next_ok (v m : Int) (h : 0 < m) (h2 : m < 10000000000000000000000000000000000000000) : S_p_law_next [.oid 0, .int m] [.lst [.int v]] = .ok (.int (v % m)) [.lst [.int (v / m)]] := by
  unfold S_p_law_next m_p_law_next
  have e : ∀ S : Store, S = [.lst [.int v]] → gIx (.oid 0) (.int 0) S = .ok (.int v) S := by
    rintro S rfl
    rfl
  have e2 : storeAt (.oid 0) (.int 0) (.int (v / m)) [.lst [.int v]] = some [.lst [.int (v / m)]] := by rfl
  have d := fun S => dvW (i := v) h h2 S
  simp [e, e2, h, d]
theorem c_next {S : Store} {n : Nat} {v : Int} (hS : S[n]? = some (.lst [.int v])) (m : Int) (h : 0 < m) (h2 : m < 10000000000000000000000000000000000000000) : callSub S_p_law_next [.oid n, .int m] S = .ok (.int (v % m)) (S.set n (.lst [.int (v / m)])) :=
  callSub_st hS (by rfl) (by rfl) (next_ok v m h h2) (by rfl) (by rfl)
end K03

namespace K03
open PySem L2 DL
/-- what is drawn -/
inductive Th : D → Prop
  | int (i : Int) : -1000 ≤ i → i ≤ 1000000000000000000000000000000 → Th (.int i)
  | tr : Th (.bl true)
  | non : Th .non
  | str : Th (.str "6")
  | tup : Th (.tup [.int 6])
  | lst : Th (.lst [])
theorem Th.pure {d : D} (h : Th d) : d.pure = true := by cases h <;> rfl
theorem pick_ok (v : Int) {xs : List D} (h : 0 < xs.length) (hl : xs.length ≤ 1000) (hp : pureL xs = true) : ∃ x, x ∈ xs ∧ ∀ {S : Store} {n : Nat}, S[n]? = some (.lst [.int v]) → callSub S_p_law_pick [.oid n, .lst xs] S = .ok x (S.set n (.lst [.int (v / xs.length)])) := by
  have lp : (0 : Int) < (xs.length : Int) := by omega
  have g1 := Int.emod_nonneg v (b := (xs.length : Int)) (by omega)
  have g2 := Int.emod_lt_of_pos v lp
  obtain ⟨i, hi⟩ : ∃ i : Nat, v % (xs.length : Int) = (i : Int) := ⟨(v % (xs.length : Int)).toNat, by omega⟩
  have hil : i < xs.length := by omega
  have ea : atI xs (i : Int) = some xs[i] := by rw [at_nat _ _ hil, List.getElem?_eq_getElem hil]
  have px : (xs[i]).pure = true := pureL_all.mp hp _ (List.getElem_mem hil)
  refine ⟨xs[i], List.getElem_mem hil, fun {S n} hS => ?_⟩
  refine callSub_st hS (by rfl) (by simp [pureL, D.pure, hp]) (S' := []) ?_ px (by rfl)
  have c := c_next (S := [.lst [.int v]]) (n := 0) (v := v) rfl (xs.length : Int) lp (by omega)
  unfold S_p_law_pick m_p_law_pick
  simp [c, hi, ea]
theorem near_ok (v a b : Int) (h1 : 1 ≤ a) (h2 : a ≤ b) (h3 : b ≤ 1000000000000000000000000000000) : ∃ d v', Th d ∧ (∀ i, d = .int i → i ≤ b) ∧ ∀ {S : Store} {n : Nat}, S[n]? = some (.lst [.int v]) → callSub S_p_law_near [.oid n, .int a, .int b] S = .ok d (S.set n (.lst [.int v'])) := by
  have c := c_next (S := [.lst [.int v]]) (n := 0) (v := v) rfl 10 (by decide) (by decide)
  simp only [List.set_cons_zero] at c
  have mk : ∀ d v', d.pure = true → S_p_law_near [.oid 0, .int a, .int b] [.lst [.int v]] = .ok d [.lst [.int v']] → ∀ {S : Store} {n : Nat}, S[n]? = some (.lst [.int v]) → callSub S_p_law_near [.oid n, .int a, .int b] S = .ok d (S.set n (.lst [.int v'])) :=
    fun d v' hd h {S n} hS => callSub_st hS (by rfl) (by rfl) (S' := []) h hd (by rfl)
  by_cases h9 : v % 10 = 9
  · obtain ⟨x, hx, hp⟩ := pick_ok (v / 10) (xs := [.non, .bl true, .str "6", .tup [.int 6], .lst [], .int (-1)]) (by decide) (by decide) (by rfl)
    have p := hp (S := [.lst [.int (v / 10)]]) (n := 0) rfl
    have hb : ∀ i, x = .int i → i ≤ b := fun i e => by
      subst e
      simp at hx
      omega
    have ht : Th x := by
      simp only [List.mem_cons, List.not_mem_nil, or_false] at hx
      rcases hx with rfl | rfl | rfl | rfl | rfl | rfl
      · exact .non
      · exact .tr
      · exact .str
      · exact .tup
      · exact .lst
      · exact .int _ (by decide) (by decide)
    refine ⟨x, _, ht, hb, mk x (v / 10 / 6) ht.pure ?_⟩
    unfold S_p_law_near m_p_law_near
    simp [List.replicate, c, h9, p, short_le]
  · by_cases h8 : v % 10 = 8
    · refine ⟨.int (a - 1), _, .int _ (by omega) (by omega), fun i e => by cases e; omega, mk _ (v / 10) rfl ?_⟩
      unfold S_p_law_near m_p_law_near
      simp [List.replicate, c, h8]
    · by_cases h5 : 5 < v % 10
      · have h67 : v % 10 = 6 ∨ v % 10 = 7 := by omega
        rcases h67 with h | h
        · refine ⟨.int a, _, .int _ (by omega) (by omega), fun i e => by cases e; omega, mk _ (v / 10) rfl ?_⟩
          unfold S_p_law_near m_p_law_near
          simp [List.replicate, c, h]
        · refine ⟨.int b, _, .int _ (by omega) (by omega), fun i e => by cases e; omega, mk _ (v / 10) rfl ?_⟩
          unfold S_p_law_near m_p_law_near
          simp [List.replicate, c, h]
      · have c2 := c_next (S := [.lst [.int (v / 10)]]) (n := 0) (v := v / 10) rfl (b - a + 1) (by omega) (by omega)
        have g1 := Int.emod_nonneg (v / 10) (b := b - a + 1) (by omega)
        have g2 := Int.emod_lt_of_pos (v / 10) (show 0 < b - a + 1 by omega)
        simp only [List.set_cons_zero] at c2
        refine ⟨.int (a + v / 10 % (b - a + 1)), _, .int _ (by omega) (by omega), fun i e => by cases e; omega, mk _ (v / 10 / (b - a + 1)) rfl ?_⟩
        unfold S_p_law_near m_p_law_near
        simp [List.replicate, c, h9, h8, h5, c2]
/-! ### what is due -/
def goodB : D → Int → Bool
  | .int i, k => decide (k ≤ i)
  | _, _ => false
theorem good_ok {d : D} (h : Th d) (k : Int) (S : Store) : callSub S_p_law_good [d, .int k] S = .ok (.bl (goodB d k)) S := by
  refine callSub_ok (S' := []) (by simp [pureL, h.pure, D.pure]) ?_ rfl
  unfold S_p_law_good m_p_law_good
  cases h <;> simp [List.replicate, tyS, isiT, goodB]
theorem gi (i k : Int) : goodB (.int i) k = decide (k ≤ i) := rfl
theorem callSub_ex {sem : Sem'} {args : List D} {C : Str} {S S' : Store} (hp : pureL args = true) (h : sem args [] = .ex C [] S') : callSub sem args S = .ex C [] S := by
  have pb : putBack S [] S' = S := by simp [putBack]
  unfold callSub
  rw [subArgs_pure args 0 hp]
  have h' : sem args (subOf S []) = .ex C [] S' := h
  simp only [h', List.nodup_nil, if_true, pb]
  simp [pureF]
def sizesB (m e : D) : Bool := goodB m 1 && (goodB e 1 && !goodB e 7)
theorem whole_ok {d : D} (h : Th d) (S : Store) : callSub S_is_whole [d, .int 1, .int 6] S = .ok (.bl (goodB d 1 && !goodB d 7)) S := by
  refine callSub_ok (S' := []) (by simp [pureL, h.pure, D.pure]) ?_ rfl
  unfold S_is_whole m_is_whole
  cases h with
  | int i _ _ =>
    by_cases h1 : 1 ≤ i
    · by_cases h2 : i ≤ 6
      · have : ¬ 7 ≤ i := by omega
        simp [List.replicate, tyS, isiT, goodB, h1, h2, this]
      · have : 7 ≤ i := by omega
        simp [List.replicate, tyS, isiT, goodB, h1, h2, this]
    · simp [List.replicate, tyS, isiT, goodB, h1]
  | _ => simp [List.replicate, tyS, isiT, goodB]
theorem need_ok {m e : D} (hm : Th m) (he : Th e) (S : Store) : callSub S_need_sizes [m, e] S = if sizesB m e then .ok .non S else .ex "BadNumber" [] S := by
  have w := whole_ok he
  have hs : S_need_sizes [m, e] [] = if sizesB m e then .ok .non [] else .ex "BadNumber" [] [] := by
    unfold S_need_sizes m_need_sizes sizesB
    cases hm with
    | int i _ _ =>
      by_cases h1 : 1 ≤ i
      · have h2 : ¬ i < 1 := by omega
        generalize goodB e 1 = x at *
        generalize goodB e 7 = y at *
        cases x <;> cases y <;> simp [List.replicate, tyS, isiT, gi, h1, h2, w]
      · have h2 : i < 1 := by omega
        simp [List.replicate, tyS, isiT, gi, h1, h2]
    | _ => simp [List.replicate, tyS, isiT, goodB, sizesB]
  by_cases h : sizesB m e = true
  · rw [if_pos h] at hs ⊢
    exact callSub_ok (by simp [pureL, hm.pure, he.pure]) hs rfl
  · rw [if_neg h] at hs ⊢
    exact callSub_ex (by simp [pureL, hm.pure, he.pure]) hs
end K03

namespace K03
open PySem L2 DL
noncomputable def q0 : FS := (gSet 2 (fCall S_p_law_state (fun ds es => pick [(0, 0), (0, 1)] ds es []) 2 0 2 (fCons (fVar 0) (fCons (fVar 1) (fun _ S => .ok [] S))) (fun _ S => .ok [] S)))
noncomputable def q1 : FS := (gSet 3 (fCall (callSub S_p_law_near) (fun ds es => pick [(0, 0), (0, 1), (0, 2)] ds es []) 3 0 3 (fCons (fVar 2) (fCons (fC (.int 1)) (fCons (fCall (callSub S_p_law_pick) (fun ds es => pick [(0, 0), (0, 1)] ds es []) 2 0 2 (fCons (fVar 2) (fCons (fLst (fCons (fC (.int 20)) (fCons (fBin gPow (fC (.int 10)) (fC (.int 30))) (fun _ S => .ok [] S)))) (fun _ S => .ok [] S))) (fun _ S => .ok [] S)) (fun _ S => .ok [] S)))) (fun _ S => .ok [] S)))
noncomputable def q2 : FS := (gAsg (mTup 2 (mCons (mName 4) (mCons (mName 5) (fun ds ρ _ => match ds with | [] => some ρ | _ => none)))) (fTup (fCons (fCall (callSub S_p_law_near) (fun ds es => pick [(0, 0), (0, 1), (0, 2)] ds es []) 3 0 3 (fCons (fVar 2) (fCons (fC (.int 1)) (fCons (fC (.int 6)) (fun _ S => .ok [] S)))) (fun _ S => .ok [] S)) (fCons (fCall (callSub S_p_law_near) (fun ds es => pick [(0, 0), (0, 1), (0, 2)] ds es []) 3 0 3 (fCons (fVar 2) (fCons (fC (.int 6)) (fCons (fCall (callSub S_p_law_pick) (fun ds es => pick [(0, 0), (0, 1)] ds es []) 2 0 2 (fCons (fVar 2) (fCons (fLst (fCons (fC (.int 40)) (fCons (fBin gPow (fC (.int 10)) (fC (.int 9))) (fun _ S => .ok [] S)))) (fun _ S => .ok [] S))) (fun _ S => .ok [] S)) (fun _ S => .ok [] S)))) (fun _ S => .ok [] S)) (fun _ S => .ok [] S)))))
noncomputable def q3 : FS := (gSet 6 (fBin gEq (fCall (callSub S_p_law_next) (fun ds es => pick [(0, 0), (0, 1)] ds es []) 2 0 2 (fCons (fVar 2) (fCons (fC (.int 3)) (fun _ S => .ok [] S))) (fun _ S => .ok [] S)) (fC (.int 0))))
noncomputable def q4 : FS := (gIf (toB (fVar 6)) (gSeq (gSet 7 (fTold ("law", none) ((("law" : Str) ++ ".<locals>.") ++ "<lambda>") 4 m_p_law_said (fCall (callSub S_enough) (fun ds es => pick [(1, 0), (2, 0), (1, 1)] ds es [.int 6]) 0 2 3 (fun _ S => .ok [] S) (fCons (fVar 3) (fCons (fVar 5) (fun _ S => .ok [] S)))))) (gSet 4 (fC (.int 6)))) (gSet 7 (fTold ("law", none) ((("law" : Str) ++ ".<locals>.") ++ "<lambda>") 4 m_p_law_said (fCall (callSub S_enough) (fun ds es => pick [(0, 0), (1, 1), (1, 0)] ds es []) 1 2 3 (fCons (fVar 3) (fun _ S => .ok [] S)) (fCons (fVar 5) (fCons (fVar 4) (fun _ S => .ok [] S)))))))
noncomputable def q5 : FS := (gSet 8 (fAndV (fCall (callSub S_p_law_good) (fun ds es => pick [(0, 0), (0, 1)] ds es []) 2 0 2 (fCons (fVar 3) (fCons (fC (.int 1)) (fun _ S => .ok [] S))) (fun _ S => .ok [] S)) (fAndV (fCall (callSub S_p_law_good) (fun ds es => pick [(0, 0), (0, 1)] ds es []) 2 0 2 (fCons (fVar 4) (fCons (fC (.int 1)) (fun _ S => .ok [] S))) (fun _ S => .ok [] S)) (fBin gLt (fVar 4) (fC (.int 7))))))
noncomputable def q6 : FS := (gSet 9 (fC (.str "number")))
noncomputable def q7 : FS := (gIf (fAndT (toB (fVar 8)) (toB (fCall (callSub S_p_law_good) (fun ds es => pick [(0, 0), (0, 1)] ds es []) 2 0 2 (fCons (fVar 5) (fCons (fC (.int 6)) (fun _ S => .ok [] S))) (fun _ S => .ok [] S)))) (gSet 9 (fBin gMul (fBin gAdd (fVar 3) (fBin gMul (fC (.int 2)) (fBin gAdd (fBin gDiv (fBin gAdd (fBin gMul (fC (.int 4)) (fVar 3)) (fC (.int 4))) (fBin gSub (fVar 5) (fC (.int 5)))) (fC (.int 1))))) (fBin gAdd (fC (.int 1)) (fVar 4)))) gNil)
noncomputable def q8 : FS := (gIf (fOrT (toB (fBin gNe (fVar 7) (fVar 9))) (toB (fCB gIsi (fCons (fVar 7) (fCons (fC (.ty "bool")) (fun _ S => .ok [] S)))))) (gRet (fC (.bl false))) gNil)
noncomputable def q9 : FS := (gIf (fAndT (fNotT (toB (fVar 8))) (toB (fBin gNe (fTold ("law", none) ((("law" : Str) ++ ".<locals>.") ++ "<lambda>") 4 m_p_law_said (fCall (callSub S_too_small) (fun ds es => pick [(1, 1), (1, 2), (2, 0), (1, 0)] ds es [.int 24]) 0 3 4 (fun _ S => .ok [] S) (fCons (fVar 4) (fCons (fVar 3) (fCons (fC (.int 9)) (fun _ S => .ok [] S)))))) (fC (.str "number"))))) (gRet (fC (.bl false))) gNil)
noncomputable def lawbody : FS := gSeq q0 (gSeq q1 (gSeq q2 (gSeq q3 (gSeq q4 (gSeq q5 (gSeq q6 (gSeq q7 (gSeq q8 q9))))))))
theorem m_law_eq : m_law = (gSeq (gFor (fRng1 (fCons (fCB gMax (fCons (fC (.int 1)) (fCons (fCB gMin (fCons (fC (.int 12)) (fCons (fCB gLen (fCons (fVar 0) (fun _ S => .ok [] S))) (fun _ S => .ok [] S)))) (fun _ S => .ok [] S)))) (fun _ S => .ok [] S))) (mName 1) lawbody) (gRet (fC (.bl true)))) := rfl
def dueI (m e p : Int) : Int := (m + 2 * ((4 * m + 4) / (p - 5) + 1)) * (1 + e)
/-- what is told -/
def toldD (m e p : D) : Option D := match m, e, p with
  | .int m, .int e, .int p => if sizesB (.int m) (.int e) && goodB (.int p) 6 then some (.int (dueI m e p)) else none
  | _, _, _ => none
theorem sizes_int {m e : D} (h : sizesB m e = true) : ∃ i j, m = .int i ∧ e = .int j ∧ 1 ≤ i ∧ 1 ≤ j ∧ j ≤ 6 := by
  unfold sizesB at h
  cases m with
  | int i =>
    cases e with
    | int j =>
      simp only [gi, Bool.and_eq_true, decide_eq_true_eq, Bool.not_eq_true', decide_eq_false_iff_not] at h
      exact ⟨i, j, rfl, rfl, h.1, h.2.1, by omega⟩
    | _ => simp [goodB] at h
  | _ => simp [goodB] at h
theorem good_int {p : D} {k : Int} (h : goodB p k = true) : ∃ i, p = .int i ∧ k ≤ i := by
  cases p with
  | int i => exact ⟨i, rfl, by simpa [gi] using h⟩
  | _ => simp [goodB] at h
theorem told_none {m e p : D} (h : sizesB m e = false ∨ goodB p 6 = false) : toldD m e p = none := by
  unfold toldD
  split
  · rcases h with h | h <;> simp [h]
  · rfl
theorem enough_ok {m e p : D} (hm : Th m) (he : Th e) (hp : Th p) (hb : ∀ i, p = .int i → i ≤ 1000000000) (S : Store) :
    callSub S_enough [m, e, p] S = match toldD m e p with | some d => .ok d S | none => .ex "BadNumber" [] S := by
  have n := need_ok hm he
  have pu : pureL [m, e, p] = true := by simp [pureL, hm.pure, he.pure, hp.pure]
  by_cases h : sizesB m e = true
  · obtain ⟨i, j, rfl, rfl, h1, h2, h3⟩ := sizes_int h
    by_cases hg : goodB p 6 = true
    · obtain ⟨q, rfl, hq⟩ := good_int hg
      have hb' := hb q rfl
      have e1 : toldD (.int i) (.int j) (.int q) = some (.int (dueI i j q)) := by simp only [toldD, h, hg, Bool.and_self, if_true]
      rw [e1]
      refine callSub_ok (S' := []) pu ?_ rfl
      have c1 : cMul 4 i = true := cMul_l (by decide) (by decide)
      have c2 : ∀ x, cMul 2 x = true := fun x => cMul_l (by decide) (by decide)
      have c3 : ∀ x, cMul x (1 + j) = true := fun x => cMul_r (by omega) (by omega)
      have d1 : (0 : Int) < q - 5 := by omega
      have d2 : q - 5 < 1073741824 := by omega
      have n1 : ¬ q < 6 := by omega
      have dv : ∀ (x : Int) (S : Store), gDiv (.int x) (.int (q - 5)) S = .ok (.int (x / (q - 5))) S := fun x S => e_gDiv _ _ _ d1 d2
      unfold S_enough m_enough
      simp [List.replicate, n, h, tyS, isiT, n1, c1, c2, c3, dv, dueI]
    · have e1 : toldD (.int i) (.int j) p = none := told_none (.inr (by simpa using hg))
      rw [e1]
      refine callSub_ex (S' := []) pu ?_
      unfold S_enough m_enough
      cases hp with
      | int q _ _ =>
        have : q < 6 := by
          simp [gi] at hg
          omega
        simp [List.replicate, n, h, tyS, isiT, this]
      | _ => simp [List.replicate, n, h, tyS, isiT]
  · have e1 : toldD m e p = none := told_none (.inl (by simpa using h))
    rw [e1]
    refine callSub_ex (S' := []) pu ?_
    unfold S_enough m_enough
    simp [List.replicate, n, h]
theorem small_ok {m e : D} (hm : Th m) (he : Th e) (h : sizesB m e = false) (S : Store) : callSub S_too_small [m, .int 9, .int 24, e] S = .ex "BadNumber" [] S := by
  have n := need_ok hm he
  refine callSub_ex (S' := []) (by simp [pureL, hm.pure, he.pure, D.pure]) ?_
  unfold S_too_small m_too_small
  simp [List.replicate, n, h]
theorem said_ex (th : Store → Res D) (S : Store) (h : th S = .ex "BadNumber" [] S) : (m_p_law_said th (List.replicate 4 none) S).res = .ok (.str "number") S := by
  have i1 : ∀ S, gIsX tb_ValueError (.ty "ValueError") [.exc "BadNumber" [], .ty "ValueError"] S = .ok (.bl true) S := fun S => by simp [gIsX, isArg, List.lookup]
  unfold m_p_law_said
  simp [gTry, gActSet, h, hdM, List.replicate, i1, Out.undo, D.isNon]
theorem said_int (th : Store → Res D) (S : Store) (i : Int) (h : th S = .ok (.int i) S) : (m_p_law_said th (List.replicate 4 none) S).res = .ok (.int i) S := by
  unfold m_p_law_said
  simp [gTry, gActSet, h, hdM, List.replicate, D.isNon]
def Tb (T : Store) : Prop := T.any (isTab ("law", none) ((("law" : Str) ++ ".<locals>.") ++ "<lambda>")) = true
theorem Tb.app {T : Store} (h : Tb T) (U : Store) : Tb (T ++ U) := by
  unfold Tb at h ⊢
  rw [List.any_append, h, Bool.true_or]
def saidD : Option D → D
  | some d => d
  | none => .str "number"
theorem told_said {m e p : D} (hm : Th m) (he : Th e) (hp : Th p) (hb : ∀ i, p = .int i → i ≤ 1000000000) {fb : FE} {ρ : EnvD} {S : Store} (hT : Tb S) (hf : fb ρ S = callSub S_enough [m, e, p] S) :
    fTold ("law", none) ((("law" : Str) ++ ".<locals>.") ++ "<lambda>") 4 m_p_law_said fb ρ S = .ok (saidD (toldD m e p)) S := by
  unfold fTold
  rw [if_pos (show S.any _ = true from hT)]
  have q := enough_ok hm he hp hb S
  cases h : toldD m e p with
  | none =>
    rw [h] at q
    exact said_ex _ S (hf.trans q)
  | some d =>
    rw [h] at q
    have : ∃ i, d = .int i := by
      unfold toldD at h
      split at h
      · split at h
        · cases h
          exact ⟨_, rfl⟩
        · cases h
      · cases h
    obtain ⟨i, rfl⟩ := this
    exact said_int _ S i (hf.trans q)
theorem small_said {m e : D} (hm : Th m) (he : Th e) (h : sizesB m e = false) {fb : FE} {ρ : EnvD} {S : Store} (hT : Tb S) (hf : fb ρ S = callSub S_too_small [m, .int 9, .int 24, e] S) :
    fTold ("law", none) ((("law" : Str) ++ ".<locals>.") ++ "<lambda>") 4 m_p_law_said fb ρ S = .ok (.str "number") S := by
  unfold fTold
  rw [if_pos (show S.any _ = true from hT)]
  exact said_ex _ S (hf.trans (small_ok hm he h S))
abbrev sc (ns : List Int) : Option D := some (.scr (ns.map D.int))
/-- from the told sizes on -/
theorem rest_ok {m e p : D} (hm : Th m) (he : Th e) (hp : Th p) (hb : ∀ i, p = .int i → i ≤ 1000000000) {T : Store} (hT : Tb T) (x0 x1 x2 x6 x8 x9 : Option D) :
    ∃ y8 y9, (gSeq q5 (gSeq q6 (gSeq q7 (gSeq q8 q9)))) [x0, x1, x2, some m, some e, some p, x6, some (saidD (toldD m e p)), x8, x9] T = .nx [x0, x1, x2, some m, some e, some p, x6, some (saidD (toldD m e p)), y8, y9] T := by
  have g1 := good_ok hm 1
  have g2 := good_ok he 1
  have g3 := good_ok hp 6
  have v5 : (fAndV (fCall (callSub S_p_law_good) (fun ds es => pick [(0, 0), (0, 1)] ds es []) 2 0 2 (fCons (fVar 3) (fCons (fC (.int 1)) (fun _ S => .ok [] S))) (fun _ S => .ok [] S)) (fAndV (fCall (callSub S_p_law_good) (fun ds es => pick [(0, 0), (0, 1)] ds es []) 2 0 2 (fCons (fVar 4) (fCons (fC (.int 1)) (fun _ S => .ok [] S))) (fun _ S => .ok [] S)) (fBin gLt (fVar 4) (fC (.int 7))))) [x0, x1, x2, some m, some e, some p, x6, some (saidD (toldD m e p)), x8, x9] T = .ok (.bl (sizesB m e)) T := by
    unfold sizesB
    cases h1 : goodB m 1 with
    | false => simp [g1, h1]
    | true =>
      cases h2 : goodB e 1 with
      | false => simp [g1, h1, g2, h2]
      | true =>
        obtain ⟨j, rfl, hj⟩ := good_int h2
        simp only [e_fAndV, e_fCall, e_fCons, e_fVar, e_fC, List.getElem?_cons_succ, List.getElem?_cons_zero, Res.bind_ok]
        simp [g1, h1, g2, h2, gi]
        by_cases h7 : j < 7
        · have : ¬ 7 ≤ j := by omega
          simp [h7, this]
        · have : 7 ≤ j := by omega
          simp [h7, this]
  refine ⟨some (.bl (sizesB m e)), some (saidD (toldD m e p)), ?_⟩
  rw [e_gSeq]
  unfold q5 q6
  rw [e_gSet, v5]
  simp only [Res.into_ok, Out.seq_nx, List.set_cons_succ, List.set_cons_zero, e_gSeq, e_gSet, e_fC]
  have v7 : q7 [x0, x1, x2, some m, some e, some p, x6, some (saidD (toldD m e p)), some (.bl (sizesB m e)), some (.str "number")] T = .nx [x0, x1, x2, some m, some e, some p, x6, some (saidD (toldD m e p)), some (.bl (sizesB m e)), some (saidD (toldD m e p))] T := by
    unfold q7
    by_cases h : sizesB m e = true
    · by_cases hg : goodB p 6 = true
      · obtain ⟨i, j, rfl, rfl, h1, h2, h3⟩ := sizes_int h
        obtain ⟨q, rfl, hq⟩ := good_int hg
        have hb' := hb q rfl
        have e1 : toldD (.int i) (.int j) (.int q) = some (.int (dueI i j q)) := by simp only [toldD, h, hg, Bool.and_self, if_true]
        have c1 : cMul 4 i = true := cMul_l (by decide) (by decide)
        have c2 : ∀ x, cMul 2 x = true := fun x => cMul_l (by decide) (by decide)
        have c3 : ∀ x, cMul x (1 + j) = true := fun x => cMul_r (by omega) (by omega)
        have d1 : (0 : Int) < q - 5 := by omega
        have d2 : q - 5 < 1073741824 := by omega
        have dv : ∀ (x : Int) (S : Store), gDiv (.int x) (.int (q - 5)) S = .ok (.int (x / (q - 5))) S := fun x S => e_gDiv _ _ _ d1 d2
        simp [e1, saidD, h, g3, hg, c1, c2, c3, dv, dueI]
      · have e1 : toldD m e p = none := told_none (.inr (by simpa using hg))
        simp [e1, saidD, h, g3, hg]
    · have e1 : toldD m e p = none := told_none (.inl (by simpa using h))
      simp [e1, saidD, h]
  rw [v7]
  simp only [Out.seq_nx, e_gSeq]
  have v8 : q8 [x0, x1, x2, some m, some e, some p, x6, some (saidD (toldD m e p)), some (.bl (sizesB m e)), some (saidD (toldD m e p))] T = .nx [x0, x1, x2, some m, some e, some p, x6, some (saidD (toldD m e p)), some (.bl (sizesB m e)), some (saidD (toldD m e p))] T := by
    unfold q8
    cases h : toldD m e p with
    | none => simp [saidD, tyS, isiT]
    | some d =>
      have : ∃ i, d = .int i := by
        unfold toldD at h
        split at h
        · split at h
          · cases h
            exact ⟨_, rfl⟩
          · cases h
        · cases h
      obtain ⟨i, rfl⟩ := this
      simp [saidD, tyS, isiT]
  rw [v8]
  simp only [Out.seq_nx]
  unfold q9
  cases h : sizesB m e with
  | true => simp
  | false =>
    have s := small_said hm he h hT (fb := (fCall (callSub S_too_small) (fun ds es => pick [(1, 1), (1, 2), (2, 0), (1, 0)] ds es [.int 24]) 0 3 4 (fun _ S => .ok [] S) (fCons (fVar 4) (fCons (fVar 3) (fCons (fC (.int 9)) (fun _ S => .ok [] S)))))) (ρ := [x0, x1, x2, some m, some e, some p, x6, some (saidD (toldD m e p)), some (.bl false), some (saidD (toldD m e p))]) (by simp)
    simp only [e_gIf, e_fAndT, e_fNotT, e_toB, e_fVar, List.getElem?_cons_succ, List.getElem?_cons_zero, Res.bind_ok, Bool.not_false, if_true, e_fBin]
    rw [s]
    simp
theorem body_ok (ns : List Int) (k : Nat) (hk : k < 1000000) (x2 x3 x4 x5 x6 x7 x8 x9 : Option D) (T : Store) (hT : Tb T) : ∃ y2 y3 y4 y5 y6 y7 y8 y9 T', lawbody [sc ns, some (.int k), x2, x3, x4, x5, x6, x7, x8, x9] T = .nx [sc ns, some (.int k), y2, y3, y4, y5, y6, y7, y8, y9] T' ∧ Tb T' := by
  obtain ⟨v, h1⟩ := state_ok ns k hk T
  have gl := fun v => get_last T (SO.lst [D.int v])
  obtain ⟨b1, hb1, p1⟩ := pick_ok v (xs := [.int 20, .int 1000000000000000000000000000000]) (by decide) (by decide) (by rfl)
  have p1' := p1 (gl v)
  rw [set_last] at p1'
  obtain ⟨B1, rfl, B11, B12⟩ : ∃ B : Int, b1 = .int B ∧ 1 ≤ B ∧ B ≤ 1000000000000000000000000000000 := by
    simp only [List.mem_cons, List.not_mem_nil, or_false] at hb1
    rcases hb1 with rfl | rfl
    · exact ⟨_, rfl, by decide, by decide⟩
    · exact ⟨_, rfl, by decide, by decide⟩
  obtain ⟨m, v2, tm, _, n1⟩ := near_ok (v / 2) 1 B1 (by decide) B11 B12
  have n1' := n1 (gl (v / 2))
  rw [set_last] at n1'
  obtain ⟨e, v3, te, _, n2⟩ := near_ok v2 1 6 (by decide) (by decide) (by decide)
  have n2' := n2 (gl v2)
  rw [set_last] at n2'
  obtain ⟨b2, hb2, p2⟩ := pick_ok v3 (xs := [.int 40, .int 1000000000]) (by decide) (by decide) (by rfl)
  have p2' := p2 (gl v3)
  rw [set_last] at p2'
  obtain ⟨B2, rfl, B21, B22⟩ : ∃ B : Int, b2 = .int B ∧ 6 ≤ B ∧ B ≤ 1000000000 := by
    simp only [List.mem_cons, List.not_mem_nil, or_false] at hb2
    rcases hb2 with rfl | rfl
    · exact ⟨_, rfl, by decide, by decide⟩
    · exact ⟨_, rfl, by decide, by decide⟩
  obtain ⟨p, v4, tp, pb, n3⟩ := near_ok (v3 / 2) 6 B2 (by decide) B21 (by omega)
  have n3' := n3 (gl (v3 / 2))
  rw [set_last] at n3'
  have c3 := c_next (gl v4) 3 (by decide) (by decide)
  rw [set_last] at c3
  have hT' := hT.app [.lst [.int (v4 / 3)]]
  have pb' : ∀ i, p = .int i → i ≤ 1000000000 := fun i h => by have := pb i h; omega
  simp only [List.length_cons, List.length_nil] at p1' p2'
  have p1'' : callSub S_p_law_pick [.oid T.length, .lst [.int 20, .int 1000000000000000000000000000000]] (T ++ [.lst [.int v]]) = .ok (.int B1) (T ++ [.lst [.int (v / 2)]]) := p1'
  have p2'' : callSub S_p_law_pick [.oid T.length, .lst [.int 40, .int 1000000000]] (T ++ [.lst [.int v3]]) = .ok (.int B2) (T ++ [.lst [.int (v3 / 2)]]) := p2'
  have pre : ∀ (g : FS), (gSeq q0 (gSeq q1 (gSeq q2 (gSeq q3 g)))) [sc ns, some (.int k), x2, x3, x4, x5, x6, x7, x8, x9] T = g [sc ns, some (.int k), some (.oid T.length), some m, some e, some p, some (.bl (decide (v4 % 3 = 0))), x7, x8, x9] (T ++ [.lst [.int (v4 / 3)]]) := fun g => by
    unfold q0 q1 q2 q3
    simp [h1, p1030, p109, p1'', short_le, n1', n2', p2'', n3', c3]
  have gt1 : T ++ [.lst [.int (v4 / 3)]] = T ++ [.lst [.int (v4 / 3)]] := rfl
  by_cases hz : v4 % 3 = 0
  · have s := told_said tm (Th.int 6 (by decide) (by decide)) tp pb' hT' (fb := (fCall (callSub S_enough) (fun ds es => pick [(1, 0), (2, 0), (1, 1)] ds es [.int 6]) 0 2 3 (fun _ S => .ok [] S) (fCons (fVar 3) (fCons (fVar 5) (fun _ S => .ok [] S))))) (ρ := [sc ns, some (.int k), some (.oid T.length), some m, some e, some p, some (.bl (decide (v4 % 3 = 0))), x7, x8, x9]) (by simp)
    obtain ⟨y8, y9, r⟩ := rest_ok tm (Th.int 6 (by decide) (by decide)) tp pb' hT' (sc ns) (some (.int k)) (some (.oid T.length)) (some (.bl (decide (v4 % 3 = 0)))) x8 x9
    refine ⟨some (.oid T.length), some m, some (.int 6), some p, some (.bl true), some (saidD (toldD m (.int 6) p)), y8, y9, T ++ [.lst [.int (v4 / 3)]], ?_, hT'⟩
    unfold lawbody
    rw [pre, e_gSeq]
    unfold q4
    rw [e_gIf]
    simp only [e_toB, e_fVar, List.getElem?_cons_succ, List.getElem?_cons_zero, Res.bind_ok, Res.into_ok, hz, decide_true, if_true]
    simp only [hz, decide_true] at s r
    rw [e_gSeq, e_gSet, s]
    simp only [Res.into_ok, Out.seq_nx, List.set_cons_succ, List.set_cons_zero, e_gSet, e_fC]
    exact r
  · have s := told_said tm te tp pb' hT' (fb := (fCall (callSub S_enough) (fun ds es => pick [(0, 0), (1, 1), (1, 0)] ds es []) 1 2 3 (fCons (fVar 3) (fun _ S => .ok [] S)) (fCons (fVar 5) (fCons (fVar 4) (fun _ S => .ok [] S))))) (ρ := [sc ns, some (.int k), some (.oid T.length), some m, some e, some p, some (.bl (decide (v4 % 3 = 0))), x7, x8, x9]) (by simp)
    obtain ⟨y8, y9, r⟩ := rest_ok tm te tp pb' hT' (sc ns) (some (.int k)) (some (.oid T.length)) (some (.bl (decide (v4 % 3 = 0)))) x8 x9
    refine ⟨some (.oid T.length), some m, some e, some p, some (.bl false), some (saidD (toldD m e p)), y8, y9, T ++ [.lst [.int (v4 / 3)]], ?_, hT'⟩
    unfold lawbody
    rw [pre, e_gSeq]
    unfold q4
    rw [e_gIf]
    simp only [e_toB, e_fVar, List.getElem?_cons_succ, List.getElem?_cons_zero, Res.bind_ok, Res.into_ok, hz, decide_false, Bool.false_eq_true, if_false]
    simp only [hz, decide_false] at s r
    rw [e_gSet, s]
    simp only [Res.into_ok, Out.seq_nx, List.set_cons_succ, List.set_cons_zero]
    exact r
theorem good (ns : List Int) (hn : ns.length ≤ 63) : ∃ S, S_law [.scr (ns.map D.int)] (tabS tq) = .ok (.bl true) S := by
  obtain ⟨m, hm, hm2⟩ : ∃ m : Nat, (if (1 : Int) < (if (ns.length : Int) < 12 then (ns.length : Int) else 12) then (if (ns.length : Int) < 12 then (ns.length : Int) else 12) else 1) = (m : Int) ∧ m < 1000000 := by
    refine ⟨(if (1 : Int) < (if (ns.length : Int) < 12 then (ns.length : Int) else 12) then (if (ns.length : Int) < 12 then (ns.length : Int) else 12) else 1).toNat, ?_, ?_⟩
    · split <;> split <;> omega
    · split <;> split <;> omega
  have hT0 : Tb (tabS tq) := by
    show (tabS tq).any _ = true
    decide +kernel
  obtain ⟨ρ', S', hl, y1, y2, y3, y4, y5, y6, y7, y8, y9, rfl, hS⟩ := loop_inv (m := mName 1) (b := lawbody) (fun j ρ S => ∃ y1 y2 y3 y4 y5 y6 y7 y8 y9, ρ = [sc ns, y1, y2, y3, y4, y5, y6, y7, y8, y9] ∧ Tb S)
    (rng 0 m) 0 [sc ns, none, none, none, none, none, none, none, none, none] (tabS tq) ⟨none, none, none, none, none, none, none, none, none, rfl, hT0⟩ (by
    rintro j e ρ S hd ⟨y1, y2, y3, y4, y5, y6, y7, y8, y9, rfl, hS⟩
    obtain ⟨rfl, hj⟩ := rng_get hd
    have e : (0 : Int) + (j : Nat) = (j : Nat) := by omega
    rw [e]
    obtain ⟨z2, z3, z4, z5, z6, z7, z8, z9, T', hb, hT'⟩ := body_ok ns j (by omega) y2 y3 y4 y5 y6 y7 y8 y9 S hS
    exact ⟨_, _, _, rfl, .inl hb, _, _, _, _, _, _, _, _, _, rfl, hT'⟩)
  refine ⟨S', ?_⟩
  unfold S_law
  rw [m_law_eq, e_semOf, e_startD, e_gSeq, e_gFor]
  have fi : fRng1 (fCons (fCB gMax (fCons (fC (.int 1)) (fCons (fCB gMin (fCons (fC (.int 12)) (fCons (fCB gLen (fCons (fVar 0) (fun _ S => .ok [] S))) (fun _ S => .ok [] S)))) (fun _ S => .ok [] S)))) (fun _ S => .ok [] S)) (([D.scr (ns.map D.int)] : List D).map some ++ List.replicate (10 - [D.scr (ns.map D.int)].length) none) (tabS tq) = .ok ⟨rng 0 m, none⟩ (tabS tq) := by
    rw [e_fRng1]
    simp only [e_fCons, e_fCB, e_fC, e_fVar, List.map_cons, List.map_nil, List.cons_append, List.nil_append, List.getElem?_cons_zero, Res.bind_ok, e_len_s, List.length_map, e_min2, e_max2, gt_iff_lt, hm, cRng_nat hm2, if_true]
  rw [fi]
  simp only [Res.into_ok]
  have h1' : loopF none (mName 1) lawbody (rng 0 m) (([D.scr (ns.map D.int)] : List D).map some ++ List.replicate (10 - [D.scr (ns.map D.int)].length) none) (tabS tq) = _ := hl
  rw [h1', Out.seq_nx, e_gRet]
  rfl
end K03

open PySem PySem.W PySem.Calls PyProof.Rows
theorem PySem.Challenge.cw_reachyard_k66_enough_holds : PySem.Challenge.rw_reachyard_k66_enough.Holds := by
  w_on; o_law
  refine HandSHeadRun.head_any (r := OpenLaw.row PySem.Challenge.rw_reachyard_k66_enough) (q := view (OpenLaw.row PySem.Challenge.rw_reachyard_k66_enough).prog [32]) (H := K03.hk) (ob := K03.ob) (M := 40000) (loose := K03.loose) (d := HandSHeadRun.topDef (OpenLaw.row PySem.Challenge.rw_reachyard_k66_enough).prog 32) (kwd := []) K03.ob_eq
    (by kernel_rfl) (fun s => by kernel_rfl) K03.run (by kernel_rfl) (by kernel_rfl) (by kernel_rfl) (by rfl) (by first | assumption | decide +kernel) (by decide +kernel) ⟨rfl, rfl, rfl, rfl, rfl, by decide +kernel⟩ ?hw ?hc
  case hw => w_witness2
  case hc =>
    refine DL.walk_ofGT (l := PySem.Challenge.rw_reachyard_k66_enough) (n := 63) (k := 33) (x := "_law_script") (sem := K03.S_law) (tq := K03.tq) rfl (by decide) (by kernel_rfl) ⟨rfl, by decide, by decide⟩ K03.good ?F
    intro w mg fa h Y G hmg0
    obtain ⟨K, KX, Sy⟩ := Y
    have hmg : mg ("law" : PySem.Str) = some (.ref fa) := by
      have e : (HandSHeadRun.topDef (OpenLaw.row PySem.Challenge.rw_reachyard_k66_enough).prog 32).name = ("law" : PySem.Str) := by kernel_rfl
      rw [← e]
      exact hmg0
    have T := K03.txt_of KX G Sy.says Sy.ex
    have e := hmg.symm.trans (K03.glo_law T)
    cases e
    obtain ⟨fd, F⟩ := K03.fun_law T
    refine ⟨K, fd, KX, Sy.tabs, Sy.out, Sy.hd, Sy.nd, fun s v => L2.FunD.bindsA (ps := ["_law_script"]) F (fun _ _ _ _ _ _ us hl => match us, hl with | [_], _ => rfl) s [v] rfl, fun base kb gb TB => ?_⟩
    obtain ⟨fd2, F2, G2⟩ := K03.ok_law (P := (PySem.Challenge.rw_reachyard_k66_enough).prog) (w := w) (base := base) T TB
    have ed : fd2 = fd := by
      obtain ⟨_, _, _, _, _, _, _, _, _, _, e1, l1, _⟩ := F.ex
      obtain ⟨_, _, _, _, _, _, _, _, _, _, e2, l2, _⟩ := F2.ex
      rw [l1] at l2
      cases l2
      rfl
    rw [ed] at G2
    exact G2

