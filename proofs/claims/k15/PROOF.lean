import PyProof.Rows.All
import Wide.All
import OpenK.AllK
import Wide.FinOn
import HandS.Base
import HandS.Call
import HandS.List
import HandS.Comp
import HandS.HeadHook1
import HandS.Lambda
import HandS.Iter
import HandS.Zip
import KE.GoesEnum
import KE.GoesMore
import HandS.Exc
import HandS.ExcOwn
import HandS.Defaults
import HandS.Words
import HandS.WordsExc
import HandS.TupAny
import HandS.TupMul
import HandS.Deep
import HandS.IsInst
import HandS.Conv
import HandS.Text
import HandS.More
import HandS.Style
import HandS.Ends
import HandS.Head0
import HandS.Head1
import HandS.Head2
import HandS.HeadEnd
import HandS.HeadHook2
import HandS.HeadHook3
import HandS.HeadHook4
import HandS.HeadWalk
import HandS.EndTab
import HandS.Dict
import HandS.DictComp
import HandS.Strs
import HandS.ExcInit
import HandS.ExcField
import HandS.ExcIs
import HandS.FStr
import HandS.SetFor
import PyProof.StrOps2
import KE.KDictZip
import HandS.SortRule
import PyProof.TupleOfSeq
import KE.DataMinMax
import HandS.CallSlots
import KE.GoesComp
import KE.GoesRaise
import PySem.Challenge.RW_streetrounds_k15_any_text_read
set_option Elab.async false
set_option linter.all false
set_option maxRecDepth 100000
set_option maxHeartbeats 4000000
namespace Sm
open PySem L2
/-! values without addresses: tuples by value, lists, dicts, instances by a place in a memory -/
inductive Val where
  | non | bl (b : Bool) | int (i : Int) | str (x : Str) | tup (l : List Val) | frz (l : List Int) | loc (n : Nat) | exc (C : Str) (fs : List (Str × Int))
inductive Cell where
  | lst (l : List Val)
  | dK (kvs : List (Key × Val))
  | dT (kvs : List (List Key × Val))
  | ins (C : Str) (fs : List (Str × Val))
  | fn
abbrev Mem := List Cell
abbrev Sl := List (Option Val)

/-- a list that nobody writes -/
def FzL (K : PySem.W.Frag) (H : Hp) (a : Addr) (xs : List V) : Prop :=
  (∃ o, H a = some (.frz o (.lst xs))) ∨
    ∃ (o : Obj) (its : Array Value) (n : Nat), K.lookup a = some o ∧ o.cls = .type "list" ∧ o.dict = none ∧ o.data = .seq its n ∧ its.size ≤ sizeLine ∧ Vals xs its.toList
/-- .. or one that nobody here knows to write -/
def FzR (K : PySem.W.Frag) (ρ : List Addr) (H : Hp) (a : Addr) (xs : List V) : Prop := FzL K H a xs ∨ (a ∉ ρ ∧ H a = some (.lst xs))
theorem FzL.sq {K : PySem.W.Frag} {H : Hp} {a : Addr} {xs : List V} (h : FzL K H a xs) : SqL K H a xs := by
  rcases h with h | h
  · exact .inl (.inr h)
  · exact .inr h
theorem FzR.sq {K : PySem.W.Frag} {ρ : List Addr} {H : Hp} {a : Addr} {xs : List V} (h : FzR K ρ H a xs) : SqL K H a xs := by
  rcases h with h | h
  · exact h.sq
  · exact .inl (.inl h.2)
/-- a tuple that stands tracked -/
structure TqT (H : Hp) (a : Addr) (xs : List V) : Prop where
  at_ : H a = some (.tup xs)
theorem TqT.sq {K : PySem.W.Frag} {H : Hp} {a : Addr} {xs : List V} (h : TqT H a xs) : SqT K H a xs := SqT.of h.at_
instance {K : PySem.W.Frag} {H : Hp} {a : Addr} {xs : List V} : Coe (TqT H a xs) (SqT K H a xs) := ⟨TqT.sq⟩
/-- an exception's object -/
def excH (a : Addr) (cls : Value) (d : Option Addr) : HO := .ext fun h => ∃ oe vs, h.get? a = some oe ∧ Zc cls d oe ∧ oe.data = .fields vs
/-- an object that stands as it is -/
def objH (a : Addr) (o : Obj) : HO := .ext fun h => h.get? a = some o
/-- an exception's class and dict -/
def XrI (K : PySem.W.Frag) (ρ : List Addr) (H : Hp) (C : Str) (fs : List (Str × Int)) (cls : Value) (d : Option Addr) : Prop :=
  cls = .ref (He.ga K C) ∧ match fs with
    | [] => d = none
    | f :: r => ∃ a, d = some a ∧ a ∉ ρ ∧ H a = some (.xd ((f :: r).map fun p => (p.1, V.int p.2)))
mutual
def RV (K : PySem.W.Frag) (ρ : List Addr) (H : Hp) : Val → V → Prop
  | .non, v => v = .non
  | .bl b, v => v = .bl b
  | .int i, v => v = .int i
  | .str x, v => v = .str x
  | .tup l, v => ∃ a vs, v = .ref a ∧ TqT H a vs ∧ RVs K ρ H l vs
  | .frz l, v => ∃ a, v = .ref a ∧ FzR K ρ H a (l.map V.int)
  | .loc n, v => ∃ a, v = .ref a ∧ ρ[n]? = some a
  | .exc C fs, v => ∃ a cls d, v = .ref a ∧ a ∉ ρ ∧ H a = some (excH a cls d) ∧ XrI K ρ H C fs cls d
def RVs (K : PySem.W.Frag) (ρ : List Addr) (H : Hp) : List Val → List V → Prop
  | [], vs => vs = []
  | x :: l, vs => ∃ v r, vs = v :: r ∧ RV K ρ H x v ∧ RVs K ρ H l r
end
/-- the tables of the defs that make lambdas -/
class LT where
  T : List (Addr × Str)
/-- what may be written: lists, dicts, instances -/
def Mt : Option HO → Prop
  | some (.lst _) => True
  | some (.dK _) => True
  | some (.dT _) => True
  | some (.ins _ _ _) => True
  | _ => False
structure Ext [LT] (ρ : List Addr) (H : Hp) (ρ' : List Addr) (H' : Hp) : Prop where
  pre : ∃ t, ρ' = ρ ++ t
  tup : ∀ a xs, H a = some (.tup xs) → H' a = some (.tup xs)
  frz : ∀ a o u, H a = some (.frz o u) → H' a = some (.frz o u)
  exx : ∀ a φ, H a = some (.ext φ) → H' a = some (.ext φ)
  oth : ∀ a o, a ∉ ρ → H a = some o → (∀ ps, o ≠ .tbl ps) → a ∉ ρ' ∧ H' a = some o
  tab : LamX.Tabs LT.T H → LamX.Tabs LT.T H'
variable [LT]
theorem Ext.refl (ρ : List Addr) (H : Hp) : Ext ρ H ρ H := ⟨⟨[], by simp⟩, fun _ _ h => h, fun _ _ _ h => h, fun _ _ h => h, fun _ _ h e _ => ⟨h, e⟩, id⟩
theorem Ext.trans {ρ ρ1 ρ2 : List Addr} {H H1 H2 : Hp} (a : Ext ρ H ρ1 H1) (b : Ext ρ1 H1 ρ2 H2) : Ext ρ H ρ2 H2 := by
  obtain ⟨t, e⟩ := a.pre
  obtain ⟨u, e'⟩ := b.pre
  exact ⟨⟨t ++ u, by rw [e', e, List.append_assoc]⟩, fun _ _ h => b.tup _ _ (a.tup _ _ h), fun _ _ _ h => b.frz _ _ _ (a.frz _ _ _ h), fun _ _ h => b.exx _ _ (a.exx _ _ h),
    fun x o h e k => let z := a.oth x o h e k; b.oth x o z.1 z.2 k, fun h => b.tab (a.tab h)⟩
theorem Ext.get {ρ ρ' : List Addr} {H H' : Hp} (e : Ext ρ H ρ' H') {n : Nat} {a : Addr} (h : ρ[n]? = some a) : ρ'[n]? = some a := by
  obtain ⟨t, rfl⟩ := e.pre
  have hl : n < ρ.length := (List.getElem?_eq_some_iff.mp h).1
  rw [List.getElem?_append_left hl]; exact h
theorem Ext.sqT {K : PySem.W.Frag} {ρ ρ' : List Addr} {H H' : Hp} (e : Ext ρ H ρ' H') {a : Addr} {xs : List V} (h : SqT K H a xs) : SqT K H' a xs := by
  rcases h with (h | ⟨o, h⟩) | h
  · exact .inl (.inl (e.tup _ _ h))
  · exact .inl (.inr ⟨o, e.frz _ _ _ h⟩)
  · exact .inr h
theorem Ext.tqT {ρ ρ' : List Addr} {H H' : Hp} (e : Ext ρ H ρ' H') {a : Addr} {xs : List V} (h : TqT H a xs) : TqT H' a xs := ⟨e.tup _ _ h.at_⟩
theorem Ext.fzL {K : PySem.W.Frag} {ρ ρ' : List Addr} {H H' : Hp} (e : Ext ρ H ρ' H') {a : Addr} {xs : List V} (h : FzR K ρ H a xs) : FzR K ρ' H' a xs := by
  rcases h with (⟨o, h⟩ | h) | h
  · exact .inl (.inl ⟨o, e.frz _ _ _ h⟩)
  · exact .inl (.inr h)
  · exact .inr (e.oth _ _ h.1 h.2 (fun _ z => by cases z))
theorem excH_nt {a : Addr} {cls : Value} {d : Option Addr} (ps : Array Value) : excH a cls d ≠ .tbl ps := fun z => by
  unfold excH at z
  cases z
theorem Ext.xrI {K : PySem.W.Frag} {ρ ρ' : List Addr} {H H' : Hp} (e : Ext ρ H ρ' H') {C : Str} {fs : List (Str × Int)} {cls : Value} {d : Option Addr} (h : XrI K ρ H C fs cls d) : XrI K ρ' H' C fs cls d := by
  refine ⟨h.1, ?_⟩
  have h2 := h.2
  cases fs with
  | nil => exact h2
  | cons f r =>
    obtain ⟨a, h3, h4, h5⟩ := h2
    obtain ⟨h6, h7⟩ := e.oth _ _ h4 h5 (fun _ z => by cases z)
    exact ⟨a, h3, h6, h7⟩
section
variable {K : PySem.W.Frag} {ρ ρ' : List Addr} {H H' : Hp}
mutual
theorem RV.mono (e : Ext ρ H ρ' H') : ∀ (x : Val) (v : V), RV K ρ H x v → RV K ρ' H' x v
  | .non, _, h => h
  | .bl _, _, h => h
  | .int _, _, h => h
  | .str _, _, h => h
  | .tup l, _, ⟨a, vs, h1, h2, h3⟩ => ⟨a, vs, h1, e.tqT h2, RVs.mono e l vs h3⟩
  | .frz _, _, ⟨a, h1, h2⟩ => ⟨a, h1, e.fzL h2⟩
  | .loc _, _, ⟨a, h1, h2⟩ => ⟨a, h1, e.get h2⟩
  | .exc _ _, _, ⟨a, cls, d, h1, h2, h3, h4⟩ => let z := e.oth _ _ h2 h3 excH_nt; ⟨a, cls, d, h1, z.1, z.2, e.xrI h4⟩
theorem RVs.mono (e : Ext ρ H ρ' H') : ∀ (l : List Val) (vs : List V), RVs K ρ H l vs → RVs K ρ' H' l vs
  | [], _, h => h
  | x :: l, _, ⟨v, r, h1, h2, h3⟩ => ⟨v, r, h1, RV.mono e x v h2, RVs.mono e l r h3⟩
end
theorem RVs.length : ∀ {l : List Val} {vs : List V}, RVs K ρ H l vs → vs.length = l.length
  | [], _, h => by cases (show _ = [] from h); rfl
  | x :: l, _, ⟨v, r, h1, h2, h3⟩ => by subst h1; simp [RVs.length h3]
theorem RVs.append : ∀ {l m : List Val} {vs ws : List V}, RVs K ρ H l vs → RVs K ρ H m ws → RVs K ρ H (l ++ m) (vs ++ ws)
  | [], _, _, _, h, k => by cases (show _ = [] from h); exact k
  | x :: l, _, _, _, ⟨v, r, h1, h2, h3⟩, k => by subst h1; exact ⟨v, _, rfl, h2, RVs.append h3 k⟩
theorem RVs.get : ∀ {l : List Val} {vs : List V} {i : Nat} {x : Val}, RVs K ρ H l vs → l[i]? = some x → ∃ v, vs[i]? = some v ∧ RV K ρ H x v
  | [], _, _, _, _, e => by simp at e
  | y :: l, _, 0, x, ⟨v, r, h1, h2, h3⟩, e => by subst h1; simp at e; subst e; exact ⟨v, rfl, h2⟩
  | y :: l, _, i + 1, x, ⟨v, r, h1, h2, h3⟩, e => by
    subst h1
    obtain ⟨u, e1, e2⟩ := RVs.get (i := i) (x := x) h3 (by simpa using e)
    exact ⟨u, by simpa using e1, e2⟩
theorem RVs.set {y : Val} {w : V} (hy : RV K ρ H y w) : ∀ {l : List Val} {vs : List V} (i : Nat), RVs K ρ H l vs → RVs K ρ H (l.set i y) (vs.set i w)
  | [], _, _, h => by cases (show _ = [] from h); simp; rfl
  | x :: l, _, 0, ⟨v, r, h1, h2, h3⟩ => by subst h1; exact ⟨w, r, rfl, hy, h3⟩
  | x :: l, _, i + 1, ⟨v, r, h1, h2, h3⟩ => by subst h1; exact ⟨v, _, rfl, h2, RVs.set hy i h3⟩
theorem RVs.take : ∀ {l : List Val} {vs : List V} (n : Nat), RVs K ρ H l vs → RVs K ρ H (l.take n) (vs.take n)
  | _, _, 0, _ => by simp; rfl
  | [], _, n + 1, h => by cases (show _ = [] from h); simp; rfl
  | x :: l, _, n + 1, ⟨v, r, h1, h2, h3⟩ => by subst h1; exact ⟨v, _, rfl, h2, RVs.take n h3⟩
theorem RVs.drop : ∀ {l : List Val} {vs : List V} (n : Nat), RVs K ρ H l vs → RVs K ρ H (l.drop n) (vs.drop n)
  | _, _, 0, h => by simpa using h
  | [], _, n + 1, h => by cases (show _ = [] from h); simp; rfl
  | x :: l, _, n + 1, ⟨v, r, h1, h2, h3⟩ => by subst h1; exact RVs.drop n h3
theorem RVs.eraseIdx : ∀ {l : List Val} {vs : List V} (n : Nat), RVs K ρ H l vs → RVs K ρ H (l.eraseIdx n) (vs.eraseIdx n)
  | [], _, _, h => by cases (show _ = [] from h); simp; rfl
  | x :: l, _, 0, ⟨v, r, h1, h2, h3⟩ => by subst h1; exact h3
  | x :: l, _, n + 1, ⟨v, r, h1, h2, h3⟩ => by subst h1; exact ⟨v, _, rfl, h2, RVs.eraseIdx n h3⟩
theorem RVs.dropLast : ∀ {l : List Val} {vs : List V}, RVs K ρ H l vs → RVs K ρ H l.dropLast vs.dropLast
  | l, vs, h => by
    rw [List.dropLast_eq_take, List.dropLast_eq_take, h.length]
    exact h.take _
theorem RVs.rep : ∀ {l : List Val} {vs : List V} (k : Nat), RVs K ρ H l vs → RVs K ρ H (List.replicate k l).flatten (List.replicate k vs).flatten
  | _, _, 0, _ => rfl
  | l, vs, k + 1, h => by
    rw [List.replicate_succ, List.replicate_succ, List.flatten_cons, List.flatten_cons]
    exact h.append (h.rep k)
theorem RVs.reverse : ∀ {l : List Val} {vs : List V}, RVs K ρ H l vs → RVs K ρ H l.reverse vs.reverse
  | [], _, h => by cases (show _ = [] from h); exact rfl
  | x :: l, _, ⟨v, r, h1, h2, h3⟩ => by
    subst h1
    rw [List.reverse_cons, List.reverse_cons]
    exact RVs.append (RVs.reverse h3) ⟨v, [], rfl, h2, rfl⟩
theorem RVs.snoc {l : List Val} {vs : List V} {x : Val} {v : V} (h : RVs K ρ H l vs) (k : RV K ρ H x v) : RVs K ρ H (l ++ [x]) (vs ++ [v]) := h.append ⟨v, [], rfl, k, rfl⟩
theorem RVs.ints : ∀ (l : List Int) {vs : List V}, RVs K ρ H (l.map Val.int) vs ↔ vs = l.map V.int
  | [], vs => Iff.rfl
  | i :: l, vs => by
    constructor
    · rintro ⟨v, r, h1, h2, h3⟩
      cases (show v = V.int i from h2)
      rw [h1, (RVs.ints l).mp h3]
      rfl
    · rintro rfl
      exact ⟨_, _, rfl, rfl, (RVs.ints l).mpr rfl⟩
/-- the values of a dict, of an instance -/
def RKs {κ : Type} (K : PySem.W.Frag) (ρ : List Addr) (H : Hp) : List (κ × Val) → List (κ × V) → Prop
  | [], ws => ws = []
  | (k, x) :: l, ws => ∃ v r, ws = (k, v) :: r ∧ RV K ρ H x v ∧ RKs K ρ H l r
theorem RKs.mono {κ : Type} (e : Ext ρ H ρ' H') : ∀ {l : List (κ × Val)} {ws : List (κ × V)}, RKs K ρ H l ws → RKs K ρ' H' l ws
  | [], _, h => h
  | (k, x) :: l, _, ⟨v, r, h1, h2, h3⟩ => ⟨v, r, h1, RV.mono e x v h2, RKs.mono e h3⟩
def CellR (K : PySem.W.Frag) (ρ : List Addr) (H : Hp) (a : Addr) : Cell → Prop
  | .lst l => ∃ vs, H a = some (.lst vs) ∧ RVs K ρ H l vs
  | .dK kvs => ∃ ws, H a = some (.dK ws) ∧ RKs K ρ H kvs ws
  | .dT kvs => ∃ ws, H a = some (.dT ws) ∧ RKs K ρ H kvs ws
  | .ins C fs => ∃ dx ws, H a = some (.ins (He.ga K C) dx ws) ∧ RKs K ρ H fs ws
  | .fn => ∃ o, H a = some (objH a o)
theorem CellR.some {a : Addr} : ∀ {c : Cell}, CellR K ρ H a c → ∃ o, H a = some o ∧ True
  | .lst _, ⟨_, h, _⟩ => ⟨_, h, trivial⟩
  | .dK _, ⟨_, h, _⟩ => ⟨_, h, trivial⟩
  | .dT _, ⟨_, h, _⟩ => ⟨_, h, trivial⟩
  | .ins _ _, ⟨_, _, h, _⟩ => ⟨_, h, trivial⟩
  | .fn, ⟨_, h⟩ => ⟨_, h, trivial⟩
/-- carried to another heap that holds the same at a -/
theorem CellR.mono {a : Addr} (e : Ext ρ H ρ' H') (ha : H' a = H a) : ∀ {c : Cell}, CellR K ρ H a c → CellR K ρ' H' a c
  | .lst _, ⟨_, h, r⟩ => ⟨_, ha.trans h, RVs.mono e _ _ r⟩
  | .dK _, ⟨_, h, r⟩ => ⟨_, ha.trans h, r.mono e⟩
  | .dT _, ⟨_, h, r⟩ => ⟨_, ha.trans h, r.mono e⟩
  | .ins _ _, ⟨_, _, h, r⟩ => ⟨_, _, ha.trans h, r.mono e⟩
  | .fn, ⟨_, h⟩ => ⟨_, ha.trans h⟩
/-- what else is known of the world -/
class WB where
  B : List Addr → Hp → Prop
  mono : ∀ {ρ ρ' : List Addr} {H H' : Hp}, Ext ρ H ρ' H' → B ρ H → B ρ' H'
variable [WB]
structure Rel (K : PySem.W.Frag) (ρ : List Addr) (M : Mem) (H : Hp) : Prop where
  len : ρ.length = M.length
  nd : ρ.Nodup
  at_ : ∀ (n : Nat) (c : Cell) (a : Addr), M[n]? = Option.some c → ρ[n]? = Option.some a → CellR K ρ H a c
  tab : LamX.Tabs LT.T H
  bd : WB.B ρ H
theorem Rel.mem {M : Mem} (R : Rel K ρ M H) {a : Addr} (h : a ∈ ρ) : ∃ o, H a = Option.some o ∧ True := by
  obtain ⟨n, hn⟩ := List.getElem?_of_mem h
  have hl : n < M.length := by rw [← R.len]; exact (List.getElem?_eq_some_iff.mp hn).1
  exact (R.at_ n (M[n]) a (List.getElem?_eq_getElem hl) hn).some
/-- a fresh address gets something -/
theorem Ext.fresh {p : Addr} {o : HO} (ρ : List Addr) (hp : H p = none) : Ext ρ H ρ (upd H p o) :=
  ⟨⟨[], by simp⟩, fun a xs h => by rw [upd_ne (ne_of_none h hp)]; exact h, fun a q u h => by rw [upd_ne (ne_of_none h hp)]; exact h, fun a φ h => by rw [upd_ne (ne_of_none h hp)]; exact h, fun a q h e _ => ⟨h, by rw [upd_ne (ne_of_none e hp)]; exact e⟩,
    fun h => h.ext fun b q e => by rw [upd_ne (ne_of_none e hp)]; exact e⟩
theorem Rel.fresh {M : Mem} {p : Addr} {o : HO} (R : Rel K ρ M H) (hp : H p = none) : Rel K ρ M (upd H p o) :=
  ⟨R.len, R.nd, fun n c a h1 h2 => (R.at_ n c a h1 h2).mono (Ext.fresh ρ hp) (by
    obtain ⟨u, hu, _⟩ := R.mem (List.mem_of_getElem? h2)
    rw [upd_ne (ne_of_none hu hp)]), (Ext.fresh ρ hp).tab R.tab, WB.mono (Ext.fresh ρ hp) R.bd⟩
/-- .. that is known from now on -/
theorem Ext.alloc {p : Addr} {o : HO} (ρ : List Addr) (hp : H p = none) : Ext ρ H (ρ ++ [p]) (upd H p o) :=
  ⟨⟨[p], rfl⟩, (Ext.fresh ρ hp).tup, (Ext.fresh ρ hp).frz, (Ext.fresh ρ hp).exx, fun a q h e k => by
    refine ⟨fun z => ?_, ((Ext.fresh ρ hp).oth a q h e k).2⟩
    rcases List.mem_append.mp z with z | z
    · exact h z
    · exact ne_of_none e hp (List.mem_singleton.mp z), (Ext.fresh ρ hp).tab⟩
theorem Rel.alloc {M : Mem} {p : Addr} {o : HO} {c : Cell} (R : Rel K ρ M H) (hp : H p = none) (hc : CellR K (ρ ++ [p]) (upd H p o) p c) : Rel K (ρ ++ [p]) (M ++ [c]) (upd H p o) := by
  have hnot : p ∉ ρ := fun h => by
    obtain ⟨u, hu, _⟩ := R.mem h
    rw [hp] at hu; cases hu
  refine ⟨by simp [R.len], ?_, fun n c' a h1 h2 => ?_, (Ext.alloc ρ hp).tab R.tab, WB.mono (Ext.alloc ρ hp) R.bd⟩
  · rw [List.nodup_append]
    refine ⟨R.nd, by simp, fun x hx y hy e => hnot ?_⟩
    have hy' : y = p := by simpa using hy
    rw [← hy', ← e]; exact hx
  · by_cases hn : n < M.length
    · rw [List.getElem?_append_left hn] at h1
      rw [List.getElem?_append_left (by rw [R.len]; exact hn)] at h2
      refine (R.at_ n c' a h1 h2).mono (Ext.alloc ρ hp) ?_
      obtain ⟨u, hu, _⟩ := R.mem (List.mem_of_getElem? h2)
      rw [upd_ne (ne_of_none hu hp)]
    · have hl := (List.getElem?_eq_some_iff.mp h1).1
      simp at hl
      have e : n = M.length := by omega
      subst e
      rw [List.getElem?_append_right (Nat.le_refl _)] at h1
      rw [← R.len, List.getElem?_append_right (Nat.le_refl _)] at h2
      simp at h1 h2
      subst h1 h2
      exact hc
/-- a known object is written -/
theorem Ext.write {a : Addr} {o : HO} (ρ : List Addr) (ha : a ∈ ρ) (hm : Mt (H a)) : Ext ρ H ρ (upd H a o) := by
  have k : ∀ b u, H b = some u → ¬ Mt (some u) → upd H a o b = some u := fun b u h n => by
    have : b ≠ a := by rintro rfl; rw [h] at hm; exact n hm
    rw [upd_ne this]; exact h
  refine ⟨⟨[], by simp⟩, fun b xs h => k b _ h (fun z => z), fun b q u h => k b _ h (fun z => z), fun b φ h => k b _ h (fun z => z), fun b q h e _ => ⟨h, by rw [upd_ne (fun z => h (by rw [z]; exact ha))]; exact e⟩, fun h p hp => ?_⟩
  obtain ⟨ps, h1, h2, h3⟩ := h p hp
  refine ⟨ps, k _ _ h1 (fun z => z), h2, fun pos cv hc => ?_⟩
  obtain ⟨c, e1, e2⟩ := h3 pos cv hc
  exact ⟨c, e1, k _ _ e2 (fun z => z)⟩
theorem Rel.write {M : Mem} {n : Nat} {a : Addr} {o : HO} {c : Cell} (R : Rel K ρ M H) (hn : ρ[n]? = Option.some a) (hc : CellR K ρ (upd H a o) a c) (hm : Mt (H a) := by assumption) : Rel K ρ (M.set n c) (upd H a o) ∧ Ext ρ H ρ (upd H a o) := by
  have ha := List.mem_of_getElem? hn
  have E := Ext.write (o := o) ρ ha hm
  refine ⟨⟨by simp [R.len], R.nd, fun k c' b h1 h2 => ?_, E.tab R.tab, WB.mono E R.bd⟩, E⟩
  by_cases hk : n = k
  · subst hk
    have hl : n < M.length := by rw [← R.len]; exact (List.getElem?_eq_some_iff.mp hn).1
    rw [List.getElem?_set_self hl] at h1
    cases h1
    rw [hn] at h2; cases h2
    exact hc
  · rw [List.getElem?_set_ne hk] at h1
    refine (R.at_ k c' b h1 h2).mono E (upd_ne ?_)
    rintro rfl
    have h3 := (List.getElem?_inj (by exact (List.getElem?_eq_some_iff.mp hn).1) R.nd).mp (hn.trans h2.symm)
    exact hk h3
end
end Sm

namespace L2
open PySem
section
variable {X : Cx}
theorem PE.imp {e : Expr} {t t' : TE} (h : PE X e t) (i : ∀ σ H Q, t' σ H Q → t σ H Q) : PE X e t' := ⟨fun pins s σ H Q I q => h.run pins s σ H Q I (i σ H Q q)⟩
theorem PT.imp {e : Expr} {t t' : TT} (h : PT X e t) (i : ∀ σ H Q, t' σ H Q → t σ H Q) : PT X e t' := ⟨fun pins s σ H Q I q => h.run pins s σ H Q I (i σ H Q q)⟩
theorem PW.imp {e : Expr} {t t' : TT} (h : PW X e t) (i : ∀ σ H Q, t' σ H Q → t σ H Q) : PW X e t' := ⟨fun w pins s σ H Q I q => h.run w pins s σ H Q I (i σ H Q q)⟩
theorem PA.imp {e : List Expr} {t t' : TA} (h : PA X e t) (i : ∀ σ H Q, t' σ H Q → t σ H Q) : PA X e t' := ⟨fun p pins s σ H Q I q => h.run p pins s σ H Q I (i σ H Q q)⟩
theorem PS.imp {e : Stmt} {t t' : TS} (h : PS X e t) (i : ∀ D σ H, t' D σ H → t D σ H) : PS X e t' := ⟨fun pins s σ H D I q => h.run pins s σ H D I (i D σ H q)⟩
theorem PSs.imp {e : List Stmt} {t t' : TS} (h : PSs X e t) (i : ∀ D σ H, t' D σ H → t D σ H) : PSs X e t' := ⟨fun pins s σ H D I q => h.run pins s σ H D I (i D σ H q)⟩
end
end L2
namespace Sm
open PySem L2
variable [LT] [WB]
/-! outcomes -/
structure Ex where
  cls : Str
  fs : List (Str × Int)
inductive Out (α : Type) where
  | ok (a : α) (M : Mem) | ex (x : Ex) (M : Mem) | bad
inductive SO where
  | nx (e : Sl) (M : Mem) | rt (x : Val) (M : Mem) | bk (e : Sl) (M : Mem) | ct (e : Sl) (M : Mem) | ex (x : Ex) (e : Sl) (M : Mem) | bad
abbrev EF := Sl → Mem → Out Val
abbrev TF := Sl → Mem → Out Bool
abbrev AF := Sl → Mem → Out (List Val)
abbrev SF := Sl → Mem → SO
abbrev FnS := List Val → Mem → Out Val
def Out.bind {α β : Type} (o : Out α) (k : α → Mem → Out β) : Out β := match o with
  | .ok a M => k a M
  | .ex x M => .ex x M
  | .bad => .bad
theorem Out.bind_ok {α β : Type} (a : α) (M : Mem) (k : α → Mem → Out β) : (Out.ok a M).bind k = k a M := rfl
theorem Out.bind_ex {α β : Type} (x : Ex) (M : Mem) (k : α → Mem → Out β) : (Out.ex x M : Out α).bind k = .ex x M := rfl
theorem Out.bind_bad {α β : Type} (k : α → Mem → Out β) : (Out.bad : Out α).bind k = .bad := rfl
section
variable {K : PySem.W.Frag} {ρ ρ' : List Addr} {H H' : Hp} {σ : St} {W : WX} {α β γ : Type}
/-- slots -/
structure SlR (K : PySem.W.Frag) (ρ : List Addr) (H : Hp) (e : Sl) (σ : St) : Prop where
  len : e.length = σ.length
  at_ : ∀ (i : Nat) (x : Val), e[i]? = some (some x) → ∃ v, σ[i]? = some (some v) ∧ RV K ρ H x v
theorem SlR.mono {e : Sl} (S : SlR K ρ H e σ) (E : Ext ρ H ρ' H') : SlR K ρ' H' e σ :=
  ⟨S.len, fun i x h => let ⟨v, h1, h2⟩ := S.at_ i x h; ⟨v, h1, RV.mono E _ _ h2⟩⟩
theorem SlR.set {e : Sl} {x : Val} {v : V} (S : SlR K ρ H e σ) (i : Nat) (r : RV K ρ H x v) : SlR K ρ H (e.set i (some x)) (σ.set i (some v)) := by
  refine ⟨by simp [S.len], fun j y h => ?_⟩
  by_cases hj : i = j
  · subst hj
    by_cases hl : i < e.length
    · rw [List.getElem?_set_self hl] at h
      cases h
      exact ⟨v, by rw [List.getElem?_set_self (by rw [← S.len]; exact hl)], r⟩
    · rw [List.getElem?_eq_none (by simpa using hl)] at h; cases h
  · rw [List.getElem?_set_ne hj] at h
    rw [List.getElem?_set_ne hj]
    exact S.at_ j y h
theorem SlR.unset {e : Sl} (S : SlR K ρ H e σ) (i : Nat) : SlR K ρ H (e.set i none) (σ.set i none) := by
  refine ⟨by simp [S.len], fun j y h => ?_⟩
  by_cases hj : i = j
  · subst hj
    by_cases hl : i < e.length
    · rw [List.getElem?_set_self hl] at h; cases h
    · rw [List.getElem?_eq_none (by simpa using hl)] at h; cases h
  · rw [List.getElem?_set_ne hj] at h
    rw [List.getElem?_set_ne hj]
    exact S.at_ j y h
/-- an exception's class and dict -/
abbrev XR (K : PySem.W.Frag) (ρ : List Addr) (H : Hp) (x : Ex) (cls : Value) (d : Option Addr) : Prop := XrI K ρ H x.cls x.fs cls d
abbrev RR (α β : Type) := List Addr → Hp → α → β → Prop
/-- what is wanted of an outcome -/
def Po (R : RR α β) (K : PySem.W.Frag) (ρ : List Addr) (H : Hp) (σ : St) (W : WX) (Q : β → Hp → Prop) : Out α → Prop
  | .ok a M => ∀ ρ' H' b, Ext ρ H ρ' H' → Rel K ρ' M H' → R ρ' H' a b → Q b H'
  | .ex x M => ∀ ρ' H' cls d, Ext ρ H ρ' H' → Rel K ρ' M H' → XR K ρ' H' x cls d → W cls d σ H'
  | .bad => False
theorem Po.mono {R : RR α β} {Q : β → Hp → Prop} (E : Ext ρ H ρ' H') : ∀ {o : Out α}, Po R K ρ H σ W Q o → Po R K ρ' H' σ W Q o
  | .ok _ _, h => fun ρ2 H2 b E2 r2 q => h ρ2 H2 b (E.trans E2) r2 q
  | .ex _ _, h => fun ρ2 H2 c d E2 r2 q => h ρ2 H2 c d (E.trans E2) r2 q
  | .bad, h => h
theorem Po.imp {R : RR α β} {Q Q' : β → Hp → Prop} (i : ∀ b H', Q b H' → Q' b H') : ∀ {o : Out α}, Po R K ρ H σ W Q o → Po R K ρ H σ W Q' o
  | .ok _ _, h => fun ρ2 H2 b E2 r2 q => i _ _ (h ρ2 H2 b E2 r2 q)
  | .ex _ _, h => h
  | .bad, h => h
/-- the outcome's continuation -/
theorem Po.bind {R : RR α β} {R' : RR γ δ} {Q : δ → Hp → Prop} {k : α → Mem → Out γ} : ∀ {o : Out α}, Po R' K ρ H σ W Q (o.bind k) →
    Po R K ρ H σ W (fun b H1 => ∃ ρ1 M1 a, Ext ρ H ρ1 H1 ∧ Rel K ρ1 M1 H1 ∧ R ρ1 H1 a b ∧ Po R' K ρ1 H1 σ W Q (k a M1)) o
  | .ok a M, h => fun ρ1 H1 b E1 r1 q => ⟨ρ1, M, a, E1, r1, q, Po.mono E1 h⟩
  | .ex _ _, h => h
  | .bad, h => h
abbrev RVr (K : PySem.W.Frag) : RR Val V := fun ρ H x v => RV K ρ H x v
abbrev RVsr (K : PySem.W.Frag) : RR (List Val) (List V) := fun ρ H x v => RVs K ρ H x v
abbrev Beq (K : PySem.W.Frag) : RR Bool Bool := fun _ _ x v => x = v
end
/-! readings -/
def tE (K : PySem.W.Frag) (W : WX) (f : EF) : TE := fun σ H Q => ∃ ρ e M, Rel K ρ M H ∧ SlR K ρ H e σ ∧ Po (RVr K) K ρ H σ W Q (f e M)
def tT (K : PySem.W.Frag) (W : WX) (f : TF) : TT := fun σ H Q => ∃ ρ e M, Rel K ρ M H ∧ SlR K ρ H e σ ∧ Po (Beq K) K ρ H σ W Q (f e M)
def tA (K : PySem.W.Frag) (W : WX) (f : AF) : TA := fun σ H Q => ∃ ρ e M, Rel K ρ M H ∧ SlR K ρ H e σ ∧ Po (RVsr K) K ρ H σ W Q (f e M)
structure SE (X : Cx) (W : WX) (e : Expr) (f : EF) : Prop where
  pe : PE X e (tE X.K W f)
structure ST (X : Cx) (W : WX) (e : Expr) (f : TF) : Prop where
  pt : PT X e (tT X.K W f)
structure SW (X : Cx) (W : WX) (e : Expr) (f : TF) : Prop where
  pw : PW X e (tT X.K W f)
structure SA (X : Cx) (W : WX) (es : List Expr) (f : AF) : Prop where
  pa : PA X es (tA X.K W f)
def PoS (K : PySem.W.Frag) (ρ : List Addr) (H : Hp) (W : WX) (D : Ends) : SO → Prop
  | .nx e M => ∀ ρ' H' σ', Ext ρ H ρ' H' → Rel K ρ' M H' → SlR K ρ' H' e σ' → D.nx σ' H'
  | .rt x M => ∀ ρ' H' v, Ext ρ H ρ' H' → Rel K ρ' M H' → RV K ρ' H' x v → D.rt v H'
  | .bk e M => ∀ ρ' H' σ', Ext ρ H ρ' H' → Rel K ρ' M H' → SlR K ρ' H' e σ' → D.bk σ' H'
  | .ct e M => ∀ ρ' H' σ', Ext ρ H ρ' H' → Rel K ρ' M H' → SlR K ρ' H' e σ' → D.ct σ' H'
  | .ex x e M => ∀ ρ' H' σ' cls d, Ext ρ H ρ' H' → Rel K ρ' M H' → SlR K ρ' H' e σ' → XR K ρ' H' x cls d → W cls d σ' H'
  | .bad => False
theorem PoS.mono {K : PySem.W.Frag} {ρ ρ' : List Addr} {H H' : Hp} {W : WX} {D : Ends} (E : Ext ρ H ρ' H') : ∀ {o : SO}, PoS K ρ H W D o → PoS K ρ' H' W D o
  | .nx _ _, h => fun ρ2 H2 b E2 r2 q => h ρ2 H2 b (E.trans E2) r2 q
  | .rt _ _, h => fun ρ2 H2 b E2 r2 q => h ρ2 H2 b (E.trans E2) r2 q
  | .bk _ _, h => fun ρ2 H2 b E2 r2 q => h ρ2 H2 b (E.trans E2) r2 q
  | .ct _ _, h => fun ρ2 H2 b E2 r2 q => h ρ2 H2 b (E.trans E2) r2 q
  | .ex _ _ _, h => fun ρ2 H2 s c d E2 r2 q => h ρ2 H2 s c d (E.trans E2) r2 q
  | .bad, h => h
def tSt (K : PySem.W.Frag) (W : WX) (f : SF) : TS := fun D σ H => ∃ ρ e M, Rel K ρ M H ∧ SlR K ρ H e σ ∧ PoS K ρ H W D (f e M)
structure SS (X : Cx) (W : WX) (st : Stmt) (f : SF) : Prop where
  ps : PS X st (tSt X.K W f)
structure SSs (X : Cx) (W : WX) (st : List Stmt) (f : SF) : Prop where
  pss : PSs X st (tSt X.K W f)
/-! expressions -/
def eC (x : Val) : EF := fun _ M => .ok x M
def eVar (i : Nat) : EF := fun e M => match e[i]? with
  | some (some x) => .ok x M
  | _ => .bad
def eOp2 (g : Val → Val → Mem → Out Val) (fa fb : EF) : EF := fun e M => (fa e M).bind fun x M1 => (fb e M1).bind fun y M2 => g x y M2
def eOp1 (g : Val → Mem → Out Val) (fa : EF) : EF := fun e M => (fa e M).bind fun x M1 => g x M1
def aNil : AF := fun _ M => .ok [] M
def aCons (fa : EF) (fr : AF) : AF := fun e M => (fa e M).bind fun x M1 => (fr e M1).bind fun l M2 => .ok (x :: l) M2
def eTup (fa : AF) : EF := fun e M => (fa e M).bind fun l M1 => if l.length ≤ sizeLine then .ok (.tup l) M1 else .bad
def eLst (fa : AF) : EF := fun e M => (fa e M).bind fun l M1 => if l.length ≤ sizeLine then .ok (.loc M1.length) (M1 ++ [.lst l]) else .bad
def eCall (F : FnS) (fa : AF) : EF := fun e M => (fa e M).bind fun l M1 => F l M1
def eIf (t : TF) (fa fb : EF) : EF := fun e M => (t e M).bind fun b M1 => if b = true then fa e M1 else fb e M1
/-- a rule on values and what it comes to -/
def OpS (K : PySem.W.Frag) (r : R2) (g : Val → Val → Mem → Out Val) : Prop :=
  ∀ (ρ : List Addr) (M : Mem) (H : Hp) (σ : St) (W : WX) (Q : VK) (x y : Val) (v u : V), Rel K ρ M H → RV K ρ H x v → RV K ρ H y u → Po (RVr K) K ρ H σ W Q (g x y M) → r v u H Q
def UnS (K : PySem.W.Frag) (r : V → Hp → VK → Prop) (g : Val → Mem → Out Val) : Prop :=
  ∀ (ρ : List Addr) (M : Mem) (H : Hp) (σ : St) (W : WX) (Q : VK) (x : Val) (v : V), Rel K ρ M H → RV K ρ H x v → Po (RVr K) K ρ H σ W Q (g x M) → r v H Q
def CallS (K : PySem.W.Frag) (r : List V → Hp → VK → Prop) (g : FnS) : Prop :=
  ∀ (ρ : List Addr) (M : Mem) (H : Hp) (σ : St) (W : WX) (Q : VK) (l : List Val) (vs : List V), Rel K ρ M H → RVs K ρ H l vs → Po (RVr K) K ρ H σ W Q (g l M) → r vs H Q
theorem OpS.or {K : PySem.W.Frag} {r r' : R2} {g : Val → Val → Mem → Out Val} (h : ∀ (ρ : List Addr) (M : Mem) (H : Hp) (σ : St) (W : WX) (Q : VK) (x y : Val) (v u : V), Rel K ρ M H → RV K ρ H x v → RV K ρ H y u → Po (RVr K) K ρ H σ W Q (g x y M) → r v u H Q ∨ r' v u H Q) :
    OpS K (fun x y H Q => r x y H Q ∨ r' x y H Q) g := h
section
variable {X : Cx} {W : WX} {a b c : Expr} {fa fb fc : EF} {pos : Pos}
theorem se_var {i : Nat} {x : Str} (hN : X.N[i]? = some x := by rfl) (hv : Vis X.env.scope x := by first | exact Or.inl rfl | exact Or.inr (Or.inl rfl) | exact Or.inr (Or.inr rfl)) (hd : (x == ("__debug__" : Str)) = false := by decide) (hcd : (x == ("__classdict__" : Str)) = false := by decide) :
    SE X W (.Name x pos) (eVar i) := ⟨(pe_var (i := i) hN hv hd hcd).imp fun σ H Q ⟨ρ, e, M, R, S, p⟩ => by
  unfold eVar at p
  cases h : e[i]? with
  | none => rw [h] at p; exact p.elim
  | some o => cases o with
    | none => rw [h] at p; exact p.elim
    | some x => rw [h] at p; obtain ⟨v, h1, h2⟩ := S.at_ i x h; exact ⟨v, h1, p ρ H v (Ext.refl _ _) R h2⟩⟩
theorem se_const {e : Expr} {x : Val} {v : V} (h : PE X e (tC v)) (r : ∀ ρ H, RV X.K ρ H x v) : SE X W e (eC x) := ⟨h.imp fun σ H Q ⟨ρ, e, M, R, S, p⟩ => p ρ H v (Ext.refl _ _) R (r ρ H)⟩
theorem se_int {i j} : SE X W (.Constant (.int i) j pos) (eC (.int i)) := se_const pe_int fun _ _ => rfl
theorem se_bl {b j} : SE X W (.Constant (.bool b) j pos) (eC (.bl b)) := se_const pe_bl fun _ _ => rfl
theorem se_non {j} : SE X W (.Constant .none j pos) (eC .non) := se_const pe_non fun _ _ => rfl
theorem se_str {x j} : SE X W (.Constant (.str x) j pos) (eC (.str x)) := se_const pe_str fun _ _ => rfl
/-- a module's number -/
theorem se_gint {x : Str} {i : Int} (hm : ∃ t, X.mg x = some (.int i t)) (hg : Gl X x := by rfl) (hd : (x == ("__debug__" : Str)) = false := by decide) : SE X W (.Name x pos) (eC (.int i)) := by
  obtain ⟨t, hm⟩ := hm
  exact se_const (pe_glob (v := .int i) hg hm ⟨t, rfl⟩ hd) fun _ _ => rfl
theorem se_gstr {x : Str} {i : Str} (hm : ∃ t, X.mg x = some (.str i t)) (hg : Gl X x := by rfl) (hd : (x == ("__debug__" : Str)) = false := by decide) : SE X W (.Name x pos) (eC (.str i)) := by
  obtain ⟨t, hm⟩ := hm
  exact se_const (pe_glob (v := .str i) hg hm ⟨t, rfl⟩ hd) fun _ _ => rfl
theorem se_bin {op : Operator} {r : R2} {g : Val → Val → Mem → Out Val} (ho : OpR X (binaryOp op) r) (hs : OpS X.K r g) (ha : SE X W a fa) (hb : SE X W b fb) : SE X W (.BinOp a op b pos) (eOp2 g fa fb) :=
  ⟨(pe_op ho ha.pe hb.pe).imp fun σ H Q ⟨ρ, e, M, R, S, p⟩ => ⟨ρ, e, M, R, S, (Po.bind p).imp fun v H1 ⟨ρ1, M1, x, E1, R1, r1, p1⟩ => ⟨ρ1, e, M1, R1, S.mono E1, (Po.bind p1).imp fun u H2 ⟨ρ2, M2, y, E2, R2, r2, p2⟩ => hs _ _ _ _ _ _ _ _ _ _ R2 (RV.mono E2 _ _ r1) r2 p2⟩⟩⟩
theorem se_cmp {op : CmpOp} {r : R2} {g : Val → Val → Mem → Out Val} (ho : OpR X (compareOp op) r) (hs : OpS X.K r g) (ha : SE X W a fa) (hb : SE X W b fb) (hm : behindInMarks op b = false) : SE X W (.Compare a [op] [b] pos) (eOp2 g fa fb) :=
  ⟨(pe_cmpR ho ha.pe hb.pe hm).imp fun σ H Q ⟨ρ, e, M, R, S, p⟩ => ⟨ρ, e, M, R, S, (Po.bind p).imp fun v H1 ⟨ρ1, M1, x, E1, R1, r1, p1⟩ => ⟨ρ1, e, M1, R1, S.mono E1, (Po.bind p1).imp fun u H2 ⟨ρ2, M2, y, E2, R2, r2, p2⟩ => hs _ _ _ _ _ _ _ _ _ _ R2 (RV.mono E2 _ _ r1) r2 p2⟩⟩⟩
theorem se_un {op : UnaryOp} {r : V → Hp → VK → Prop} {g : Val → Mem → Out Val} (ho : UnR X (unaryOp op) r) (hs : UnS X.K r g) (ha : SE X W a fa) : SE X W (.UnaryOp op a pos) (eOp1 g fa) :=
  ⟨(pe_un ho ha.pe).imp fun σ H Q ⟨ρ, e, M, R, S, p⟩ => ⟨ρ, e, M, R, S, (Po.bind p).imp fun v H1 ⟨ρ1, M1, x, E1, R1, r1, p1⟩ => hs _ _ _ _ _ _ _ _ R1 r1 p1⟩⟩
theorem se_ix {r : R2} {g : Val → Val → Mem → Out Val} (hr : IxR X r) (hs : OpS X.K r g) (ha : SE X W a fa) (hb : SE X W b fb) (hp : PlainIx b := by intro _ _; rfl) : SE X W (.Subscript a b pos) (eOp2 g fa fb) :=
  ⟨(pe_ix hr ha.pe hb.pe hp).imp fun σ H Q ⟨ρ, e, M, R, S, p⟩ => ⟨ρ, e, M, R, S, (Po.bind p).imp fun v H1 ⟨ρ1, M1, x, E1, R1, r1, p1⟩ => ⟨ρ1, e, M1, R1, S.mono E1, (Po.bind p1).imp fun u H2 ⟨ρ2, M2, y, E2, R2, r2, p2⟩ => hs _ _ _ _ _ _ _ _ _ _ R2 (RV.mono E2 _ _ r1) r2 p2⟩⟩⟩
/-! argument lists, displays -/
theorem sa_nil : SA X W [] aNil := ⟨pa_nil.imp fun σ H Q ⟨ρ, e, M, R, S, p⟩ => p ρ H [] (Ext.refl _ _) R rfl⟩
theorem sa_cons {es : List Expr} {fr : AF} (ha : SE X W a fa) (hr : SA X W es fr) (hs : starEach (a :: es) X.env = (false, eval a X.env) :: starEach es X.env := by rfl) : SA X W (a :: es) (aCons fa fr) :=
  ⟨(pa_cons ha.pe hr.pa hs).imp fun σ H Q ⟨ρ, e, M, R, S, p⟩ => ⟨ρ, e, M, R, S, (Po.bind p).imp fun v H1 ⟨ρ1, M1, x, E1, R1, r1, p1⟩ => ⟨ρ1, e, M1, R1, S.mono E1, (Po.bind (R := RVsr X.K) p1).imp fun us H2 ⟨ρ2, M2, l, E2, R2, r2, p2⟩ => p2 ρ2 H2 (v :: us) (Ext.refl _ _) R2 ⟨v, us, rfl, RV.mono E2 _ _ r1, r2⟩⟩⟩⟩
theorem se_tup {es : List Expr} {x1} {f : AF} (h : SA X W es f) : SE X W (.Tuple es x1 pos) (eTup f) :=
  ⟨(pe_tup h.pa).imp fun σ H Q ⟨ρ, e, M, R, S, p⟩ => ⟨ρ, e, M, R, S, (Po.bind (R := RVsr X.K) p).imp fun vs H1 ⟨ρ1, M1, l, E1, R1, r1, p1⟩ => by
    by_cases hl : l.length ≤ sizeLine
    · rw [if_pos hl] at p1
      refine ⟨by rw [r1.length]; exact hl, fun q hq => ?_⟩
      exact p1 ρ1 _ _ (Ext.fresh ρ1 hq) (R1.fresh hq) ⟨q, vs, rfl, ⟨upd_same⟩, RVs.mono (Ext.fresh ρ1 hq) _ _ r1⟩
    · rw [if_neg hl] at p1; exact p1.elim⟩⟩
/-- a new list at p -/
theorem Po.newList {K : PySem.W.Frag} {ρ : List Addr} {M : Mem} {H : Hp} {σ : St} {W : WX} {Q : VK} {l : List Val} {vs : List V} (p : Po (RVr K) K ρ H σ W Q (.ok (.loc M.length) (M ++ [.lst l]))) (R : Rel K ρ M H) (r : RVs K ρ H l vs) :
    ∀ q, H q = none → Q (.ref q) (upd H q (.lst vs)) := fun q hq => by
  have E := Ext.alloc (o := .lst vs) ρ hq
  refine p (ρ ++ [q]) _ _ E (R.alloc hq ⟨vs, upd_same, RVs.mono E _ _ r⟩) ⟨q, rfl, ?_⟩
  rw [← R.len, List.getElem?_append_right (Nat.le_refl _)]; simp
theorem se_lst {es : List Expr} {f : AF} (h : SA X W es f) : SE X W (.List es pos) (eLst f) :=
  ⟨(pe_lst h.pa).imp fun σ H Q ⟨ρ, e, M, R, S, p⟩ => ⟨ρ, e, M, R, S, (Po.bind (R := RVsr X.K) p).imp fun vs H1 ⟨ρ1, M1, l, E1, R1, r1, p1⟩ => by
    by_cases hl : l.length ≤ sizeLine
    · rw [if_pos hl] at p1
      exact ⟨by rw [r1.length]; exact hl, p1.newList R1 r1⟩
    · rw [if_neg hl] at p1; exact p1.elim⟩⟩
theorem se_ifExp {t : TF} (hc : ST X W c t) (ha : SE X W a fa) (hb : SE X W b fb) : SE X W (.IfExp c a b pos) (eIf t fa fb) :=
  ⟨(pe_ifExp hc.pt ha.pe hb.pe).imp fun σ H Q ⟨ρ, e, M, R, S, p⟩ => ⟨ρ, e, M, R, S, (Po.bind (R := Beq X.K) p).imp fun b H1 ⟨ρ1, M1, b', E1, R1, r1, p1⟩ => by
    cases (show b' = b from r1)
    by_cases hb : b = true
    · rw [if_pos hb] at p1 ⊢; exact ⟨ρ1, e, M1, R1, S.mono E1, p1⟩
    · rw [if_neg hb] at p1 ⊢; exact ⟨ρ1, e, M1, R1, S.mono E1, p1⟩⟩⟩
/-! built-ins by name -/
theorem se_callB {x : Str} {p : Pos} {e : Expr} {es : List Expr} {f : AF} {id : String} {r : List V → Hp → VK → Prop} {g : FnS} (hc : CallR X (.builtin id) r) (hs : CallS X.K r g) (hm : X.mg x = none) (hv : bootBuiltins x = some (.builtin id)) (ha : SA X W (e :: es) f)
    (hg : Gl X x := by rfl) (hn : x ≠ "__name__" := by decide) (hdb : (x == ("__debug__" : Str)) = false := by decide) (he : starEach (e :: es) X.env = (false, eval e X.env) :: starEach es X.env := by rfl) (hpl : (backTo pos (starEach es X.env)).any (·.1) = false := by rfl) :
    SE X W (.Call (.Name x p) (e :: es) [] pos) (eCall g f) :=
  ⟨(pe_callB hc hg hm hv ha.pa hn hdb he hpl).imp fun σ H Q ⟨ρ, e, M, R, S, p⟩ => ⟨ρ, e, M, R, S, (Po.bind (R := RVsr X.K) p).imp fun vs H1 ⟨ρ1, M1, l, E1, R1, r1, p1⟩ => hs _ _ _ _ _ _ _ _ R1 r1 p1⟩⟩
theorem se_callTy {x : Str} {p : Pos} {e : Expr} {es : List Expr} {f : AF} {id : String} {r : List V → Hp → VK → Prop} {g : FnS} (hc : CallR X (.type id) r) (hs : CallS X.K r g) (hm : X.mg x = none) (hv : bootBuiltins x = some (.type id)) (ha : SA X W (e :: es) f)
    (hg : Gl X x := by rfl) (hn : x ≠ "__name__" := by decide) (hdb : (x == ("__debug__" : Str)) = false := by decide) (he : starEach (e :: es) X.env = (false, eval e X.env) :: starEach es X.env := by rfl) (hpl : (backTo pos (starEach es X.env)).any (·.1) = false := by rfl) :
    SE X W (.Call (.Name x p) (e :: es) [] pos) (eCall g f) :=
  ⟨(pe_callTy hc hg hm hv ha.pa hn hdb he hpl).imp fun σ H Q ⟨ρ, e, M, R, S, p⟩ => ⟨ρ, e, M, R, S, (Po.bind (R := RVsr X.K) p).imp fun vs H1 ⟨ρ1, M1, l, E1, R1, r1, p1⟩ => hs _ _ _ _ _ _ _ _ R1 r1 p1⟩⟩
end
end Sm

namespace Sm
open PySem L2
variable [LT] [WB]
/-! tests -/
def tCmp2 (g : Val → Val → Mem → Out Val) (fa fb : EF) : TF := fun e M => (eOp2 g fa fb e M).bind fun x M1 => match x with
  | .bl b => .ok b M1
  | _ => .bad
def tOfE (f : EF) : TF := fun e M => (f e M).bind fun x M1 => match x with
  | .bl b => .ok b M1
  | _ => .bad
def truV (x : Val) (M : Mem) : Option Bool := match x with
  | .non => some false
  | .bl b => some b
  | .int i => some (i != 0)
  | .str y => if y.length ≤ sizeLine then some ((y.length : Int) != 0) else none
  | .tup l => some (!l.isEmpty)
  | .frz l => some (!l.isEmpty)
  | .loc n => match M[n]? with
    | some (.lst l) => some (!l.isEmpty)
    | some (.dK l) => some (!l.isEmpty)
    | _ => none
  | .exc _ _ => none
def tTru (f : EF) : TF := fun e M => (f e M).bind fun x M1 => match truV x M1 with
  | some b => .ok b M1
  | none => .bad
def tNotF (t : TF) : TF := fun e M => (t e M).bind fun b M1 => .ok (!b) M1
def tAndF (t u : TF) : TF := fun e M => (t e M).bind fun b M1 => if b = true then u e M1 else .ok false M1
def tOrF (t u : TF) : TF := fun e M => (t e M).bind fun b M1 => if b = true then .ok true M1 else u e M1
def eAnd (f g : EF) : EF := fun e M => (f e M).bind fun x M1 => match x with
  | .bl b => if b = true then g e M1 else .ok (.bl false) M1
  | _ => .bad
def eOr (f g : EF) : EF := fun e M => (f e M).bind fun x M1 => match x with
  | .bl b => if b = true then .ok (.bl true) M1 else g e M1
  | _ => .bad
def eNot (f : EF) : EF := fun e M => (f e M).bind fun x M1 => match x with
  | .bl b => .ok (.bl (!b)) M1
  | _ => .bad
def eChain (g g' : Val → Val → Mem → Out Val) (fa fb fc : EF) : EF := fun e M => (fa e M).bind fun x M1 => (fb e M1).bind fun y M2 => (g x y M2).bind fun z M3 => match z with
  | .bl b => if b = true then (fc e M3).bind fun w M4 => g' y w M4 else .ok (.bl false) M3
  | _ => .bad
theorem RVs.isEmpty {K : PySem.W.Frag} {ρ : List Addr} {H : Hp} : ∀ {l : List Val} {vs : List V}, RVs K ρ H l vs → vs.isEmpty = l.isEmpty
  | [], _, h => by cases (show _ = [] from h); rfl
  | _ :: _, _, ⟨_, _, h, _, _⟩ => by subst h; rfl
theorem RKs.isEmpty {κ : Type} {K : PySem.W.Frag} {ρ : List Addr} {H : Hp} : ∀ {l : List (κ × Val)} {vs : List (κ × V)}, RKs K ρ H l vs → vs.isEmpty = l.isEmpty
  | [], _, h => by cases (show _ = [] from h); rfl
  | _ :: _, _, ⟨_, _, h, _, _⟩ => by subst h; rfl
theorem Rel.lst {K : PySem.W.Frag} {ρ : List Addr} {M : Mem} {H : Hp} (R : Rel K ρ M H) {n : Nat} {l : List Val} (h : M[n]? = some (.lst l)) {v : V} (r : RV K ρ H (.loc n) v) : ∃ a vs, v = .ref a ∧ ρ[n]? = some a ∧ H a = some (.lst vs) ∧ RVs K ρ H l vs := by
  obtain ⟨a, h1, h2⟩ := r
  obtain ⟨vs, h3, h4⟩ := R.at_ _ _ _ h h2
  exact ⟨a, vs, h1, h2, h3, h4⟩
theorem truV_ok {K : PySem.W.Frag} {ρ : List Addr} {M : Mem} {H : Hp} {x : Val} {v : V} {b : Bool} (R : Rel K ρ M H) (r : RV K ρ H x v) (h : truV x M = some b) : TruV K v H b := by
  cases x with
  | non => cases (show v = _ from r); cases h; exact rfl
  | bl c => cases (show v = _ from r); cases h; exact rfl
  | int i => cases (show v = _ from r); cases h; exact rfl
  | str y =>
    cases (show v = _ from r)
    unfold truV at h
    simp only at h
    split at h
    · rename_i hl; cases h; exact ⟨hl, rfl⟩
    · cases h
  | tup l =>
    obtain ⟨a, vs, h1, h2, h3⟩ := r
    subst h1
    cases h
    exact .inr (.inl ⟨vs, h2, by rw [h3.isEmpty]⟩)
  | frz l =>
    obtain ⟨a, h1, h2⟩ := r
    subst h1
    cases h
    exact .inl ⟨_, h2.sq, by simp⟩
  | exc C fs => cases h
  | loc n =>
    unfold truV at h
    simp only at h
    split at h
    · rename_i l hn
      cases h
      obtain ⟨a, vs, h1, h2, h3, h4⟩ := R.lst hn r
      subst h1
      exact .inl ⟨vs, SqL.of h3, by rw [h4.isEmpty]⟩
    · rename_i l hn
      cases h
      obtain ⟨a, h1, h2⟩ := r
      obtain ⟨ws, h3, h4⟩ := R.at_ _ _ _ hn h2
      subst h1
      exact .inr (.inr ⟨ws, h3, by rw [h4.isEmpty]⟩)
    · cases h
section
variable {X : Cx} {W : WX} {a b c : Expr} {fa fb fc : EF} {pos : Pos} {rest : List Expr} {t u : TF}
theorem st_cmp {op : CmpOp} {r : R2} {g : Val → Val → Mem → Out Val} (ho : OpR X (compareOp op) r) (hs : OpS X.K r g) (ha : SE X W a fa) (hb : SE X W b fb) (hm : behindInMarks op b = false) : ST X W (.Compare a [op] [b] pos) (tCmp2 g fa fb) :=
  ⟨(pt_cmpR ho ha.pe hb.pe hm).imp fun σ H Q ⟨ρ, e, M, R, S, p⟩ => ⟨ρ, e, M, R, S, by
    have p' := Po.bind (R := RVr X.K) p
    unfold eOp2 at p'
    exact (Po.bind p').imp fun v H1 ⟨ρ1, M1, x, E1, R1, r1, p1⟩ => ⟨ρ1, e, M1, R1, S.mono E1, (Po.bind p1).imp fun u H2 ⟨ρ2, M2, y, E2, R2, r2, p2⟩ => hs _ _ _ _ _ _ _ _ _ _ R2 (RV.mono E2 _ _ r1) r2 (p2.imp fun z H3 ⟨ρ3, M3, z', E3, R3, r3, p3⟩ => by
      cases z' with
      | bl k => cases (show z = _ from r3); exact ⟨k, rfl, p3 ρ3 H3 k (Ext.refl _ _) R3 rfl⟩
      | _ => exact p3.elim)⟩⟩⟩
theorem st_tru (ha : SE X W a fa) (he : ∀ whole, isTrue a X.env whole = (do let v ← whole; standAt a.pos; holding [v] (truthy v)) := by intro _; rfl) : ST X W a (tTru fa) :=
  ⟨(pt_truth ha.pe he).imp fun σ H Q ⟨ρ, e, M, R, S, p⟩ => ⟨ρ, e, M, R, S, (Po.bind p).imp fun v H1 ⟨ρ1, M1, x, E1, R1, r1, p1⟩ => by
    cases h : truV x M1 with
    | none => simp only [h] at p1; exact p1.elim
    | some b => simp only [h] at p1; exact ⟨b, truV_ok R1 r1 h, p1 ρ1 H1 b (Ext.refl _ _) R1 rfl⟩⟩⟩
theorem st_not (ha : ST X W a t) : ST X W (.UnaryOp .Not a pos) (tNotF t) :=
  ⟨(pt_not ha.pt).imp fun σ H Q ⟨ρ, e, M, R, S, p⟩ => ⟨ρ, e, M, R, S, (Po.bind (R := Beq X.K) p).imp fun v H1 ⟨ρ1, M1, x, E1, R1, r1, p1⟩ => by
    cases (show x = v from r1); exact p1 ρ1 H1 _ (Ext.refl _ _) R1 rfl⟩⟩
theorem sw_and1 (ha : ST X W a t) : SW X W (.BoolOp .And [a] pos) t := ⟨pw_and1 ha.pt⟩
theorem sw_or1 (ha : ST X W a t) : SW X W (.BoolOp .Or [a] pos) t := ⟨pw_or1 ha.pt⟩
theorem sw_and (ha : ST X W a t) (hb : SW X W (.BoolOp .And (b :: rest) pos) u) : SW X W (.BoolOp .And (a :: b :: rest) pos) (tAndF t u) :=
  ⟨(pw_and ha.pt hb.pw).imp fun σ H Q ⟨ρ, e, M, R, S, p⟩ => ⟨ρ, e, M, R, S, (Po.bind (R := Beq X.K) p).imp fun v H1 ⟨ρ1, M1, x, E1, R1, r1, p1⟩ => by
    cases (show x = v from r1)
    by_cases h : v = true
    · rw [if_pos h] at p1 ⊢; exact ⟨ρ1, e, M1, R1, S.mono E1, p1⟩
    · rw [if_neg h] at p1 ⊢; exact p1 ρ1 H1 _ (Ext.refl _ _) R1 rfl⟩⟩
theorem sw_or (ha : ST X W a t) (hb : SW X W (.BoolOp .Or (b :: rest) pos) u) : SW X W (.BoolOp .Or (a :: b :: rest) pos) (tOrF t u) :=
  ⟨(pw_or ha.pt hb.pw).imp fun σ H Q ⟨ρ, e, M, R, S, p⟩ => ⟨ρ, e, M, R, S, (Po.bind (R := Beq X.K) p).imp fun v H1 ⟨ρ1, M1, x, E1, R1, r1, p1⟩ => by
    cases (show x = v from r1)
    by_cases h : v = true
    · rw [if_pos h] at p1 ⊢; exact p1 ρ1 H1 _ (Ext.refl _ _) R1 rfl
    · rw [if_neg h] at p1 ⊢; exact ⟨ρ1, e, M1, R1, S.mono E1, p1⟩⟩⟩
theorem st_w (h : SW X W a t) : ST X W a t := ⟨h.pw.pt⟩
theorem se_one {op} (h : SE X W a fa) : SE X W (.BoolOp op [a] pos) fa := ⟨pe_one h.pe⟩
theorem se_and (ha : SE X W a fa) (hb : SE X W (.BoolOp .And (b :: rest) pos) fb) : SE X W (.BoolOp .And (a :: b :: rest) pos) (eAnd fa fb) :=
  ⟨(pe_and ha.pe hb.pe).imp fun σ H Q ⟨ρ, e, M, R, S, p⟩ => ⟨ρ, e, M, R, S, (Po.bind p).imp fun v H1 ⟨ρ1, M1, x, E1, R1, r1, p1⟩ => by
    cases x with
    | bl k =>
      cases (show v = _ from r1)
      simp only at p1
      refine ⟨k, rfl, ?_⟩
      by_cases h : k = true
      · rw [if_pos h] at p1 ⊢; exact ⟨ρ1, e, M1, R1, S.mono E1, p1⟩
      · rw [if_neg h] at p1 ⊢; exact p1 ρ1 H1 _ (Ext.refl _ _) R1 rfl
    | _ => exact p1.elim⟩⟩
theorem se_or (ha : SE X W a fa) (hb : SE X W (.BoolOp .Or (b :: rest) pos) fb) : SE X W (.BoolOp .Or (a :: b :: rest) pos) (eOr fa fb) :=
  ⟨(pe_or ha.pe hb.pe).imp fun σ H Q ⟨ρ, e, M, R, S, p⟩ => ⟨ρ, e, M, R, S, (Po.bind p).imp fun v H1 ⟨ρ1, M1, x, E1, R1, r1, p1⟩ => by
    cases x with
    | bl k =>
      cases (show v = _ from r1)
      simp only at p1
      refine ⟨k, rfl, ?_⟩
      by_cases h : k = true
      · rw [if_pos h] at p1 ⊢; exact p1 ρ1 H1 _ (Ext.refl _ _) R1 rfl
      · rw [if_neg h] at p1 ⊢; exact ⟨ρ1, e, M1, R1, S.mono E1, p1⟩
    | _ => exact p1.elim⟩⟩
theorem se_not (ha : SE X W a fa) : SE X W (.UnaryOp .Not a pos) (eNot fa) :=
  ⟨(pe_not ha.pe).imp fun σ H Q ⟨ρ, e, M, R, S, p⟩ => ⟨ρ, e, M, R, S, (Po.bind p).imp fun v H1 ⟨ρ1, M1, x, E1, R1, r1, p1⟩ => by
    cases x with
    | bl k => cases (show v = _ from r1); exact ⟨k, rfl, p1 ρ1 H1 _ (Ext.refl _ _) R1 rfl⟩
    | _ => exact p1.elim⟩⟩
theorem tChain_ok {r r' : R2} {g g' : Val → Val → Mem → Out Val} (hs : OpS X.K r g) (hs' : OpS X.K r' g') {σ : St} {H : Hp} {Q : VK} (h : tE X.K W (eChain g g' fa fb fc) σ H Q) : tChain r r' (tE X.K W fa) (tE X.K W fb) (tE X.K W fc) σ H Q := by
  obtain ⟨ρ, e, M, R, S, p⟩ := h
  refine ⟨ρ, e, M, R, S, (Po.bind p).imp fun v H1 ⟨ρ1, M1, x, E1, R1, r1, p1⟩ => ⟨ρ1, e, M1, R1, S.mono E1, (Po.bind p1).imp fun u H2 ⟨ρ2, M2, y, E2, R2, r2, p2⟩ => ?_⟩⟩
  refine hs _ _ _ _ _ _ _ _ _ _ R2 (RV.mono E2 _ _ r1) r2 ((Po.bind (R := RVr X.K) p2).imp fun z H3 ⟨ρ3, M3, z', E3, R3, r3, p3⟩ => ?_)
  cases z' with
  | bl k =>
    cases (show z = _ from r3)
    simp only at p3
    refine ⟨k, rfl, ?_⟩
    by_cases h : k = true
    · rw [if_pos h] at p3 ⊢
      exact ⟨ρ3, e, M3, R3, (S.mono E1).mono (E2.trans E3), (Po.bind p3).imp fun w' H4 ⟨ρ4, M4, w, E4, R4, r4, p4⟩ => hs' _ _ _ _ _ _ _ _ _ _ R4 (RV.mono (E3.trans E4) _ _ r2) r4 p4⟩
    · rw [if_neg h] at p3 ⊢; exact p3 ρ3 H3 _ (Ext.refl _ _) R3 rfl
  | _ => exact p3.elim
theorem se_chain {op op' : CmpOp} {r r' : R2} {g g' : Val → Val → Mem → Out Val} (ho : OpR X (compareOp op) r) (ho' : OpR X (compareOp op') r') (hs : OpS X.K r g) (hs' : OpS X.K r' g') (ha : SE X W a fa) (hb : SE X W b fb) (hc : SE X W c fc)
    (hm : lastMarks [op, op'] [b, c] = false := by with_unfolding_all rfl) : SE X W (.Compare a [op, op'] [b, c] pos) (eChain g g' fa fb fc) :=
  ⟨(pe_chain ho ho' ha.pe hb.pe hc.pe hm).imp fun σ H Q h => tChain_ok hs hs' h⟩
theorem st_chain {op op' : CmpOp} {r r' : R2} {g g' : Val → Val → Mem → Out Val} (ho : OpR X (compareOp op) r) (ho' : OpR X (compareOp op') r') (hs : OpS X.K r g) (hs' : OpS X.K r' g') (ha : SE X W a fa) (hb : SE X W b fb) (hc : SE X W c fc)
    (hm : lastMarks [op, op'] [b, c] = false := by with_unfolding_all rfl) : ST X W (.Compare a [op, op'] [b, c] pos) (tOfE (eChain g g' fa fb fc)) :=
  ⟨(pt_chain ho ho' ha.pe hb.pe hc.pe hm).imp fun σ H Q ⟨ρ, e, M, R, S, p⟩ => by
    unfold tOfE at p
    refine tChain_ok hs hs' ⟨ρ, e, M, R, S, (Po.bind (R := RVr X.K) p).imp fun v H1 ⟨ρ1, M1, x, E1, R1, r1, p1⟩ => ?_⟩
    cases x with
    | bl k => cases (show v = _ from r1); exact ⟨k, rfl, p1 ρ1 H1 _ (Ext.refl _ _) R1 rfl⟩
    | _ => exact p1.elim⟩
end
/-! statements -/
def SO.seq (o : SO) (k : Sl → Mem → SO) : SO := match o with
  | .nx e M => k e M
  | o => o
def sNil : SF := fun e M => .nx e M
def sSeq (f g : SF) : SF := fun e M => (f e M).seq g
/-- an expression in a statement -/
def Out.toS {α : Type} (o : Out α) (e : Sl) (k : α → Mem → SO) : SO := match o with
  | .ok a M => k a M
  | .ex x M => .ex x e M
  | .bad => .bad
def sExpr (f : EF) : SF := fun e M => (f e M).toS e fun _ M1 => .nx e M1
def sRet (f : EF) : SF := fun e M => (f e M).toS e fun x M1 => .rt x M1
def sRetN : SF := fun _ M => .rt .non M
def sIf (t : TF) (f g : SF) : SF := fun e M => (t e M).toS e fun b M1 => if b = true then f e M1 else g e M1
def sBrk : SF := fun e M => .bk e M
def sCnt : SF := fun e M => .ct e M
/-- targets -/
inductive GO where
  | nx (e : Sl) (M : Mem) | ex (x : Ex) (e : Sl) (M : Mem) | bad
abbrev GF := Val → Sl → Mem → GO
def GO.toS (o : GO) (k : Sl → Mem → SO) : SO := match o with
  | .nx e M => k e M
  | .ex x e M => .ex x e M
  | .bad => .bad
def sAsg (f : EF) (g : GF) : SF := fun e M => (f e M).toS e fun x M1 => (g x e M1).toS .nx
def PoG (K : PySem.W.Frag) (ρ : List Addr) (H : Hp) (W : WX) (Q : St → Hp → Prop) : GO → Prop
  | .nx e M => ∀ ρ' H' σ', Ext ρ H ρ' H' → Rel K ρ' M H' → SlR K ρ' H' e σ' → Q σ' H'
  | .ex x e M => ∀ ρ' H' σ' cls d, Ext ρ H ρ' H' → Rel K ρ' M H' → SlR K ρ' H' e σ' → XR K ρ' H' x cls d → W cls d σ' H'
  | .bad => False
def tGt (K : PySem.W.Frag) (W : WX) (g : GF) : TG := fun v σ H Q => ∃ ρ e M x, Rel K ρ M H ∧ SlR K ρ H e σ ∧ RV K ρ H x v ∧ PoG K ρ H W Q (g x e M)
structure SG (X : Cx) (W : WX) (tg : Expr) (g : GF) : Prop where
  pg : PG X tg (tGt X.K W g)
theorem PG.imp {X : Cx} {tg : Expr} {t t' : TG} (h : PG X tg t) (i : ∀ v σ H Q, t' v σ H Q → t v σ H Q) : PG X tg t' := ⟨fun pins s σ H v u Q I r q => h.run pins s σ H v u Q I r (i v σ H Q q)⟩
/-- an expression's outcome in a statement -/
theorem PoS.ofE {K : PySem.W.Frag} {α β : Type} {R : RR α β} {ρ : List Addr} {H : Hp} {σ : St} {W : WX} {D : Ends} {e : Sl} {k : α → Mem → SO} (S : SlR K ρ H e σ) : ∀ {o : Out α}, PoS K ρ H W D (o.toS e k) →
    Po R K ρ H σ W (fun b H1 => ∃ ρ1 M1 a, Ext ρ H ρ1 H1 ∧ Rel K ρ1 M1 H1 ∧ R ρ1 H1 a b ∧ PoS K ρ1 H1 W D (k a M1)) o
  | .ok a M, h => fun ρ1 H1 b E1 r1 q => ⟨ρ1, M, a, E1, r1, q, h.mono E1⟩
  | .ex _ _, h => fun ρ1 H1 c d E1 r1 q => h ρ1 H1 σ c d E1 r1 (S.mono E1) q
  | .bad, h => h
theorem PoG.toS {K : PySem.W.Frag} {ρ : List Addr} {H : Hp} {W : WX} {D : Ends} {k : Sl → Mem → SO} : ∀ {o : GO}, PoS K ρ H W D (o.toS k) →
    PoG K ρ H W (fun σ1 H1 => ∃ ρ1 e1 M1, Ext ρ H ρ1 H1 ∧ Rel K ρ1 M1 H1 ∧ SlR K ρ1 H1 e1 σ1 ∧ PoS K ρ1 H1 W D (k e1 M1)) o
  | .nx e M, h => fun ρ1 H1 σ1 E1 r1 s1 => ⟨ρ1, e, M, E1, r1, s1, h.mono E1⟩
  | .ex _ _ _, h => h
  | .bad, h => h
theorem PoG.imp {K : PySem.W.Frag} {ρ : List Addr} {H : Hp} {W : WX} {Q Q' : St → Hp → Prop} (i : ∀ b H', Q b H' → Q' b H') : ∀ {o : GO}, PoG K ρ H W Q o → PoG K ρ H W Q' o
  | .nx _ _, h => fun ρ2 H2 b E2 r2 q => i _ _ (h ρ2 H2 b E2 r2 q)
  | .ex _ _ _, h => h
  | .bad, h => h
theorem PoG.mono {K : PySem.W.Frag} {ρ ρ' : List Addr} {H H' : Hp} {W : WX} {Q : St → Hp → Prop} (E : Ext ρ H ρ' H') : ∀ {o : GO}, PoG K ρ H W Q o → PoG K ρ' H' W Q o
  | .nx _ _, h => fun ρ2 H2 b E2 r2 q => h ρ2 H2 b (E.trans E2) r2 q
  | .ex _ _ _, h => fun ρ2 H2 s c d E2 r2 q => h ρ2 H2 s c d (E.trans E2) r2 q
  | .bad, h => h
/-- what follows -/
theorem PoS.seq {K : PySem.W.Frag} {ρ : List Addr} {H : Hp} {W : WX} {D : Ends} {k : Sl → Mem → SO} : ∀ {o : SO}, PoS K ρ H W D (o.seq k) → PoS K ρ H W { D with nx := tSt K W k D } o
  | .nx e M, h => fun ρ1 H1 σ1 E1 r1 s1 => ⟨ρ1, e, M, r1, s1, h.mono E1⟩
  | .rt _ _, h => h
  | .bk _ _, h => h
  | .ct _ _, h => h
  | .ex _ _ _, h => h
  | .bad, h => h
section
variable {X : Cx} {W : WX} {a b c : Expr} {fa fb fc : EF} {pos : Pos} {st : Stmt} {rest : List Stmt} {f g : SF}
theorem ss_nil : SSs X W [] sNil := ⟨pss_nil.imp fun D σ H ⟨ρ, e, M, R, S, p⟩ => p ρ H σ (Ext.refl _ _) R S⟩
theorem ss_one (h : SS X W st f) : SSs X W [st] f := ⟨pss_one h.ps⟩
theorem ss_cons (h1 : SS X W st f) (h2 : SSs X W rest g) : SSs X W (st :: rest) (sSeq f g) := ⟨(pss_cons h1.ps h2.pss).imp fun D σ H ⟨ρ, e, M, R, S, p⟩ => ⟨ρ, e, M, R, S, PoS.seq p⟩⟩
theorem ss_pass : SS X W (.Pass pos) sNil := ⟨ps_pass.imp fun D σ H ⟨ρ, e, M, R, S, p⟩ => p ρ H σ (Ext.refl _ _) R S⟩
theorem ss_break : SS X W (.Break pos) sBrk := ⟨ps_break.imp fun D σ H ⟨ρ, e, M, R, S, p⟩ => p ρ H σ (Ext.refl _ _) R S⟩
theorem ss_continue : SS X W (.Continue pos) sCnt := ⟨ps_continue.imp fun D σ H ⟨ρ, e, M, R, S, p⟩ => p ρ H σ (Ext.refl _ _) R S⟩
theorem ss_expr (ha : SE X W a fa) (hs : swapsWith a none pos.line X.env = pure false := by rfl) : SS X W (.Expr a pos) (sExpr fa) :=
  ⟨(ps_expr ha.pe hs).imp fun D σ H ⟨ρ, e, M, R, S, p⟩ => ⟨ρ, e, M, R, S, (PoS.ofE (R := RVr X.K) S p).imp fun v H1 ⟨ρ1, M1, x, E1, R1, r1, p1⟩ => p1 ρ1 H1 σ (Ext.refl _ _) R1 (S.mono E1)⟩⟩
theorem ss_ret (ha : SE X W a fa) : SS X W (.Return (some a) pos) (sRet fa) :=
  ⟨(ps_ret ha.pe).imp fun D σ H ⟨ρ, e, M, R, S, p⟩ => ⟨ρ, e, M, R, S, (PoS.ofE (R := RVr X.K) S p).imp fun v H1 ⟨ρ1, M1, x, E1, R1, r1, p1⟩ => p1 ρ1 H1 v (Ext.refl _ _) R1 r1⟩⟩
theorem ss_retN : SS X W (.Return none pos) sRetN := ⟨ps_retN.imp fun D σ H ⟨ρ, e, M, R, S, p⟩ => p ρ H .non (Ext.refl _ _) R rfl⟩
theorem ss_if {t : TF} {p q : List Stmt} (hc : ST X W c t) (hp : SSs X W p f) (hq : SSs X W q g) : SS X W (.If c p q pos) (sIf t f g) :=
  ⟨(ps_if hc.pt hp.pss hq.pss).imp fun D σ H ⟨ρ, e, M, R, S, p⟩ => ⟨ρ, e, M, R, S, (PoS.ofE (R := Beq X.K) S p).imp fun v H1 ⟨ρ1, M1, x, E1, R1, r1, p1⟩ => by
    cases (show x = v from r1)
    by_cases h : v = true
    · rw [if_pos h] at p1 ⊢; exact ⟨ρ1, e, M1, R1, S.mono E1, p1⟩
    · rw [if_neg h] at p1 ⊢; exact ⟨ρ1, e, M1, R1, S.mono E1, p1⟩⟩⟩
end
/-! targets -/
def gNm (i : Nat) : GF := fun x e M => .nx (e.set i (some x)) M
abbrev GsF := List Val → Sl → Mem → GO
def GO.bind (o : GO) (k : Sl → Mem → GO) : GO := match o with
  | .nx e M => k e M
  | o => o
def gsNil : GsF := fun l e M => match l with
  | [] => .nx e M
  | _ => .bad
def gsCons (g : GF) (gs : GsF) : GsF := fun l e M => match l with
  | [] => .bad
  | x :: r => (g x e M).bind fun e1 M1 => gs r e1 M1
def gTp (n : Nat) (gs : GsF) : GF := fun x e M => match x with
  | .tup l => if l.length = n then gs l e M else .bad
  | _ => .bad
/-- o[i] = x -/
def setV (o i x : Val) (M : Mem) : Option Mem := match o, i with
  | .loc n, .int k => match M[n]? with
    | some (.lst l) => match ixN l.length k with
      | some j => some (M.set n (.lst (l.set j x)))
      | none => none
    | _ => none
  | _, _ => none
def gSb (fo fi : EF) : GF := fun x e M => match (fo e M) with
  | .ok o M1 => match fi e M1 with
    | .ok i M2 => match setV o i x M2 with
      | some M3 => .nx e M3
      | none => .bad
    | .ex y M2 => .ex y e M2
    | .bad => .bad
  | .ex y M1 => .ex y e M1
  | .bad => .bad
def tGs (K : PySem.W.Frag) (W : WX) (g : GsF) : TGs := fun vs σ H Q => ∃ ρ e M l, Rel K ρ M H ∧ SlR K ρ H e σ ∧ RVs K ρ H l vs ∧ PoG K ρ H W Q (g l e M)
structure SGs (X : Cx) (W : WX) (tg : List Expr) (g : GsF) : Prop where
  pgs : PGs X tg (tGs X.K W g)
theorem PGs.imp {X : Cx} {tg : List Expr} {t t' : TGs} (h : PGs X tg t) (i : ∀ v σ H Q, t' v σ H Q → t v σ H Q) : PGs X tg t' := ⟨fun pins s σ H v u Q I r q => h.run pins s σ H v u Q I r (i v σ H Q q)⟩
theorem PoG.bind {K : PySem.W.Frag} {ρ : List Addr} {H : Hp} {W : WX} {Q : St → Hp → Prop} {k : Sl → Mem → GO} : ∀ {o : GO}, PoG K ρ H W Q (o.bind k) →
    PoG K ρ H W (fun σ1 H1 => ∃ ρ1 e1 M1, Ext ρ H ρ1 H1 ∧ Rel K ρ1 M1 H1 ∧ SlR K ρ1 H1 e1 σ1 ∧ PoG K ρ1 H1 W Q (k e1 M1)) o
  | .nx e M, h => fun ρ1 H1 σ1 E1 r1 s1 => ⟨ρ1, e, M, E1, r1, s1, h.mono E1⟩
  | .ex _ _ _, h => h
  | .bad, h => h
theorem setV_ok {K : PySem.W.Frag} {ρ : List Addr} {M M' : Mem} {H : Hp} {o i x : Val} {vo vi vx : V} (R : Rel K ρ M H) (ro : RV K ρ H o vo) (ri : RV K ρ H i vi) (rx : RV K ρ H x vx) (h : setV o i x M = some M') {Q : Hp → Prop}
    (q : ∀ H', Ext ρ H ρ H' → Rel K ρ M' H' → Q H') : rSetL vo vi vx H Q := by
  unfold setV at h
  split at h
  · rename_i n k
    split at h
    · rename_i l hn
      split at h
      · rename_i j hj
        cases h
        obtain ⟨a, vs, h1, h2, h3, h4⟩ := R.lst hn ro
        have hm : Mt (H a) := by rw [h3]; trivial
        have E := Ext.write (o := .lst (vs.set j vx)) ρ (List.mem_of_getElem? h2) hm
        obtain ⟨R', E'⟩ := R.write (c := .lst (l.set j x)) h2 ⟨vs.set j vx, upd_same, RVs.mono E _ _ (h4.set rx j)⟩
        exact ⟨a, vs, k, j, h1, ri, h3, by rw [h4.length]; exact hj, q _ E' R'⟩
      · cases h
    · cases h
  · cases h
section
variable {X : Cx} {W : WX} {o i : Expr} {fo fi : EF} {pos : Pos}
theorem sg_name {i : Nat} {x : Str} (hN : X.N.Nodup) (hi : X.N[i]? = some x := by rfl) (hx : Loc X.env.scope x := by first | exact Or.inl rfl | exact Or.inr rfl) (hf : X.fn x = true ∨ X.env.scope.names.lookup x = some .local := by first | exact .inl rfl | exact .inr rfl | assumption) :
    SG X W (.Name x pos) (gNm i) := ⟨PG.imp (pg_name (i := i) hN hi hx hf) fun v σ H Q ⟨ρ, e, M, y, R, S, r, p⟩ => p ρ H _ (Ext.refl _ _) R (S.set i r)⟩
theorem sgs_nil : SGs X W [] gsNil := ⟨PGs.imp pgs_nil fun vs σ H Q ⟨ρ, e, M, l, R, S, r, p⟩ => by
  cases l with
  | nil => exact ⟨r, p ρ H _ (Ext.refl _ _) R S⟩
  | cons _ _ => exact p.elim⟩
theorem sgs_cons {t : Expr} {ts : List Expr} {g : GF} {gs : GsF} (h1 : SG X W t g) (h2 : SGs X W ts gs) (hs : (assignEach (t :: ts) X.env).map (·.2) = assign t X.env :: (assignEach ts X.env).map (·.2) := by rfl) : SGs X W (t :: ts) (gsCons g gs) :=
  ⟨PGs.imp (pgs_cons h1.pg h2.pgs hs) fun vs σ H Q ⟨ρ, e, M, l, R, S, r, p⟩ => by
    cases l with
    | nil => exact p.elim
    | cons x l =>
      obtain ⟨v, us, e1, r1, r2⟩ := r
      exact ⟨v, us, e1, ρ, e, M, x, R, S, r1, (PoG.bind p).imp fun σ1 H1 ⟨ρ1, e1, M1, E1, R1, S1, p1⟩ => ⟨ρ1, e1, M1, l, R1, S1, RVs.mono E1 _ _ r2, p1⟩⟩⟩
theorem sg_tup {ts : List Expr} {k : Nat} {gs : GsF} {n : Nat} (hc : X.calm = true) (h : SGs X W ts gs) (hn : (assignEach ts X.env).length = n := by rfl) (hst : (assignEach ts X.env).findIdx? (·.1) = none := by rfl) : SG X W (.Tuple ts k pos) (gTp n gs) :=
  ⟨PG.imp (pg_tup hc h.pgs hn hst) fun v σ H Q ⟨ρ, e, M, x, R, S, r, p⟩ => by
    cases x with
    | tup l =>
      unfold gTp at p
      simp only at p
      obtain ⟨a, vs, h1, h2, h3⟩ := r
      by_cases hl : l.length = n
      · rw [if_pos hl] at p
        exact ⟨a, vs, h1, h2, by rw [h3.length]; exact hl, ρ, e, M, l, R, S, h3, p⟩
      · rw [if_neg hl] at p; exact p.elim
    | _ => exact p.elim⟩
theorem sg_sub (ho : SE X W o fo) (hi : SE X W i fi)
    (ha : ∀ v, assign (.Subscript o i pos) X.env v = (do
      let ov ← holding [v] (eval o X.env)
      let iv ← holding [v, ov] (eval i X.env)
      standAt pos
      holding [v, ov, iv] (setItem ov iv v)
      release [v, ov, iv] []) := by intro _; rfl) : SG X W (.Subscript o i pos) (gSb fo fi) :=
  ⟨PG.imp (pg_sub ho.pe hi.pe set_list ha) fun v σ H Q ⟨ρ, e, M, x, R, S, r, p⟩ => ⟨ρ, e, M, R, S, by
    unfold gSb at p
    cases h1 : fo e M with
    | bad => rw [h1] at p; exact p.elim
    | ex y M1 => rw [h1] at p; exact fun ρ1 H1 c d E1 R1 q => p ρ1 H1 σ c d E1 R1 (S.mono E1) q
    | ok ov M1 =>
      rw [h1] at p
      intro ρ1 H1 b E1 R1 r1
      refine ⟨ρ1, e, M1, R1, S.mono E1, ?_⟩
      simp only at p
      cases h2 : fi e M1 with
      | bad => rw [h2] at p; exact p.elim
      | ex y M2 => rw [h2] at p; exact fun ρ2 H2 c d E2 R2 q => p ρ2 H2 σ c d (E1.trans E2) R2 (S.mono (E1.trans E2)) q
      | ok iv M2 =>
        rw [h2] at p
        intro ρ2 H2 b2 E2 R2 r2
        simp only at p
        cases h3 : setV ov iv x M2 with
        | none => rw [h3] at p; exact p.elim
        | some M3 =>
          rw [h3] at p
          exact setV_ok R2 (RV.mono E2 _ _ r1) r2 (RV.mono (E1.trans E2) _ _ r) h3 fun H' E3 R3 => p ρ2 H' σ ((E1.trans E2).trans E3) R3 (S.mono ((E1.trans E2).trans E3))⟩⟩
theorem ss_asg {tg a : Expr} {fa : EF} {g : GF} (ha : SE X W a fa) (hg : SG X W tg g) (hs : swapsWithSole [tg] a pos.line X.env = pure false := by rfl) (hw : swappedStores [tg] a X.env = pure none := by rfl) (h1 : (assignEach [tg] X.env).map (·.2) = [assign tg X.env] := by rfl) : SS X W (.Assign [tg] a pos) (sAsg fa g) :=
  ⟨(ps_asg ha.pe hg.pg hs hw h1).imp fun D σ H ⟨ρ, e, M, R, S, p⟩ => ⟨ρ, e, M, R, S, (PoS.ofE (R := RVr X.K) S p).imp fun v H1 ⟨ρ1, M1, x, E1, R1, r1, p1⟩ => ⟨ρ1, e, M1, x, R1, S.mono E1, r1, (PoG.toS p1).imp fun σ2 H2 ⟨ρ2, e2, M2, E2, R2, S2, p2⟩ => p2 ρ2 H2 σ2 (Ext.refl _ _) R2 S2⟩⟩⟩
end
end Sm

namespace L2
open PySem PySem.Spec PyProof.Rows
/-! zip of a tuple and a list -/
def ItzM (K : PySem.W.Frag) (a b : Addr) : It :=
  ⟨fun i H => ∃ (xs ys : List V) (x y : V), SqT K H a xs ∧ SqL K H b ys ∧ xs[i]? = some x ∧ ys[i]? = some y,
    fun i H v H' => ∃ T x y, v = .ref T ∧ H T = none ∧ H' = upd H T (.tup [x, y]) ∧ (∀ xs, SqT K H a xs → xs[i]? = some x) ∧ ∀ ys, SqL K H b ys → ys[i]? = some y,
    fun i H => ∃ xs ys : List V, SqT K H a xs ∧ SqL K H b ys ∧ i ≤ xs.length ∧ i ≤ ys.length ∧ (xs.length ≤ i ∨ ys.length ≤ i)⟩
theorem sepM {z TI TO i1 i2 a b : Addr} (D : ZipApart z TI TO i1 i2 a b) : ZipSep2 z TI TO i1 i2 [i1, a] [i2, b] where
  TIz := D.TIz
  TOz := D.TOz
  TITO := D.TITO
  TIi1 := D.TIi1
  mem1 := by simp
  zf1 := by simp [D.i1z.symm, D.l1z.symm]
  Tf1 := by simp [D.TOi1, D.l1TO.symm]
  TIi2 := D.TIi2
  mem2 := by simp
  zf2 := by simp [D.i2z.symm, D.l2z.symm]
  Tf2 := by simp [D.TOi2, D.l2TO.symm]
  sep1_2 := by simp [D.i12, D.l2i1.symm]
  sep2_1 := by simp [D.i12.symm, D.l1i2.symm]
theorem turn_zipM {P : Program} {w : World} {K : PySem.W.Frag} {elts : List Expr} {kk : Nat} {tpos : Pos} {a b z TI TO i1 i2 : Addr} (D : ZipApart z TI TO i1 i2 a b) :
    Turn P w K (.Tuple elts kk tpos) (ItzM K a b) [z, TI, TO, i1, i2] z (fun i h => IsZip h z TI TO .none ∧ IsPair h TI (.ref i1) (.ref i2) ∧ (∃ x y, IsPair h TO x y) ∧ h.IsTupleIter i1 a i ∧ h.IsListIter i2 b i) where
  mem := by simp
  obj := fun i h st c hc => by
    obtain ⟨hz, hTI, ⟨x, y, hTO⟩, ⟨o1, e1, _, d1⟩, ⟨o2, e2, _, d2⟩⟩ := st
    have e' : c = z ∨ c = TI ∨ c = TO ∨ c = i1 ∨ c = i2 := by simpa using hc
    rcases e' with q | q | q | q | q
    · rw [q]; exact ⟨_, hz, fun v q => nomatch q⟩
    · rw [q]; exact ⟨_, hTI, fun v q => nomatch q⟩
    · rw [q]; exact ⟨_, hTO, fun v q => nomatch q⟩
    · rw [q]; exact ⟨o1, e1, fun v q => by rw [d1] at q; cases q⟩
    · rw [q]; exact ⟨o2, e2, fun v q => by rw [d2] at q; cases q⟩
  keep := fun i h h' st k => by
    obtain ⟨hz, hTI, ⟨x, y, hTO⟩, h1, h2⟩ := st
    exact ⟨k z (by simp) _ hz, k TI (by simp) _ hTI, ⟨x, y, k TO (by simp) _ hTO⟩, h1.at fun o q => k i1 (by simp) o q, h2.at fun o q => k i2 (by simp) o q⟩
  item := by
    intro X hP hw hK hc i pins s σ H E I hf st hg
    subst hP hw hK
    obtain ⟨hz, hTI, ⟨x0, y0, hTO⟩, h1, h2⟩ := st
    obtain ⟨xs, ys, x, y, hqx, hqy, hx, hy⟩ := hg
    obtain ⟨its, rv, p, _⟩ := I.tuple hqx
    obtain ⟨its2, rv2, p2, _⟩ := I.list hqy
    obtain ⟨u, hu, ru⟩ := rv.get hx
    obtain ⟨u2, hu2, ru2⟩ := rv2.get hy
    have hzl : z < s.heap.objs.size := Heap.lt_size hz
    have hh := I.ok.hd hc
    have l1 := rv.length
    have l2 := rv2.length
    have hi1 : i < xs.length := (List.getElem?_eq_some_iff.mp hx).1
    have hi2 : i < ys.length := (List.getElem?_eq_some_iff.mp hy).1
    refine wpAny_pyNext_zipD2_item (sepM D) (Draws.tuple (A := Around.in1 _) hh i1 a D.l1i1 its.toArray) (Draws.list (A := Around.in1 _) hh i2 b D.l2i2 its2.toArray) hz hTI hTO ⟨h1, p⟩ ⟨h2, p2.isList⟩ (by simp; omega) (by simp; omega) fun x1 x2 h' tk hx1 hx2 z' TO' h1' h2' hT hsz hk => ?_
    have ex1 : x1 = u := by simp at hx1 hu; rw [hu] at hx1; exact (Option.some.inj hx1).symm
    have ex2 : x2 = u2 := by simp at hx2 hu2; rw [hu2] at hx2; exact (Option.some.inj hx2).symm
    subst ex1 ex2
    refine ⟨_, rfl, wpAny_letOwnedTupleGo_zip (s := { s with heap := h', toks := tk }) z' fun h'' z'' sb => ?_⟩
    have hT2 : h''.get? s.heap.objs.size = some { cls := .type "tuple", data := .seq #[x1, x2] } := (sb.2 _ (Nat.ne_of_gt hzl)).trans hT
    have new : ObjOk X.prog X.w (upd H s.heap.objs.size (.tup [x, y])) h'' s.heap.objs.size (.tup [x, y]) :=
      ⟨by show 2 ≤ sizeLine; decide, [x1, x2], .cons ru (.cons ru2 .nil), ⟨_, hT2, rfl, _, rfl⟩⟩
    have I1 : Inv X pins σ (upd H s.heap.objs.size (.tup [x, y])) { s with heap := h'', toks := tk } :=
      I.turnedNew (t' := tk) (ch := [z, TI, TO, i1, i2]) (fun c o hb q => (sb.2 c (fun q' => hb (by simp [q']))).trans (hk c o (fun q' => hb (by simp [q'])) (fun q' => hb (by simp [q'])) (fun q' => hb (by simp [q'])) (fun q' => hb (by simp [q'])) q)) hf (Nat.le_refl _) new
    refine ⟨.ref s.heap.objs.size, _, I1, rfl, ⟨_, x, y, rfl, I.hok.fresh (Nat.le_refl _), rfl, fun l hl => by rw [I.tuple_inj hl hqx]; exact hx, fun l hl => by rw [I.list_inj hl hqy]; exact hy⟩, ⟨z'', ?_, ⟨x1, x2, ?_⟩, ?_, ?_⟩, fun c hcm => ?_⟩
    · exact (sb.2 _ D.TIz).trans (hk _ _ D.TIz D.TITO D.TIi1 D.TIi2 hTI)
    · exact (sb.2 _ D.TOz).trans TO'
    · exact h1'.1.at fun o q => (sb.2 _ D.i1z).trans q
    · exact h2'.1.at fun o q => (sb.2 _ D.i2z).trans q
    · have hlt : c < s.heap.objs.size := by
        have e' : c = z ∨ c = TI ∨ c = TO ∨ c = i1 ∨ c = i2 := by simpa using hcm
        rcases e' with q | q | q | q | q
        · rw [q]; exact hzl
        · rw [q]; exact Heap.lt_size hTI
        · rw [q]; exact Heap.lt_size hTO
        · rw [q]; obtain ⟨_, e1, _⟩ := h1; exact Heap.lt_size e1
        · rw [q]; obtain ⟨_, e2, _⟩ := h2; exact Heap.lt_size e2
      rw [upd_ne (Nat.ne_of_lt hlt)]
      exact (hf c hcm).1
  done := by
    intro X hP hw hK hc i pins s σ H E I hf st hg
    subst hP hw hK
    obtain ⟨hz, hTI, ⟨x0, y0, hTO⟩, h1, h2⟩ := st
    obtain ⟨xs, ys, hqx, hqy, hle1, hle2, hend⟩ := hg
    obtain ⟨its, rv, p, _⟩ := I.tuple hqx
    obtain ⟨its2, rv2, p2, _⟩ := I.list hqy
    have l1 := rv.length
    have l2 := rv2.length
    have hh := I.ok.hd hc
    exact wpAny_pyNext_zipD2_end (sepM D) (Draws.tuple (A := Around.in1 _) hh i1 a D.l1i1 its.toArray) (Draws.list (A := Around.in1 _) hh i2 b D.l2i2 its2.toArray) hz hTI hTO ⟨h1, p⟩ ⟨h2, p2.isList⟩ (by simp; omega) (by simp; omega) (by simp; omega) fun h' tk hk => ⟨rfl, I.turnedL (t' := tk) (ch := [z, TI, TO, i1, i2]) (fun c o hb q =>
      hk c o (fun q' => hb (by simp [q'])) (fun q' => hb (by simp [q'])) (fun q' => hb (by simp [q'])) (fun q' => hb (by simp [q'])) q) hf⟩
  self := fun A i s Q E st h => wpAny_pyIter_zip st.1 h
def iZipM (K : PySem.W.Frag) (ta : TA) : TI := fun σ H R => ta σ H fun vs H1 => ∃ a b xs ys, vs = [.ref a, .ref b] ∧ ((SqL K H1 a xs ∧ SqL K H1 b ys ∧ R (Itz K a b) H1) ∨ (SqT K H1 a xs ∧ SqT K H1 b ys ∧ R (RZ.ItzT K a b) H1) ∨ (SqT K H1 a xs ∧ SqL K H1 b ys ∧ R (ItzM K a b) H1))
theorem pi_zipM {X : Cx} {e e2 : Expr} {ta : TA} {p pos tpos : Pos} {elts : List Expr} {kk : Nat} (hg : Gl X "zip") (hm : X.mg "zip" = none) (ha : PA X [e, e2] ta)
    (hs : starEach [e, e2] X.env = (false, eval e X.env) :: starEach [e2] X.env := by rfl) (hpl : (backTo pos (starEach [e2] X.env)).any (·.1) = false := by rfl) :
    PI X (.Tuple elts kk tpos) (.Call (.Name "zip" p) [e, e2] [] pos) (iZipM X.K ta) := by
  refine ⟨fun pins s σ H R I h => ?_⟩
  refine Call_ (ld_blt I hg hm PyProof.Rows.boot_zip (PyProof.Rows.callWith_type1 (thn (ha.run pos pins s σ H _ I h) fun us s1 ⟨vs, H1, I1, r1, q1⟩ => ?_) hs hpl))
  obtain ⟨a, b, xs, ys, ex, q1⟩ := q1
  subst ex
  cases r1 with
  | cons r rr =>
    cases rr with
    | cons r' rr =>
      cases rr
      cases r
      cases r'
      have fresh5 : ∀ c, c ∈ [s1.heap.objs.size + 4, s1.heap.objs.size + 2, s1.heap.objs.size + 3, s1.heap.objs.size, s1.heap.objs.size + 1] → FpOk X pins H1 c := fun c hcm => by
        have e' : c = s1.heap.objs.size + 4 ∨ c = s1.heap.objs.size + 2 ∨ c = s1.heap.objs.size + 3 ∨ c = s1.heap.objs.size ∨ c = s1.heap.objs.size + 1 := by simpa using hcm
        have hle : s1.heap.objs.size ≤ c := by
          rcases e' with z | z | z | z | z
          · rw [z]; exact Nat.le_add_right _ _
          · rw [z]; exact Nat.le_add_right _ _
          · rw [z]; exact Nat.le_add_right _ _
          · rw [z]; exact Nat.le_refl _
          · rw [z]; exact Nat.le_add_right _ _
        exact I1.fpOk hle (I1.hok.fresh hle)
      rcases q1 with ⟨hqx, hqy, q⟩ | ⟨hqx, hqy, q⟩ | ⟨hqx, hqy, q⟩
      · obtain ⟨its, rv, p1, _⟩ := I1.list hqx
        obtain ⟨its2, rv2, p2, _⟩ := I1.list hqy
        refine call_zip_2 p1.isList p2.isList fun h' hz hTI hTO h1 h2 hsz hk => wpAny_pyIter_zip hz ?_
        have I2 : Inv X pins σ H1 { s1 with heap := h' } := I1.kept (t' := s1.toks) hk
        exact ⟨s1.heap.objs.size + 4, [s1.heap.objs.size + 4, s1.heap.objs.size + 2, s1.heap.objs.size + 3, s1.heap.objs.size, s1.heap.objs.size + 1], _, _, H1, rfl, I2, turn_zip (PySem.W.ktu_apart s1.heap.objs.size a b p1.lt p2.lt), ⟨hz, hTI, ⟨_, _, hTO⟩, h1, h2⟩, fresh5, q⟩
      · obtain ⟨its, rv, p1, _⟩ := I1.tuple hqx
        obtain ⟨its2, rv2, p2, _⟩ := I1.tuple hqy
        obtain ⟨o1, ho1, _⟩ := id p1
        obtain ⟨o2, ho2, _⟩ := id p2
        refine RZ.call_zipT (show s1.heap.IsTuple a its.toArray from p1) (show s1.heap.IsTuple b its2.toArray from p2) fun h' hz hTI hTO h1 h2 hsz hk => wpAny_pyIter_zip hz ?_
        have I2 : Inv X pins σ H1 { s1 with heap := h' } := I1.kept (t' := s1.toks) hk
        exact ⟨s1.heap.objs.size + 4, [s1.heap.objs.size + 4, s1.heap.objs.size + 2, s1.heap.objs.size + 3, s1.heap.objs.size, s1.heap.objs.size + 1], _, _, H1, rfl, I2, RZ.turn_zipT (PySem.W.ktu_apart s1.heap.objs.size a b (Heap.lt_size ho1) (Heap.lt_size ho2)), ⟨hz, hTI, ⟨_, _, hTO⟩, h1, h2⟩, fresh5, q⟩
      · obtain ⟨its, rv, p1, _⟩ := I1.tuple hqx
        obtain ⟨its2, rv2, p2, _⟩ := I1.list hqy
        obtain ⟨o1, ho1, _⟩ := id p1
        refine zip_begins2 (begins_tuple a its.toArray) (begins_list b its2.toArray) (show s1.heap.IsTuple a its.toArray from p1) p2.isList fun h' hz hTI hTO h1 h2 hsz hk => wpAny_pyIter_zip hz ?_
        have I2 : Inv X pins σ H1 { s1 with heap := h' } := I1.kept (t' := s1.toks) hk
        exact ⟨s1.heap.objs.size + 4, [s1.heap.objs.size + 4, s1.heap.objs.size + 2, s1.heap.objs.size + 3, s1.heap.objs.size, s1.heap.objs.size + 1], _, _, H1, rfl, I2, turn_zipM (PySem.W.ktu_apart s1.heap.objs.size a b (Heap.lt_size ho1) p2.lt), ⟨hz, hTI, ⟨_, _, hTO⟩, ⟨_, h1, rfl, rfl⟩, ⟨_, h2, rfl, rfl⟩⟩, fresh5, q⟩
/-! enumerate of a tuple -/
def IteT (K : PySem.W.Frag) (a : Addr) : It :=
  ⟨fun i H => ∃ (xs : List V) (x : V), SqT K H a xs ∧ xs[i]? = some x, fun i H v H' => ∃ T x, v = .ref T ∧ H T = none ∧ H' = upd H T (.tup [.int (i : Nat), x]) ∧ ∀ xs, SqT K H a xs → xs[i]? = some x, fun i H => ∃ xs : List V, SqT K H a xs ∧ xs.length ≤ i⟩
theorem turn_enumT {P : Program} {w : World} {K : PySem.W.Frag} {elts : List Expr} {kk : Nat} {tpos : Pos} (a e it : Addr) :
    Turn P w K (.Tuple elts kk tpos) (IteT K a) [e, it] e (fun i h => (∃ old, IsEnum h e it ((i : Nat) : Int) old) ∧ h.IsTupleIter it a i ∧ e ≠ it ∧ a ≠ e ∧ a ≠ it) where
  mem := by simp
  obj := fun i h st b hb => by
    obtain ⟨⟨old, he⟩, ⟨o, ho, hc, hd⟩, _⟩ := st
    have e' : b = e ∨ b = it := by simpa using hb
    rcases e' with z | z
    · rw [z]; exact ⟨_, he, fun v q => nomatch q⟩
    · rw [z]; exact ⟨o, ho, fun v q => by rw [hd] at q; cases q⟩
  keep := fun i h h' st k => let ⟨⟨old, he⟩, hi, hne, hr⟩ := st; ⟨⟨old, k e (by simp) _ he⟩, hi.at fun o q => k it (by simp) o q, hne, hr⟩
  item := by
    intro X hP hw hK hc i pins s σ H E I hf st hg
    subst hP hw hK
    obtain ⟨⟨old, he⟩, hit, hne, hae, hai⟩ := st
    obtain ⟨xs, x, hq, hx⟩ := hg
    obtain ⟨its, rv, p, hz⟩ := I.tuple hq
    obtain ⟨u, hu, ru⟩ := rv.get hx
    have hel : e < s.heap.objs.size := Heap.lt_size he
    have hil : it < s.heap.objs.size := by obtain ⟨_, q, _⟩ := hit; exact Heap.lt_size q
    have pt : s.heap.IsTuple a its.toArray := p
    have hlt : i < its.toArray.size := by
      have := (List.getElem?_eq_some_iff.mp hu).1
      simpa using this
    refine wpAny_pyNext_enum_itemC (Draws.tuple (prog := X.prog) (w := X.w) (A := X.A.in1) (I.ok.hd hc) it a hai its.toArray) he ⟨hit, pt⟩ hlt hne (by simp [hne, Ne.symm hae]) fun x' h' tk hP ho hst hT hsz hk => ?_
    have ex : x' = u := by
      have hP' : its.toArray[i]? = some x' := hP
      have hu' : its.toArray[i]? = some u := by simpa using hu
      rw [hu'] at hP'
      exact (Option.some.inj hP').symm
    subst ex
    refine ⟨_, rfl, wpAny_letOwnedTupleGo_enum (s := { s with heap := h', toks := tk + 1 }) ho fun h'' he' sb => ?_⟩
    have hT2 : h''.get? s.heap.objs.size = some { cls := .type "tuple", data := .seq #[.int i tk, x'] } := (sb.2 _ (Nat.ne_of_gt hel)).trans hT
    have new : ObjOk X.prog X.w (upd H s.heap.objs.size (.tup [.int (i : Nat), x])) h'' s.heap.objs.size (.tup [.int (i : Nat), x]) :=
      ⟨by show 2 ≤ sizeLine; decide, [.int i tk, x'], .cons ⟨_, rfl⟩ (.cons ru .nil), ⟨_, hT2, rfl, _, rfl⟩⟩
    have I1 : Inv X pins σ (upd H s.heap.objs.size (.tup [.int (i : Nat), x])) { s with heap := h'', toks := tk + 1 } :=
      I.turnedNew (ch := [e, it]) (fun b ob hb q => (sb.2 b (fun z => hb (by simp [z]))).trans (hk b ob (fun z => hb (by simp [z])) (fun z => hb (by simp [z])) q)) hf (Nat.le_refl _) new
    refine ⟨.ref s.heap.objs.size, _, I1, rfl, ⟨_, x, rfl, I.hok.fresh (Nat.le_refl _), rfl, fun ys hy => by rw [I.tuple_inj hy hq]; exact hx⟩, ⟨⟨x', ?_⟩, hst.1.at fun o q => (sb.2 it (Ne.symm hne)).trans q, hne, hae, hai⟩, fun b hb => ?_⟩
    · have e1 : ((i + 1 : Nat) : Int) = (i : Int) + 1 := by omega
      rw [e1]; exact he'
    · have hb' : b < s.heap.objs.size := by
        have e' : b = e ∨ b = it := by simpa using hb
        rcases e' with z | z
        · rw [z]; exact hel
        · rw [z]; exact hil
      rw [upd_ne (Nat.ne_of_lt hb')]
      exact (hf b hb).1
  done := by
    intro X hP hw hK hc i pins s σ H E I hf st hg
    subst hP hw hK
    obtain ⟨⟨old, he⟩, hit, hne, hae, hai⟩ := st
    obtain ⟨xs, hq, hx⟩ := hg
    obtain ⟨its, rv, p, hz⟩ := I.tuple hq
    obtain ⟨f0, f1, f2, f3, f4, f5⟩ := hf it (by simp)
    have hl := rv.length
    have hT : s.TypeIs (.ref e) "enumerate" := ⟨_, he, rfl⟩
    have pt : s.heap.IsTuple a its.toArray := p
    unfold pyNext
    refine wpAny_bind (wpAny_attempt (wpAny_callSpecial?_slot (name := Str.ofString "__next__") hT F.slot_enumerate_next
      (wpAny_call_entry F.slot_enumerate_next hT F.entry_enumerate_next ?_ (F.args_enumerate_next_1 _))))
    show wpAny _ _ (field (.ref e) 2 >>= _) _ _ _
    refine wpAny_bind (wpAny_field he rfl (x := .ref it) rfl ?_)
    refine wpAny_bind (wpAny_nextOf_tuple_end (I.ok.hd hc) hit pt (by simp; omega) fun h' x he' hx' => ?_)
    obtain ⟨o, ho, hc⟩ := hx'
    refine wpAny_bind (wpAny_isInstance (T := "StopIteration") (b := true) ⟨o, ho, hc⟩ isSubtype_stop ?_)
    exact wpAny_pure ⟨rfl, I.turned (t' := s.toks) (fun b o hb q => he' b o hb q) f0 f1 f3 f4 f5⟩
  self := fun A i s Q E st h => let ⟨⟨_, he⟩, _⟩ := st; wpAny_pyIter_enum he h
set_option maxHeartbeats 1000000 in
theorem meets_enum_newB {v : Value} {o : Obj} {H : Heap → Prop} (B : Begins v o H) :
    Meets (Builtin.«enumerate.__new__» ⟨[.type "enumerate", v], []⟩) (fun _ R s => H s.heap ∧
      R (.ok (.ret (.ref (s.heap.push o).objs.size))) { s with heap := (s.heap.push o).push { cls := .type "enumerate", data := .fields #[.none, .bool false, .ref s.heap.objs.size, rawInt 0, .none, .none] } }) :=
  .of_wp fun prog w A R s h => by
    obtain ⟨hp, g, d, tk, os⟩ := s; obtain ⟨h1, h⟩ := h
    have hsub := sub_enumerate
    have q1 : ∀ {A' : Around} {E : Value → Shared → Prop} {Q : Value → Shared → Prop}, Q (.ref hp.objs.size) ⟨hp.push o, g, d, tk, os⟩ → wpAny (model prog w) A' (pyIter v) Q E ⟨hp, g, d, tk, os⟩ :=
      fun q => B.iter prog w _ _ ⟨hp, g, d, tk, os⟩ _ h1 q
    wp_walk using q1
    refine wpAny_stack_any fun st => wpAny_pure ?_
    split
    · rename_i c _ _ _ _ _
      cases (c == Value.type "enumerate")
      · wp_walk using q1
        exact ⟨_, rfl, h⟩
      · wp_walk using q1
        exact ⟨_, rfl, h⟩
    · wp_walk using q1
      exact ⟨_, rfl, h⟩
theorem enum_begins1 {prog : Program} {w : World} {A : Around} {E : Value → Shared → Prop} {s : Shared} {v : Value} {o : Obj} {H : Heap → Prop} {Q : Value → Shared → Prop} (B : Begins v o H) (h1 : H s.heap)
    (h : ∀ h', IsEnum h' (s.heap.objs.size + 1) s.heap.objs.size 0 .none → h'.get? s.heap.objs.size = some o → h'.objs.size = s.heap.objs.size + 2 →
      (∀ b o, s.heap.get? b = some o → h'.get? b = some o) → Q (.ref (s.heap.objs.size + 1)) { s with heap := h' }) :
    wpAny (model prog w) A (call (.type "enumerate") [v]) Q E s := by
  refine callType_new F.called_enumerate (by decide) (F.typeCall_enumerate_1 _) (F.newCall_enumerate_1 _) (fun obj => F.args_object_init_2 obj _) F.entry_enumerate_new
    (meets_enum_newB B) ⟨h1, ?_⟩
  have hz : (s.heap.push o).objs.size = s.heap.objs.size + 1 := Heap.size_push ..
  show _ ∧ _
  rw [hz]
  have he : IsEnum ((s.heap.push o).push { cls := .type "enumerate", data := .fields #[.none, .bool false, .ref s.heap.objs.size, rawInt 0, .none, .none] }) (s.heap.objs.size + 1) s.heap.objs.size 0 .none := by
    have := Heap.get?_push_size (s.heap.push o) (o := { cls := .type "enumerate", data := .fields #[.none, .bool false, .ref s.heap.objs.size, rawInt 0, .none, .none] }) rfl
    rw [hz] at this; exact this
  refine ⟨⟨_, he, rfl⟩, h _ he (Heap.get?_push_of_some _ (Heap.get?_push_size _ B.free)) (by rw [Heap.size_push, hz]) fun b o x => Heap.get?_push_of_some _ (Heap.get?_push_of_some _ x)⟩
def iEnumA (K : PySem.W.Frag) (ta : TA) : TI := fun σ H R => ta σ H fun vs H1 => ∃ a xs, vs = [.ref a] ∧ ((SqL K H1 a xs ∧ R (Ite K a) H1) ∨ (SqT K H1 a xs ∧ R (IteT K a) H1))
theorem pi_enumA {X : Cx} {e : Expr} {ta : TA} {p pos tpos : Pos} {elts : List Expr} {kk : Nat} (hg : Gl X "enumerate") (hm : X.mg "enumerate" = none) (ha : PA X [e] ta) (hs : starEach [e] X.env = [(false, eval e X.env)] := by rfl) :
    PI X (.Tuple elts kk tpos) (.Call (.Name "enumerate" p) [e] [] pos) (iEnumA X.K ta) := by
  refine ⟨fun pins s σ H R I h => ?_⟩
  refine Call_ (ld_blt I hg hm boot_enumerate (PyProof.Rows.callWith_type1 (thn (ha.run pos pins s σ H _ I h) fun us s1 ⟨vs, H1, I1, r1, q1⟩ => ?_) hs rfl))
  obtain ⟨a, xs, ex, q1⟩ := q1
  subst ex
  cases r1 with
  | cons r rr =>
    cases rr
    cases r
    have fresh : ∀ b, b ∈ [s1.heap.objs.size + 1, s1.heap.objs.size] → FpOk X pins H1 b := fun b hb => by
      have e' : b = s1.heap.objs.size + 1 ∨ b = s1.heap.objs.size := by simpa using hb
      have hle : s1.heap.objs.size ≤ b := by
        rcases e' with z | z
        · rw [z]; exact Nat.le_add_right _ _
        · rw [z]; exact Nat.le_refl _
      exact I1.fpOk hle (I1.hok.fresh hle)
    rcases q1 with ⟨hq, q⟩ | ⟨hq, q⟩
    · obtain ⟨its, rv, p', hz⟩ := I1.list hq
      refine call_enumerate_list p'.isList fun h' he hit hsz hk => wpAny_pyIter_enum he ?_
      have I2 : Inv X pins σ H1 { s1 with heap := h' } := I1.kept (t' := s1.toks) hk
      exact ⟨s1.heap.objs.size + 1, [s1.heap.objs.size + 1, s1.heap.objs.size], _, _, H1, rfl, I2, turn_enum a (s1.heap.objs.size + 1) s1.heap.objs.size, ⟨⟨.none, he⟩, hit, Nat.succ_ne_self _⟩, fresh, q⟩
    · obtain ⟨its, rv, p', hz⟩ := I1.tuple hq
      have pt : s1.heap.IsTuple a its.toArray := p'
      have hal : a < s1.heap.objs.size := by obtain ⟨o, ho, _⟩ := id pt; exact Heap.lt_size ho
      refine enum_begins1 (begins_tuple a its.toArray) pt fun h' he hit hsz hk => wpAny_pyIter_enum he ?_
      have I2 : Inv X pins σ H1 { s1 with heap := h' } := I1.kept (t' := s1.toks) hk
      exact ⟨s1.heap.objs.size + 1, [s1.heap.objs.size + 1, s1.heap.objs.size], _, _, H1, rfl, I2, turn_enumT a (s1.heap.objs.size + 1) s1.heap.objs.size, ⟨⟨.none, he⟩, ⟨_, hit, rfl, rfl⟩, Nat.succ_ne_self _, Nat.ne_of_lt (Nat.lt_succ_of_lt hal), Nat.ne_of_lt hal⟩, fresh, q⟩
/-- a list, a tuple, a text -/
def iSeq (K : PySem.W.Frag) (tl : TE) : TI := fun σ H R => tl σ H fun x H1 => (∃ a, x = .ref a ∧ (∃ xs, SqL K H1 a xs) ∧ R (Itl K a) H1) ∨ (∃ a, x = .ref a ∧ (∃ xs, SqT K H1 a xs) ∧ R (Itt K a) H1) ∨ (∃ z, x = .str z ∧ R (Its z) H1)
theorem pe_atV {X : Cx} {pins : List (Addr × Obj)} {σ : St} {H : Hp} {s : Shared} {v : V} {u : Value} {R : It → Hp → Prop} {tg : Expr} (I : Inv X pins σ H s) (r : RelV v u) :
    ((∃ a, v = .ref a ∧ (∃ xs, SqL X.K H a xs) ∧ R (Itl X.K a) H) → wpAny (model X.prog X.w) X.A (pyIter u) (PIE X pins σ tg R) X.xe s) ∧ ((∃ a, v = .ref a ∧ (∃ xs, SqT X.K H a xs) ∧ R (Itt X.K a) H) → wpAny (model X.prog X.w) X.A (pyIter u) (PIE X pins σ tg R) X.xe s) ∧
      ((∃ z, v = .str z ∧ R (Its z) H) → wpAny (model X.prog X.w) X.A (pyIter u) (PIE X pins σ tg R) X.xe s) := by
  refine ⟨fun ⟨a, e, ⟨xs, hq⟩, q⟩ => ?_, fun ⟨a, e, ⟨xs, hq⟩, q⟩ => ?_, fun ⟨z, e, q⟩ => ?_⟩
  · subst e
    cases r
    obtain ⟨its, rv, p, hz⟩ := I.list hq
    refine wpAny_pyIter_list p.isList ?_
    refine ⟨s.heap.objs.size, [s.heap.objs.size], _, _, H, rfl, I.kept (t' := s.toks) fun b o e => Heap.get?_push_of_some _ e, turn_list a _, ⟨_, Heap.get?_push_size _ rfl, rfl, rfl⟩, fun b hb => ?_, q⟩
    have e : b = s.heap.objs.size := by simpa using hb
    subst e
    exact I.fpOk (Nat.le_refl _) (I.hok.fresh (Nat.le_refl _))
  · subst e
    cases r
    obtain ⟨its, rv, p, hz⟩ := I.tuple hq
    refine wpAny_pyIter_tuple (show s.heap.IsTuple a its.toArray from p) ?_
    refine ⟨s.heap.objs.size, [s.heap.objs.size], _, _, H, rfl, I.kept (t' := s.toks) fun b o e => Heap.get?_push_of_some _ e, turn_tuple a _, ⟨_, Heap.get?_push_size _ rfl, rfl, rfl⟩, fun b hb => ?_, q⟩
    have e : b = s.heap.objs.size := by simpa using hb
    subst e
    exact I.fpOk (Nat.le_refl _) (I.hok.fresh (Nat.le_refl _))
  · subst e
    obtain ⟨t, rfl⟩ := r
    cases ha : z.cps.all (· < 128)
    · exact wpAny_pyIter_wide ha (pi_one (tk := s.toks) I _ (turn_str _ z t "str_iterator" (.inr rfl)) ⟨_, Heap.get?_push_size _ rfl, rfl, rfl⟩ q)
    · exact wpAny_pyIter_ascii ha (pi_one (tk := s.toks) I _ (turn_str _ z t "str_ascii_iterator" (.inl rfl)) ⟨_, Heap.get?_push_size _ rfl, rfl, rfl⟩ q)
theorem pi_seq {X : Cx} {tg l : Expr} {tl : TE} (hl : PE X l tl) : PI X tg l (iSeq X.K tl) := by
  refine ⟨fun pins s σ H R I h => ?_⟩
  refine thn (hl.run pins s σ H _ I h) fun v s1 ⟨x, H1, I1, r1, q1⟩ => ?_
  obtain ⟨k1, k2, k3⟩ := pe_atV (R := R) (tg := tg) I1 r1
  rcases q1 with q | q | q
  · exact k1 q
  · exact k2 q
  · exact k3 q
end L2
namespace Sm
open PySem L2
variable [LT] [WB]
/-! what is walked: item i (none: nothing is known; some none: the end), a bound of the turns -/
structure Itr where
  nxt : Nat → Mem → Option (Option Val)
  fuel : Nat
abbrev IF := Sl → Mem → Out Itr
def SimIt (K : PySem.W.Frag) (ρ0 : List Addr) (H0 : Hp) (it : Itr) (J : It) : Prop :=
  ∀ (i : Nat) (ρ : List Addr) (M : Mem) (H : Hp), Ext ρ0 H0 ρ H → Rel K ρ M H → (it.nxt i M = some none → J.stop i H) ∧
    ∀ x, it.nxt i M = some (some x) → J.go i H ∧ ∀ v H', J.yld i H v H' → Ext ρ H ρ H' ∧ Rel K ρ M H' ∧ RV K ρ H' x v
abbrev Ritr (K : PySem.W.Frag) : RR Itr It := fun ρ H it J => SimIt K ρ H it J
def tIt (K : PySem.W.Frag) (W : WX) (f : IF) : TI := fun σ H R => ∃ ρ e M, Rel K ρ M H ∧ SlR K ρ H e σ ∧ Po (Ritr K) K ρ H σ W R (f e M)
structure SI (X : Cx) (W : WX) (tg iter : Expr) (f : IF) : Prop where
  pi : PI X tg iter (tIt X.K W f)
theorem PI.imp {X : Cx} {tg e : Expr} {t t' : TI} (h : PI X tg e t) (i : ∀ σ H Q, t' σ H Q → t σ H Q) : PI X tg e t' := ⟨fun pins s σ H Q I q => h.run pins s σ H Q I (i σ H Q q)⟩
def iOf (f : EF) (k : Val → Mem → Option Itr) : IF := fun e M => (f e M).bind fun x M1 => match k x M1 with
  | some it => .ok it M1
  | none => .bad
def itTup (l : List Val) : Itr := ⟨fun i _ => some l[i]?, l.length + 1⟩
def itLst (n : Nat) (b : Nat) : Itr := ⟨fun i M => match M[n]? with
  | some (.lst l) => some l[i]?
  | _ => none, b + 1⟩
def itFrz (l : List Int) : Itr := ⟨fun i _ => some (l[i]?.map Val.int), l.length + 1⟩
def itStr (z : Str) : Itr := ⟨fun i _ => some (z.cps[i]?.map fun c => Val.str ⟨#[c]⟩), z.cps.size + 1⟩
def itRng (lo : Int) (n : Nat) : Itr := ⟨fun i _ => some (if i < n then some (.int (lo + i)) else none), n + 1⟩
def lenM (n : Nat) (M : Mem) : Option Nat := match M[n]? with
  | some (.lst l) => some l.length
  | _ => none
def itSeq (x : Val) (M : Mem) : Option Itr := match x with
  | .tup l => some (itTup l)
  | .frz l => some (itFrz l)
  | .str z => some (itStr z)
  | .loc n => (lenM n M).map fun b => itLst n b
  | _ => none
/-- items with their numbers -/
def itNum (it : Itr) : Itr := ⟨fun i M => (it.nxt i M).map fun o => o.map fun x => .tup [.int (i : Nat), x], it.fuel⟩
def itEnum (x : Val) (M : Mem) : Option Itr := match x with
  | .tup l => some (itNum (itTup l))
  | .loc n => (lenM n M).map fun b => itNum (itLst n b)
  | _ => none
def itZ (a b : Itr) : Itr := ⟨fun i M => match a.nxt i M, b.nxt i M with
  | some (some x), some (some y) => some (some (.tup [x, y]))
  | some none, some _ => some none
  | some _, some none => some none
  | _, _ => none, a.fuel⟩
def itZm (l : List Val) (n : Nat) : Itr := ⟨fun i M => match M[n]? with
  | some (.lst m) => if i ≤ l.length ∧ i ≤ m.length then (match l[i]?, m[i]? with
    | some x, some y => some (some (.tup [x, y]))
    | _, _ => some none) else none
  | _ => none, l.length + 1⟩
def itZip (x y : Val) (M : Mem) : Option Itr := match x, y with
  | .tup l, .loc k => match M[k]? with
    | some (.lst _) => some (itZm l k)
    | _ => none
  | .tup l, .tup m => some (itZ (itTup l) (itTup m))
  | .loc n, .loc k => match lenM n M, lenM k M with
    | some b, some _ => some (itZ (itLst n b) (itLst k b))
    | _, _ => none
  | _, _ => none
def iSq (f : EF) : IF := iOf f itSeq
def iEn (f : EF) : IF := iOf f itEnum
def iZp (f g : EF) : IF := fun e M => (f e M).bind fun x M1 => (g e M1).bind fun y M2 => match itZip x y M2 with
  | some it => .ok it M2
  | none => .bad
def iR1 (f : EF) : IF := fun e M => (f e M).bind fun x M1 => match x with
  | .int j => if -(2 ^ 62) ≤ j ∧ j < 2 ^ 62 then .ok (itRng 0 j.toNat) M1 else .bad
  | _ => .bad
def iR2 (f g : EF) : IF := fun e M => (f e M).bind fun x M1 => (g e M1).bind fun y M2 => match x, y with
  | .int i, .int j => if -(2 ^ 62) ≤ i ∧ i < 2 ^ 62 ∧ -(2 ^ 62) ≤ j ∧ j < 2 ^ 62 then .ok (itRng i (j - i).toNat) M2 else .bad
  | _, _ => .bad
section
variable {K : PySem.W.Frag} {ρ : List Addr} {H : Hp} {M : Mem}
theorem sim_lst {n b : Nat} {a : Addr} (h : ρ[n]? = some a) : SimIt K ρ H (itLst n b) (Itl K a) := fun i ρ1 M1 H1 E R => by
  have key : ∀ o, (itLst n b).nxt i M1 = some o → ∃ l vs, M1[n]? = some (.lst l) ∧ o = l[i]? ∧ H1 a = some (.lst vs) ∧ RVs K ρ1 H1 l vs := fun o ho => by
    unfold itLst at ho
    simp only at ho
    split at ho
    · rename_i l hm
      obtain ⟨vs, h3, h4⟩ := R.at_ _ _ _ hm (E.get h)
      cases ho
      exact ⟨l, vs, hm, rfl, h3, h4⟩
    · cases ho
  refine ⟨fun ho => ?_, fun x ho => ?_⟩
  · obtain ⟨l, vs, hm, e, h3, h4⟩ := key _ ho
    exact ⟨vs, SqL.of h3, by rw [h4.length]; exact List.getElem?_eq_none_iff.mp e.symm⟩
  · obtain ⟨l, vs, hm, e, h3, h4⟩ := key _ ho
    obtain ⟨v, hv, rv⟩ := h4.get e.symm
    refine ⟨⟨vs, v, SqL.of h3, hv⟩, fun u H' ⟨e1, e2⟩ => ?_⟩
    subst e1
    have := e2 vs (SqL.of h3)
    rw [hv] at this; cases this
    exact ⟨Ext.refl _ _, R, rv⟩
theorem sim_tup {l : List Val} {a : Addr} {vs : List V} (h : SqT K H a vs) (r : RVs K ρ H l vs) : SimIt K ρ H (itTup l) (Itt K a) := fun i ρ1 M1 H1 E R => by
  have h1 := E.sqT h
  have r1 := RVs.mono E _ _ r
  refine ⟨fun ho => ?_, fun x ho => ?_⟩
  · have e : l[i]? = none := Option.some.inj ho
    exact ⟨vs, h1, by rw [r1.length]; exact List.getElem?_eq_none_iff.mp e⟩
  · have e : l[i]? = some x := Option.some.inj ho
    obtain ⟨v, hv, rv⟩ := r1.get e
    refine ⟨⟨vs, v, h1, hv⟩, fun u H' ⟨e1, e2⟩ => ?_⟩
    subst e1
    have := e2 vs h1
    rw [hv] at this; cases this
    exact ⟨Ext.refl _ _, R, rv⟩
theorem sim_frz {l : List Int} {a : Addr} (h : FzR K ρ H a (l.map V.int)) : SimIt K ρ H (itFrz l) (Itl K a) := fun i ρ1 M1 H1 E R => by
  have h1 := (E.fzL h).sq
  refine ⟨fun ho => ?_, fun x ho => ?_⟩
  · have e : l[i]?.map Val.int = none := Option.some.inj ho
    exact ⟨_, h1, by simpa using e⟩
  · have e : l[i]?.map Val.int = some x := Option.some.inj ho
    cases hi : l[i]? with
    | none => rw [hi] at e; cases e
    | some n =>
      rw [hi] at e
      cases e
      have hv : (l.map V.int)[i]? = some (V.int n) := by simp [hi]
      refine ⟨⟨_, _, h1, hv⟩, fun u H' ⟨e1, e2⟩ => ?_⟩
      subst e1
      have := e2 _ h1
      rw [hv] at this; cases this
      exact ⟨Ext.refl _ _, R, rfl⟩
theorem sim_str {z : Str} : SimIt K ρ H (itStr z) (Its z) := fun i ρ1 M1 H1 E R => by
  refine ⟨fun ho => ?_, fun x ho => ?_⟩
  · have e : z.cps[i]?.map (fun c => Val.str ⟨#[c]⟩) = none := Option.some.inj ho
    show z.cps.size ≤ i
    simpa using e
  · have e : z.cps[i]?.map (fun c => Val.str ⟨#[c]⟩) = some x := Option.some.inj ho
    cases hi : z.cps[i]? with
    | none => rw [hi] at e; cases e
    | some c =>
      rw [hi] at e
      cases e
      refine ⟨(Array.getElem?_eq_some_iff.mp hi).1, fun u H' ⟨e1, c', e2, e3⟩ => ?_⟩
      subst e1 e3
      rw [hi] at e2; cases e2
      exact ⟨Ext.refl _ _, R, rfl⟩
theorem sim_rng {lo : Int} {n : Nat} : SimIt K ρ H (itRng lo n) (L2.Itr lo n) := fun i ρ1 M1 H1 E R => by
  refine ⟨fun ho => ?_, fun x ho => ?_⟩
  · have e : (if i < n then some (Val.int (lo + i)) else none) = none := Option.some.inj ho
    show n ≤ i
    split at e
    · cases e
    · omega
  · have e : (if i < n then some (Val.int (lo + i)) else none) = some x := Option.some.inj ho
    split at e
    · rename_i hlt
      cases e
      refine ⟨hlt, fun u H' ⟨e1, e2⟩ => ?_⟩
      subst e1 e2
      exact ⟨Ext.refl _ _, R, rfl⟩
    · cases e
/-- items in new pairs -/
theorem pair_new {ρ1 : List Addr} {M1 : Mem} {H1 : Hp} {T : Addr} {x y : Val} {v u : V} (R : Rel K ρ1 M1 H1) (hT : H1 T = none) (rx : RV K ρ1 H1 x v) (ry : RV K ρ1 H1 y u) :
    Ext ρ1 H1 ρ1 (upd H1 T (.tup [v, u])) ∧ Rel K ρ1 M1 (upd H1 T (.tup [v, u])) ∧ RV K ρ1 (upd H1 T (.tup [v, u])) (.tup [x, y]) (.ref T) := by
  have E := Ext.fresh (o := .tup [v, u]) ρ1 hT
  exact ⟨E, R.fresh hT, T, [v, u], rfl, ⟨upd_same⟩, v, [u], rfl, RV.mono E _ _ rx, u, [], rfl, RV.mono E _ _ ry, rfl⟩
theorem sim_numL {n b : Nat} {a : Addr} (h : ρ[n]? = some a) : SimIt K ρ H (itNum (itLst n b)) (Ite K a) := fun i ρ1 M1 H1 E R => by
  have s := sim_lst (K := K) (H := H) (b := b) h i ρ1 M1 H1 E R
  refine ⟨fun ho => ?_, fun x ho => ?_⟩
  · have e : (itLst n b).nxt i M1 = some none := by
      unfold itNum at ho
      simp only at ho
      cases hn : (itLst n b).nxt i M1 with
      | none => rw [hn] at ho; cases ho
      | some o => cases o with
        | none => rfl
        | some _ => rw [hn] at ho; cases ho
    exact s.1 e
  · unfold itNum at ho
    simp only at ho
    cases hn : (itLst n b).nxt i M1 with
    | none => rw [hn] at ho; cases ho
    | some o => cases o with
      | none => rw [hn] at ho; cases ho
      | some y =>
        rw [hn] at ho
        cases ho
        obtain ⟨⟨xs, w, g1, g2⟩, g3⟩ := s.2 y hn
        refine ⟨⟨xs, w, g1, g2⟩, fun u H' ⟨T, w', e1, hT, e2, e3⟩ => ?_⟩
        subst e1 e2
        obtain ⟨_, _, rw'⟩ := g3 w' H1 ⟨rfl, e3⟩
        exact pair_new R hT rfl rw'
theorem sim_numT {l : List Val} {a : Addr} {vs : List V} (h : SqT K H a vs) (r : RVs K ρ H l vs) : SimIt K ρ H (itNum (itTup l)) (IteT K a) := fun i ρ1 M1 H1 E R => by
  have s := sim_tup h r i ρ1 M1 H1 E R
  refine ⟨fun ho => ?_, fun x ho => ?_⟩
  · have e : (itTup l).nxt i M1 = some none := by
      unfold itNum at ho
      simp only at ho
      cases hn : (itTup l).nxt i M1 with
      | none => rw [hn] at ho; cases ho
      | some o => cases o with
        | none => rfl
        | some _ => rw [hn] at ho; cases ho
    exact s.1 e
  · unfold itNum at ho
    simp only at ho
    cases hn : (itTup l).nxt i M1 with
    | none => rw [hn] at ho; cases ho
    | some o => cases o with
      | none => rw [hn] at ho; cases ho
      | some y =>
        rw [hn] at ho
        cases ho
        obtain ⟨⟨xs, w, g1, g2⟩, g3⟩ := s.2 y hn
        refine ⟨⟨xs, w, g1, g2⟩, fun u H' ⟨T, w', e1, hT, e2, e3⟩ => ?_⟩
        subst e1 e2
        obtain ⟨_, _, rw'⟩ := g3 w' H1 ⟨rfl, e3⟩
        exact pair_new R hT rfl rw'
theorem itZ_none {a b : Itr} {i : Nat} {M : Mem} (h : (itZ a b).nxt i M = some none) : ∃ o p, a.nxt i M = some o ∧ b.nxt i M = some p ∧ (o = none ∨ p = none) := by
  unfold itZ at h
  simp only at h
  split at h
  · cases h
  · rename_i o h1 h2; exact ⟨_, _, h1, h2, .inl rfl⟩
  · rename_i o h0 h1 h2; exact ⟨_, _, h1, h2, .inr rfl⟩
  · cases h
theorem itZ_some {a b : Itr} {i : Nat} {M : Mem} {z : Val} (h : (itZ a b).nxt i M = some (some z)) : ∃ x y, a.nxt i M = some (some x) ∧ b.nxt i M = some (some y) ∧ z = .tup [x, y] := by
  unfold itZ at h
  simp only at h
  split at h
  · rename_i x y h1 h2; cases h; exact ⟨_, _, h1, h2, rfl⟩
  · cases h
  · cases h
  · cases h
theorem lst_at {n b : Nat} {a : Addr} {ρ1 : List Addr} {M1 : Mem} {H1 : Hp} {o : Option Val} {i : Nat} (R : Rel K ρ1 M1 H1) (h : ρ1[n]? = some a) (ho : (itLst n b).nxt i M1 = some o) : ∃ l vs, H1 a = some (.lst vs) ∧ RVs K ρ1 H1 l vs ∧ o = l[i]? := by
  unfold itLst at ho
  simp only at ho
  split at ho
  · rename_i l hm
    obtain ⟨vs, h3, h4⟩ := R.at_ _ _ _ hm h
    cases ho
    exact ⟨l, vs, h3, h4, rfl⟩
  · cases ho
theorem sim_zipL {n b m c : Nat} {a d : Addr} (h : ρ[n]? = some a) (h' : ρ[m]? = some d) : SimIt K ρ H (itZ (itLst n b) (itLst m c)) (Itz K a d) := fun i ρ1 M1 H1 E R => by
  refine ⟨fun ho => ?_, fun z ho => ?_⟩
  · obtain ⟨o, p, e1, e2, e3⟩ := itZ_none ho
    obtain ⟨l, vs, k1, k2, k3⟩ := lst_at R (E.get h) e1
    obtain ⟨l', vs', k1', k2', k3'⟩ := lst_at R (E.get h') e2
    refine ⟨vs, vs', SqL.of k1, SqL.of k1', ?_⟩
    rcases e3 with e3 | e3
    · exact .inl (by rw [k2.length]; exact List.getElem?_eq_none_iff.mp (k3.symm.trans e3))
    · exact .inr (by rw [k2'.length]; exact List.getElem?_eq_none_iff.mp (k3'.symm.trans e3))
  · obtain ⟨x, y, e1, e2, e3⟩ := itZ_some ho
    obtain ⟨l, vs, k1, k2, k3⟩ := lst_at R (E.get h) e1
    obtain ⟨l', vs', k1', k2', k3'⟩ := lst_at R (E.get h') e2
    obtain ⟨v, hv, rv⟩ := k2.get k3.symm
    obtain ⟨v', hv', rv'⟩ := k2'.get k3'.symm
    subst e3
    refine ⟨⟨vs, vs', v, v', SqL.of k1, SqL.of k1', hv, hv'⟩, fun u H' ⟨T, w, w', q1, hT, q2, q3, q4⟩ => ?_⟩
    subst q1 q2
    have z1 := q3 _ (SqL.of k1)
    have z2 := q4 _ (SqL.of k1')
    rw [hv] at z1; rw [hv'] at z2
    cases z1; cases z2
    exact pair_new R hT rv rv'
theorem sim_zipT {l m : List Val} {a d : Addr} {vs vs' : List V} (h : SqT K H a vs) (r : RVs K ρ H l vs) (h' : SqT K H d vs') (r' : RVs K ρ H m vs') : SimIt K ρ H (itZ (itTup l) (itTup m)) (RZ.ItzT K a d) := fun i ρ1 M1 H1 E R => by
  have h1 := E.sqT h
  have h1' := E.sqT h'
  have r1 := RVs.mono E _ _ r
  have r1' := RVs.mono E _ _ r'
  refine ⟨fun ho => ?_, fun z ho => ?_⟩
  · obtain ⟨o, p, e1, e2, e3⟩ := itZ_none ho
    have k1 : l[i]? = o := Option.some.inj e1
    have k2 : m[i]? = p := Option.some.inj e2
    refine ⟨vs, vs', h1, h1', ?_⟩
    rcases e3 with e3 | e3
    · exact .inl (by rw [r1.length]; exact List.getElem?_eq_none_iff.mp (k1.trans e3))
    · exact .inr (by rw [r1'.length]; exact List.getElem?_eq_none_iff.mp (k2.trans e3))
  · obtain ⟨x, y, e1, e2, e3⟩ := itZ_some ho
    obtain ⟨v, hv, rv⟩ := r1.get (Option.some.inj e1)
    obtain ⟨v', hv', rv'⟩ := r1'.get (Option.some.inj e2)
    subst e3
    refine ⟨⟨vs, vs', v, v', h1, h1', hv, hv'⟩, fun u H' ⟨T, w, w', q1, hT, q2, q3, q4⟩ => ?_⟩
    subst q1 q2
    have z1 := q3 _ h1
    have z2 := q4 _ h1'
    rw [hv] at z1; rw [hv'] at z2
    cases z1; cases z2
    exact pair_new R hT rv rv'
theorem sim_zipM {l : List Val} {n : Nat} {a d : Addr} {vs : List V} (h : SqT K H a vs) (r : RVs K ρ H l vs) (h' : ρ[n]? = some d) : SimIt K ρ H (itZm l n) (ItzM K a d) := fun i ρ1 M1 H1 E R => by
  have h1 := E.sqT h
  have r1 := RVs.mono E _ _ r
  have key : ∀ o, (itZm l n).nxt i M1 = some o → ∃ m us, H1 d = some (.lst us) ∧ RVs K ρ1 H1 m us ∧ i ≤ l.length ∧ i ≤ m.length ∧ o = (match l[i]?, m[i]? with | some x, some y => some (.tup [x, y]) | _, _ => none) := fun o ho => by
    unfold itZm at ho
    simp only at ho
    split at ho
    · rename_i m hm
      obtain ⟨us, h3, h4⟩ := R.at_ _ _ _ hm (E.get h')
      split at ho
      · rename_i hc
        refine ⟨m, us, h3, h4, hc.1, hc.2, ?_⟩
        split at ho
        · rename_i x y hx hy; cases ho; rfl
        · rename_i hne
          cases ho
          cases hx : l[i]? with
          | none => rfl
          | some x => cases hy : m[i]? with
            | none => rfl
            | some y => exact absurd hy (hne x y hx)
      · cases ho
    · cases ho
  refine ⟨fun ho => ?_, fun z ho => ?_⟩
  · obtain ⟨m, us, k1, k2, k3, k4, k5⟩ := key _ ho
    refine ⟨vs, us, h1, SqL.of k1, by rw [r1.length]; exact k3, by rw [k2.length]; exact k4, ?_⟩
    cases hx : l[i]? with
    | none => exact .inl (by rw [r1.length]; exact List.getElem?_eq_none_iff.mp hx)
    | some x => cases hy : m[i]? with
      | none => exact .inr (by rw [k2.length]; exact List.getElem?_eq_none_iff.mp hy)
      | some y => rw [hx, hy] at k5; cases k5
  · obtain ⟨m, us, k1, k2, k3, k4, k5⟩ := key _ ho
    cases hx : l[i]? with
    | none => rw [hx] at k5; cases k5
    | some x => cases hy : m[i]? with
      | none => rw [hx, hy] at k5; cases k5
      | some y =>
        rw [hx, hy] at k5
        cases k5
        obtain ⟨v, hv, rv⟩ := r1.get hx
        obtain ⟨v', hv', rv'⟩ := k2.get hy
        refine ⟨⟨vs, us, v, v', h1, SqL.of k1, hv, hv'⟩, fun u H' ⟨T, w, w', q1, hT, q2, q3, q4⟩ => ?_⟩
        subst q1 q2
        have z1 := q3 _ h1
        have z2 := q4 _ (SqL.of k1)
        rw [hv] at z1; rw [hv'] at z2
        cases z1; cases z2
        exact pair_new R hT rv rv'
end
section
variable {X : Cx} {W : WX} {a b : Expr} {fa fb : EF} {pos p tpos : Pos} {tg : Expr} {elts : List Expr} {kk : Nat}
theorem si_seq (ha : SE X W a fa) : SI X W tg a (iSq fa) := ⟨PI.imp (pi_seq ha.pe) fun σ H Q ⟨ρ, e, M, R, S, p⟩ => ⟨ρ, e, M, R, S, (Po.bind p).imp fun v H1 ⟨ρ1, M1, x, E1, R1, r1, p1⟩ => by
  cases x with
  | tup l =>
    obtain ⟨q, vs, h1, h2, h3⟩ := r1
    exact .inr (.inl ⟨q, h1, ⟨vs, h2⟩, p1 ρ1 H1 _ (Ext.refl _ _) R1 (sim_tup h2 h3)⟩)
  | frz l =>
    obtain ⟨q, h1, h2⟩ := r1
    exact .inl ⟨q, h1, ⟨_, h2.sq⟩, p1 ρ1 H1 _ (Ext.refl _ _) R1 (sim_frz h2)⟩
  | str z => exact .inr (.inr ⟨z, r1, p1 ρ1 H1 _ (Ext.refl _ _) R1 sim_str⟩)
  | loc n =>
    unfold itSeq lenM at p1
    simp only at p1
    cases hm : M1[n]? with
    | none => rw [hm] at p1; exact p1.elim
    | some c => cases c with
      | lst l =>
        rw [hm] at p1
        obtain ⟨q, vs, h1, h2, h3, h4⟩ := R1.lst hm r1
        exact .inl ⟨q, h1, ⟨vs, SqL.of h3⟩, p1 ρ1 H1 _ (Ext.refl _ _) R1 (sim_lst h2)⟩
      | _ => rw [hm] at p1; exact p1.elim
  | _ => exact p1.elim⟩⟩
theorem si_enum (ha : SE X W a fa) (hm : X.mg "enumerate" = none) (hg : Gl X "enumerate" := by rfl) (hs : starEach [a] X.env = [(false, eval a X.env)] := by rfl) : SI X W (.Tuple elts kk tpos) (.Call (.Name "enumerate" p) [a] [] pos) (iEn fa) :=
  ⟨PI.imp (pi_enumA hg hm (sa_cons ha sa_nil (by rw [hs]; rfl)).pa hs) fun σ H Q ⟨ρ, e, M, R, S, p⟩ => ⟨ρ, e, M, R, S, by
    have p' : Po (Ritr X.K) X.K ρ H σ W Q ((aCons fa aNil e M).bind fun l M1 => match l with
      | [x] => (match itEnum x M1 with
        | some it => .ok it M1
        | none => .bad)
      | _ => .bad) := by
      unfold iEn iOf at p
      unfold aCons aNil
      cases h : fa e M with
      | ok x M1 => rw [h] at p; exact p
      | ex x M1 => rw [h] at p; exact p
      | bad => rw [h] at p; exact p
    exact (Po.bind (R := RVsr X.K) p').imp fun vs H1 ⟨ρ1, M1, l, E1, R1, r1, p1⟩ => by
      match l, r1, p1 with
      | [x], ⟨v, r, e1, r2, e3⟩, p1 =>
        cases (show r = [] from e3)
        subst e1
        cases x with
        | tup l =>
          obtain ⟨q, vs, h1, h2, h3⟩ := r2
          subst h1
          exact ⟨q, vs, rfl, .inr ⟨h2, p1 ρ1 H1 _ (Ext.refl _ _) R1 (sim_numT h2 h3)⟩⟩
        | loc n =>
          unfold itEnum lenM at p1
          simp only at p1
          cases hm : M1[n]? with
          | none => rw [hm] at p1; exact p1.elim
          | some c => cases c with
            | lst l =>
              rw [hm] at p1
              obtain ⟨q, vs, h1, h2, h3, h4⟩ := R1.lst hm r2
              subst h1
              exact ⟨q, vs, rfl, .inl ⟨SqL.of h3, p1 ρ1 H1 _ (Ext.refl _ _) R1 (sim_numL h2)⟩⟩
            | _ => rw [hm] at p1; exact p1.elim
        | _ => exact p1.elim
      | [], _, p1 => exact p1.elim
      | _ :: _ :: _, _, p1 => exact p1.elim⟩⟩
theorem si_zip (ha : SE X W a fa) (hb : SE X W b fb) (hm : X.mg "zip" = none) (hg : Gl X "zip" := by rfl)
    (hs : starEach [a, b] X.env = (false, eval a X.env) :: starEach [b] X.env := by rfl) (hs2 : starEach [b] X.env = (false, eval b X.env) :: starEach [] X.env := by rfl) (hpl : (backTo pos (starEach [b] X.env)).any (·.1) = false := by rfl) :
    SI X W (.Tuple elts kk tpos) (.Call (.Name "zip" p) [a, b] [] pos) (iZp fa fb) :=
  ⟨PI.imp (pi_zipM hg hm (sa_cons ha (sa_cons hb sa_nil hs2) hs).pa hs hpl) fun σ H Q ⟨ρ, e, M, R, S, p⟩ => ⟨ρ, e, M, R, S, by
    have p' : Po (Ritr X.K) X.K ρ H σ W Q ((aCons fa (aCons fb aNil) e M).bind fun l M1 => match l with
      | [x, y] => (match itZip x y M1 with
        | some it => .ok it M1
        | none => .bad)
      | _ => .bad) := by
      unfold iZp at p
      unfold aCons aNil
      cases h : fa e M with
      | ok x M1 =>
        rw [h] at p
        simp only [Out.bind_ok] at p ⊢
        cases h2 : fb e M1 with
        | ok y M2 => rw [h2] at p; exact p
        | ex x M1 => rw [h2] at p; exact p
        | bad => rw [h2] at p; exact p
      | ex x M1 => rw [h] at p; exact p
      | bad => rw [h] at p; exact p
    exact (Po.bind (R := RVsr X.K) p').imp fun vs H1 ⟨ρ1, M1, l, E1, R1, r1, p1⟩ => by
      match l, r1, p1 with
      | [x, y], ⟨v, r, e1, r2, u, r', e1', r2', e3⟩, p1 =>
        cases (show r' = [] from e3)
        subst e1'
        subst e1
        cases x with
        | tup l => cases y with
          | tup m =>
            obtain ⟨q, vs, h1, h2, h3⟩ := r2
            obtain ⟨q', vs', h1', h2', h3'⟩ := r2'
            subst h1 h1'
            exact ⟨q, q', vs, vs', rfl, .inr (.inl ⟨h2, h2', p1 ρ1 H1 _ (Ext.refl _ _) R1 (sim_zipT h2 h3 h2' h3')⟩)⟩
          | loc k =>
            unfold itZip at p1
            simp only at p1
            cases hm' : M1[k]? with
            | none => rw [hm'] at p1; exact p1.elim
            | some c' => cases c' with
              | lst l' =>
                rw [hm'] at p1
                obtain ⟨q, vs, h1, h2, h3⟩ := r2
                obtain ⟨q', vs', h1', h2', h3', h4'⟩ := R1.lst hm' r2'
                subst h1 h1'
                exact ⟨q, q', vs, vs', rfl, .inr (.inr ⟨h2, SqL.of h3', p1 ρ1 H1 _ (Ext.refl _ _) R1 (sim_zipM h2 h3 h2')⟩)⟩
              | _ => rw [hm'] at p1; exact p1.elim
          | _ => exact p1.elim
        | loc n => cases y with
          | loc k =>
            unfold itZip lenM at p1
            simp only at p1
            cases hm : M1[n]? with
            | none => rw [hm] at p1; exact p1.elim
            | some c => cases c with
              | lst l =>
                rw [hm] at p1
                cases hm' : M1[k]? with
                | none => rw [hm'] at p1; exact p1.elim
                | some c' => cases c' with
                  | lst l' =>
                    rw [hm'] at p1
                    obtain ⟨q, vs, h1, h2, h3, h4⟩ := R1.lst hm r2
                    obtain ⟨q', vs', h1', h2', h3', h4'⟩ := R1.lst hm' r2'
                    subst h1 h1'
                    exact ⟨q, q', vs, vs', rfl, .inl ⟨SqL.of h3, SqL.of h3', p1 ρ1 H1 _ (Ext.refl _ _) R1 (sim_zipL h2 h2')⟩⟩
                  | _ => rw [hm'] at p1; exact p1.elim
              | _ => rw [hm] at p1; exact p1.elim
          | _ => exact p1.elim
        | _ => exact p1.elim
      | [], _, p1 => exact p1.elim
      | [_], _, p1 => exact p1.elim
      | _ :: _ :: _ :: _, _, p1 => exact p1.elim⟩⟩
theorem si_r1 (ha : SE X W a fa) (hm : X.mg "range" = none) (hg : Gl X "range" := by rfl) (hs : starEach [a] X.env = [(false, eval a X.env)] := by rfl) : SI X W tg (.Call (.Name "range" p) [a] [] pos) (iR1 fa) :=
  ⟨PI.imp (pi_range1 hg hm (sa_cons ha sa_nil (by rw [hs]; rfl)).pa hs) fun σ H Q ⟨ρ, e, M, R, S, p⟩ => ⟨ρ, e, M, R, S, by
    have p' : Po (Ritr X.K) X.K ρ H σ W Q ((aCons fa aNil e M).bind fun l M1 => match l with
      | [.int j] => if -(2 ^ 62) ≤ j ∧ j < 2 ^ 62 then .ok (itRng 0 j.toNat) M1 else .bad
      | _ => .bad) := by
      unfold iR1 at p
      unfold aCons aNil
      cases h : fa e M with
      | ok x M1 => rw [h] at p; cases x <;> exact p
      | ex x M1 => rw [h] at p; exact p
      | bad => rw [h] at p; exact p
    exact (Po.bind (R := RVsr X.K) p').imp fun vs H1 ⟨ρ1, M1, l, E1, R1, r1, p1⟩ => by
      split at p1
      · rename_i j
        obtain ⟨v, r, e1, r2, e3⟩ := r1
        cases (show r = [] from e3)
        cases (show v = _ from r2)
        split at p1
        · rename_i hj
          exact ⟨j, e1, hj.1, hj.2, p1 ρ1 H1 _ (Ext.refl _ _) R1 sim_rng⟩
        · exact p1.elim
      · exact p1.elim⟩⟩
theorem si_r2 (ha : SE X W a fa) (hb : SE X W b fb) (hm : X.mg "range" = none) (hg : Gl X "range" := by rfl) (hs : starEach [a, b] X.env = [(false, eval a X.env), (false, eval b X.env)] := by rfl) (hs2 : starEach [b] X.env = [(false, eval b X.env)] := by rfl) : SI X W tg (.Call (.Name "range" p) [a, b] [] pos) (iR2 fa fb) :=
  ⟨PI.imp (pi_range2 hg hm (sa_cons ha (sa_cons hb sa_nil (by rw [hs2]; rfl)) (by rw [hs, hs2])).pa hs hs2) fun σ H Q ⟨ρ, e, M, R, S, p⟩ => ⟨ρ, e, M, R, S, by
    have p' : Po (Ritr X.K) X.K ρ H σ W Q ((aCons fa (aCons fb aNil) e M).bind fun l M1 => match l with
      | [.int i, .int j] => if -(2 ^ 62) ≤ i ∧ i < 2 ^ 62 ∧ -(2 ^ 62) ≤ j ∧ j < 2 ^ 62 then .ok (itRng i (j - i).toNat) M1 else .bad
      | _ => .bad) := by
      unfold iR2 at p
      unfold aCons aNil
      cases h : fa e M with
      | ok x M1 =>
        rw [h] at p
        simp only [Out.bind_ok] at p ⊢
        cases h2 : fb e M1 with
        | ok y M2 => rw [h2] at p; cases x <;> cases y <;> exact p
        | ex x M1 => rw [h2] at p; exact p
        | bad => rw [h2] at p; exact p
      | ex x M1 => rw [h] at p; exact p
      | bad => rw [h] at p; exact p
    exact (Po.bind (R := RVsr X.K) p').imp fun vs H1 ⟨ρ1, M1, l, E1, R1, r1, p1⟩ => by
      split at p1
      · rename_i i j
        obtain ⟨v, r, e1, r2, v', r', e1', r2', e3⟩ := r1
        cases (show r' = [] from e3)
        cases (show v = _ from r2)
        cases (show v' = _ from r2')
        subst e1'
        split at p1
        · rename_i hj
          exact ⟨i, j, e1, hj, p1 ρ1 H1 _ (Ext.refl _ _) R1 sim_rng⟩
        · exact p1.elim
      · exact p1.elim⟩⟩
end
end Sm

namespace Sm
open PySem L2
open PyProof.Rows (envOfC)
variable [LT] [WB]
/-! loops -/
def forG (nxt : Nat → Mem → Option (Option Val)) (g : GF) (body : SF) : Nat → Nat → SF
  | 0, _ => fun _ _ => .bad
  | m + 1, i => fun e M => match nxt i M with
    | none => .bad
    | some none => .nx e M
    | some (some x) => (g x e M).toS fun e1 M1 => match body e1 M1 with
      | .nx e2 M2 => forG nxt g body m (i + 1) e2 M2
      | .ct e2 M2 => forG nxt g body m (i + 1) e2 M2
      | .bk e2 M2 => .nx e2 M2
      | o => o
def sFor (f : IF) (g : GF) (body : SF) : SF := fun e M => (f e M).toS e fun it M1 => forG it.nxt g body it.fuel 0 e M1
def whG (t : TF) (body : SF) : Nat → SF
  | 0 => fun _ _ => .bad
  | m + 1 => fun e M => (t e M).toS e fun b M1 => if b = true then (match body e M1 with
      | .nx e2 M2 => whG t body m e2 M2
      | .ct e2 M2 => whG t body m e2 M2
      | .bk e2 M2 => .nx e2 M2
      | o => o) else .nx e M1
def sWhile (n : Nat) (t : TF) (body : SF) : SF := whG t body n
section
variable {K : PySem.W.Frag} {ρ : List Addr} {H : Hp} {W : WX} {D : Ends}
theorem PoS.turn {N : St → Hp → Prop} {k : Sl → Mem → SO} (hN : ∀ ρ' H' σ' e M, Ext ρ H ρ' H' → Rel K ρ' M H' → SlR K ρ' H' e σ' → PoS K ρ' H' W D (k e M) → N σ' H') : ∀ {o : SO}, PoS K ρ H W D (match o with
      | .nx e2 M2 => k e2 M2
      | .ct e2 M2 => k e2 M2
      | .bk e2 M2 => .nx e2 M2
      | o => o) → PoS K ρ H W { D with nx := N, ct := N, bk := D.nx } o
  | .nx e M, h => fun ρ1 H1 σ1 E1 r1 s1 => hN ρ1 H1 σ1 e M E1 r1 s1 (h.mono E1)
  | .ct e M, h => fun ρ1 H1 σ1 E1 r1 s1 => hN ρ1 H1 σ1 e M E1 r1 s1 (h.mono E1)
  | .bk _ _, h => h
  | .rt _ _, h => h
  | .ex _ _ _, h => h
  | .bad, h => h
end
section
variable {X : Cx} {W : WX} {pos : Pos} {tg iter c : Expr} {body : List Stmt} {f : IF} {g : GF} {fb : SF} {t : TF}
theorem ss_for (hp : PassesOwn (model X.prog X.w) X.A X.env X.xe) (hc : X.calm = true) (hi : SI X W tg iter f) (hg : SG X W tg g) (hb : SSs X W body fb) (hs : ∀ x, foldedSetIterable iter X.env x = pure x := by intro _; rfl) :
    SS X W (.For tg iter body [] pos) (sFor f g fb) :=
  ⟨(ps_for hp hc hi.pi hg.pg hb.pss hs).imp fun D σ H ⟨ρ, e, M, R, S, p⟩ => ⟨ρ, e, M, R, S, (PoS.ofE (R := Ritr X.K) S p).imp fun J H1 ⟨ρ1, M1, it, E1, R1, sim, p1⟩ =>
    ⟨fun i m σ' H' => ∃ ρ' e' M', Ext ρ1 H1 ρ' H' ∧ Rel X.K ρ' M' H' ∧ SlR X.K ρ' H' e' σ' ∧ PoS X.K ρ' H' W D (forG it.nxt g fb m i e' M'),
      ⟨it.fuel, ρ1, e, M1, Ext.refl _ _, R1, S.mono E1, p1⟩, fun i m σ' H' ⟨ρ', e', M', E', R', S', p'⟩ => by
        cases m with
        | zero => exact p'.elim
        | succ m =>
          unfold forG at p'
          cases hn : it.nxt i M' with
          | none => rw [hn] at p'; exact p'.elim
          | some o => cases o with
            | none =>
              rw [hn] at p'
              exact .inl ⟨(sim i ρ' M' H' E' R').1 hn, p' ρ' H' σ' (Ext.refl _ _) R' S'⟩
            | some x =>
              rw [hn] at p'
              simp only at p'
              obtain ⟨g1, g2⟩ := (sim i ρ' M' H' E' R').2 x hn
              refine .inr ⟨g1, _, fun σ2 H2 h => ⟨m, Nat.lt_succ_self m, h⟩, fun v H2 hy => ?_⟩
              obtain ⟨E2, R2, r2⟩ := g2 v H2 hy
              refine ⟨ρ', e', M', x, R2, S'.mono E2, r2, (PoG.toS (p'.mono E2)).imp fun σ3 H3 ⟨ρ3, e3, M3, E3, R3, S3, p3⟩ => ⟨ρ3, e3, M3, R3, S3, ?_⟩⟩
              exact PoS.turn (fun ρ4 H4 σ4 e4 M4 E4 R4 S4 p4 => ⟨ρ4, e4, M4, E'.trans (E2.trans (E3.trans E4)), R4, S4, p4⟩) p3⟩⟩⟩
theorem ss_while {n : Nat} (hp : PassesOwn (model X.prog X.w) X.A X.env X.xe) (hc : ST X W c t) (hb : SSs X W body fb) : SS X W (.While c body [] pos) (sWhile n t fb) :=
  ⟨(ps_while hp hc.pt hb.pss).imp fun D σ H ⟨ρ, e, M, R, S, p⟩ =>
    ⟨fun m σ' H' => ∃ ρ' e' M', Rel X.K ρ' M' H' ∧ SlR X.K ρ' H' e' σ' ∧ PoS X.K ρ' H' W D (whG t fb m e' M'), ⟨n, ρ, e, M, R, S, p⟩, fun m σ' H' ⟨ρ', e', M', R', S', p'⟩ => by
      cases m with
      | zero => exact p'.elim
      | succ m =>
        unfold whG at p'
        refine ⟨ρ', e', M', R', S', (PoS.ofE (R := Beq X.K) S' p').imp fun v H1 ⟨ρ1, M1, b, E1, R1, r1, p1⟩ => ?_⟩
        cases (show b = v from r1)
        by_cases hb : v = true
        · rw [if_pos hb] at p1 ⊢
          refine ⟨_, fun σ2 H2 h => ⟨m, Nat.lt_succ_self m, h⟩, ρ1, e', M1, R1, S'.mono E1, ?_⟩
          exact PoS.turn (fun ρ4 H4 σ4 e4 M4 E4 R4 S4 p4 => ⟨ρ4, e4, M4, R4, S4, p4⟩) p1
        · rw [if_neg hb] at p1 ⊢
          exact p1 ρ1 H1 σ' (Ext.refl _ _) R1 (S'.mono E1)⟩⟩
end
/-! comprehensions -/
abbrev noW : WX := fun _ _ _ _ => False
/-- a comprehension's target: a name, or a tuple of names -/
inductive Tg where
  | one (i : Nat) | many (is : List Nat)
def Tg.vs : Tg → List Nat
  | .one i => [i]
  | .many is => is
def setAll {α : Type} : List Nat → List α → List (Option α) → List (Option α)
  | [], _, e => e
  | _ :: _, [], e => e
  | i :: is, x :: l, e => setAll is l (e.set i (some x))
def Tg.put (g : Tg) (x : Val) (e : Sl) : Option Sl := match g with
  | .one i => some (e.set i (some x))
  | .many is => match x with
    | .tup l => if l.length = is.length then some (setAll is l e) else none
    | _ => none
def wipeS (e : Sl) : List Nat → Sl
  | [] => e
  | v :: vs => (wipeS e vs).set v none
/-- the targets' readings -/
def gNames : List Nat → TGs
  | [] => gNil
  | i :: r => gCons (gName i) (gNames r)
def Tg.g (K : PySem.W.Frag) : Tg → TG
  | .one i => gName i
  | .many is => gTup K is.length (gNames is)
structure SLT (X : Cx) (tg : Expr) (g : Tg) : Prop where
  pg : PG X tg (g.g X.K)
structure SLs (X : Cx) (tgs : List Expr) (is : List Nat) : Prop where
  pgs : PGs X tgs (gNames is)
structure STs (X : Cx) (ifs : List Expr) (t : TF) : Prop where
  pts : PTs X ifs (tT X.K noW t)
theorem PTs.imp {X : Cx} {e : List Expr} {t t' : TT} (h : PTs X e t) (i : ∀ σ H Q, t' σ H Q → t σ H Q) : PTs X e t' := ⟨fun pins s σ H Q I q => h.run pins s σ H Q I (i σ H Q q)⟩
def tTrue : TF := fun _ M => .ok true M
section
variable {X : Cx} {pos : Pos}
theorem sl_one {i : Nat} {x : Str} (hN : X.N.Nodup) (hi : X.N[i]? = some x := by rfl) (hx : Loc X.env.scope x := by first | exact Or.inl rfl | exact Or.inr rfl) (hf : X.fn x = true ∨ X.env.scope.names.lookup x = some .local := by first | exact .inl rfl | exact .inr rfl | assumption) :
    SLT X (.Name x pos) (.one i) := ⟨pg_name (i := i) hN hi hx hf⟩
theorem sls_nil : SLs X [] [] := ⟨pgs_nil⟩
theorem sls_cons {i : Nat} {x : Str} {is : List Nat} {ts : List Expr} (hN : X.N.Nodup) (hr : SLs X ts is) (hi : X.N[i]? = some x := by rfl) (hx : Loc X.env.scope x := by first | exact Or.inl rfl | exact Or.inr rfl) (hf : X.fn x = true ∨ X.env.scope.names.lookup x = some .local := by first | exact .inl rfl | exact .inr rfl | assumption)
    (hs : (assignEach (.Name x pos :: ts) X.env).map (·.2) = assign (.Name x pos) X.env :: (assignEach ts X.env).map (·.2) := by rfl) : SLs X (.Name x pos :: ts) (i :: is) := ⟨pgs_cons (pg_name (i := i) hN hi hx hf) hr.pgs hs⟩
theorem sl_many {is : List Nat} {ts : List Expr} {k : Nat} (hc : X.calm = true) (h : SLs X ts is) (hn : (assignEach ts X.env).length = is.length := by rfl) (hst : (assignEach ts X.env).findIdx? (·.1) = none := by rfl) : SLT X (.Tuple ts k pos) (.many is) :=
  ⟨pg_tup hc h.pgs hn hst⟩
theorem sts_nil : STs X [] tTrue := ⟨PTs.imp pts_nil fun σ H Q ⟨ρ, e, M, R, S, p⟩ => p ρ H true (Ext.refl _ _) R rfl⟩
theorem sts_one {c : Expr} {t : TF} (h : ST X noW c t) : STs X [c] t := ⟨pts_one h.pt⟩
end
theorem wipe_get (σ : St) : ∀ (vs : List Nat) (j : Nat), (wipe σ vs)[j]? = if j ∈ vs then σ[j]?.map (fun _ => none) else σ[j]?
  | [], j => by simp [wipe]
  | v :: vs, j => by
    unfold wipe
    by_cases h : v = j
    · subst h
      by_cases hl : v < (wipe σ vs).length
      · rw [List.getElem?_set_self hl]
        rw [wipe_length] at hl
        simp [hl]
      · rw [List.getElem?_eq_none (by simpa using hl)]
        rw [wipe_length] at hl
        simp [List.getElem?_eq_none (Nat.le_of_not_lt hl)]
    · rw [List.getElem?_set_ne h, wipe_get σ vs j]
      have h' : ¬ j = v := fun e => h e.symm
      simp [h']
theorem wipe_set {σ : St} {vs : List Nat} {i : Nat} {v : V} (h : i ∈ vs) : wipe (σ.set i (some v)) vs = wipe σ vs := by
  apply List.ext_getElem?
  intro j
  rw [wipe_get, wipe_get]
  by_cases hj : j ∈ vs
  · rw [if_pos hj, if_pos hj]
    by_cases e : i = j
    · subst e
      by_cases hl : i < σ.length
      · rw [List.getElem?_set_self hl]; simp [hl]
      · rw [List.getElem?_eq_none (by simpa using hl), List.getElem?_eq_none (Nat.le_of_not_lt hl)]
    · rw [List.getElem?_set_ne e]
  · rw [if_neg hj, if_neg hj]
    have e : i ≠ j := fun e => hj (e ▸ h)
    rw [List.getElem?_set_ne e]
section
variable {K : PySem.W.Frag} {ρ : List Addr} {H : Hp} {σ : St} {e : Sl}
theorem SlR.wipe (S : SlR K ρ H e σ) : ∀ vs : List Nat, SlR K ρ H (wipeS e vs) (L2.wipe σ vs)
  | [] => S
  | v :: vs => (SlR.wipe S vs).unset v
theorem gNames_ok {Q : St → Hp → Prop} {vs0 : List Nat} : ∀ {is : List Nat} {l : List Val} {us : List V} {e : Sl} {σ : St}, is.length = l.length → (∀ i ∈ is, i ∈ vs0) → RVs K ρ H l us → SlR K ρ H e σ →
    (∀ σ', SlR K ρ H (setAll is l e) σ' → L2.wipe σ' vs0 = L2.wipe σ vs0 → Q σ' H) → gNames is us σ H Q
  | [], [], us, e, σ, _, _, r, S, h => ⟨r, h σ S rfl⟩
  | [], _ :: _, _, _, _, hl, _, _, _, _ => by cases hl
  | _ :: _, [], _, _, _, hl, _, _, _, _ => by cases hl
  | i :: is, x :: l, us, e, σ, hl, hv, ⟨v, r, e1, r1, r2⟩, S, h => ⟨v, r, e1, gNames_ok (Nat.succ.inj hl) (fun j hj => hv j (List.mem_cons_of_mem _ hj)) r2 (S.set i r1) fun σ' S' w => h σ' S' (by rw [w, wipe_set (hv i List.mem_cons_self)])⟩
theorem Tg.ok {g : Tg} {vs0 : List Nat} {x : Val} {v : V} {e1 : Sl} {Q : St → Hp → Prop} (hv : ∀ i ∈ g.vs, i ∈ vs0) (r : RV K ρ H x v) (S : SlR K ρ H e σ) (hp : g.put x e = some e1) (h : ∀ σ', SlR K ρ H e1 σ' → L2.wipe σ' vs0 = L2.wipe σ vs0 → Q σ' H) : g.g K v σ H Q := by
  cases g with
  | one i =>
    cases hp
    exact h _ (S.set i r) (wipe_set (hv i (by simp [Tg.vs])))
  | many is =>
    unfold Tg.put at hp
    simp only at hp
    split at hp
    · rename_i l
      split at hp
      · rename_i hl
        cases hp
        obtain ⟨a, us, e1, h1, h2⟩ := r
        exact ⟨a, us, e1, h1, by rw [h2.length]; exact hl, gNames_ok hl.symm hv h2 S h⟩
      · cases hp
    · cases hp
end
/-- the turns of a comprehension; D: the new list's place -/
def lcG (nxt : Nat → Mem → Option (Option Val)) (g : Tg) (t : TF) (el : EF) (D : Nat) (e : Sl) : Nat → Nat → Mem → Out Val
  | 0, _, _ => .bad
  | m + 1, i, M => match nxt i M with
    | none => .bad
    | some none => .ok (.loc D) M
    | some (some x) => match g.put x e with
      | none => .bad
      | some e1 => match t e1 M with
        | .ok b M1 => if b = true then (match el e1 M1 with
          | .ok y M2 => (match M2[D]? with
            | some (.lst acc) => if acc.length < sizeLine then lcG nxt g t el D e m (i + 1) (M2.set D (.lst (acc ++ [y]))) else .bad
            | _ => .bad)
          | _ => .bad) else lcG nxt g t el D e m (i + 1) M1
        | _ => .bad
def eLc (f : IF) (g : Tg) (t : TF) (el : EF) (vs : List Nat) : EF := fun e M => (f e M).bind fun it M1 => lcG it.nxt g t el M1.length (wipeS e vs) it.fuel 0 (M1 ++ [.lst []])
theorem Po.noex {K : PySem.W.Frag} {α β : Type} {R : RR α β} {ρ : List Addr} {H : Hp} {σ : St} {Q : β → Hp → Prop} {o : Out α} {a : α} {M : Mem} (h : o = .ok a M) (k : ∀ ρ' H' b, Ext ρ H ρ' H' → Rel K ρ' M H' → R ρ' H' a b → Q b H') : Po R K ρ H σ noW Q o := by
  subst h; exact k
section
variable {X : Cx} {W : WX} {pos : Pos} {tg iter elt : Expr} {ifs : List Expr} {scope : Scope} {own : List (Str × Nat)} {f : IF} {g : Tg} {t : TF} {el : EF}
theorem lc_ok (hv : ∀ i ∈ g.vs, i ∈ own.map (·.2)) {σ : St} {H : Hp} {Q : VK} (h : tE X.K W (eLc f g t el (own.map (·.2))) σ H Q) : tLc (tIt X.K W f) (g.g X.K) (tT X.K noW t) (tE X.K noW el) (own.map (·.2)) σ H Q := by
  obtain ⟨ρ, e, M, R, S, p⟩ := h
  refine ⟨ρ, e, M, R, S, (Po.bind (R := Ritr X.K) p).imp fun J H1 ⟨ρ1, M1, it, E1, R1, sim, p1⟩ D hD => ?_⟩
  have EA := Ext.alloc (o := .lst []) ρ1 hD
  have hn : (ρ1 ++ [D])[M1.length]? = some D := by rw [← R1.len, List.getElem?_append_right (Nat.le_refl _)]; simp
  refine ⟨fun i m H' => ∃ ρ' M', Ext ρ1 H1 ρ' H' ∧ Rel X.K ρ' M' H' ∧ ρ'[M1.length]? = some D ∧ Po (RVr X.K) X.K ρ' H' σ W Q (lcG it.nxt g t el M1.length (wipeS e (own.map (·.2))) m i M'),
    ⟨it.fuel, ρ1 ++ [D], _, EA, R1.alloc (c := .lst []) hD ⟨[], upd_same, rfl⟩, hn, p1.mono EA⟩, fun i m H' ⟨ρ', M', E', R', hn', p'⟩ => ?_⟩
  cases m with
  | zero => exact p'.elim
  | succ m =>
    unfold lcG at p'
    cases hx : it.nxt i M' with
    | none => rw [hx] at p'; exact p'.elim
    | some o => cases o with
      | none =>
        rw [hx] at p'
        exact .inl ⟨(sim i ρ' M' H' E' R').1 hx, p' ρ' H' _ (Ext.refl _ _) R' ⟨D, rfl, hn'⟩⟩
      | some x =>
        rw [hx] at p'
        simp only at p'
        obtain ⟨g1, g2⟩ := (sim i ρ' M' H' E' R').2 x hx
        refine .inr ⟨g1, _, fun H2 h => ⟨m, Nat.lt_succ_self m, h⟩, fun v H2 hy => ?_⟩
        obtain ⟨E2, R2, r2⟩ := g2 v H2 hy
        cases hp : g.put x (wipeS e (own.map (·.2))) with
        | none => rw [hp] at p'; exact p'.elim
        | some e1 =>
          rw [hp] at p'
          simp only at p'
          have S2 : SlR X.K ρ' H2 (wipeS e (own.map (·.2))) (L2.wipe σ (own.map (·.2))) := (S.wipe _).mono (E1.trans (E'.trans E2))
          refine Tg.ok hv r2 S2 hp fun σ' S' w => ⟨?_, ρ', e1, M', R2, S', ?_⟩
          · rw [w]
            apply List.ext_getElem?
            intro j
            rw [wipe_get, wipe_get]
            by_cases hj : j ∈ own.map (·.2)
            · rw [if_pos hj, if_pos hj]; cases σ[j]? <;> rfl
            · rw [if_neg hj, if_neg hj]
          · cases ht : t e1 M' with
            | bad => rw [ht] at p'; exact p'.elim
            | ex _ _ => rw [ht] at p'; exact p'.elim
            | ok b M3 =>
              rw [ht] at p'
              simp only at p'
              intro ρ3 H3 b' E3 R3 eb
              cases (show b = b' from eb)
              by_cases hb : b = true
              · rw [if_pos hb] at p' ⊢
                cases hl : el e1 M3 with
                | bad => rw [hl] at p'; exact p'.elim
                | ex _ _ => rw [hl] at p'; exact p'.elim
                | ok y M4 =>
                  rw [hl] at p'
                  simp only at p'
                  refine ⟨ρ3, e1, M3, R3, S'.mono E3, Po.noex hl fun ρ4 H4 u E4 R4 r4 => ?_⟩
                  cases hm : M4[M1.length]? with
                  | none => rw [hm] at p'; exact p'.elim
                  | some c => cases c with
                    | lst acc =>
                      rw [hm] at p'
                      simp only at p'
                      have hn4 := E4.get (E3.get hn')
                      obtain ⟨vs, h3, h4⟩ := R4.at_ _ _ _ hm hn4
                      by_cases hz : acc.length < sizeLine
                      · rw [if_pos hz] at p'
                        refine ⟨vs, h3, by rw [h4.length]; exact hz, ?_⟩
                        have hmu : Mt (H4 D) := by rw [h3]; trivial
                        have E5 := Ext.write (o := .lst (vs ++ [u])) ρ4 (List.mem_of_getElem? hn4) hmu
                        obtain ⟨R5, _⟩ := R4.write (c := .lst (acc ++ [y])) hn4 ⟨_, upd_same, RVs.mono E5 _ _ (h4.snoc r4)⟩
                        exact ⟨ρ4, _, E'.trans (E2.trans (E3.trans (E4.trans E5))), R5, hn4, p'.mono (E2.trans (E3.trans (E4.trans E5)))⟩
                      · rw [if_neg hz] at p'; exact p'.elim
                    | _ => rw [hm] at p'; exact p'.elim
              · rw [if_neg hb] at p' ⊢
                exact ⟨ρ3, M3, E'.trans (E2.trans E3), R3, E3.get hn', p'.mono (E2.trans E3)⟩
theorem se_lc (hc : X.calm = true) (hN : X.N.Nodup) (hi : SI X W tg iter f) (ok : BlkOk X.N X.env.scope scope own) (hv : ∀ i ∈ g.vs, i ∈ own.map (·.2))
    (hg : ∀ (s : Shared) (H : Hp) (C : Addr) (cl : List (Str × Addr)) (fp : List Addr), SLT (X.blk s H scope (compEnvC scope cl C X.env) fp) tg g) (ht : ∀ (s : Shared) (H : Hp) (C : Addr) (cl : List (Str × Addr)) (fp : List Addr), STs (X.blk s H scope (compEnvC scope cl C X.env) fp) ifs t)
    (he : ∀ (s : Shared) (H : Hp) (C : Addr) (cl : List (Str × Addr)) (fp : List Addr), SE (X.blk s H scope (compEnvC scope cl C X.env) fp) noW elt el) (hs : ∀ x, foldedSetIterable iter X.env x = pure x := by intro _; rfl) :
    SE X W (.ListComp elt [⟨tg, iter, ifs, 0⟩] scope pos) (eLc f g t el (own.map (·.2))) :=
  ⟨(pe_lc hc hN hi.pi ok (fun s H C cl fp => (hg s H C cl fp).pg) (fun s H C cl fp => (ht s H C cl fp).pts) (fun s H C cl fp => (he s H C cl fp).pe) hs).imp fun σ H Q h => lc_ok hv h⟩
theorem ss_setLc {i : Nat} {y : Str} {py spos : Pos} (hc : X.calm = true) (hN : X.N.Nodup) (hsw : swapsWith (.ListComp elt [⟨tg, iter, ifs, 0⟩] scope pos) (some (.Name y py)) spos.line X.env = pure true) (hi : SI X W tg iter f) (ok : BlkOk X.N X.env.scope scope own) (hv : ∀ i ∈ g.vs, i ∈ own.map (·.2))
    (hg : ∀ (s : Shared) (H : Hp) (C : Addr) (cl : List (Str × Addr)) (fp : List Addr), SLT (X.blk s H scope (compEnvC scope cl C X.env) fp) tg g) (ht : ∀ (s : Shared) (H : Hp) (C : Addr) (cl : List (Str × Addr)) (fp : List Addr), STs (X.blk s H scope (compEnvC scope cl C X.env) fp) ifs t)
    (he : ∀ (s : Shared) (H : Hp) (C : Addr) (cl : List (Str × Addr)) (fp : List Addr), SE (X.blk s H scope (compEnvC scope cl C X.env) fp) noW elt el) (hy : X.N[i]? = some y := by rfl) (hyl : X.env.scope.names.lookup y = some .local := by rfl) (hs : ∀ x, foldedSetIterable iter X.env x = pure x := by intro _; rfl) :
    SS X W (.Assign [.Name y py] (.ListComp elt [⟨tg, iter, ifs, 0⟩] scope pos) spos) (sAsg (eLc f g t el (own.map (·.2))) (gNm i)) :=
  ⟨(ps_setLc (i := i) hc hN hy hyl hsw hi.pi ok (fun s H C cl fp => (hg s H C cl fp).pg) (fun s H C cl fp => (ht s H C cl fp).pts) (fun s H C cl fp => (he s H C cl fp).pe) hs).imp fun D σ H ⟨ρ, e, M, R, S, p⟩ =>
    lc_ok (W := W) hv ⟨ρ, e, M, R, S, (PoS.ofE (R := RVr X.K) S p).imp fun v H1 ⟨ρ1, M1, x, E1, R1, r1, p1⟩ => p1 ρ1 H1 _ (Ext.refl _ _) R1 ((S.mono E1).set i r1)⟩⟩
end
/-! defs -/
def fnS (np n : Nat) (body : SF) : FnS := fun l M => if l.length = np then (match body (l.map some ++ List.replicate (n - np) none) M with
    | .nx _ M => .ok .non M
    | .rt v M => .ok v M
    | .ex x _ M => .ex x M
    | _ => .bad) else .bad
def spS (K : PySem.W.Frag) (np : Nat) (F : FnS) : Sp := fun vs H Q E => ∃ ρ M l, Rel K ρ M H ∧ RVs K ρ H l vs ∧ l.length = np ∧ Po (RVr K) K ρ H [] (fun c d _ H => E c d H) Q (F l M)
abbrev FOk (P : Program) (w : World) (K : PySem.W.Frag) (mg : Str → Option Value) (base : Heap) (k : Nat) (f : Addr) (fd : FuncData) (ps : List Str) (F : FnS) : Prop := FnOk P w K mg base (L2.CX P w) k f fd ps (spS K ps.length F)
theorem SlR.start {K : PySem.W.Frag} {ρ : List Addr} {H : Hp} {N : List Str} {np : Nat} {l : List Val} {vs : List V} (r : RVs K ρ H l vs) (hl : l.length = np) : SlR K ρ H (l.map some ++ List.replicate (N.length - np) none) (L2.start N vs) := by
  have hl' := r.length
  refine ⟨by unfold L2.start; simp [hl', hl], fun i x h => ?_⟩
  unfold L2.start
  by_cases hi : i < l.length
  · rw [List.getElem?_append_left (by simpa using hi)] at h
    rw [List.getElem?_append_left (by simpa [hl'] using hi)]
    have hx : l[i]? = some x := by simpa using h
    obtain ⟨v, h1, h2⟩ := r.get hx
    exact ⟨v, by simp [h1], h2⟩
  · rw [List.getElem?_append_right (by simpa using hi)] at h
    have := List.mem_of_getElem? h
    simp at this
section
variable {P : Program} {w : World} {K : PySem.W.Frag} {mg : Str → Option Value} {base : Heap} {x qual : Str} {params : Arguments} {body : List Stmt} {scope : Scope} {dvs : List V} {kws : List (Str × V)} {f : Addr} {fd : FuncData}
theorem fok_of {N ps : List Str} {k : Nat} {fb : SF} (F : FunD K x qual params body scope dvs kws f fd) (S : FnScope N ps scope)
    (hb : ∀ (cdv : Value) (A : Around) (outer : List Env) (s : Shared) (H : Hp) (E : XK), Room k (A.deeper (envOfC qual scope s.heap.objs.size f cdv)) →
      SSs (cxOf (L2.CX P w) P w K mg base N qual scope f cdv A outer s H E) (fun c d _ H => E c d H) body fb) : FOk P w K mg base (k + 1) f fd ps (fnS ps.length N.length fb) := by
  refine F.ok S (fun vs H Q E ⟨ρ, M, l, R, r, hl, p⟩ => by rw [r.length]; exact hl) fun cdv A outer s H vs Q E hr ⟨ρ, M, l, R, r, hl, p⟩ => ⟨_, (hb cdv A outer s H E hr).pss, ρ, _, M, R, SlR.start r hl, ?_⟩
  unfold fnS at p
  rw [if_pos hl] at p
  show PoS K ρ H _ _ (fb (l.map some ++ List.replicate (N.length - ps.length) none) M)
  cases hf : fb (l.map some ++ List.replicate (N.length - ps.length) none) M with
  | nx e1 M1 => rw [hf] at p; exact fun ρ' H' σ' E' R' S' => p ρ' H' .non E' R' rfl
  | rt v M1 => rw [hf] at p; exact p
  | ex y e1 M1 => rw [hf] at p; exact fun ρ' H' σ' c d E' R' S' q => p ρ' H' c d E' R' q
  | bk _ _ => rw [hf] at p; exact p.elim
  | ct _ _ => rw [hf] at p; exact p.elim
  | bad => rw [hf] at p; exact p.elim
end
def eFn (np : Nat) (F : FnS) (fa : AF) : EF := fun e M => (fa e M).bind fun l M1 => if l.length = np then F l M1 else .bad
section
variable {X : Cx} {W : WX} {k : Nat} {f : Addr} {fd : FuncData} {ps : List Str} {Fs : FnS} {x : Str} {p pos : Pos} {a : Expr} {es : List Expr} {fa : AF}
theorem se_call (F : FOk X.prog X.w X.K X.mg X.base k f fd ps Fs) (hr : Room k X.A) (hm : X.mg x = some (.ref f)) (hk : PySem.W.keepIn X.K (.ref f) = true) (hb : Binds X.K fd ps []) (tk : Takes X W) (ha : SA X W (a :: es) fa)
    (hg : Gl X x := by rfl) (hdb : (x == ("__debug__" : Str)) = false := by decide) (he : starEach (a :: es) X.env = (false, eval a X.env) :: starEach es X.env := by rfl) (hpl : (backTo pos (starEach es X.env)).any (·.1) = false := by rfl) :
    SE X W (.Call (.Name x p) (a :: es) [] pos) (eFn ps.length Fs fa) :=
  ⟨(pe_callS F hr hg hm hk hb (passAt tk) ha.pa hdb he hpl).imp fun σ H Q ⟨ρ, e, M, R, S, p⟩ => ⟨ρ, e, M, R, S, (Po.bind (R := RVsr X.K) p).imp fun vs H1 ⟨ρ1, M1, l, E1, R1, r1, p1⟩ => by
    by_cases hl : l.length = ps.length
    · rw [if_pos hl] at p1
      refine ⟨ρ1, M1, l, R1, r1, hl, ?_⟩
      cases hF : Fs l M1 with
      | ok v M2 => rw [hF] at p1; exact p1
      | ex y M2 => rw [hF] at p1; exact p1
      | bad => rw [hF] at p1; exact p1.elim
    · rw [if_neg hl] at p1; exact p1.elim⟩⟩
end
end Sm

namespace Sm
open PySem L2
variable [LT] [WB]
section
variable {K : PySem.W.Frag} {ρ : List Addr} {M : Mem} {H : Hp} {σ : St} {W : WX} {Q : VK}
theorem Po.val {x : Val} {v : V} (p : Po (RVr K) K ρ H σ W Q (.ok x M)) (R : Rel K ρ M H) (r : RV K ρ H x v) : Q v H := p ρ H v (Ext.refl _ _) R r
/-- a new tuple at q -/
theorem Po.newTup {l : List Val} {vs : List V} (p : Po (RVr K) K ρ H σ W Q (.ok (.tup l) M)) (R : Rel K ρ M H) (r : RVs K ρ H l vs) : ∀ q, H q = none → Q (.ref q) (upd H q (.tup vs)) := fun q hq => by
  have E := Ext.fresh (o := .tup vs) ρ hq
  exact p ρ _ _ E (R.fresh hq) ⟨q, vs, rfl, ⟨upd_same⟩, RVs.mono E _ _ r⟩
end
/-! ints -/
def small64 (k : Int) : Bool := decide (-(2 ^ 64) < k) && decide (k < 2 ^ 64)
theorem small64_ok {k : Int} (h : small64 k = true) : -(2 ^ 64) < k ∧ k < 2 ^ 64 := by
  unfold small64 at h
  rw [Bool.and_eq_true] at h
  exact ⟨of_decide_eq_true h.1, of_decide_eq_true h.2⟩
def getL (M : Mem) (n : Nat) : Option (List Val) := match M[n]? with
  | some (.lst l) => some l
  | _ => none
theorem getL_ok {M : Mem} {n : Nat} {l : List Val} (h : getL M n = some l) : M[n]? = some (.lst l) := by
  unfold getL at h
  split at h
  · rename_i hm; cases h; exact hm
  · cases h
def addV (x y : Val) (M : Mem) : Out Val := match x, y with
  | .int i, .int j => .ok (.int (i + j)) M
  | .str a, .str b => if a.length + b.length ≤ sizeLine then .ok (.str (a ++ b)) M else .bad
  | .tup a, .tup b => if a.length + b.length ≤ sizeLine then .ok (.tup (a ++ b)) M else .bad
  | .loc m, .loc n => match getL M m, getL M n with
    | some a, some b => if a.length + b.length ≤ sizeLine then .ok (.loc M.length) (M ++ [.lst (a ++ b)]) else .bad
    | _, _ => .bad
  | _, _ => .bad
def subV (x y : Val) (M : Mem) : Out Val := match x, y with
  | .int i, .int j => .ok (.int (i - j)) M
  | _, _ => .bad
def mulV (x y : Val) (M : Mem) : Out Val := match x, y with
  | .int i, .int j => if small64 i || small64 j then .ok (.int (i * j)) M else .bad
  | .loc n, .int k => match getL M n with
    | some l => if -(2 ^ 63) ≤ k ∧ k < 2 ^ 63 ∧ l.length * k.toNat ≤ sizeLine then .ok (.loc M.length) (M ++ [.lst (List.replicate k.toNat l).flatten]) else .bad
    | none => .bad
  | .tup l, .int k => if l ≠ [] ∧ 2 ≤ k ∧ k ≤ 1000 ∧ l.length ≤ 1000 then .ok (.tup (List.replicate k.toNat l).flatten) M else .bad
  | _, _ => .bad
def divV (x y : Val) (M : Mem) : Out Val := match x, y with
  | .int i, .int j => if 0 < j ∧ j < 1073741824 then .ok (.int (i / j)) M else .bad
  | _, _ => .bad
def modV (x y : Val) (M : Mem) : Out Val := match x, y with
  | .int i, .int j => if 0 < j then .ok (.int (i % j)) M else .bad
  | _, _ => .bad
def powV (x y : Val) (M : Mem) : Out Val := match x, y with
  | .int i, .int j => if 0 ≤ j ∧ j ≤ 1000000 ∧ i.natAbs < 2 ^ 64 then .ok (.int (i ^ j.toNat)) M else .bad
  | _, _ => .bad
def cmpV (p : Int → Int → Bool) (x y : Val) (M : Mem) : Out Val := match x, y with
  | .int i, .int j => .ok (.bl (p i j)) M
  | _, _ => .bad
def isNon : Val → Bool
  | .non => true
  | _ => false
def isN (x y : Val) (M : Mem) : Out Val := match y with
  | .non => .ok (.bl (isNon x)) M
  | _ => .bad
def notN (x y : Val) (M : Mem) : Out Val := match y with
  | .non => .ok (.bl (!isNon x)) M
  | _ => .bad
def negV (x : Val) (M : Mem) : Out Val := match x with
  | .int i => .ok (.int (-i)) M
  | _ => .bad
def rAddA (K : PySem.W.Frag) : R2 := fun x y H Q => (∃ i j, x = .int i ∧ y = .int j ∧ Q (.int (i + j)) H) ∨ (∃ i j, x = .str i ∧ y = .str j ∧ i.length + j.length ≤ sizeLine ∧ Q (.str (i ++ j)) H) ∨ rCatA K x y H Q ∨ rCat x y H Q
def rMulA (K : PySem.W.Frag) : R2 := fun x y H Q => rI CMul (fun i j => .int (i * j)) x y H Q ∨ rRep x y H Q ∨ rRepT K x y H Q
section
variable {X : Cx} {K : PySem.W.Frag}
theorem op_addA : OpR X (binaryOp .Add) (rAddA X.K) := OpR.or op_add (OpR.or op_add_str (OpR.or op_catA op_cat))
theorem op_mulA : OpR X (binaryOp .Mult) (rMulA X.K) := OpR.or op_mul (OpR.or op_rep op_repT)
theorem os_add : OpS K (rAddA K) addV := by
  intro ρ M H σ W Q x y v u R rx ry p
  unfold addV at p
  split at p
  · cases (show v = _ from rx); cases (show u = _ from ry); exact .inl ⟨_, _, rfl, rfl, p.val R rfl⟩
  · cases (show v = _ from rx); cases (show u = _ from ry)
    split at p
    · rename_i h; exact .inr (.inl ⟨_, _, rfl, rfl, h, p.val R rfl⟩)
    · exact p.elim
  · split at p
    · rename_i a b h
      obtain ⟨q, vs, e1, h1, r1⟩ := rx
      obtain ⟨q', vs', e2, h2, r2⟩ := ry
      subst e1 e2
      refine .inr (.inr (.inl ⟨q, q', vs, vs', rfl, rfl, h1, h2, by rw [r1.length, r2.length]; exact h, fun e => ?_, fun _ e => ?_, fun _ _ q3 hq3 => p.newTup R (r1.append r2) q3 hq3⟩))
      · have ea : a = [] := by
          have := r1.length
          rw [e] at this
          exact List.length_eq_zero_iff.mp this.symm
        subst ea
        exact p.val R ⟨q', vs', rfl, h2, r2⟩
      · have eb : b = [] := by
          have := r2.length
          rw [e] at this
          exact List.length_eq_zero_iff.mp this.symm
        subst eb
        rw [List.append_nil] at p
        exact p.val R ⟨q, vs, rfl, h1, r1⟩
    · exact p.elim
  · split at p
    · rename_i a b ha hb
      split at p
      · rename_i h
        obtain ⟨q, vs, e1, h1, h2, r1⟩ := R.lst (getL_ok ha) rx
        obtain ⟨q', vs', e2, h1', h2', r2⟩ := R.lst (getL_ok hb) ry
        exact .inr (.inr (.inr ⟨q, q', vs, vs', e1, e2, h2, h2', by rw [r1.length, r2.length]; exact h, p.newList R (r1.append r2)⟩))
      · exact p.elim
    · exact p.elim
  · exact p.elim
theorem os_sub : OpS K (rI0 fun i j => .int (i - j)) subV := by
  intro ρ M H σ W Q x y v u R rx ry p
  unfold subV at p
  split at p
  · cases (show v = _ from rx); cases (show u = _ from ry); exact ⟨_, _, rfl, rfl, p.val R rfl⟩
  · exact p.elim
theorem os_mul : OpS K (rMulA K) mulV := by
  intro ρ M H σ W Q x y v u R rx ry p
  unfold mulV at p
  split at p
  · cases (show v = _ from rx); cases (show u = _ from ry)
    split at p
    · rename_i h
      rw [Bool.or_eq_true] at h
      exact .inl ⟨_, _, rfl, rfl, h.imp small64_ok small64_ok, p.val R rfl⟩
    · exact p.elim
  · cases (show u = _ from ry)
    split at p
    · rename_i l hl
      split at p
      · rename_i h
        obtain ⟨q, vs, e1, h1, h2, r1⟩ := R.lst (getL_ok hl) rx
        exact .inr (.inl ⟨q, _, vs, e1, rfl, h2, h.1, h.2.1, by rw [r1.length]; exact h.2.2, p.newList R (r1.rep _)⟩)
      · exact p.elim
    · exact p.elim
  · cases (show u = _ from ry)
    split at p
    · rename_i l k h
      obtain ⟨q, vs, e1, h1, r1⟩ := rx
      refine .inr (.inr ⟨q, _, vs, e1, rfl, h1, ?_, h.2.1, h.2.2.1, by rw [r1.length]; exact h.2.2.2, p.newTup R (r1.rep _)⟩)
      rintro rfl
      have := r1.length
      exact h.1 (List.length_eq_zero_iff.mp this.symm)
    · exact p.elim
  · exact p.elim
theorem os_div : OpS K (rI CDiv fun i j => .int (i / j)) divV := by
  intro ρ M H σ W Q x y v u R rx ry p
  unfold divV at p
  split at p
  · cases (show v = _ from rx); cases (show u = _ from ry)
    split at p
    · rename_i h; exact ⟨_, _, rfl, rfl, h, p.val R rfl⟩
    · exact p.elim
  · exact p.elim
theorem os_mod : OpS K (rI (fun _ j => 0 < j) fun i j => .int (i % j)) modV := by
  intro ρ M H σ W Q x y v u R rx ry p
  unfold modV at p
  split at p
  · cases (show v = _ from rx); cases (show u = _ from ry)
    split at p
    · rename_i h; exact ⟨_, _, rfl, rfl, h, p.val R rfl⟩
    · exact p.elim
  · exact p.elim
theorem os_pow : OpS K (rI CPow fun i j => .int (i ^ j.toNat)) powV := by
  intro ρ M H σ W Q x y v u R rx ry p
  unfold powV at p
  split at p
  · cases (show v = _ from rx); cases (show u = _ from ry)
    split at p
    · rename_i h; exact ⟨_, _, rfl, rfl, h, p.val R rfl⟩
    · exact p.elim
  · exact p.elim
theorem os_cmp {g : Int → Int → Bool} : OpS K (rI0 fun i j => .bl (g i j)) (cmpV g) := by
  intro ρ M H σ W Q x y v u R rx ry p
  unfold cmpV at p
  split at p
  · cases (show v = _ from rx); cases (show u = _ from ry); exact ⟨_, _, rfl, rfl, p.val R rfl⟩
  · exact p.elim
theorem RV.non_iff {ρ : List Addr} {H : Hp} {x : Val} {v : V} (r : RV K ρ H x v) : decide (v = .non) = isNon x := by
  cases x with
  | non => cases (show v = _ from r); rfl
  | bl _ => cases (show v = _ from r); rfl
  | int _ => cases (show v = _ from r); rfl
  | str _ => cases (show v = _ from r); rfl
  | tup _ => obtain ⟨_, _, e, _⟩ := r; subst e; rfl
  | frz _ => obtain ⟨_, e, _⟩ := r; subst e; rfl
  | exc _ _ => obtain ⟨_, _, _, e, _⟩ := r; subst e; rfl
  | loc _ => obtain ⟨_, e, _⟩ := r; subst e; rfl
theorem os_isN : OpS K (fun x y H Q => y = .non ∧ Q (.bl (decide (x = .non))) H) isN := by
  intro ρ M H σ W Q x y v u R rx ry p
  unfold isN at p
  split at p
  · exact ⟨ry, by rw [rx.non_iff]; exact p.val R rfl⟩
  · exact p.elim
theorem os_notN : OpS K (fun x y H Q => y = .non ∧ Q (.bl (!decide (x = .non))) H) notN := by
  intro ρ M H σ W Q x y v u R rx ry p
  unfold notN at p
  split at p
  · exact ⟨ry, by rw [rx.non_iff]; exact p.val R rfl⟩
  · exact p.elim
theorem us_neg : UnS K (rU fun i => .int (-i)) negV := by
  intro ρ M H σ W Q x v R rx p
  unfold negV at p
  split at p
  · cases (show v = _ from rx); exact ⟨_, rfl, p.val R rfl⟩
  · exact p.elim
end
/-! data -/
def toD (M : Mem) : Nat → Val → Option PyData
  | 0, _ => none
  | k + 1, x => match x with
    | .non => some .none
    | .bl b => some (.bool b)
    | .int i => some (.int i)
    | .str s => some (.str s)
    | .tup l => (l.mapM (toD M k)).map .tuple
    | .frz l => some (.list (l.map .int))
    | .loc n => match getL M n with
      | some l => (l.mapM (toD M k)).map .list
      | none => none
    | .exc _ _ => none
section
variable {K : PySem.W.Frag} {ρ : List Addr} {M : Mem} {H : Hp}
theorem dpAll_ints : ∀ l : List Int, DpAll K H (l.map V.int) (l.map PyData.int)
  | [] => .nil
  | i :: l => .cons (.int i) (dpAll_ints l)
theorem toD_all {k : Nat} (ih : ∀ x v d, RV K ρ H x v → toD M k x = some d → Dp K H v d) : ∀ {l : List Val} {vs : List V} {ds : List PyData}, RVs K ρ H l vs → l.mapM (toD M k) = some ds → DpAll K H vs ds
  | [], vs, ds, r, h => by
    cases (show vs = [] from r)
    simp at h
    subst h
    exact .nil
  | x :: l, vs, ds, ⟨v, us, e, r1, r2⟩, h => by
    subst e
    rw [List.mapM_cons] at h
    cases hx : toD M k x with
    | none => rw [hx] at h; simp at h
    | some d =>
      cases hl : l.mapM (toD M k) with
      | none => rw [hx, hl] at h; simp at h
      | some ds' =>
        rw [hx, hl] at h
        simp at h
        subst h
        exact .cons (ih _ _ _ r1 hx) (toD_all ih r2 hl)
theorem toD_ok (R : Rel K ρ M H) : ∀ (k : Nat) (x : Val) (v : V) (d : PyData), RV K ρ H x v → toD M k x = some d → Dp K H v d
  | 0, _, _, _, _, h => by cases h
  | k + 1, x, v, d, r, h => by
    unfold toD at h
    cases x with
    | non => cases (show v = _ from r); cases h; exact .non
    | bl b => cases (show v = _ from r); cases h; exact .bl b
    | int i => cases (show v = _ from r); cases h; exact .int i
    | str s => cases (show v = _ from r); cases h; exact .str s
    | tup l =>
      obtain ⟨a, vs, e, h1, h2⟩ := r
      subst e
      simp only at h
      cases hl : l.mapM (toD M k) with
      | none => rw [hl] at h; cases h
      | some ds => rw [hl] at h; cases h; exact .tup h1 (toD_all (toD_ok R k) h2 hl)
    | frz l =>
      obtain ⟨a, e, h1⟩ := r
      subst e
      cases h
      exact .lst h1.sq (dpAll_ints l)
    | exc C fs => cases h
    | loc n =>
      simp only at h
      cases hg : getL M n with
      | none => rw [hg] at h; cases h
      | some l =>
        rw [hg] at h
        simp only at h
        obtain ⟨a, vs, e1, h1, h2, h3⟩ := R.lst (getL_ok hg) r
        subst e1
        cases hl : l.mapM (toD M k) with
        | none => rw [hl] at h; cases h
        | some ds => rw [hl] at h; cases h; exact .lst (SqL.of h2) (toD_all (toD_ok R k) h3 hl)
end
def eqD (x y : Val) (M : Mem) : Option Bool := match x, y with
  | .int i, .int j => some (decide (i = j))
  | .str a, .str b => some (decide (a = b))
  | .bl a, .bl b => some (decide (a = b))
  | x, y => match toD M 8 x, toD M 8 y with
    | some d, some e => if SeqAt.shaped d && SeqAt.shaped e then some (PyData.eqv d e) else none
    | _, _ => none
def eqV (x y : Val) (M : Mem) : Out Val := match eqD x y M with
  | some b => .ok (.bl b) M
  | none => .bad
def neV (x y : Val) (M : Mem) : Out Val := match eqD x y M with
  | some b => .ok (.bl (!b)) M
  | none => .bad
section
variable {X : Cx} {K : PySem.W.Frag} {ρ : List Addr} {M : Mem} {H : Hp}
theorem eqD_ok {x y : Val} {v u : V} {b : Bool} (R : Rel K ρ M H) (rx : RV K ρ H x v) (ry : RV K ρ H y u) (h : eqD x y M = some b) : (scal v u = true ∧ decide (v = u) = b) ∨ (∃ d e, Dp K H v d ∧ Dp K H u e ∧ SeqAt.shaped d = true ∧ SeqAt.shaped e = true ∧ PyData.eqv d e = b) := by
  unfold eqD at h
  split at h
  · cases (show v = _ from rx); cases (show u = _ from ry); cases h; exact .inl ⟨rfl, by simp⟩
  · cases (show v = _ from rx); cases (show u = _ from ry); cases h; exact .inl ⟨rfl, by simp⟩
  · cases (show v = _ from rx); cases (show u = _ from ry); cases h; exact .inl ⟨rfl, by simp⟩
  · split at h
    · rename_i d e hd he
      split at h
      · rename_i hs
        rw [Bool.and_eq_true] at hs
        cases h
        exact .inr ⟨d, e, toD_ok R _ _ _ _ rx hd, toD_ok R _ _ _ _ ry he, hs.1, hs.2, rfl⟩
      · cases h
    · cases h
theorem op_eqA (hu : X.A.units + 64 < cLine) : OpR X (compareOp .Eq) (fun x y H Q => rEq x y H Q ∨ rEqD X.K x y H Q) := OpR.or op_eq (op_eqD hu)
theorem op_neA (hu : X.A.units + 64 < cLine) : OpR X (compareOp .NotEq) (fun x y H Q => rNe x y H Q ∨ rNeD X.K x y H Q) := OpR.or op_ne (op_neD hu)
theorem os_eq : OpS K (fun x y H Q => rEq x y H Q ∨ rEqD K x y H Q) eqV := by
  intro ρ M H σ W Q x y v u R rx ry p
  unfold eqV at p
  split at p
  · rename_i b h
    rcases eqD_ok R rx ry h with ⟨h1, h2⟩ | ⟨d, e, h1, h2, h3, h4, h5⟩
    · exact .inl ⟨h1, by rw [h2]; exact p.val R rfl⟩
    · exact .inr ⟨d, e, h1, h2, h3, h4, by rw [h5]; exact p.val R rfl⟩
  · exact p.elim
theorem os_ne : OpS K (fun x y H Q => rNe x y H Q ∨ rNeD K x y H Q) neV := by
  intro ρ M H σ W Q x y v u R rx ry p
  unfold neV at p
  split at p
  · rename_i b h
    rcases eqD_ok R rx ry h with ⟨h1, h2⟩ | ⟨d, e, h1, h2, h3, h4, h5⟩
    · exact .inl ⟨h1, by rw [h2]; exact p.val R rfl⟩
    · exact .inr ⟨d, e, h1, h2, h3, h4, by rw [h5]; exact p.val R rfl⟩
  · exact p.elim
end
/-! in -/
def flat : Val → Bool
  | .non => true
  | .bl _ => true
  | .int _ => true
  | .str _ => true
  | _ => false
def eqF : Val → Val → Bool
  | .non, .non => true
  | .bl a, .bl b => a == b
  | .bl a, .int b => (if a then 1 else 0) == b
  | .int a, .bl b => a == (if b then 1 else 0)
  | .int a, .int b => a == b
  | .str a, .str b => a == b
  | _, _ => false
def inD (x y : Val) (M : Mem) : Option Bool := match y with
  | .tup l => if flat x && l.all flat then some (l.any fun z => eqF z x) else none
  | .frz l => if flat x then some (l.any fun z => eqF (.int z) x) else none
  | .loc n => match getL M n with
    | some l => if flat x && l.all flat then some (l.any fun z => eqF z x) else (match toD M 8 x, l.mapM (toD M 7) with
      | some d, some ds => if SeqAt.shaped d && SeqAt.shaped (.list ds) then some (ds.any fun z => PyData.eqv z d) else none
      | _, _ => none)
    | none => none
  | .str j => (match x with
    | .str i => some (!(Builtin.Str.occurrences j i 0 j.length 1).isEmpty)
    | _ => none)
  | _ => none
def inV (x y : Val) (M : Mem) : Out Val := match inD x y M with
  | some b => .ok (.bl b) M
  | none => .bad
def notInV (x y : Val) (M : Mem) : Out Val := match inD x y M with
  | some b => .ok (.bl (!b)) M
  | none => .bad
section
variable {X : Cx} {K : PySem.W.Frag} {ρ : List Addr} {M : Mem} {H : Hp}
theorem flat_ok {x : Val} {v : V} (r : RV K ρ H x v) : flatV v = flat x := by
  cases x with
  | non => cases (show v = _ from r); rfl
  | bl _ => cases (show v = _ from r); rfl
  | int _ => cases (show v = _ from r); rfl
  | str _ => cases (show v = _ from r); rfl
  | tup _ => obtain ⟨_, _, e, _⟩ := r; subst e; rfl
  | frz _ => obtain ⟨_, e, _⟩ := r; subst e; rfl
  | exc _ _ => obtain ⟨_, _, _, e, _⟩ := r; subst e; rfl
  | loc _ => obtain ⟨_, e, _⟩ := r; subst e; rfl
theorem eqF_ok {x y : Val} {v u : V} (rx : RV K ρ H x v) (ry : RV K ρ H y u) (fx : flat x = true) (fy : flat y = true) : L2.eqV v u = eqF x y := by
  cases x with
  | non => cases (show v = _ from rx); cases y <;> first | (cases (show u = _ from ry); rfl) | cases fy
  | bl _ => cases (show v = _ from rx); cases y <;> first | (cases (show u = _ from ry); rfl) | cases fy
  | int _ => cases (show v = _ from rx); cases y <;> first | (cases (show u = _ from ry); rfl) | cases fy
  | str _ => cases (show v = _ from rx); cases y <;> first | (cases (show u = _ from ry); rfl) | cases fy
  | _ => cases fx
theorem flats_ok : ∀ {l : List Val} {vs : List V}, RVs K ρ H l vs → vs.all flatV = l.all flat
  | [], _, h => by cases (show _ = [] from h); rfl
  | x :: l, _, ⟨v, us, e, r1, r2⟩ => by subst e; rw [List.all_cons, List.all_cons, flat_ok r1, flats_ok r2]
theorem anyF_ok {x : Val} {v : V} (rx : RV K ρ H x v) (fx : flat x = true) : ∀ {l : List Val} {vs : List V}, RVs K ρ H l vs → l.all flat = true → L2.inV v vs = l.any fun z => eqF z x
  | [], _, h, _ => by cases (show _ = [] from h); rfl
  | z :: l, _, ⟨w, us, e, r1, r2⟩, f => by
    subst e
    rw [List.all_cons, Bool.and_eq_true] at f
    unfold L2.inV
    rw [List.any_cons, List.any_cons, eqF_ok r1 rx f.1 fx]
    congr 1
    exact anyF_ok rx fx r2 f.2
theorem ints_any {x : Val} : ∀ l : List Int, (l.any fun z => eqF (.int z) x) = (l.map Val.int).any fun z => eqF z x
  | [] => rfl
  | i :: l => by rw [List.any_cons, List.map_cons, List.any_cons, ints_any l]
theorem ints_flat : ∀ l : List Int, (l.map Val.int).all flat = true
  | [] => rfl
  | i :: l => by rw [List.map_cons, List.all_cons, ints_flat l]; rfl
theorem inD_ok {x y : Val} {v u : V} {b : Bool} (R : Rel K ρ M H) (rx : RV K ρ H x v) (ry : RV K ρ H y u) (h : inD x y M = some b) :
    (∃ p xs, u = .ref p ∧ (SqL K H p xs ∨ SqT K H p xs) ∧ flatV v = true ∧ xs.all flatV = true ∧ L2.inV v xs = b) ∨ (∃ d ds, Dp K H v d ∧ Dp K H u (.list ds) ∧ SeqAt.shaped d = true ∧ SeqAt.shaped (.list ds) = true ∧ (ds.any fun z => PyData.eqv z d) = b) ∨
      ∃ i j, v = .str i ∧ u = .str j ∧ (!(Builtin.Str.occurrences j i 0 j.length 1).isEmpty) = b := by
  unfold inD at h
  split at h
  · split at h
    · rename_i l hf
      rw [Bool.and_eq_true] at hf
      cases h
      obtain ⟨a, vs, e, h1, h2⟩ := ry
      exact .inl ⟨a, vs, e, .inr h1, by rw [flat_ok rx]; exact hf.1, by rw [flats_ok h2]; exact hf.2, anyF_ok rx hf.1 h2 hf.2⟩
    · cases h
  · split at h
    · rename_i l hf
      cases h
      obtain ⟨a, e, h1⟩ := ry
      have r : RVs K ρ H (l.map Val.int) (l.map V.int) := (RVs.ints l).mpr rfl
      exact .inl ⟨a, _, e, .inl h1.sq, by rw [flat_ok rx]; exact hf, by rw [flats_ok r]; exact ints_flat l, by rw [anyF_ok rx hf r (ints_flat l), ints_any]⟩
    · cases h
  · split at h
    · rename_i n l hl
      obtain ⟨a, vs, e, h1, h2, h3⟩ := R.lst (getL_ok hl) ry
      split at h
      · rename_i hf
        rw [Bool.and_eq_true] at hf
        cases h
        exact .inl ⟨a, vs, e, .inl (SqL.of h2), by rw [flat_ok rx]; exact hf.1, by rw [flats_ok h3]; exact hf.2, anyF_ok rx hf.1 h3 hf.2⟩
      · split at h
        · rename_i d ds hd hds
          split at h
          · rename_i hs
            rw [Bool.and_eq_true] at hs
            cases h
            subst e
            exact .inr (.inl ⟨d, ds, toD_ok R _ _ _ _ rx hd, .lst (SqL.of h2) (toD_all (toD_ok R 7) h3 hds), hs.1, hs.2, rfl⟩)
          · cases h
        · cases h
    · cases h
  · split at h
    · cases (show v = _ from rx); cases (show u = _ from ry); cases h; exact .inr (.inr ⟨_, _, rfl, rfl, rfl⟩)
    · cases h
  · cases h
def rInA (K : PySem.W.Frag) : R2 := fun x y H Q => rIn K false x y H Q ∨ rInD K x y H Q ∨ (∃ i j, x = .str i ∧ y = .str j ∧ Q (.bl (!(Builtin.Str.occurrences j i 0 j.length 1).isEmpty)) H)
def rNotInA (K : PySem.W.Frag) : R2 := fun x y H Q => rIn K true x y H Q ∨ rNotInD K x y H Q ∨ (∃ i j, x = .str i ∧ y = .str j ∧ Q (.bl (!(!(Builtin.Str.occurrences j i 0 j.length 1).isEmpty))) H)
theorem op_inA (hu : X.A.units + 65 < cLine) : OpR X (compareOp .In) (rInA X.K) := OpR.or op_in_seq (OpR.or (op_inD hu) op_in_str)
theorem op_notInA (hu : X.A.units + 65 < cLine) : OpR X (compareOp .NotIn) (rNotInA X.K) := OpR.or op_notIn_seq (OpR.or (op_notInD hu) op_notin_str)
theorem os_in : OpS K (rInA K) inV := by
  intro ρ M H σ W Q x y v u R rx ry p
  unfold inV at p
  split at p
  · rename_i b h
    rcases inD_ok R rx ry h with ⟨q, xs, h1, h2, h3, h4, h5⟩ | ⟨d, ds, h1, h2, h3, h4, h5⟩ | ⟨i, j, h1, h2, h3⟩
    · exact .inl ⟨q, xs, h1, h2, h3, h4, by simp only [h5]; exact p.val R rfl⟩
    · exact .inr (.inl ⟨d, ds, h1, h2, h3, h4, by rw [h5]; exact p.val R rfl⟩)
    · exact .inr (.inr ⟨i, j, h1, h2, by rw [h3]; exact p.val R rfl⟩)
  · exact p.elim
theorem os_notIn : OpS K (rNotInA K) notInV := by
  intro ρ M H σ W Q x y v u R rx ry p
  unfold notInV at p
  split at p
  · rename_i b h
    rcases inD_ok R rx ry h with ⟨q, xs, h1, h2, h3, h4, h5⟩ | ⟨d, ds, h1, h2, h3, h4, h5⟩ | ⟨i, j, h1, h2, h3⟩
    · exact .inl ⟨q, xs, h1, h2, h3, h4, by simp only [h5]; exact p.val R rfl⟩
    · exact .inr (.inl ⟨d, ds, h1, h2, h3, h4, by rw [h5]; exact p.val R rfl⟩)
    · exact .inr (.inr ⟨i, j, h1, h2, by rw [h3]; exact p.val R rfl⟩)
  · exact p.elim
end
/-! subscripts, slices -/
def ixV (x y : Val) (M : Mem) : Out Val := match x, y with
  | .tup l, .int i => (match atI l i with
    | some v => .ok v M
    | none => .bad)
  | .frz l, .int i => (match atI l i with
    | some v => .ok (.int v) M
    | none => .bad)
  | .loc n, .int i => (match getL M n with
    | some l => (match atI l i with
      | some v => .ok v M
      | none => .bad)
    | none => .bad)
  | .str z, .int i => if z.length ≤ sizeLine then (match atI z.cps.toList i with
    | some c => .ok (.str ⟨#[c]⟩) M
    | none => .bad) else .bad
  | _, _ => .bad
section
variable {X : Cx} {K : PySem.W.Frag} {ρ : List Addr} {M : Mem} {H : Hp}
theorem RVs.atI {l : List Val} {vs : List V} {i : Int} {x : Val} (r : RVs K ρ H l vs) (h : L2.atI l i = some x) : ∃ v, L2.atI vs i = some v ∧ RV K ρ H x v := by
  unfold L2.atI at h ⊢
  rw [r.length]
  cases hj : ixN l.length i with
  | none => rw [hj] at h; cases h
  | some j =>
    rw [hj] at h
    simp only [Option.bind_some] at h ⊢
    exact r.get h
theorem os_ix : OpS K (rIx K) ixV := by
  intro ρ M H σ W Q x y v u R rx ry p
  unfold ixV at p
  split at p
  · cases (show u = _ from ry)
    split at p
    · rename_i h
      obtain ⟨a, vs, e, h1, h2⟩ := rx
      obtain ⟨w, h3, h4⟩ := h2.atI h
      exact .inr (.inl ⟨a, vs, _, w, e, rfl, h1, h3, p.val R h4⟩)
    · exact p.elim
  · cases (show u = _ from ry)
    split at p
    · rename_i l i o w h
      obtain ⟨a, e, h1⟩ := rx
      refine .inl ⟨a, _, _, _, e, rfl, h1.sq, ?_, p.val R rfl⟩
      unfold L2.atI at h ⊢
      rw [List.length_map]
      cases hj : ixN l.length i with
      | none => rw [hj] at h; cases h
      | some j =>
        rw [hj] at h
        simp only [Option.bind_some] at h ⊢
        rw [List.getElem?_map, h]; rfl
    · exact p.elim
  · cases (show u = _ from ry)
    split at p
    · rename_i l hl
      split at p
      · rename_i h
        obtain ⟨a, vs, e, h1, h2, h3⟩ := R.lst (getL_ok hl) rx
        obtain ⟨w, h4, h5⟩ := h3.atI h
        exact .inl ⟨a, vs, _, w, e, rfl, SqL.of h2, h4, p.val R h5⟩
      · exact p.elim
    · exact p.elim
  · cases (show v = _ from rx); cases (show u = _ from ry)
    split at p
    · rename_i hz
      split at p
      · rename_i h
        exact .inr (.inr ⟨_, _, _, rfl, rfl, hz, h, p.val R rfl⟩)
      · exact p.elim
    · exact p.elim
  · exact p.elim
end
/-- parts of a slice -/
def cutL {α : Type} (xs : List α) (lo hi : Option Int) : List α := (xs.drop (HT.sIx xs.length 0 lo)).take (HT.sIx xs.length xs.length hi - HT.sIx xs.length 0 lo)
abbrev OF := Sl → Mem → Out (Option Int)
def oNone : OF := fun _ M => .ok none M
def oSome (f : EF) : OF := fun e M => (f e M).bind fun x M1 => match x with
  | .int i => .ok (some i) M1
  | _ => .bad
def slV (x : Val) (lo hi : Option Int) (M : Mem) : Out Val := match x with
  | .tup l => .ok (.tup (cutL l lo hi)) M
  | .loc n => (match getL M n with
    | some l => .ok (.loc M.length) (M ++ [.lst (cutL l lo hi)])
    | none => .bad)
  | _ => .bad
def eSl (f : EF) (l h : OF) : EF := fun e M => (f e M).bind fun x M1 => (l e M1).bind fun lo M2 => (h e M2).bind fun hi M3 => slV x lo hi M3
section
variable {X : Cx} {W : WX} {K : PySem.W.Frag} {ρ : List Addr} {M : Mem} {H : Hp} {a : Expr} {fa : EF} {pos p2 : Pos} {lo hi : Option Expr} {l h : OF}
abbrev Oeq (K : PySem.W.Frag) : RR (Option Int) (Option Int) := fun _ _ x v => x = v
structure SO' (X : Cx) (W : WX) (e : Option Expr) (f : OF) : Prop where
  po : PO X e (fun σ H Q => ∃ ρ e M, Rel X.K ρ M H ∧ SlR X.K ρ H e σ ∧ Po (Oeq X.K) X.K ρ H σ W Q (f e M))
theorem PO.imp {e : Option Expr} {t t' : TO} (h : PO X e t) (i : ∀ σ H Q, t' σ H Q → t σ H Q) : PO X e t' := ⟨fun pins s σ H Q I q => h.run pins s σ H Q I (i σ H Q q)⟩
theorem so_none : SO' X W none oNone := ⟨PO.imp po_none fun σ H Q ⟨ρ, e, M, R, S, p⟩ => p ρ H none (Ext.refl _ _) R rfl⟩
theorem so_some (ha : SE X W a fa) : SO' X W (some a) (oSome fa) := ⟨PO.imp (po_some ha.pe) fun σ H Q ⟨ρ, e, M, R, S, p⟩ => ⟨ρ, e, M, R, S, (Po.bind (R := RVr X.K) p).imp fun v H1 ⟨ρ1, M1, x, E1, R1, r1, p1⟩ => by
  cases x with
  | int i => cases (show v = _ from r1); exact ⟨i, rfl, p1 ρ1 H1 _ (Ext.refl _ _) R1 rfl⟩
  | _ => exact p1.elim⟩⟩
theorem RVs.cut {l : List Val} {vs : List V} (lo hi : Option Int) (r : RVs K ρ H l vs) : RVs K ρ H (cutL l lo hi) (cutV vs lo hi) := by
  unfold cutL cutV
  rw [r.length]
  exact (r.drop _).take _
theorem cutL_whole {l : List Val} {lo hi : Option Int} (h : HT.sIx l.length 0 lo = 0 ∧ HT.sIx l.length l.length hi = l.length) : cutL l lo hi = l := by
  unfold cutL
  rw [h.1, h.2]
  simp
theorem se_slice (ha : SE X W a fa) (hl : SO' X W lo l) (hh : SO' X W hi h) : SE X W (.Subscript a (.Slice lo hi none p2) pos) (eSl fa l h) :=
  ⟨(pe_slice (SlR.or (sl_tupA (X := X)) sl_list) ha.pe hl.po hh.po).imp fun σ H Q ⟨ρ, e, M, R, S, p⟩ => ⟨ρ, e, M, R, S, (Po.bind p).imp fun v H1 ⟨ρ1, M1, x, E1, R1, r1, p1⟩ => ⟨ρ1, e, M1, R1, S.mono E1, (Po.bind (R := Oeq X.K) p1).imp fun lo' H2 ⟨ρ2, M2, lo, E2, R2, r2, p2⟩ =>
    ⟨ρ2, e, M2, R2, (S.mono E1).mono E2, (Po.bind (R := Oeq X.K) p2).imp fun hi' H3 ⟨ρ3, M3, hi, E3, R3, r3, p3⟩ => by
      cases (show lo = lo' from r2)
      cases (show hi = hi' from r3)
      have r := RV.mono (E2.trans E3) _ _ r1
      unfold slV at p3
      split at p3
      · rename_i l
        obtain ⟨q, vs, e1, h1, h2⟩ := r
        refine .inl ⟨q, vs, e1, h1, fun hw => ?_, fun _ => p3.newTup R3 (h2.cut _ _)⟩
        rw [h2.length] at hw
        rw [cutL_whole hw] at p3
        exact p3.val R3 ⟨q, vs, rfl, h1, h2⟩
      · split at p3
        · rename_i n l hl
          obtain ⟨q, vs, e1, h1, h2, h3⟩ := R3.lst (getL_ok hl) r
          exact .inr ⟨q, vs, e1, SqL.of h2, p3.newList R3 (h3.cut _ _)⟩
        · exact p3.elim
      · exact p3.elim⟩⟩⟩⟩
end
end Sm

namespace Sm
open PySem L2
variable [LT] [WB]
/-! built-ins: len, tuple, list, int, isinstance, sorted, sum, .. -/
def lenV : FnS := fun l M => match l with
  | [.tup l] => .ok (.int l.length) M
  | [.frz l] => .ok (.int l.length) M
  | [.loc n] => (match getL M n with
    | some l => .ok (.int l.length) M
    | none => .bad)
  | [.str y] => if y.length ≤ sizeLine then .ok (.int y.length) M else .bad
  | _ => .bad
def tupleV : FnS := fun l M => match l with
  | [.tup l] => .ok (.tup l) M
  | [.loc n] => (match getL M n with
    | some l => .ok (.tup l) M
    | none => .bad)
  | _ => .bad
def listV : FnS := fun l M => match l with
  | [.tup l] => .ok (.loc M.length) (M ++ [.lst l])
  | [.loc n] => (match getL M n with
    | some l => .ok (.loc M.length) (M ++ [.lst l])
    | none => .bad)
  | _ => .bad
def intV : FnS := fun l M => match l with
  | [.int i] => .ok (.int i) M
  | [.bl b] => .ok (.int (if b then 1 else 0)) M
  | _ => .bad
def absV1 : FnS := fun l M => match l with
  | [.int i] => .ok (.int (if i < 0 then -i else i)) M
  | _ => .bad
def max2V : FnS := fun l M => match l with
  | [.int i, .int j] => .ok (.int (if j > i then j else i)) M
  | _ => .bad
def min2V : FnS := fun l M => match l with
  | [.int i, .int j] => .ok (.int (if j < i then j else i)) M
  | _ => .bad
/-- a list of intsOf -/
def intsOf : List Val → Option (List Int)
  | [] => some []
  | .int i :: l => (intsOf l).map (i :: ·)
  | _ => none
def boolsOf : List Val → Option (List Bool)
  | [] => some []
  | .bl i :: l => (boolsOf l).map (i :: ·)
  | _ => none
/-- the intsOf in order -/
def insI (x : Int) : List Int → List Int
  | [] => [x]
  | y :: l => if x ≤ y then x :: y :: l else y :: insI x l
def sortI : List Int → List Int
  | [] => []
  | x :: l => insI x (sortI l)
def sortedV : FnS := fun l M => match l with
  | [.loc n] => (match (getL M n).bind intsOf with
    | some l => if l.length < 64 then .ok (.loc M.length) (M ++ [.lst ((sortI l).map .int)]) else .bad
    | none => .bad)
  | _ => .bad
def sumV : FnS := fun l M => match l with
  | [.loc n] => (match (getL M n).bind intsOf with
    | some l => .ok (.int l.sum) M
    | none => .bad)
  | _ => .bad
/-- the greatest, the least -/
def maxL : List Int → Int
  | [] => 0
  | [x] => x
  | x :: l => max x (maxL l)
def minL : List Int → Int
  | [] => 0
  | [x] => x
  | x :: l => min x (minL l)
def maxV : FnS := fun l M => match l with
  | [.loc n] => (match (getL M n).bind intsOf with
    | some l => if 0 < l.length then .ok (.int (maxL l)) M else .bad
    | none => .bad)
  | _ => .bad
def minV : FnS := fun l M => match l with
  | [.loc n] => (match (getL M n).bind intsOf with
    | some l => if 0 < l.length then .ok (.int (minL l)) M else .bad
    | none => .bad)
  | _ => .bad
def anyV : FnS := fun l M => match l with
  | [.loc n] => (match (getL M n).bind boolsOf with
    | some l => .ok (.bl (l.any id)) M
    | none => .bad)
  | _ => .bad
def allV : FnS := fun l M => match l with
  | [.loc n] => (match (getL M n).bind boolsOf with
    | some l => .ok (.bl (l.all id)) M
    | none => .bad)
  | _ => .bad
section
variable {K : PySem.W.Frag} {ρ : List Addr} {M : Mem} {H : Hp}
theorem rv1 {x : Val} {vs : List V} (r : RVs K ρ H [x] vs) : ∃ v, vs = [v] ∧ RV K ρ H x v := by
  obtain ⟨v, us, e, r1, r2⟩ := r
  cases (show us = [] from r2)
  exact ⟨v, e, r1⟩
theorem rv2 {x y : Val} {vs : List V} (r : RVs K ρ H [x, y] vs) : ∃ v u, vs = [v, u] ∧ RV K ρ H x v ∧ RV K ρ H y u := by
  obtain ⟨v, us, e, r1, u, us', e', r2, r3⟩ := r
  cases (show us' = [] from r3)
  subst e'
  exact ⟨v, u, e, r1, r2⟩
theorem ints_ok : ∀ {l : List Val} {ns : List Int}, intsOf l = some ns → l = ns.map .int
  | [], ns, h => by cases h; rfl
  | .int i :: l, ns, h => by
    unfold intsOf at h
    cases hl : intsOf l with
    | none => rw [hl] at h; cases h
    | some ms => rw [hl] at h; cases h; rw [ints_ok hl]; rfl
  | .non :: _, _, h => by cases h
  | .bl _ :: _, _, h => by cases h
  | .str _ :: _, _, h => by cases h
  | .tup _ :: _, _, h => by cases h
  | .frz _ :: _, _, h => by cases h
  | .loc _ :: _, _, h => by cases h
  | .exc _ _ :: _, _, h => by cases h
theorem bools_ok : ∀ {l : List Val} {ns : List Bool}, boolsOf l = some ns → l = ns.map .bl
  | [], ns, h => by cases h; rfl
  | .bl i :: l, ns, h => by
    unfold boolsOf at h
    cases hl : boolsOf l with
    | none => rw [hl] at h; cases h
    | some ms => rw [hl] at h; cases h; rw [bools_ok hl]; rfl
  | .non :: _, _, h => by cases h
  | .int _ :: _, _, h => by cases h
  | .str _ :: _, _, h => by cases h
  | .tup _ :: _, _, h => by cases h
  | .frz _ :: _, _, h => by cases h
  | .loc _ :: _, _, h => by cases h
  | .exc _ _ :: _, _, h => by cases h
theorem RVs.bools : ∀ (l : List Bool) {vs : List V}, RVs K ρ H (l.map Val.bl) vs → vs = l.map V.bl
  | [], vs, h => h
  | i :: l, vs, ⟨v, r, h1, h2, h3⟩ => by
    cases (show v = V.bl i from h2)
    rw [h1, RVs.bools l h3]
    rfl
/-- a list of intsOf in the memory -/
theorem Rel.ints (R : Rel K ρ M H) {n : Nat} {ns : List Int} {v : V} (h : (getL M n).bind Sm.intsOf = some ns) (r : RV K ρ H (.loc n) v) : ∃ a, v = .ref a ∧ H a = some (.lst (ns.map V.int)) := by
  cases hg : getL M n with
  | none => rw [hg] at h; cases h
  | some l =>
    rw [hg] at h
    have e := ints_ok h
    subst e
    obtain ⟨a, vs, e1, h1, h2, h3⟩ := R.lst (getL_ok hg) r
    rw [(RVs.ints ns).mp h3] at h2
    exact ⟨a, e1, h2⟩
theorem Rel.bools (R : Rel K ρ M H) {n : Nat} {ns : List Bool} {v : V} (h : (getL M n).bind Sm.boolsOf = some ns) (r : RV K ρ H (.loc n) v) : ∃ a, v = .ref a ∧ H a = some (.lst (ns.map V.bl)) := by
  cases hg : getL M n with
  | none => rw [hg] at h; cases h
  | some l =>
    rw [hg] at h
    have e := bools_ok h
    subst e
    obtain ⟨a, vs, e1, h1, h2, h3⟩ := R.lst (getL_ok hg) r
    rw [RVs.bools ns h3] at h2
    exact ⟨a, e1, h2⟩
theorem insI_perm (x : Int) : ∀ l : List Int, (insI x l).Perm (x :: l)
  | [] => .refl _
  | y :: l => by
    unfold insI
    split
    · exact .refl _
    · exact ((insI_perm x l).cons y).trans (.swap x y l)
theorem sortI_perm : ∀ l : List Int, (sortI l).Perm l
  | [] => .refl _
  | x :: l => (insI_perm x _).trans ((sortI_perm l).cons x)
theorem insI_pair (x : Int) : ∀ l : List Int, l.Pairwise (· ≤ ·) → (insI x l).Pairwise (· ≤ ·)
  | [], _ => by simp [insI]
  | y :: l, h => by
    rw [List.pairwise_cons] at h
    unfold insI
    split
    · rename_i hxy
      rw [List.pairwise_cons]
      refine ⟨fun z hz => ?_, List.pairwise_cons.mpr h⟩
      rcases List.mem_cons.mp hz with rfl | hz
      · exact hxy
      · exact Int.le_trans hxy (h.1 z hz)
    · rename_i hxy
      rw [List.pairwise_cons]
      refine ⟨fun z hz => ?_, insI_pair x l h.2⟩
      have := (insI_perm x l).mem_iff.mp hz
      rcases List.mem_cons.mp this with rfl | hz
      · omega
      · exact h.1 z hz
theorem sortI_pair : ∀ l : List Int, (sortI l).Pairwise (· ≤ ·)
  | [] => .nil
  | x :: l => insI_pair x _ (sortI_pair l)
theorem sorted_one : ∀ {l m : List Int}, l.Perm m → l.Pairwise (· ≤ ·) → m.Pairwise (· ≤ ·) → l = m
  | [], m, h, _, _ => h.symm.eq_nil.symm
  | x :: l, [], h, _, _ => absurd h.length_eq (by simp)
  | x :: l, y :: m, h, h1, h2 => by
    rw [List.pairwise_cons] at h1 h2
    have hx : x ∈ y :: m := h.mem_iff.mp List.mem_cons_self
    have hy : y ∈ x :: l := h.mem_iff.mpr List.mem_cons_self
    have e : x = y := by
      rcases List.mem_cons.mp hx with e | hx
      · exact e
      · rcases List.mem_cons.mp hy with e | hy
        · exact e.symm
        · exact Int.le_antisymm (h1.1 y hy) (h2.1 x hx)
    subst e
    rw [sorted_one h.cons_inv h1.2 h2.2]
theorem sortI_is {l m : List Int} (h : m.Perm l) (p : m.Pairwise (· ≤ ·)) : m = sortI l := sorted_one (h.trans (sortI_perm l).symm) p (sortI_pair l)
theorem maxL_mem : ∀ {l : List Int}, 0 < l.length → maxL l ∈ l ∧ ∀ y ∈ l, y ≤ maxL l
  | [], h => by cases h
  | [x], _ => by simp [maxL]
  | x :: y :: l, _ => by
    obtain ⟨h1, h2⟩ := maxL_mem (l := y :: l) (by simp)
    show max x (maxL (y :: l)) ∈ x :: y :: l ∧ ∀ z ∈ x :: y :: l, z ≤ max x (maxL (y :: l))
    refine ⟨?_, fun z hz => ?_⟩
    · by_cases hx : x ≤ maxL (y :: l)
      · rw [Int.max_eq_right hx]; exact List.mem_cons_of_mem _ h1
      · rw [Int.max_eq_left (by omega)]; exact List.mem_cons_self
    · rcases List.mem_cons.mp hz with rfl | hz
      · exact Int.le_max_left _ _
      · exact Int.le_trans (h2 z hz) (Int.le_max_right _ _)
theorem minL_mem : ∀ {l : List Int}, 0 < l.length → minL l ∈ l ∧ ∀ y ∈ l, minL l ≤ y
  | [], h => by cases h
  | [x], _ => by simp [minL]
  | x :: y :: l, _ => by
    obtain ⟨h1, h2⟩ := minL_mem (l := y :: l) (by simp)
    show min x (minL (y :: l)) ∈ x :: y :: l ∧ ∀ z ∈ x :: y :: l, min x (minL (y :: l)) ≤ z
    refine ⟨?_, fun z hz => ?_⟩
    · by_cases hx : x ≤ minL (y :: l)
      · rw [Int.min_eq_left hx]; exact List.mem_cons_self
      · rw [Int.min_eq_right (by omega)]; exact List.mem_cons_of_mem _ h1
    · rcases List.mem_cons.mp hz with rfl | hz
      · exact Int.min_le_left _ _
      · exact Int.le_trans (Int.min_le_right _ _) (h2 z hz)
end
section
variable {X : Cx} {K : PySem.W.Frag}
def rLenA (K : PySem.W.Frag) : List V → Hp → VK → Prop := fun xs H Q => (∃ p ys, xs = [.ref p] ∧ (SqL K H p ys ∨ SqT K H p ys) ∧ Q (.int ys.length) H) ∨ (∃ z, xs = [.str z] ∧ z.length ≤ sizeLine ∧ Q (.int z.length) H)
theorem cr_len : CallR X (.builtin "len") (rLenA X.K) := CallR.or call_len_seq call_len_str
theorem cs_len : CallS K (rLenA K) lenV := by
  intro ρ M H σ W Q l vs R r p
  unfold lenV at p
  split at p
  · obtain ⟨v, e, a, us, e1, h1, h2⟩ := rv1 r
    subst e e1
    exact .inl ⟨a, us, rfl, .inr h1, by rw [h2.length]; exact p.val R rfl⟩
  · obtain ⟨v, e, a, e1, h1⟩ := rv1 r
    subst e e1
    exact .inl ⟨a, _, rfl, .inl h1.sq, by rw [List.length_map]; exact p.val R rfl⟩
  · split at p
    · rename_i l hl
      obtain ⟨v, e, r1⟩ := rv1 r
      obtain ⟨a, us, e1, h1, h2, h3⟩ := R.lst (getL_ok hl) r1
      subst e e1
      exact .inl ⟨a, us, rfl, .inl (SqL.of h2), by rw [h3.length]; exact p.val R rfl⟩
    · exact p.elim
  · obtain ⟨v, e, e1⟩ := rv1 r
    cases (show v = _ from e1)
    subst e
    split at p
    · rename_i h; exact .inr ⟨_, rfl, h, p.val R rfl⟩
    · exact p.elim
  · exact p.elim
theorem cs_tuple : CallS K (fun xs H Q => ∃ p ys, xs = [.ref p] ∧ ((SqL K H p ys ∧ ∀ l, H l = none → Q (.ref l) (upd H l (.tup ys))) ∨ (SqT K H p ys ∧ Q (.ref p) H))) tupleV := by
  intro ρ M H σ W Q l vs R r p
  unfold tupleV at p
  split at p
  · obtain ⟨v, e, a, us, e1, h1, h2⟩ := rv1 r
    subst e e1
    exact ⟨a, us, rfl, .inr ⟨h1, p.val R ⟨a, us, rfl, h1, h2⟩⟩⟩
  · split at p
    · rename_i l hl
      obtain ⟨v, e, r1⟩ := rv1 r
      obtain ⟨a, us, e1, h1, h2, h3⟩ := R.lst (getL_ok hl) r1
      subst e e1
      exact ⟨a, us, rfl, .inl ⟨SqL.of h2, p.newTup R h3⟩⟩
    · exact p.elim
  · exact p.elim
theorem cs_list : CallS K (fun xs H Q => ∃ p ys, xs = [.ref p] ∧ (SqL K H p ys ∨ SqT K H p ys) ∧ ∀ l, H l = none → Q (.ref l) (upd H l (.lst ys))) listV := by
  intro ρ M H σ W Q l vs R r p
  unfold listV at p
  split at p
  · obtain ⟨v, e, a, us, e1, h1, h2⟩ := rv1 r
    subst e e1
    exact ⟨a, us, rfl, .inr h1, p.newList R h2⟩
  · split at p
    · rename_i l hl
      obtain ⟨v, e, r1⟩ := rv1 r
      obtain ⟨a, us, e1, h1, h2, h3⟩ := R.lst (getL_ok hl) r1
      subst e e1
      exact ⟨a, us, rfl, .inl (SqL.of h2), p.newList R h3⟩
    · exact p.elim
  · exact p.elim
theorem cs_int : CallS K (fun xs H Q => (∃ i, xs = [.int i] ∧ Q (.int i) H) ∨ ∃ k, xs = [.bl k] ∧ Q (.int (if k then 1 else 0)) H) intV := by
  intro ρ M H σ W Q l vs R r p
  unfold intV at p
  split at p
  · obtain ⟨v, e, e1⟩ := rv1 r
    cases (show v = _ from e1)
    exact .inl ⟨_, e, p.val R rfl⟩
  · obtain ⟨v, e, e1⟩ := rv1 r
    cases (show v = _ from e1)
    exact .inr ⟨_, e, p.val R rfl⟩
  · exact p.elim
theorem cs_abs : CallS K (fun xs H Q => ∃ i, xs = [.int i] ∧ Q (.int (if i < 0 then -i else i)) H) absV1 := by
  intro ρ M H σ W Q l vs R r p
  unfold absV1 at p
  split at p
  · obtain ⟨v, e, e1⟩ := rv1 r
    cases (show v = _ from e1)
    exact ⟨_, e, p.val R rfl⟩
  · exact p.elim
theorem cs_max2 : CallS K (fun xs H Q => ∃ i j, xs = [.int i, .int j] ∧ Q (.int (if j > i then j else i)) H) max2V := by
  intro ρ M H σ W Q l vs R r p
  unfold max2V at p
  split at p
  · obtain ⟨v, u, e, e1, e2⟩ := rv2 r
    cases (show v = _ from e1); cases (show u = _ from e2)
    exact ⟨_, _, e, p.val R rfl⟩
  · exact p.elim
theorem cs_min2 : CallS K (fun xs H Q => ∃ i j, xs = [.int i, .int j] ∧ Q (.int (if j < i then j else i)) H) min2V := by
  intro ρ M H σ W Q l vs R r p
  unfold min2V at p
  split at p
  · obtain ⟨v, u, e, e1, e2⟩ := rv2 r
    cases (show v = _ from e1); cases (show u = _ from e2)
    exact ⟨_, _, e, p.val R rfl⟩
  · exact p.elim
theorem cs_sorted : CallS K (rSorted K) sortedV := by
  intro ρ M H σ W Q l vs R r p
  unfold sortedV at p
  split at p
  · split at p
    · rename_i l hl
      split at p
      · rename_i hz
        obtain ⟨v, e, r1⟩ := rv1 r
        obtain ⟨a, e1, h1⟩ := R.ints hl r1
        subst e e1
        refine ⟨a, l, rfl, SqL.of h1, hz, fun ns' q hp ho hq => ?_⟩
        rw [sortI_is hp ho]
        exact p.newList R ((RVs.ints _).mpr rfl) q hq
      · exact p.elim
    · exact p.elim
  · exact p.elim
theorem cs_sum : CallS K (rSum K) sumV := by
  intro ρ M H σ W Q l vs R r p
  unfold sumV at p
  split at p
  · split at p
    · rename_i l hl
      obtain ⟨v, e, r1⟩ := rv1 r
      obtain ⟨a, e1, h1⟩ := R.ints hl r1
      subst e e1
      exact ⟨a, l, rfl, SqL.of h1, p.val R rfl⟩
    · exact p.elim
  · exact p.elim
theorem cs_max : CallS K (rMax K) maxV := by
  intro ρ M H σ W Q l vs R r p
  unfold maxV at p
  split at p
  · split at p
    · rename_i l hl
      split at p
      · rename_i hz
        obtain ⟨v, e, r1⟩ := rv1 r
        obtain ⟨a, e1, h1⟩ := R.ints hl r1
        subst e e1
        refine ⟨a, l, rfl, SqL.of h1, hz, fun m hm ho => ?_⟩
        obtain ⟨k1, k2⟩ := maxL_mem hz
        rw [Int.le_antisymm (k2 m hm) (ho _ k1)]
        exact p.val R rfl
      · exact p.elim
    · exact p.elim
  · exact p.elim
theorem cs_min : CallS K (rMin K) minV := by
  intro ρ M H σ W Q l vs R r p
  unfold minV at p
  split at p
  · split at p
    · rename_i l hl
      split at p
      · rename_i hz
        obtain ⟨v, e, r1⟩ := rv1 r
        obtain ⟨a, e1, h1⟩ := R.ints hl r1
        subst e e1
        refine ⟨a, l, rfl, SqL.of h1, hz, fun m hm ho => ?_⟩
        obtain ⟨k1, k2⟩ := minL_mem hz
        rw [Int.le_antisymm (ho _ k1) (k2 m hm)]
        exact p.val R rfl
      · exact p.elim
    · exact p.elim
  · exact p.elim
theorem cs_any : CallS K (rAny K) anyV := by
  intro ρ M H σ W Q l vs R r p
  unfold anyV at p
  split at p
  · split at p
    · rename_i l hl
      obtain ⟨v, e, r1⟩ := rv1 r
      obtain ⟨a, e1, h1⟩ := R.bools hl r1
      subst e e1
      exact ⟨a, l, rfl, SqL.of h1, p.val R rfl⟩
    · exact p.elim
  · exact p.elim
theorem cs_all : CallS K (rAll K) allV := by
  intro ρ M H σ W Q l vs R r p
  unfold allV at p
  split at p
  · split at p
    · rename_i l hl
      obtain ⟨v, e, r1⟩ := rv1 r
      obtain ⟨a, e1, h1⟩ := R.bools hl r1
      subst e e1
      exact ⟨a, l, rfl, SqL.of h1, p.val R rfl⟩
    · exact p.elim
  · exact p.elim
end
/-! isinstance against built-in types -/
inductive Bt where
  | int | bool | tuple | list | str
def Bt.nm : Bt → String
  | .int => "int" | .bool => "bool" | .tuple => "tuple" | .list => "list" | .str => "str"
def tyN (x : Val) (M : Mem) : Option String := match x with
  | .non => some "NoneType"
  | .bl _ => some "bool"
  | .int _ => some "int"
  | .str _ => some "str"
  | .tup _ => some "tuple"
  | .frz _ => some "list"
  | .loc n => (getL M n).map fun _ => "list"
  | .exc _ _ => none
def isT (x : Val) (t : Bt) : Bool := match x, t with
  | .bl _, .bool => true
  | .bl _, .int => true
  | .int _, .int => true
  | .str _, .str => true
  | .tup _, .tuple => true
  | .frz _, .list => true
  | .loc _, .list => true
  | _, _ => false
def isiV (ts : List Bt) (x : Val) (M : Mem) : Out Val := match tyN x M with
  | some _ => .ok (.bl (ts.any fun t => isT x t)) M
  | none => .bad
theorem kit_n (t : Bt) : kitB "NoneType" t.nm = some false := by cases t <;> decide +kernel
theorem kit_b (t : Bt) : kitB "bool" t.nm = some (isT (.bl true) t) := by cases t <;> decide +kernel
theorem kit_i (t : Bt) : kitB "int" t.nm = some (isT (.int 0) t) := by cases t <;> decide +kernel
theorem kit_s (t : Bt) : kitB "str" t.nm = some (isT (.str ⟨#[]⟩) t) := by cases t <;> decide +kernel
theorem kit_t (t : Bt) : kitB "tuple" t.nm = some (isT (.tup []) t) := by cases t <;> decide +kernel
theorem kit_l (t : Bt) : kitB "list" t.nm = some (isT (.loc 0) t) := by cases t <;> decide +kernel
section
variable {K : PySem.W.Frag} {ρ : List Addr} {M : Mem} {H : Hp}
theorem isT_ok {x : Val} {v : V} {n : String} (R : Rel K ρ M H) (r : RV K ρ H x v) (h : tyN x M = some n) : TyX K H v (.type n) ∧ ∀ t : Bt, kitB n t.nm = some (isT x t) := by
  cases x with
  | non => cases (show v = _ from r); cases h; exact ⟨.base .non, fun t => by rw [kit_n]; cases t <;> rfl⟩
  | bl b => cases (show v = _ from r); cases h; exact ⟨.base (.bl b), fun t => by rw [kit_b]; cases t <;> rfl⟩
  | int i => cases (show v = _ from r); cases h; exact ⟨.base (.int i), fun t => by rw [kit_i]; cases t <;> rfl⟩
  | str i => cases (show v = _ from r); cases h; exact ⟨.base (.str i), fun t => by rw [kit_s]; cases t <;> rfl⟩
  | tup l =>
    obtain ⟨a, vs, e, h1, h2⟩ := r
    subst e
    cases h
    refine ⟨?_, fun t => by rw [kit_t]; cases t <;> rfl⟩
    exact .base (.tup h1.at_)
  | frz l =>
    obtain ⟨a, e, h1⟩ := r
    subst e
    cases h
    refine ⟨?_, fun t => by rw [kit_l]; cases t <;> rfl⟩
    rcases h1 with (⟨o, h1⟩ | ⟨o, its, m, h1, h2, _⟩) | ⟨_, h1⟩
    · exact .base (.frz h1)
    · exact .kList h1 h2
    · exact .base (.lst h1)
  | exc C fs => cases h
  | loc k =>
    unfold tyN at h
    simp only at h
    cases hg : getL M k with
    | none => rw [hg] at h; cases h
    | some l =>
      rw [hg] at h
      cases h
      obtain ⟨a, vs, e1, h1, h2, h3⟩ := R.lst (getL_ok hg) r
      subst e1
      exact ⟨.base (.lst h2), fun t => by rw [kit_l]; cases t <;> rfl⟩
theorem kitAny_ok {n : String} {x : Val} (h : ∀ t : Bt, kitB n t.nm = some (isT x t)) : ∀ ts : List Bt, PySem.W.kitAny K (.type n) (ts.map fun t => Value.type t.nm) = some (ts.any fun t => isT x t)
  | [] => kitAny_nil
  | t :: ts => by
    rw [List.map_cons, List.any_cons]
    cases hb : isT x t with
    | true => exact kitAny_cons (b := true) (kit_ty (by rw [h, hb])) (fun e => by cases e) fun _ => rfl
    | false => exact kitAny_cons (b := false) (kit_ty (by rw [h, hb])) (fun _ => by rw [kitAny_ok h ts]; rfl) fun e => by cases e
end
def eIsi (ts : List Bt) (f : EF) : EF := fun e M => (f e M).bind fun x M1 => isiV ts x M1
section
variable {X : Cx} {W : WX} {a : Expr} {fa : EF} {pos p q q2 : Pos}
theorem pe_bt (t : Bt) {x : Str} (hx : x = Str.ofString t.nm) (hg : Gl X x) (hm : X.mg x = none) (hv : bootBuiltins x = some (.type t.nm)) (hn : x ≠ "__name__" := by decide) (hd : (x == ("__debug__" : Str)) = false := by decide) : PE X (.Name x q) (tC (.ty t.nm)) :=
  pe_bltn hg hm hv rfl hn hd
/-- isinstance(a, T) -/
theorem se_isi (t : Bt) {x : Str} (ha : SE X W a fa) (hm : X.mg "isinstance" = none) (hmx : X.mg x = none) (hv : bootBuiltins x = some (.type t.nm)) (hgx : Gl X x := by rfl) (hg : Gl X "isinstance" := by rfl) (hn : x ≠ "__name__" := by decide) (hd : (x == ("__debug__" : Str)) = false := by decide)
    (he : starEach [a, .Name x q] X.env = (false, eval a X.env) :: starEach [.Name x q] X.env := by rfl) (hpl : (backTo pos (starEach [.Name x q] X.env)).any (·.1) = false := by rfl) : SE X W (.Call (.Name "isinstance" p) [a, .Name x q] [] pos) (eIsi [t] fa) :=
  ⟨(pe_callB call_isi hg hm (by decide +kernel) (pa_cons ha.pe (pa_cons (pe_bltn (v := .ty t.nm) hgx hmx hv rfl hn hd) pa_nil) he) (by decide) (by decide) he hpl).imp fun σ H Q ⟨ρ, e, M, R, S, p⟩ => ⟨ρ, e, M, R, S, (Po.bind p).imp fun v H1 ⟨ρ1, M1, x, E1, R1, r1, p1⟩ => by
    unfold isiV at p1
    split at p1
    · rename_i n hn
      obtain ⟨k1, k2⟩ := isT_ok R1 r1 hn
      refine ⟨v, .ty t.nm, .type n, .type t.nm, isT x t, rfl, .ty _, k1, kit_ty (k2 t), ?_⟩
      have := p1.val R1 (v := .bl (isT x t)) (by show V.bl _ = V.bl _; simp)
      exact this
    · exact p1.elim⟩⟩
/-- isinstance(a, (T1, T2)) -/
theorem se_isi2 (t t' : Bt) {x x' : Str} {p3 p4 p5 : Pos} {kk : Nat} (ha : SE X W a fa) (hm : X.mg "isinstance" = none) (hmx : X.mg x = none) (hv : bootBuiltins x = some (.type t.nm)) (hmx' : X.mg x' = none) (hv' : bootBuiltins x' = some (.type t'.nm)) (hgx : Gl X x := by rfl) (hgx' : Gl X x' := by rfl) (hg : Gl X "isinstance" := by rfl) (hn : x ≠ "__name__" := by decide) (hd : (x == ("__debug__" : Str)) = false := by decide) (hn' : x' ≠ "__name__" := by decide) (hd' : (x' == ("__debug__" : Str)) = false := by decide)
    (he : starEach [a, .Tuple [.Name x p3, .Name x' p4] kk p5] X.env = (false, eval a X.env) :: starEach [.Tuple [.Name x p3, .Name x' p4] kk p5] X.env := by rfl) (hpl : (backTo pos (starEach [.Tuple [.Name x p3, .Name x' p4] kk p5] X.env)).any (·.1) = false := by rfl) : SE X W (.Call (.Name "isinstance" p) [a, .Tuple [.Name x p3, .Name x' p4] kk p5] [] pos) (eIsi [t, t'] fa) :=
  ⟨(pe_callB call_isiT hg hm (by decide +kernel) (pa_cons ha.pe (pa_cons (pe_tup (pa_cons (pe_bltn (v := .ty t.nm) hgx hmx hv rfl hn hd) (pa_cons (pe_bltn (v := .ty t'.nm) hgx' hmx' hv' rfl hn' hd') pa_nil))) pa_nil) he) (by decide) (by decide) he hpl).imp fun σ H Q ⟨ρ, e, M, R, S, p⟩ => ⟨ρ, e, M, R, S, (Po.bind p).imp fun v H1 ⟨ρ1, M1, x, E1, R1, r1, p1⟩ => by
    unfold isiV at p1
    split at p1
    · rename_i n hn
      refine ⟨by show 2 ≤ sizeLine; decide, fun tp htp => ?_⟩
      have E := Ext.fresh (o := .tup [V.ty t.nm, V.ty t'.nm]) ρ1 htp
      obtain ⟨k1, k2⟩ := isT_ok (R1.fresh htp) (RV.mono E _ _ r1) hn
      refine ⟨v, tp, [.ty t.nm, .ty t'.nm], .type n, [.type t.nm, .type t'.nm], _, rfl, upd_same, .cons (.ty _) (.cons (.ty _) .nil), k1, kitAny_ok k2 [t, t'], ?_⟩
      exact p1 ρ1 _ _ E (R1.fresh htp) rfl
    · exact p1.elim⟩⟩
end
/-! methods of lists -/
def isTyM (T : String) (x : Val) (M : Mem) : Bool := match x with
  | .loc n => T == "list" && (getL M n).isSome
  | .frz _ => T == "list"
  | .str _ => T == "str"
  | _ => false
abbrev MtF := Val → List Val → Mem → Out Val
def MethS (K : PySem.W.Frag) (r : V → List V → Hp → VK → Prop) (g : MtF) : Prop :=
  ∀ (ρ : List Addr) (M : Mem) (H : Hp) (σ : St) (W : WX) (Q : VK) (x : Val) (v : V) (l : List Val) (vs : List V), Rel K ρ M H → RV K ρ H x v → RVs K ρ H l vs → Po (RVr K) K ρ H σ W Q (g x l M) → r v vs H Q
def eMt (T : String) (g : MtF) (fo : EF) (fa : AF) : EF := fun e M => (fo e M).bind fun x M1 => if isTyM T x M1 then (fa e M1).bind fun l M2 => g x l M2 else .bad
def appendV : MtF := fun x l M => match x, l with
  | .loc n, [y] => (match getL M n with
    | some xs => if xs.length < sizeLine then .ok .non (M.set n (.lst (xs ++ [y]))) else .bad
    | none => .bad)
  | _, _ => .bad
def extendV : MtF := fun x l M => match x, l with
  | .loc n, [.loc m] => (match getL M n, getL M m with
    | some xs, some ys => if xs.length + ys.length ≤ sizeLine then .ok .non (M.set n (.lst (xs ++ ys))) else .bad
    | _, _ => .bad)
  | _, _ => .bad
def popV : MtF := fun x l M => match x, l with
  | .loc n, [] => (match getL M n with
    | some xs => (match xs[xs.length - 1]? with
      | some y => .ok y (M.set n (.lst xs.dropLast))
      | none => .bad)
    | none => .bad)
  | _, _ => .bad
def popAtV : MtF := fun x l M => match x, l with
  | .loc n, [.int i] => (match getL M n with
    | some xs => if -(2 ^ 63) ≤ i ∧ i < 2 ^ 63 then (match ixN xs.length i with
      | some k => (match xs[k]? with
        | some y => .ok y (M.set n (.lst (xs.eraseIdx k)))
        | none => .bad)
      | none => .bad) else .bad
    | none => .bad)
  | _, _ => .bad
section
variable {K : PySem.W.Frag} {ρ : List Addr} {M : Mem} {H : Hp}
theorem isTyM_ok {T : String} {x : Val} {v : V} (R : Rel K ρ M H) (r : RV K ρ H x v) (h : isTyM T x M = true) : tyV K T v H := by
  unfold isTyM at h
  split at h
  · rename_i n
    rw [Bool.and_eq_true, beq_iff_eq] at h
    obtain ⟨h1, h2⟩ := h
    cases hg : getL M n with
    | none => rw [hg] at h2; cases h2
    | some l =>
      obtain ⟨a, vs, e1, k1, k2, k3⟩ := R.lst (getL_ok hg) r
      subst e1
      exact .inl ⟨h1, vs, SqL.of k2⟩
  · rw [beq_iff_eq] at h
    obtain ⟨a, e, h1⟩ := r
    subst e
    exact .inl ⟨h, _, h1.sq⟩
  · rw [beq_iff_eq] at h
    cases (show v = _ from r)
    exact h
  · cases h
/-- a list in the memory is written -/
theorem Po.setList {σ : St} {W : WX} {Q : VK} {n : Nat} {l l' : List Val} {vs' : List V} {x : Val} {u : V} {a : Addr} (R : Rel K ρ M H) (ha : ρ[n]? = some a) (r : RVs K ρ H l' vs') (rx : RV K ρ H x u) (p : Po (RVr K) K ρ H σ W Q (.ok x (M.set n (.lst l')))) (hl : ∃ us, H a = some (.lst us) := by exact ⟨_, by assumption⟩) : Q u (upd H a (.lst vs')) := by
  have hm : Mt (H a) := by
    obtain ⟨us, e⟩ := hl
    rw [e]; trivial
  have E := Ext.write (o := .lst vs') ρ (List.mem_of_getElem? ha) hm
  obtain ⟨R', _⟩ := R.write (c := .lst l') ha ⟨vs', upd_same, RVs.mono E _ _ r⟩
  exact p ρ _ u E R' (RV.mono E _ _ rx)
theorem ms_append : MethS K rAppend appendV := by
  intro ρ M H σ W Q x v l vs R rx rl p
  unfold appendV at p
  split at p
  · split at p
    · rename_i xs hx
      split at p
      · rename_i hz
        obtain ⟨a, us, e1, h1, h2, h3⟩ := R.lst (getL_ok hx) rx
        obtain ⟨u, e2, r2⟩ := rv1 rl
        exact ⟨a, us, u, e1, e2, h2, by rw [h3.length]; exact hz, p.setList (l := xs) (x := .non) R h1 (h3.snoc r2) rfl⟩
      · exact p.elim
    · exact p.elim
  · exact p.elim
theorem ms_extend : MethS K rExtend extendV := by
  intro ρ M H σ W Q x v l vs R rx rl p
  unfold extendV at p
  split at p
  · split at p
    · rename_i xs ys hx hy
      split at p
      · rename_i hz
        obtain ⟨a, us, e1, h1, h2, h3⟩ := R.lst (getL_ok hx) rx
        obtain ⟨u, e2, r2⟩ := rv1 rl
        obtain ⟨b, ws, e3, k1, k2, k3⟩ := R.lst (getL_ok hy) r2
        subst e3
        exact ⟨a, b, us, ws, e1, e2, h2, k2, by rw [h3.length, k3.length]; exact hz, p.setList (l := xs) (x := .non) R h1 (h3.append k3) rfl⟩
      · exact p.elim
    · exact p.elim
  · exact p.elim
theorem ms_pop : MethS K rPop popV := by
  intro ρ M H σ W Q x v l vs R rx rl p
  unfold popV at p
  split at p
  · split at p
    · rename_i xs hx
      split at p
      · rename_i y hy
        obtain ⟨a, us, e1, h1, h2, h3⟩ := R.lst (getL_ok hx) rx
        obtain ⟨u, hu, ru⟩ := h3.get hy
        exact ⟨a, us, u, e1, rl, h2, by rw [h3.length]; exact hu, p.setList (l := xs) R h1 h3.dropLast ru⟩
      · exact p.elim
    · exact p.elim
  · exact p.elim
theorem ms_popAt : MethS K rPopAt popAtV := by
  intro ρ M H σ W Q x v l vs R rx rl p
  unfold popAtV at p
  split at p
  · split at p
    · rename_i xs hx
      split at p
      · rename_i hb
        split at p
        · rename_i k hk
          split at p
          · rename_i y hy
            obtain ⟨a, us, e1, h1, h2, h3⟩ := R.lst (getL_ok hx) rx
            obtain ⟨u, hu, ru⟩ := h3.get hy
            obtain ⟨w, e2, r2⟩ := rv1 rl
            cases (show w = _ from r2)
            exact ⟨a, us, _, k, u, e1, e2, h2, hb.1, hb.2, by rw [h3.length]; exact (ixN_seq hk).1, hu, p.setList (l := xs) R h1 (h3.eraseIdx k) ru⟩
          · exact p.elim
        · exact p.elim
      · exact p.elim
    · exact p.elim
  · exact p.elim
end
section
variable {X : Cx} {W : WX} {o a : Expr} {es : List Expr} {fo : EF} {fa : AF} {name : Str} {apos cpos : Pos} {T id : String} {r : V → List V → Hp → VK → Prop} {g : MtF}
theorem se_mt (pa : PlainAttrs T) (slot : Slot T name id) (hty : typeOf (.builtin id) = pure (.type "method_descriptor")) (hm : MtR X id r) (hs : MethS X.K r g) (ho : SE X W o fo) (ha : SA X W (a :: es) fa)
    (hbase : attributeBase o name X.env (eval o X.env) = eval o X.env := by rfl)
    (hfew : ((backTo cpos (starEach (a :: es) X.env)).all (fun x => !x.1) && (backToKw cpos (keywordEach [] X.env)).all (fun x => x.1.isSome)
      && decide ((a :: es).length + ([] : List Keyword).length + (if ([] : List Keyword).isEmpty then 0 else 1) < 30)) = true := by rfl)
    (hline : (apos.endLine == cpos.line) = true := by rfl) (he : starEach (a :: es) X.env = (false, eval a X.env) :: starEach es X.env := by rfl) (hpl : (backTo cpos (starEach es X.env)).any (·.1) = false := by rfl) :
    SE X W (.Call (.Attribute o name apos) (a :: es) [] cpos) (eMt T g fo fa) :=
  ⟨(pe_bm pa slot hty hm ho.pe ha.pa hbase hfew hline he hpl).imp fun σ H Q ⟨ρ, e, M, R, S, p⟩ => ⟨ρ, e, M, R, S, (Po.bind p).imp fun v H1 ⟨ρ1, M1, x, E1, R1, r1, p1⟩ => by
    split at p1
    · rename_i ht
      exact ⟨isTyM_ok R1 r1 ht, ρ1, e, M1, R1, S.mono E1, (Po.bind (R := RVsr X.K) p1).imp fun us H2 ⟨ρ2, M2, l, E2, R2, r2, p2⟩ => hs _ _ _ _ _ _ _ _ _ _ R2 (RV.mono E2 _ _ r1) r2 p2⟩
    · exact p1.elim⟩⟩
theorem se_mt0 (pa : PlainAttrs T) (slot : Slot T name id) (hty : typeOf (.builtin id) = pure (.type "method_descriptor")) (hm : MtR X id r) (hs : MethS X.K r g) (ho : SE X W o fo)
    (hbase : attributeBase o name X.env (eval o X.env) = eval o X.env := by rfl) (hline : (apos.endLine == cpos.line) = true := by rfl) :
    SE X W (.Call (.Attribute o name apos) [] [] cpos) (eMt T g fo aNil) :=
  ⟨(pe_bm0 pa slot hty hm ho.pe hbase hline).imp fun σ H Q ⟨ρ, e, M, R, S, p⟩ => ⟨ρ, e, M, R, S, (Po.bind p).imp fun v H1 ⟨ρ1, M1, x, E1, R1, r1, p1⟩ => by
    split at p1
    · rename_i ht
      exact ⟨isTyM_ok R1 r1 ht, hs _ _ _ _ _ _ _ _ [] [] R1 r1 (show ([] : List V) = [] from rfl) p1⟩
    · exact p1.elim⟩⟩
end
end Sm

namespace Sm
open PySem L2
variable [LT] [WB]
def sPar (is : List Nat) (fa : AF) : SF := fun e M => (fa e M).toS e fun l M1 => if l.length = is.length then .nx (setAll is l e) M1 else .bad
def sBad : SF := fun _ _ => .bad
def sAug (i : Nat) (g : Val → Val → Mem → Out Val) (f : EF) : SF := fun e M => match e[i]? with
  | some (some x) => (f e M).toS e fun y M1 => (g x y M1).toS e fun z M2 => .nx (e.set i (some z)) M2
  | _ => .bad
def IpS (K : PySem.W.Frag) (r : TIp) (g : Val → Val → Mem → Out Val) : Prop :=
  ∀ (ρ : List Addr) (M : Mem) (H : Hp) (σ : St) (W : WX) (Q : VK) (x y : Val) (v u : V), Rel K ρ M H → RV K ρ H x v → RV K ρ H y u → Po (RVr K) K ρ H σ W Q (g x y M) → r v u H Q
section
variable {X : Cx} {W : WX} {a b c : Expr} {fa fb fc : EF} {pos : Pos} {K : PySem.W.Frag}
theorem len_two {α : Type} : ∀ {l : List α}, l.length = 2 → ∃ x y, l = [x, y]
  | [x, y], _ => ⟨x, y, rfl⟩
theorem len_three {α : Type} : ∀ {l : List α}, l.length = 3 → ∃ x y z, l = [x, y, z]
  | [x, y, z], _ => ⟨x, y, z, rfl⟩
theorem ss_never {st : Stmt} : SS X W st sBad := ⟨ps_never.imp fun D σ H ⟨ρ, e, M, R, S, p⟩ => p⟩
theorem ss_par {i j : Nat} {x y : Str} {f : AF} {px py pt : Pos} {kt k2 pt2} (hc : X.calm = true) (hN : X.N.Nodup) (ha : SA X W [a, b] f) (hi : X.N[i]? = some x := by rfl) (hj : X.N[j]? = some y := by rfl) (hij : i ≠ j := by decide)
    (hx : X.env.scope.names.lookup x = some .local := by rfl) (hy : X.env.scope.names.lookup y = some .local := by rfl)
    (hw : swappedStores [.Tuple [.Name x px, .Name y py] kt pt] (.Tuple [a, b] k2 pt2) X.env = pure (some [x, y]) := by rfl)
    (hs : swapsWithSole [.Tuple [.Name x px, .Name y py] kt pt] (.Tuple [a, b] k2 pt2) pos.line X.env = pure false := by rfl) :
    SS X W (.Assign [.Tuple [.Name x px, .Name y py] kt pt] (.Tuple [a, b] k2 pt2) pos) (sPar [i, j] f) :=
  ⟨(ps_par hc hN hi hj hij hx hy ha.pa hw hs).imp fun D σ H ⟨ρ, e, M, R, S, p⟩ => ⟨ρ, e, M, R, S, (PoS.ofE (R := RVsr X.K) S p).imp fun vs H1 ⟨ρ1, M1, l, E1, R1, r1, p1⟩ => by
    split at p1
    · rename_i hl
      obtain ⟨x', y', rfl⟩ := len_two hl
      obtain ⟨v, u, e1, r1, r2⟩ := rv2 r1
      exact ⟨v, u, e1, p1 ρ1 H1 _ (Ext.refl _ _) R1 (((S.mono E1).set i r1).set j r2)⟩
    · exact p1.elim⟩⟩
theorem ss_par3 {i j k : Nat} {x y z : Str} {f : AF} {px py pz pt : Pos} {kt k2 pt2} (hc : X.calm = true) (hN : X.N.Nodup) (ha : SA X W [a, b, c] f) (hi : X.N[i]? = some x := by rfl) (hj : X.N[j]? = some y := by rfl) (hk : X.N[k]? = some z := by rfl) (hij : i ≠ j := by decide) (hik : i ≠ k := by decide) (hjk : j ≠ k := by decide)
    (hx : X.env.scope.names.lookup x = some .local := by rfl) (hy : X.env.scope.names.lookup y = some .local := by rfl) (hz : X.env.scope.names.lookup z = some .local := by rfl)
    (hw : swappedStores [.Tuple [.Name x px, .Name y py, .Name z pz] kt pt] (.Tuple [a, b, c] k2 pt2) X.env = pure (some [x, y, z]) := by rfl)
    (hs : swapsWithSole [.Tuple [.Name x px, .Name y py, .Name z pz] kt pt] (.Tuple [a, b, c] k2 pt2) pos.line X.env = pure false := by rfl) :
    SS X W (.Assign [.Tuple [.Name x px, .Name y py, .Name z pz] kt pt] (.Tuple [a, b, c] k2 pt2) pos) (sPar [i, j, k] f) :=
  ⟨(ps_par3 hc hN hi hj hk hij hik hjk hx hy hz ha.pa hw hs).imp fun D σ H ⟨ρ, e, M, R, S, p⟩ => ⟨ρ, e, M, R, S, (PoS.ofE (R := RVsr X.K) S p).imp fun vs H1 ⟨ρ1, M1, l, E1, R1, r1, p1⟩ => by
    split at p1
    · rename_i hl
      obtain ⟨x', y', z', rfl⟩ := len_three hl
      obtain ⟨v, r, e1, q1, q0⟩ := r1
      obtain ⟨u, w, e2, q2, q3⟩ := rv2 q0
      subst e2
      exact ⟨v, u, w, e1, p1 ρ1 H1 _ (Ext.refl _ _) R1 ((((S.mono E1).set i q1).set j q2).set k q3)⟩
    · exact p1.elim⟩⟩
theorem ss_aug {i : Nat} {x : Str} {op : Operator} {ti : TIp} {g : Val → Val → Mem → Out Val} {pos' : Pos} (ho : PIp X op ti) (hg : IpS X.K ti g) (hN : X.N.Nodup) (ha : SE X W a fa) (hi : X.N[i]? = some x := by rfl) (hx : Loc X.env.scope x := by first | exact Or.inl rfl | exact Or.inr rfl)
    (hf : X.fn x = true ∨ X.env.scope.names.lookup x = some .local := by first | exact .inl rfl | exact .inr rfl | assumption) : SS X W (.AugAssign (.Name x pos') op a pos) (sAug i g fa) :=
  ⟨(ps_aug hN hi hx ha.pe ho hf).imp fun D σ H ⟨ρ, e, M, R, S, p⟩ => by
    unfold sAug at p
    split at p
    · rename_i xv hx
      obtain ⟨v, h1, h2⟩ := S.at_ i xv hx
      exact ⟨v, h1, ρ, e, M, R, S, (PoS.ofE (R := RVr X.K) S p).imp fun u H1 ⟨ρ1, M1, y, E1, R1, r1, p1⟩ => hg _ _ _ σ W _ _ _ _ _ R1 (RV.mono E1 _ _ h2) r1
        ((PoS.ofE (R := RVr X.K) (S.mono E1) p1).imp fun w H2 ⟨ρ2, M2, z, E2, R2, r2, p2⟩ => p2 ρ2 H2 _ (Ext.refl _ _) R2 (((S.mono E1).mono E2).set i r2))⟩
    · exact p.elim⟩

end
end Sm
namespace Sm
open PySem L2
variable [LT] [WB]
def arI (h : Int → Int → Int) (x y : Val) (M : Mem) : Out Val := match x, y with
  | .int i, .int j => .ok (.int (h i j)) M
  | _, _ => .bad
theorem is_ar {K : PySem.W.Frag} {h : Int → Int → Int} : IpS K (ipI h) (arI h) := by
  intro ρ M H σ W Q x y v u R rx ry p
  unfold arI at p
  split at p
  · cases (show v = _ from rx); cases (show u = _ from ry); exact ⟨_, _, rfl, rfl, p.val R rfl⟩
  · exact p.elim
end Sm
namespace Sm
open PySem L2
variable [LT] [WB]
def rangeL (a b : Int) : List Val := (List.range (b - a).toNat).map fun i => Val.int (a + (i : Nat))
def eLr1 (f : EF) : EF := fun e M => (f e M).bind fun x M1 => match x with
  | .int n => if -(2 ^ 62) ≤ n ∧ n < 2 ^ 62 ∧ n.toNat ≤ 2 ^ 24 then .ok (.loc M1.length) (M1 ++ [.lst (rangeL 0 n)]) else .bad
  | _ => .bad
theorem rangeL_ok {K : PySem.W.Frag} {ρ : List Addr} {H : Hp} (a b : Int) : RVs K ρ H (rangeL a b) (rgV a b) := by
  have e1 : rangeL a b = ((List.range (b - a).toNat).map fun (i : Nat) => a + (i : Int)).map Val.int := by unfold rangeL; rw [List.map_map]; rfl
  have e2 : rgV a b = ((List.range (b - a).toNat).map fun (i : Nat) => a + (i : Int)).map V.int := by unfold rgV; rw [List.map_map]; rfl
  rw [e1, e2]
  exact (RVs.ints _).mpr rfl
/-- list(range(a)) -/
theorem se_listRg1 {X : Cx} {W : WX} {a : Expr} {fa : EF} {p q pos qpos : Pos} (hc : X.calm = true) (hm : X.mg "list" = none) (hmr : X.mg "range" = none) (ha : SE X W a fa) (hg : Gl X "list" := by rfl) (hgr : Gl X "range" := by rfl)
    (na : starEach [a] X.env = (false, eval a X.env) :: starEach [] X.env := by rfl) (nb : starEach [.Call (.Name "range" q) [a] [] qpos] X.env = (false, eval (.Call (.Name "range" q) [a] [] qpos) X.env) :: starEach [] X.env := by rfl) :
    SE X W (.Call (.Name "list" p) [.Call (.Name "range" q) [a] [] qpos] [] pos) (eLr1 fa) :=
  ⟨(pe_listRg hc hg hm (prg_1 hgr hmr ha.pe na) nb).imp fun σ H Q ⟨ρ, e, M, R, S, p⟩ => ⟨ρ, e, M, R, S, (Po.bind p).imp fun v H1 ⟨ρ1, M1, x, E1, R1, r1, p1⟩ => by
    split at p1
    · rename_i n
      cases (show v = _ from r1)
      split at p1
      · rename_i h
        exact ⟨n, rfl, ⟨by decide, by decide, h.1, h.2.1, by simpa using h.2.2⟩, p1.newList R1 (rangeL_ok 0 n)⟩
      · exact p1.elim
    · exact p1.elim⟩⟩
end Sm

namespace Sm
open PySem L2
open PySem.Spec PyProof.Rows
variable [LT] [WB]
theorem ss_doc {X : Cx} {W : WX} {x j pos pos'} : SS X W (.Expr (.Constant (.str x) j pos) pos') sNil := ⟨ps_doc.imp fun D σ H ⟨ρ, e, M, R, S, p⟩ => p ρ H σ (Ext.refl _ _) R S⟩
theorem hr_u65 {k : Nat} {A : Around} (hr : Room k A) : A.units + 65 < cLine := by
  have := hr.un
  omega
/-- a def at hand -/
def Cal (P : Program) (w : World) (K : PySem.W.Frag) (mg : Str → Option Value) (base : Heap) (x : Str) (k np : Nat) (Fs : FnS) : Prop :=
  ∃ (f : Addr) (fd : FuncData) (ps : List Str), ps.length = np ∧ FOk P w K mg base k f fd ps Fs ∧ mg x = some (.ref f) ∧ PySem.W.keepIn K (.ref f) = true ∧ Binds K fd ps []
section
variable {P : Program} {w : World} {K : PySem.W.Frag} {mg : Str → Option Value} {base : Heap} {x qual : Str} {params : Arguments} {body : List Stmt} {scope : Scope} {kws : List (Str × V)} {f : Addr} {fd : FuncData}
theorem cal_of {N ps : List Str} {k : Nat} {fb : SF} (F : FunD K x qual params body scope [] kws f fd) (hm : mg x = some (.ref f)) (S : FnScope N ps scope)
    (hbind : ∀ (kV doc pm : Value) (an : Option Addr) (cdv ct : Value) (us : List Value), us.length = ps.length → bindArgs (PySem.W.fnOf x qual params body scope .none kV doc pm an cdv ct) ⟨us, []⟩ = pure (ps.zip us))
    (hb : ∀ (cdv : Value) (A : Around) (outer : List Env) (s : Shared) (H : Hp) (E : XK), Room k (A.deeper (envOfC qual scope s.heap.objs.size f cdv)) →
      SSs (cxOf (L2.CX P w) P w K mg base N qual scope f cdv A outer s H E) (fun c d _ H => E c d H) body fb) : Cal P w K mg base x (k + 1) ps.length (fnS ps.length N.length fb) :=
  ⟨f, fd, ps, rfl, fok_of F S hb, hm, F.kp, F.bindsN hbind⟩
theorem cal_bad {ps : List Str} {k np : Nat} (D : ∃ fd, FunD K x qual params body scope [] kws f fd) (hm : mg x = some (.ref f)) (hl : ps.length = np)
    (hbind : ∀ (kV doc pm : Value) (an : Option Addr) (cdv ct : Value) (us : List Value), us.length = ps.length → bindArgs (PySem.W.fnOf x qual params body scope .none kV doc pm an cdv ct) ⟨us, []⟩ = pure (ps.zip us)) : Cal P w K mg base x k np (fun _ _ => .bad) := by
  obtain ⟨fd, F⟩ := D
  exact ⟨f, fd, ps, hl, ⟨fun vs H Q E ⟨_, _, _, _, _, _, p⟩ => p.elim, fun A outer s H args us vs Q E _ _ _ _ ⟨_, _, _, _, _, _, p⟩ => p.elim⟩, hm, F.kp, F.bindsN hbind⟩
end
section
variable {X : Cx} {W : WX} {k np : Nat} {Fs : FnS} {x : Str} {p pos : Pos} {a : Expr} {es : List Expr} {fa : AF}
theorem se_callC (C : Cal X.prog X.w X.K X.mg X.base x k np Fs) (hr : Room k X.A) (tk : Takes X W) (ha : SA X W (a :: es) fa)
    (hg : Gl X x := by rfl) (hdb : (x == ("__debug__" : Str)) = false := by decide) (he : starEach (a :: es) X.env = (false, eval a X.env) :: starEach es X.env := by rfl) (hpl : (backTo pos (starEach es X.env)).any (·.1) = false := by rfl) :
    SE X W (.Call (.Name x p) (a :: es) [] pos) (eFn np Fs fa) := by
  obtain ⟨f, fd, ps, rfl, F, hm, hk, hb⟩ := C
  exact se_call F hr hm hk hb tk ha hg hdb he hpl
end
/-- the law's end -/
theorem law_sp {K : PySem.W.Frag} {F : FnS} {n : Nat} (h : ∀ ns : List Int, ns.length ≤ n → ∃ M, F [.frz ns] [] = .ok (.bl true) M) (H : Hp) (a : Addr) (ns : List Int) (hl : ns.length ≤ n) (hT : LamX.Tabs LT.T H) (hB : WB.B [] H) (hs : SqL K H a (ns.map V.int)) :
    spS K 1 F [.ref a] H (fun v _ => v = .bl true) fun _ _ _ => False := by
  have fz : FzR K [] H a (ns.map V.int) := by
    rcases hs with (hs | hs) | hs
    · exact .inr ⟨by simp, hs⟩
    · exact .inl (.inl hs)
    · exact .inl (.inr hs)
  refine ⟨[], [], [.frz ns], ⟨rfl, .nil, (fun n c a h => by cases h), hT, hB⟩, ⟨.ref a, [], rfl, ⟨a, rfl, fz⟩, rfl⟩, rfl, ?_⟩
  obtain ⟨M, e⟩ := h ns hl
  rw [e]
  exact fun ρ' H' b _ _ r => r
end Sm
namespace Sm
open PySem L2
open PySem.Spec PyProof.Rows
/-- the tables of some defs, each with its lambdas' name -/
abbrev ltOf (ct : List ((Addr × Addr) × Str)) : LT := ⟨ct.map fun p => (p.1.2, p.2)⟩
abbrev wbT [LT] : WB := ⟨fun _ _ => True, fun _ h => h⟩
/-- the law, from what its def computes -/
theorem endAt {l : PySem.W.OpenLaw} {n k : Nat} {q : Program} {loose : List Str} {XP : (Str → Option Value) → Heap → Prop} {YP : World → Heap → Prop} {d : DefRec} {F : FnS}
    (hn : l.most = some n) (hz : n ≤ sizeLine) (hd : d.params.defaults = []) (hr : Room k callerA) (hF : ∀ ns : List Int, ns.length ≤ n → ∃ M, F [.frz ns] [] = .ok (.bl true) M)
    (hall : ∀ (w : World) (mg : Str → Option Value) (fa : Addr) (h : Heap), YP w h → h.Ns mainGlobals mg → mg d.name = some (.ref fa) → ∃ (K : PySem.W.Frag) (fd : FuncData) (ct : List ((Addr × Addr) × Str)), K.In h ∧
      (∀ p ∈ ct, h.get? p.1.2 = some { cls := .none, data := .fields #[] }) ∧ (∀ p ∈ ct, K.lookup p.1.2 = none) ∧ (∀ p ∈ ct, PySem.W.CodeHd h p.1.1 p.1.2) ∧
      (∀ (s : Shared) (v : Value), BindsTo s fd ⟨[v], []⟩ [("_law_script", v)]) ∧ ∀ base : Heap, K.In base → base.Ns mainGlobals mg → (∀ p ∈ ct, LamX.TabB base mg p.1.1 p.1.2) → @FOk (ltOf ct) (@wbT (ltOf ct)) l.prog w K mg base k fa fd ["_law_script"] F) :
    PySem.W.WalkO q loose XP YP l.row.toRowW d [] (fun f us => PySem.call f us) := by
  refine LamX.walk_ofTsE (CX := fun w => L2.CX l.prog w) (k := k) (x := "_law_script") hn hz hd hr (fun w mg fa h Y hm ho => ?_) fun w H s e s' z => by
    obtain ⟨_, _, _, _, _, _, _, _, _, _, _, _, f⟩ := z
    exact f
  obtain ⟨K, fd, ct, KX, h1, h2, h3, hb, hf⟩ := hall w mg fa h Y hm ho
  letI : LT := ltOf ct
  letI : WB := wbT
  refine ⟨K, KX, fd, ct.map (·.1), spS K 1 F, fun p hp => ?_, fun p hp => ?_, fun p hp => ?_, hb, fun H a ns hl _ hT hs => law_sp hF H a ns hl (fun p hp => ?_) trivial hs, fun base b1 b2 b3 => hf base b1 b2 fun p hp => b3 _ (List.mem_map.mpr ⟨p, hp, rfl⟩)⟩
  · obtain ⟨q, hq, rfl⟩ := List.mem_map.mp hp; exact h1 q hq
  · obtain ⟨q, hq, rfl⟩ := List.mem_map.mp hp; exact h2 q hq
  · obtain ⟨q, hq, rfl⟩ := List.mem_map.mp hp; exact h3 q hq
  · obtain ⟨q, hq, rfl⟩ := List.mem_map.mp hp
    exact LamX.TabS.nil (hT _ (List.mem_map.mpr ⟨q, hq, rfl⟩))
end Sm

namespace Sm
open PySem L2
variable [LT] [WB]
/-! dicts whose keys are ints or texts -/
def keyOf : Val → Option Key
  | .int i => some (.inl i)
  | .str z => some (.inr z)
  | _ => none
def hasK {κ : Type} [DecidableEq κ] (kvs : List (κ × Val)) (k : κ) : Bool := kvs.any fun p => decide (p.1 = k)
def putV {κ : Type} [DecidableEq κ] (kvs : List (κ × Val)) (k : κ) (v : Val) : List (κ × Val) :=
  if hasK kvs k then kvs.map (fun p => if p.1 = k then (p.1, v) else p) else kvs ++ [(k, v)]
def inKD (x y : Val) (M : Mem) : Option Bool := match y with
  | .loc n => (match M[n]? with
    | some (.dK kvs) => (keyOf x).map (hasK kvs)
    | _ => none)
  | _ => none
def inKV (x y : Val) (M : Mem) : Out Val := match inKD x y M with
  | some b => .ok (.bl b) M
  | none => .bad
def notInKV (x y : Val) (M : Mem) : Out Val := match inKD x y M with
  | some b => .ok (.bl (!b)) M
  | none => .bad
section
variable {K : PySem.W.Frag} {ρ : List Addr} {M : Mem} {H : Hp} {κ : Type} [DecidableEq κ]
theorem keyOf_ok {x : Val} {v : V} {k : Key} (h : keyOf x = some k) (r : RV K ρ H x v) : v = kV k := by
  cases x <;> first | (cases h; cases (show v = _ from r); rfl) | cases h
theorem RKs.length : ∀ {l : List (κ × Val)} {ws : List (κ × V)}, RKs K ρ H l ws → ws.length = l.length
  | [], _, h => by cases (show _ = [] from h); rfl
  | (k, x) :: l, _, ⟨v, r, e, _, h⟩ => by subst e; simp [RKs.length h]
theorem RKs.has {k : κ} : ∀ {l : List (κ × Val)} {ws : List (κ × V)}, RKs K ρ H l ws → (ws.any fun p => decide (p.1 = k)) = hasK l k
  | [], _, h => by cases (show _ = [] from h); rfl
  | (j, x) :: l, _, ⟨v, r, e, _, h⟩ => by
    subst e
    show (decide (j = k) || r.any fun p => decide (p.1 = k)) = (decide (j = k) || hasK l k)
    rw [RKs.has h]
theorem RKs.map {k : κ} {z : Val} {u : V} (hz : RV K ρ H z u) : ∀ {l : List (κ × Val)} {ws : List (κ × V)}, RKs K ρ H l ws → RKs K ρ H (l.map fun p => if p.1 = k then (p.1, z) else p) (ws.map fun p => if p.1 = k then (p.1, u) else p)
  | [], _, h => by cases (show _ = [] from h); rfl
  | (j, x) :: l, _, ⟨v, r, e, hx, h⟩ => by
    subst e
    by_cases hj : j = k
    · rw [List.map_cons, List.map_cons, if_pos hj, if_pos hj]
      exact ⟨u, _, rfl, hz, RKs.map hz h⟩
    · rw [List.map_cons, List.map_cons, if_neg hj, if_neg hj]
      exact ⟨v, _, rfl, hx, RKs.map hz h⟩
theorem RKs.snoc {k : κ} {z : Val} {u : V} (hz : RV K ρ H z u) : ∀ {l : List (κ × Val)} {ws : List (κ × V)}, RKs K ρ H l ws → RKs K ρ H (l ++ [(k, z)]) (ws ++ [(k, u)])
  | [], _, h => by cases (show _ = [] from h); exact ⟨u, [], rfl, hz, rfl⟩
  | (j, x) :: l, _, ⟨v, r, e, hx, h⟩ => by subst e; exact ⟨v, _, rfl, hx, RKs.snoc hz h⟩
theorem RKs.put {k : κ} {z : Val} {u : V} {l : List (κ × Val)} {ws : List (κ × V)} (h : RKs K ρ H l ws) (hz : RV K ρ H z u) : RKs K ρ H (putV l k z) (putK ws k u) := by
  unfold putV putK
  rw [h.has]
  split
  · exact RKs.map hz h
  · exact RKs.snoc hz h
theorem valV_has {k : κ} : ∀ ws : List (κ × V), (valV ws k).isSome = ws.any fun p => decide (p.1 = k)
  | [] => rfl
  | p :: r => by
    by_cases e : p.1 = k
    · rw [valV_pos e]; simp [e]
    · rw [valV_neg e, valV_has r]; simp [e]
def rInK : R2 := fun x y H Q => ∃ a k ws, x = kV k ∧ y = .ref a ∧ H a = some (.dK ws) ∧ Q (.bl (valV ws k).isSome) H
def rNotInK : R2 := fun x y H Q => ∃ a k ws, x = kV k ∧ y = .ref a ∧ H a = some (.dK ws) ∧ Q (.bl (!(valV ws k).isSome)) H
theorem op_inK {X : Cx} (hu : X.A.units + 1 < cLine) : OpR X (compareOp .In) rInK := by
  rintro pins s σ H x y v u Q I rx ry ⟨a, k, ws, rfl, rfl, e, q⟩
  cases (show u = Value.ref a from ry)
  exact d_in hu I (.inl ⟨ws, k, .of e, rfl, rfl⟩) rx fun s' I' => ⟨.bl (valV ws k).isSome, H, I', rfl, q⟩
theorem op_notInK {X : Cx} (hu : X.A.units + 1 < cLine) : OpR X (compareOp .NotIn) rNotInK := by
  rintro pins s σ H x y v u Q I rx ry ⟨a, k, ws, rfl, rfl, e, q⟩
  cases (show u = Value.ref a from ry)
  exact d_notIn hu I (.inl ⟨ws, k, .of e, rfl, rfl⟩) rx fun s' I' => ⟨.bl (!(valV ws k).isSome), H, I', rfl, q⟩
theorem inKD_ok {x y : Val} {v u : V} {b : Bool} (R : Rel K ρ M H) (rx : RV K ρ H x v) (ry : RV K ρ H y u) (h : inKD x y M = some b) : ∃ a k ws, v = kV k ∧ u = .ref a ∧ H a = some (.dK ws) ∧ (valV ws k).isSome = b := by
  unfold inKD at h
  split at h
  · split at h
    · rename_i n kvs hn
      obtain ⟨a, e, ha⟩ := ry
      obtain ⟨ws, hw, hr⟩ := R.at_ _ _ _ hn ha
      cases hk : keyOf x with
      | none => rw [hk] at h; cases h
      | some k =>
        rw [hk] at h
        cases h
        exact ⟨a, k, ws, keyOf_ok hk rx, e, hw, by rw [valV_has, hr.has]⟩
    · cases h
  · cases h
theorem os_inK : OpS K rInK inKV := by
  intro ρ M H σ W Q x y v u R rx ry p
  unfold inKV at p
  split at p
  · rename_i b h
    obtain ⟨a, k, ws, h1, h2, h3, h4⟩ := inKD_ok R rx ry h
    exact ⟨a, k, ws, h1, h2, h3, by rw [h4]; exact p.val R rfl⟩
  · exact p.elim
theorem os_notInK : OpS K rNotInK notInKV := by
  intro ρ M H σ W Q x y v u R rx ry p
  unfold notInKV at p
  split at p
  · rename_i b h
    obtain ⟨a, k, ws, h1, h2, h3, h4⟩ := inKD_ok R rx ry h
    exact ⟨a, k, ws, h1, h2, h3, by rw [h4]; exact p.val R rfl⟩
  · exact p.elim
end
theorem hr_u1 {k : Nat} {A : Around} (hr : Room k A) : A.units + 1 < cLine := by
  have := hr.un
  omega
/-! a dict comprehension -/
def dcG (nxt : Nat → Mem → Option (Option Val)) (g : Tg) (t : TF) (ek ev : EF) (D : Nat) (e : Sl) : Nat → Nat → Mem → Out Val
  | 0, _, _ => .bad
  | m + 1, i, M => match nxt i M with
    | none => .bad
    | some none => .ok (.loc D) M
    | some (some x) => match g.put x e with
      | none => .bad
      | some e1 => match t e1 M with
        | .ok b M1 => if b = true then (match ek e1 M1 with
          | .ok y M2 => (match ev e1 M2 with
            | .ok z M3 => (match keyOf y with
              | some k => (match M3[D]? with
                | some (.dK kvs) => if kvs.length < sizeLine then dcG nxt g t ek ev D e m (i + 1) (M3.set D (.dK (putV kvs k z))) else .bad
                | _ => .bad)
              | none => .bad)
            | _ => .bad)
          | _ => .bad) else dcG nxt g t ek ev D e m (i + 1) M1
        | _ => .bad
def eDc (f : IF) (g : Tg) (t : TF) (ek ev : EF) (vs : List Nat) : EF := fun e M => (f e M).bind fun it M1 => dcG it.nxt g t ek ev M1.length (wipeS e vs) it.fuel 0 (M1 ++ [.dK []])
section
variable {X : Cx} {W : WX} {pos : Pos} {tg iter kx vx : Expr} {ifs : List Expr} {scope : Scope} {own : List (Str × Nat)} {f : IF} {g : Tg} {t : TF} {ek ev : EF}
theorem dc_ok (hv : ∀ i ∈ g.vs, i ∈ own.map (·.2)) {σ : St} {H : Hp} {Q : VK} (h : tE X.K W (eDc f g t ek ev (own.map (·.2))) σ H Q) : tDc (tIt X.K W f) (g.g X.K) (tT X.K noW t) (tE X.K noW ek) (tE X.K noW ev) (own.map (·.2)) σ H Q := by
  obtain ⟨ρ, e, M, R, S, p⟩ := h
  refine ⟨ρ, e, M, R, S, (Po.bind (R := Ritr X.K) p).imp fun J H1 ⟨ρ1, M1, it, E1, R1, sim, p1⟩ D hD => ?_⟩
  have EA := Ext.alloc (o := .dK []) ρ1 hD
  have hn : (ρ1 ++ [D])[M1.length]? = some D := by rw [← R1.len, List.getElem?_append_right (Nat.le_refl _)]; simp
  refine ⟨fun i m H' => ∃ ρ' M', Ext ρ1 H1 ρ' H' ∧ Rel X.K ρ' M' H' ∧ ρ'[M1.length]? = some D ∧ Po (RVr X.K) X.K ρ' H' σ W Q (dcG it.nxt g t ek ev M1.length (wipeS e (own.map (·.2))) m i M'),
    ⟨it.fuel, ρ1 ++ [D], _, EA, R1.alloc (c := .dK []) hD ⟨[], upd_same, rfl⟩, hn, p1.mono EA⟩, fun i m H' ⟨ρ', M', E', R', hn', p'⟩ => ?_⟩
  cases m with
  | zero => exact p'.elim
  | succ m =>
    unfold dcG at p'
    cases hx : it.nxt i M' with
    | none => rw [hx] at p'; exact p'.elim
    | some o => cases o with
      | none =>
        rw [hx] at p'
        exact .inl ⟨(sim i ρ' M' H' E' R').1 hx, p' ρ' H' _ (Ext.refl _ _) R' ⟨D, rfl, hn'⟩⟩
      | some x =>
        rw [hx] at p'
        simp only at p'
        obtain ⟨g1, g2⟩ := (sim i ρ' M' H' E' R').2 x hx
        refine .inr ⟨g1, _, fun H2 h => ⟨m, Nat.lt_succ_self m, h⟩, fun v H2 hy => ?_⟩
        obtain ⟨E2, R2, r2⟩ := g2 v H2 hy
        cases hp : g.put x (wipeS e (own.map (·.2))) with
        | none => rw [hp] at p'; exact p'.elim
        | some e1 =>
          rw [hp] at p'
          simp only at p'
          have S2 : SlR X.K ρ' H2 (wipeS e (own.map (·.2))) (L2.wipe σ (own.map (·.2))) := (S.wipe _).mono (E1.trans (E'.trans E2))
          refine Tg.ok hv r2 S2 hp fun σ' S' w => ⟨?_, ρ', e1, M', R2, S', ?_⟩
          · rw [w]
            apply List.ext_getElem?
            intro j
            rw [wipe_get, wipe_get]
            by_cases hj : j ∈ own.map (·.2)
            · rw [if_pos hj, if_pos hj]; cases σ[j]? <;> rfl
            · rw [if_neg hj, if_neg hj]
          · cases ht : t e1 M' with
            | bad => rw [ht] at p'; exact p'.elim
            | ex _ _ => rw [ht] at p'; exact p'.elim
            | ok b M3 =>
              rw [ht] at p'
              simp only at p'
              intro ρ3 H3 b' E3 R3 eb
              cases (show b = b' from eb)
              by_cases hb : b = true
              · rw [if_pos hb] at p' ⊢
                cases hl : ek e1 M3 with
                | bad => rw [hl] at p'; exact p'.elim
                | ex _ _ => rw [hl] at p'; exact p'.elim
                | ok y M4 =>
                  rw [hl] at p'
                  simp only at p'
                  refine ⟨ρ3, e1, M3, R3, S'.mono E3, Po.noex hl fun ρ4 H4 u E4 R4 r4 => ?_⟩
                  cases hl2 : ev e1 M4 with
                  | bad => rw [hl2] at p'; exact p'.elim
                  | ex _ _ => rw [hl2] at p'; exact p'.elim
                  | ok z M5 =>
                    rw [hl2] at p'
                    simp only at p'
                    refine ⟨ρ4, e1, M4, R4, (S'.mono E3).mono E4, Po.noex hl2 fun ρ5 H5 u2 E5 R5 r5 => ?_⟩
                    cases hk : keyOf y with
                    | none => rw [hk] at p'; exact p'.elim
                    | some k =>
                      rw [hk] at p'
                      simp only at p'
                      cases hm : M5[M1.length]? with
                      | none => rw [hm] at p'; exact p'.elim
                      | some c => cases c with
                        | dK acc =>
                          rw [hm] at p'
                          simp only at p'
                          have hn5 := E5.get (E4.get (E3.get hn'))
                          obtain ⟨ws, h3, h4⟩ := R5.at_ _ _ _ hm hn5
                          by_cases hz : acc.length < sizeLine
                          · rw [if_pos hz] at p'
                            refine ⟨ws, k, keyOf_ok hk r4, h3, by rw [h4.length]; exact hz, ?_⟩
                            have hmu : Mt (H5 D) := by rw [h3]; trivial
                            have E6 := Ext.write (o := .dK (putK ws k u2)) ρ5 (List.mem_of_getElem? hn5) hmu
                            obtain ⟨R6, _⟩ := R5.write (c := .dK (putV acc k z)) hn5 ⟨_, upd_same, (h4.put r5).mono E6⟩
                            exact ⟨ρ5, _, E'.trans (E2.trans (E3.trans (E4.trans (E5.trans E6)))), R6, hn5, p'.mono (E2.trans (E3.trans (E4.trans (E5.trans E6))))⟩
                          · rw [if_neg hz] at p'; exact p'.elim
                        | _ => rw [hm] at p'; exact p'.elim
              · rw [if_neg hb] at p' ⊢
                exact ⟨ρ3, M3, E'.trans (E2.trans E3), R3, E3.get hn', p'.mono (E2.trans E3)⟩
theorem se_dc (hc : X.calm = true) (hN : X.N.Nodup) (hi : SI X W tg iter f) (ok : BlkOk X.N X.env.scope scope own) (hv : ∀ i ∈ g.vs, i ∈ own.map (·.2))
    (hg : ∀ (s : Shared) (H : Hp) (C : Addr) (cl : List (Str × Addr)) (fp : List Addr), SLT (X.blk s H scope (compEnvC scope cl C X.env) fp) tg g) (ht : ∀ (s : Shared) (H : Hp) (C : Addr) (cl : List (Str × Addr)) (fp : List Addr), STs (X.blk s H scope (compEnvC scope cl C X.env) fp) ifs t)
    (hk : ∀ (s : Shared) (H : Hp) (C : Addr) (cl : List (Str × Addr)) (fp : List Addr), SE (X.blk s H scope (compEnvC scope cl C X.env) fp) noW kx ek)
    (he : ∀ (s : Shared) (H : Hp) (C : Addr) (cl : List (Str × Addr)) (fp : List Addr), SE (X.blk s H scope (compEnvC scope cl C X.env) fp) noW vx ev) (hs : ∀ x, foldedSetIterable iter X.env x = pure x := by intro _; rfl) :
    SE X W (.DictComp kx vx [⟨tg, iter, ifs, 0⟩] scope pos) (eDc f g t ek ev (own.map (·.2))) :=
  ⟨(pe_dc hc hN hi.pi ok (fun s H C cl fp => (hg s H C cl fp).pg) (fun s H C cl fp => (ht s H C cl fp).pts) (fun s H C cl fp => (hk s H C cl fp).pe) (fun s H C cl fp => (he s H C cl fp).pe) hs).imp fun σ H Q h => dc_ok hv h⟩
end
end Sm

namespace Sm
open PySem L2
variable [LT] [WB]
/-! texts -/
def strV : FnS := fun l M => match l with
  | [.int i] => if i.natAbs.log2 < 1920 then .ok (.str (toString i)) M else .bad
  | _ => .bad
def intSV : FnS := fun l M => match l with
  | [.int i] => .ok (.int i) M
  | [.bl b] => .ok (.int (if b then 1 else 0)) M
  | [.str z] => (match PySem.intText? z with
    | some n => if z.length ≤ 640 then .ok (.int n) M else .bad
    | none => .bad)
  | _ => .bad
def strsOf : List Val → Option (List Str)
  | [] => some []
  | .str z :: l => (strsOf l).map (z :: ·)
  | _ => none
def joinV : MtF := fun x l M => match x, l with
  | .str a, [.loc n] => (match (getL M n).bind strsOf with
    | some ys => if (ys.map (·.length)).sum + ys.length * a.length ≤ 16777216 then .ok (.str (Txt.join a ys)) M else .bad
    | none => .bad)
  | _, _ => .bad
def splitV : MtF := fun x l M => match x, l with
  | .str a, [.str b] => if (b.length == 0) = false ∧ a.length + 2 ≤ sizeLine then .ok (.loc M.length) (M ++ [.lst ((Txt.split a b).map .str)]) else .bad
  | _, _ => .bad
section
variable {X : Cx} {K : PySem.W.Frag} {ρ : List Addr} {M : Mem} {H : Hp}
theorem strsOf_ok : ∀ {l : List Val} {ys : List Str} {vs : List V}, strsOf l = some ys → RVs K ρ H l vs → vs = ys.map V.str
  | [], ys, vs, h, r => by cases h; cases (show vs = [] from r); rfl
  | x :: l, ys, vs, h, r => by
    obtain ⟨v, us, e, r1, r2⟩ := r
    subst e
    cases x with
    | str z =>
      unfold strsOf at h
      cases hl : strsOf l with
      | none => rw [hl] at h; cases h
      | some zs =>
        rw [hl] at h
        cases h
        cases (show v = _ from r1)
        rw [strsOf_ok hl r2]; rfl
    | _ => cases h
theorem RVs.strs : ∀ (ys : List Str), RVs K ρ H (ys.map Val.str) (ys.map V.str)
  | [] => rfl
  | y :: ys => ⟨_, _, rfl, rfl, RVs.strs ys⟩
theorem cs_str : CallS K (fun xs H Q => ∃ i, xs = [.int i] ∧ i.natAbs.log2 < 1920 ∧ Q (.str (toString i)) H) strV := by
  intro ρ M H σ W Q l vs R r p
  unfold strV at p
  split at p
  · obtain ⟨v, e, e1⟩ := rv1 r
    cases (show v = _ from e1)
    split at p
    · rename_i h; exact ⟨_, e, h, p.val R rfl⟩
    · exact p.elim
  · exact p.elim
def rInt2 : List V → Hp → VK → Prop := fun xs H Q => ((∃ i, xs = [.int i] ∧ Q (.int i) H) ∨ ∃ k, xs = [.bl k] ∧ Q (.int (if k then 1 else 0)) H) ∨ (∃ a n, xs = [.str a] ∧ PySem.intText? a = some n ∧ a.length ≤ 640 ∧ Q (.int n) H)
theorem call_int2 : CallR X (.type "int") rInt2 := CallR.or call_int1 call_int_str
theorem cs_int2 : CallS K rInt2 intSV := by
  intro ρ M H σ W Q l vs R r p
  unfold intSV at p
  split at p
  · obtain ⟨v, e, e1⟩ := rv1 r
    cases (show v = _ from e1)
    exact .inl (.inl ⟨_, e, p.val R rfl⟩)
  · obtain ⟨v, e, e1⟩ := rv1 r
    cases (show v = _ from e1)
    exact .inl (.inr ⟨_, e, p.val R rfl⟩)
  · obtain ⟨v, e, e1⟩ := rv1 r
    cases (show v = _ from e1)
    split at p
    · rename_i n hn
      split at p
      · rename_i hl; exact .inr ⟨_, n, e, hn, hl, p.val R rfl⟩
      · exact p.elim
    · exact p.elim
  · exact p.elim
def rJoin (K : PySem.W.Frag) : V → List V → Hp → VK → Prop := fun x xs H Q => ∃ a p, ∃ ys : List Str, x = .str a ∧ xs = [.ref p] ∧ (SqL K H p (ys.map V.str) ∨ SqT K H p (ys.map V.str)) ∧
    (ys.map (·.length)).sum + ys.length * a.length ≤ 16777216 ∧ Q (.str (Txt.join a ys)) H
theorem mt_join' : MtR X "str.join" (rJoin X.K) := mt_join
theorem ms_join : MethS K (rJoin K) joinV := by
  intro ρ M H σ W Q x v l vs R rx rl p
  unfold joinV at p
  split at p
  · rename_i a n
    split at p
    · rename_i ys hy
      split at p
      · rename_i hz
        obtain ⟨u, e2, r2⟩ := rv1 rl
        cases hg : getL M n with
        | none => rw [hg] at hy; cases hy
        | some xs =>
          rw [hg] at hy
          obtain ⟨a, us, e3, h1, h2, h3⟩ := R.lst (getL_ok hg) r2
          subst e3
          have := strsOf_ok hy h3
          subst this
          exact ⟨_, a, ys, rx, e2, .inl (SqL.of h2), hz, p.val R rfl⟩
      · exact p.elim
    · exact p.elim
  · exact p.elim
def rSplit : V → List V → Hp → VK → Prop := fun x xs H Q => ∃ a b, x = .str a ∧ xs = [.str b] ∧ (b.length == 0) = false ∧ a.length + 2 ≤ sizeLine ∧ rNewStrs (Txt.split a b) H Q
theorem mt_split' : MtR X "str.split" rSplit := mt_split
theorem ms_split : MethS K rSplit splitV := by
  intro ρ M H σ W Q x v l vs R rx rl p
  unfold splitV at p
  split at p
  · split at p
    · rename_i h
      obtain ⟨u, e2, r2⟩ := rv1 rl
      cases (show u = _ from r2)
      exact ⟨_, _, rx, e2, h.1, h.2, p.newList R (RVs.strs _)⟩
    · exact p.elim
  · exact p.elim
end
/-! a tuple of texts of the top -/
/-- the first place of a text -/
def posOf (ys : List Str) (z : Str) : Option Nat := ys.findIdx? fun y => decide (y = z)
def eSgIx (ys : List Str) (f : EF) : EF := fun e M => (f e M).bind fun x M1 => match x with
  | .str z => (match posOf ys z with
    | some j => .ok (.int (j : Nat)) M1
    | none => .bad)
  | _ => .bad
/-- the module's name x is a tuple of these texts -/
def GTup (K : PySem.W.Frag) (mg : Str → Option Value) (x : Str) (ys : List Str) : Prop :=
  ∃ a o its n, mg x = some (.ref a) ∧ K.lookup a = some o ∧ o.cls = .type "tuple" ∧ o.dict = none ∧ o.data = .seq its n ∧ its.size ≤ sizeLine ∧ Vals (ys.map V.str) its.toList
theorem GTup.sq {K : PySem.W.Frag} {mg : Str → Option Value} {x : Str} {ys : List Str} (g : GTup K mg x ys) : ∃ a, mg x = some (.ref a) ∧ ∀ H, SqT K H a (ys.map V.str) := by
  obtain ⟨a, o, its, n, h1, h2, h3, h4, h5, h6, h7⟩ := g
  exact ⟨a, h1, fun H => .inr ⟨o, its, n, h2, h3, h5, h6, h7⟩⟩
section
variable {X : Cx} {W : WX} {pos : Pos}
/-- x[e], x in SIGNS, x not in SIGNS -/
theorem se_gtIx {x : Str} {ys : List Str} {a : Expr} {fa : EF} {p : Pos} (g : GTup X.K X.mg x ys) (ha : SE X W a fa) (hg : Gl X x := by rfl) (hd : (x == ("__debug__" : Str)) = false := by decide) (hp : PlainIx a := by intro _ _; rfl) :
    SE X W (.Subscript (.Name x p) a pos) (eOp1 (ixV (.tup (ys.map .str))) fa) := by
  obtain ⟨q, h1, h2⟩ := g.sq
  refine ⟨(pe_ix ix_seq (pe_glob (v := .ref q) hg h1 rfl hd) ha.pe hp).imp fun σ H Q ⟨ρ, e, M, R, S, h⟩ => ?_⟩
  refine ⟨ρ, e, M, R, S, (Po.bind h).imp fun u H1 ⟨ρ1, M1, y, E1, R1, r1, p1⟩ => ?_⟩
  unfold ixV at p1
  cases y with
  | int i =>
    cases (show u = _ from r1)
    simp only at p1
    split at p1
    · rename_i w hw
      have hw2 : L2.atI (ys.map V.str) i = some (match w with | .str z => V.str z | _ => .non) ∧ ∃ z, w = .str z := by
        unfold L2.atI at hw ⊢
        rw [List.length_map] at hw ⊢
        cases hj : ixN ys.length i with
        | none => rw [hj] at hw; cases hw
        | some j =>
          rw [hj] at hw
          simp only [Option.bind_some, List.getElem?_map] at hw ⊢
          cases hy : ys[j]? with
          | none => rw [hy] at hw; cases hw
          | some z => rw [hy] at hw; cases hw; exact ⟨rfl, z, rfl⟩
      obtain ⟨hw2, z, rfl⟩ := hw2
      exact .inr (.inl ⟨q, _, _, _, rfl, rfl, h2 _, hw2, p1.val R1 rfl⟩)
    · exact p1.elim
  | _ => exact p1.elim
def inG (neg : Bool) (ys : List Str) (x : Val) (M : Mem) : Out Val := match x with
  | .str z => .ok (.bl (if neg = true then !(ys.any fun y => decide (y = z)) else ys.any fun y => decide (y = z))) M
  | _ => .bad
theorem inG_eq (z : Str) : ∀ ys : List Str, L2.inV (.str z) (ys.map V.str) = ys.any fun y => decide (y = z)
  | [] => rfl
  | y :: ys => by
    have e := inG_eq z ys
    unfold L2.inV at e ⊢
    rw [List.map_cons, List.any_cons, List.any_cons, e]
    congr 1
theorem strs_flat : ∀ l : List Str, (l.map V.str).all flatV = true
  | [] => rfl
  | i :: l => by rw [List.map_cons, List.all_cons, strs_flat l]; rfl
theorem inG_in {K : PySem.W.Frag} {ρ : List Addr} {M : Mem} {H : Hp} {σ : St} {W : WX} {Q : VK} {ys : List Str} {q : Addr} {y : Val} {u : V} (R : Rel K ρ M H) (ry : RV K ρ H y u) (h2 : SqT K H q (ys.map V.str)) (p : Po (RVr K) K ρ H σ W Q (inG false ys y M)) : rInA K u (.ref q) H Q := by
  unfold inG at p
  cases y with
  | str z => cases (show u = _ from ry); exact .inl ⟨q, _, rfl, .inr h2, rfl, strs_flat _, by simp only [inG_eq]; exact p.val R rfl⟩
  | _ => exact p.elim
theorem inG_not {K : PySem.W.Frag} {ρ : List Addr} {M : Mem} {H : Hp} {σ : St} {W : WX} {Q : VK} {ys : List Str} {q : Addr} {y : Val} {u : V} (R : Rel K ρ M H) (ry : RV K ρ H y u) (h2 : SqT K H q (ys.map V.str)) (p : Po (RVr K) K ρ H σ W Q (inG true ys y M)) : rNotInA K u (.ref q) H Q := by
  unfold inG at p
  cases y with
  | str z => cases (show u = _ from ry); exact .inl ⟨q, _, rfl, .inr h2, rfl, strs_flat _, by simp only [inG_eq]; exact p.val R rfl⟩
  | _ => exact p.elim
theorem st_gtNot {x : Str} {ys : List Str} {a : Expr} {fa : EF} {p : Pos} (g : GTup X.K X.mg x ys) (hu : X.A.units + 65 < cLine) (ha : SE X W a fa) (hg : Gl X x := by rfl) (hd : (x == ("__debug__" : Str)) = false := by decide) (hm : behindInMarks .NotIn (.Name x p) = false := by rfl) :
    ST X W (.Compare a [.NotIn] [.Name x p] pos) (tOfE (eOp1 (inG true ys) fa)) := by
  obtain ⟨q, h1, h2⟩ := g.sq
  refine ⟨(pt_cmpR (op_notInA hu) ha.pe (pe_glob (v := .ref q) hg h1 rfl hd) hm).imp fun σ H Q ⟨ρ, e, M, R, S, h⟩ => ⟨ρ, e, M, R, S, ?_⟩⟩
  unfold tOfE eOp1 at h
  have h' := Po.bind (R := RVr X.K) h
  exact (Po.bind (R := RVr X.K) h').imp fun u H1 ⟨ρ1, M1, y, E1, R1, r1, p1⟩ => inG_not R1 r1 (h2 _) (p1.imp fun z H3 ⟨ρ3, M3, z', E3, R3, r3, p3⟩ => by
    cases z' with
    | bl k => cases (show z = _ from r3); exact ⟨k, rfl, p3 ρ3 H3 k (Ext.refl _ _) R3 rfl⟩
    | _ => exact p3.elim)
theorem se_gtupIx {x : Str} {ys : List Str} {a : Expr} {fa : EF} {p apos cpos : Pos} (g : GTup X.K X.mg x ys) (ha : SE X W a fa) (hg : Gl X x := by rfl) (hd : (x == ("__debug__" : Str)) = false := by decide)
    (hbase : attributeBase (.Name x p) "index" X.env (eval (.Name x p) X.env) = eval (.Name x p) X.env := by rfl)
    (hfew : ((backTo cpos (starEach [a] X.env)).all (fun x => !x.1) && (backToKw cpos (keywordEach [] X.env)).all (fun x => x.1.isSome)
      && decide ([a].length + ([] : List Keyword).length + (if ([] : List Keyword).isEmpty then 0 else 1) < 30)) = true := by rfl)
    (hline : (apos.endLine == cpos.line) = true := by rfl) (he : starEach [a] X.env = (false, eval a X.env) :: starEach [] X.env := by rfl) (hpl : (backTo cpos (starEach [] X.env)).any (·.1) = false := by rfl) :
    SE X W (.Call (.Attribute (.Name x p) "index" apos) [a] [] cpos) (eSgIx ys fa) := by
  obtain ⟨q, o, its, n, h1, h2, h3, h4, h5, h6, h7⟩ := g
  refine ⟨(pe_bm PySem.F.plainAttrs_tuple PySem.F.slot_tuple_index PySem.F.type_tuple_index mt_tup_index (pe_glob (v := .ref q) hg h1 rfl hd) (sa_cons ha sa_nil he).pa hbase hfew hline he hpl).imp fun σ H Q ⟨ρ, e, M, R, S, p⟩ => ?_⟩
  refine ⟨.inr (.inl ⟨rfl, o, h2, h3, h4⟩), ρ, e, M, R, S, ?_⟩
  have p' : Po (RVr X.K) X.K ρ H σ W Q ((aCons fa aNil e M).bind fun l M1 => match l with
      | [.str z] => (match posOf ys z with
        | some j => .ok (.int (j : Nat)) M1
        | none => .bad)
      | _ => .bad) := by
    unfold eSgIx at p
    unfold aCons aNil
    cases h : fa e M with
    | ok x M1 => rw [h] at p; cases x <;> exact p
    | ex x M1 => rw [h] at p; exact p
    | bad => rw [h] at p; exact p
  exact (Po.bind (R := RVsr X.K) p').imp fun vs H1 ⟨ρ1, M1, l, E1, R1, r1, p1⟩ => by
    split at p1
    · rename_i z
      obtain ⟨v, e1, r2⟩ := rv1 r1
      cases (show v = _ from r2)
      split at p1
      · rename_i j hj
        unfold posOf at hj
        rw [List.findIdx?_eq_some_iff_getElem] at hj
        obtain ⟨hl, hz, hno⟩ := hj
        have hz := of_decide_eq_true hz
        refine ⟨q, ys, z, j, rfl, e1, .inr ⟨o, its, n, h2, h3, h5, h6, h7⟩, by rw [List.getElem?_eq_getElem hl, hz], fun m hm => ?_, p1.val R1 rfl⟩
        have hml : m < ys.length := by omega
        have := hno m hm
        rw [List.getElem?_eq_getElem hml]
        intro e
        exact this (decide_eq_true (Option.some.inj e))
      · exact p1.elim
    · exact p1.elim
end
/-! the head's word for it -/
def gtupB (K : PySem.W.Frag) (x : Str) (ys : List Str) : Bool := match PySem.W.nsIn K mainGlobals x with
  | some (some (.ref a)) => (match K.lookup a with
    | some ⟨.type c, none, .seq its _, _⟩ => decide (c = "tuple") && (decide (its.size ≤ sizeLine) && He.relAll (ys.map V.str) its.toList)
    | _ => false)
  | _ => false
theorem gtupB_ok {K : PySem.W.Frag} {h : Heap} {mg : Str → Option Value} {x : Str} {ys : List Str} (X : K.In h) (G : h.Ns mainGlobals mg) (c : gtupB K x ys = true) : GTup K mg x ys := by
  unfold gtupB at c
  split at c
  · rename_i a hn
    split at c
    · rename_i c' its n sl hk
      rw [Bool.and_eq_true, Bool.and_eq_true] at c
      obtain ⟨h1, h2, h3⟩ := c
      refine ⟨a, _, its, n, PySem.W.mg_of X G hn, hk, congrArg Value.type (of_decide_eq_true h1), rfl, rfl, of_decide_eq_true h2, He.relAll_ok h3⟩
    · cases c
  · cases c
end Sm

namespace Sm
open PySem L2
open PySem.Spec PyProof.Rows
variable [LT] [WB]
/-! xs[i] op= e -/
def getLV (o i : Val) (M : Mem) : Option Val := match o, i with
  | .loc n, .int k => (getL M n).bind fun l => atI l k
  | _, _ => none
def sAugS (g : Val → Val → Mem → Out Val) (fo fi f : EF) : SF := fun e M => (fo e M).toS e fun o M1 => (fi e M1).toS e fun i M2 => match getLV o i M2 with
  | some x => (f e M2).toS e fun y M3 => (g x y M3).toS e fun z M4 => (match setV o i z M4 with
    | some M5 => .nx e M5
    | none => .bad)
  | none => .bad
theorem get_list {X : Cx} : PGet X (rIxL X.K) := by
  intro pins s σ H o i ov iv Q I ro ri h
  obtain ⟨p, xs, k, z, rfl, rfl, hq, he, q⟩ := h
  cases ro
  obtain ⟨t, rfl⟩ := ri
  obtain ⟨its, r, pl, hz⟩ := I.list hq
  obtain ⟨j, h1, h2, h3, h4, h5⟩ := atI_get he
  obtain ⟨w, ew, rw'⟩ := r.get h2
  have hl := r.length
  have hn := line63
  have fin : EP X pins σ Q w s := ⟨z, H, I, rw', q⟩
  by_cases h0 : 0 ≤ k
  · have hj : k.toNat = j := by
      rw [seqIndex_of h0 h5] at h1
      exact Option.some.inj h1
    exact wpAny_getItem_list pl.isList h0 (by omega) (by rw [hj]; simpa using ew) fin
  · have hj : (k + (its.toArray.size : Int)).toNat = j := by
      rw [seqIndex_neg (by omega) h4] at h1
      rw [List.size_toArray, ← hl]
      exact Option.some.inj h1
    exact wpAny_getItem_list_neg pl.isList (by omega) (by rw [List.size_toArray] <;> omega) (by omega) (by rw [hj]; simpa using ew) fin
section
variable {X : Cx} {W : WX} {o i a : Expr} {fo fi fa : EF} {pos tpos : Pos} {op : Operator} {ti : TIp} {g : Val → Val → Mem → Out Val}
theorem ss_augS (hp : PIp X op ti) (hg : IpS X.K ti g) (ho : SE X W o fo) (hi : SE X W i fi) (ha : SE X W a fa)
    (hst : ∀ ov iv new, augStore i ov iv new = (do holding [new, ov, iv] (setItem ov iv new); release [new, ov, iv] []; pure .next) := by intros; rfl) : SS X W (.AugAssign (.Subscript o i tpos) op a pos) (sAugS g fo fi fa) :=
  ⟨(ps_augS ho.pe hi.pe get_list ha.pe hp set_list hst).imp fun D σ H ⟨ρ, e, M, R, S, p⟩ => ⟨ρ, e, M, R, S, (PoS.ofE (R := RVr X.K) S p).imp fun v H1 ⟨ρ1, M1, x, E1, R1, r1, p1⟩ =>
    ⟨ρ1, e, M1, R1, S.mono E1, (PoS.ofE (R := RVr X.K) (S.mono E1) p1).imp fun u H2 ⟨ρ2, M2, y, E2, R2, r2, p2⟩ => by
      split at p2
      · rename_i old hold
        unfold getLV at hold
        split at hold
        · rename_i n k hk0
          cases hl : getL M2 n with
          | none => rw [hl] at hold; cases hold
          | some l =>
            rw [hl] at hold
            obtain ⟨b, vs, e1, h1, h2, h3⟩ := R2.lst (getL_ok hl) (RV.mono E2 _ _ r1)
            obtain ⟨w, hw, rw'⟩ := h3.atI hold
            refine ⟨b, vs, k, w, e1, r2, SqL.of h2, hw, ρ2, e, M2, R2, (S.mono E1).mono E2, ?_⟩
            refine (PoS.ofE (R := RVr X.K) ((S.mono E1).mono E2) p2).imp fun y3 H3 ⟨ρ3, M3, y', E3, R3, r3, p3⟩ => ?_
            refine hg _ _ _ σ W _ _ _ _ _ R3 (RV.mono E3 _ _ rw') r3 ((PoS.ofE (R := RVr X.K) (((S.mono E1).mono E2).mono E3) p3).imp fun z4 H4 ⟨ρ4, M4, z, E4, R4, r4, p4⟩ => ?_)
            split at p4
            · rename_i M5 hs
              exact setV_ok R4 (RV.mono (E2.trans (E3.trans E4)) _ _ r1) (RV.mono (E3.trans E4) _ _ r2) r4 hs fun H' E5 R5 => p4 ρ4 H' σ E5 R5 ((((S.mono E1).mono E2).mono E3).mono (E4.trans E5))
            · exact p4.elim
        · cases hold
      · exact p2.elim⟩⟩⟩
end
/-! a comprehension with two clauses -/
def lcI (nxt : Nat → Mem → Option (Option Val)) (g : Tg) (t : TF) (el : EF) (D : Nat) (e : Sl) : Nat → Nat → Mem → Option Mem
  | 0, _, _ => none
  | m + 1, j, M => match nxt j M with
    | none => none
    | some none => some M
    | some (some x) => match g.put x e with
      | none => none
      | some e1 => match t e1 M with
        | .ok b M1 => if b = true then (match el e1 M1 with
          | .ok y M2 => (match getL M2 D with
            | some acc => if acc.length < sizeLine then lcI nxt g t el D e m (j + 1) (M2.set D (.lst (acc ++ [y]))) else none
            | none => none)
          | _ => none) else lcI nxt g t el D e m (j + 1) M1
        | _ => none
def lcO (nxt : Nat → Mem → Option (Option Val)) (g : Tg) (t : TF) (f1 : IF) (g1 : Tg) (t1 : TF) (el : EF) (vs1 : List Nat) (D : Nat) (e : Sl) : Nat → Nat → Mem → Out Val
  | 0, _, _ => .bad
  | m + 1, i, M => match nxt i M with
    | none => .bad
    | some none => .ok (.loc D) M
    | some (some x) => match g.put x e with
      | none => .bad
      | some e1 => match t e1 M with
        | .ok b M1 => if b = true then (match f1 e1 M1 with
          | .ok it M2 => (match lcI it.nxt g1 t1 el D (wipeS e1 vs1) it.fuel 0 M2 with
            | some M3 => lcO nxt g t f1 g1 t1 el vs1 D e m (i + 1) M3
            | none => .bad)
          | _ => .bad) else lcO nxt g t f1 g1 t1 el vs1 D e m (i + 1) M1
        | _ => .bad
def eLc2 (f : IF) (g : Tg) (t : TF) (f1 : IF) (g1 : Tg) (t1 : TF) (el : EF) (vs vs1 : List Nat) : EF := fun e M => (f e M).bind fun it M1 => lcO it.nxt g t f1 g1 t1 el vs1 M1.length (wipeS e vs) it.fuel 0 (M1 ++ [.lst []])
theorem wipe_wipe (σ : L2.St) (vs : List Nat) : L2.wipe (L2.wipe σ vs) vs = L2.wipe σ vs := by
  apply List.ext_getElem?
  intro j
  rw [wipe_get, wipe_get]
  by_cases hj : j ∈ vs
  · rw [if_pos hj, if_pos hj]; cases h : (σ : List (Option V))[j]? <;> simp
  · rw [if_neg hj, if_neg hj]
section
variable {X : Cx} {W : WX} {pos : Pos} {tg iter elt tg1 iter1 : Expr} {ifs ifs1 : List Expr} {scope : Scope} {own : List (Str × Nat)} {f f1 : IF} {g g1 : Tg} {t t1 : TF} {el : EF} {vs1 : List Nat}
theorem lc2_ok (hv : ∀ i ∈ g.vs, i ∈ own.map (·.2)) (hv1 : ∀ i ∈ g1.vs, i ∈ vs1) {σ : L2.St} {H : Hp} {Q : VK} (h : tE X.K W (eLc2 f g t f1 g1 t1 el (own.map (·.2)) vs1) σ H Q) :
    tLc2 (tIt X.K W f) (g.g X.K) (tT X.K noW t) (tIt X.K noW f1) (g1.g X.K) (tT X.K noW t1) (tE X.K noW el) (own.map (·.2)) vs1 σ H Q := by
  obtain ⟨ρ, e, M, R, S, p⟩ := h
  refine ⟨ρ, e, M, R, S, (Po.bind (R := Ritr X.K) p).imp fun J H1 ⟨ρ1, M1, it, E1, R1, sim, p1⟩ D hD => ?_⟩
  have EA := Ext.alloc (o := .lst []) ρ1 hD
  have hn : (ρ1 ++ [D])[M1.length]? = some D := by rw [← R1.len, List.getElem?_append_right (Nat.le_refl _)]; simp
  refine ⟨fun i m H' => ∃ ρ' M', Ext ρ1 H1 ρ' H' ∧ Rel X.K ρ' M' H' ∧ ρ'[M1.length]? = some D ∧ Po (RVr X.K) X.K ρ' H' σ W Q (lcO it.nxt g t f1 g1 t1 el vs1 M1.length (wipeS e (own.map (·.2))) m i M'),
    ⟨it.fuel, ρ1 ++ [D], _, EA, R1.alloc (c := .lst []) hD ⟨[], upd_same, rfl⟩, hn, p1.mono EA⟩, fun i m H' ⟨ρ', M', E', R', hn', p'⟩ => ?_⟩
  cases m with
  | zero => exact p'.elim
  | succ m =>
    unfold lcO at p'
    cases hx : it.nxt i M' with
    | none => rw [hx] at p'; exact p'.elim
    | some o => cases o with
      | none =>
        rw [hx] at p'
        exact .inl ⟨(sim i ρ' M' H' E' R').1 hx, p' ρ' H' _ (Ext.refl _ _) R' ⟨D, rfl, hn'⟩⟩
      | some x =>
        rw [hx] at p'
        simp only at p'
        obtain ⟨go1, go2⟩ := (sim i ρ' M' H' E' R').2 x hx
        refine .inr ⟨go1, fun H2 => ∃ ρ2 M2, Ext ρ1 H1 ρ2 H2 ∧ Rel X.K ρ2 M2 H2 ∧ ρ2[M1.length]? = some D ∧ Po (RVr X.K) X.K ρ2 H2 σ W Q (lcO it.nxt g t f1 g1 t1 el vs1 M1.length (wipeS e (own.map (·.2))) m (i + 1) M2), fun H2 h => ⟨m, Nat.lt_succ_self m, h⟩, fun v H2 hy => ?_⟩
        obtain ⟨E2, R2, r2⟩ := go2 v H2 hy
        cases hp : g.put x (wipeS e (own.map (·.2))) with
        | none => rw [hp] at p'; exact p'.elim
        | some e1 =>
          rw [hp] at p'
          simp only at p'
          have S2 : SlR X.K ρ' H2 (wipeS e (own.map (·.2))) (L2.wipe σ (own.map (·.2))) := (S.wipe _).mono (E1.trans (E'.trans E2))
          refine Tg.ok hv r2 S2 hp fun σ2 S' w => ⟨by rw [w, wipe_wipe], ρ', e1, M', R2, S', ?_⟩
          cases ht : t e1 M' with
          | bad => rw [ht] at p'; exact p'.elim
          | ex _ _ => rw [ht] at p'; exact p'.elim
          | ok b M3 =>
            rw [ht] at p'
            simp only at p'
            intro ρ3 H3 b' E3 R3 eb
            cases (show b = b' from eb)
            by_cases hb : b = true
            · rw [if_pos hb] at p' ⊢
              cases hf : f1 e1 M3 with
              | bad => rw [hf] at p'; exact p'.elim
              | ex _ _ => rw [hf] at p'; exact p'.elim
              | ok it1 M4 =>
                rw [hf] at p'
                simp only at p'
                refine ⟨ρ3, e1, M3, R3, S'.mono E3, Po.noex hf fun ρ4 H4 J1 E4 R4 sim1 => ?_⟩
                cases hi : lcI it1.nxt g1 t1 el M1.length (wipeS e1 vs1) it1.fuel 0 M4 with
                | none => rw [hi] at p'; exact p'.elim
                | some M5 =>
                  rw [hi] at p'
                  simp only at p'
                  have EE := E'.trans (E2.trans (E3.trans E4))
                  have S4 := S'.mono (E3.trans E4)
                  refine ⟨fun j k H5 => ∃ ρ5 M6, Ext ρ4 H4 ρ5 H5 ∧ Rel X.K ρ5 M6 H5 ∧ ρ5[M1.length]? = some D ∧ lcI it1.nxt g1 t1 el M1.length (wipeS e1 vs1) k j M6 = some M5,
                    ⟨it1.fuel, ρ4, M4, Ext.refl _ _, R4, E4.get (E3.get hn'), hi⟩, fun j k H5 ⟨ρ5, M6, E5, R5, hn5, q⟩ => ?_⟩
                  cases k with
                  | zero => cases q
                  | succ k =>
                    unfold lcI at q
                    cases hx1 : it1.nxt j M6 with
                    | none => rw [hx1] at q; cases q
                    | some o1 => cases o1 with
                      | none =>
                        rw [hx1] at q
                        cases q
                        exact .inl ⟨(sim1 j ρ5 M5 H5 E5 R5).1 hx1, ρ5, M5, EE.trans E5, R5, hn5, p'.mono ((E2.trans (E3.trans E4)).trans E5)⟩
                      | some x1 =>
                        rw [hx1] at q
                        simp only at q
                        obtain ⟨ga, gb⟩ := (sim1 j ρ5 M6 H5 E5 R5).2 x1 hx1
                        refine .inr ⟨ga, _, fun H6 h => ⟨k, Nat.lt_succ_self k, h⟩, fun v1 H6 hy1 => ?_⟩
                        obtain ⟨E6, R6, r6⟩ := gb v1 H6 hy1
                        cases hp1 : g1.put x1 (wipeS e1 vs1) with
                        | none => rw [hp1] at q; cases q
                        | some e2 =>
                          rw [hp1] at q
                          simp only at q
                          have S6 : SlR X.K ρ5 H6 (wipeS e1 vs1) (L2.wipe σ2 vs1) := (S4.wipe _).mono (E5.trans E6)
                          refine Tg.ok hv1 r6 S6 hp1 fun σ3 S7 w3 => ⟨by rw [w3, wipe_wipe], ρ5, e2, M6, R6, S7, ?_⟩
                          cases ht1 : t1 e2 M6 with
                          | bad => rw [ht1] at q; cases q
                          | ex _ _ => rw [ht1] at q; cases q
                          | ok b1 M7 =>
                            rw [ht1] at q
                            simp only at q
                            intro ρ7 H7 b1' E7 R7 eb1
                            cases (show b1 = b1' from eb1)
                            by_cases hb1 : b1 = true
                            · rw [if_pos hb1] at q ⊢
                              cases hl : el e2 M7 with
                              | bad => rw [hl] at q; cases q
                              | ex _ _ => rw [hl] at q; cases q
                              | ok y M8 =>
                                rw [hl] at q
                                simp only at q
                                refine ⟨ρ7, e2, M7, R7, S7.mono E7, Po.noex hl fun ρ8 H8 u E8 R8 r8 => ?_⟩
                                cases hm : getL M8 M1.length with
                                | none => rw [hm] at q; cases q
                                | some acc =>
                                  rw [hm] at q
                                  simp only at q
                                  have hn8 := E8.get (E7.get hn5)
                                  obtain ⟨vs, h3, h4⟩ := R8.at_ _ _ _ (getL_ok hm) hn8
                                  by_cases hz : acc.length < sizeLine
                                  · rw [if_pos hz] at q
                                    refine ⟨vs, h3, by rw [h4.length]; exact hz, ?_⟩
                                    have hmu : Mt (H8 D) := by rw [h3]; trivial
                                    have E9 := Ext.write (o := .lst (vs ++ [u])) ρ8 (List.mem_of_getElem? hn8) hmu
                                    obtain ⟨R9, _⟩ := R8.write (c := .lst (acc ++ [y])) hn8 ⟨_, upd_same, RVs.mono E9 _ _ (h4.snoc r8)⟩
                                    exact ⟨ρ8, _, E5.trans (E6.trans (E7.trans (E8.trans E9))), R9, hn8, q⟩
                                  · rw [if_neg hz] at q; cases q
                            · rw [if_neg hb1] at q ⊢
                              exact ⟨ρ7, M7, E5.trans (E6.trans E7), R7, E7.get hn5, q⟩
            · rw [if_neg hb] at p' ⊢
              exact ⟨ρ3, M3, E'.trans (E2.trans E3), R3, E3.get hn', p'.mono (E2.trans E3)⟩
theorem se_lc2 (hc : X.calm = true) (hN : X.N.Nodup) (hi : SI X W tg iter f) (ok : BlkOk X.N X.env.scope scope own) (hv : ∀ i ∈ g.vs, i ∈ own.map (·.2)) (hv1 : ∀ i ∈ g1.vs, i ∈ vs1) (hvs : ∀ i ∈ vs1, i ∈ own.map (·.2))
    (hg : ∀ (s : Shared) (H : Hp) (C : Addr) (cl : List (Str × Addr)) (fp : List Addr), SLT (X.blk s H scope (compEnvC scope cl C X.env) fp) tg g) (ht : ∀ (s : Shared) (H : Hp) (C : Addr) (cl : List (Str × Addr)) (fp : List Addr), STs (X.blk s H scope (compEnvC scope cl C X.env) fp) ifs t)
    (hi1 : ∀ (s : Shared) (H : Hp) (C : Addr) (cl : List (Str × Addr)) (fp : List Addr), SI (X.blk s H scope (compEnvC scope cl C X.env) fp) noW tg1 iter1 f1)
    (hg1 : ∀ (s : Shared) (H : Hp) (C : Addr) (cl : List (Str × Addr)) (fp : List Addr), SLT (X.blk s H scope (compEnvC scope cl C X.env) fp) tg1 g1) (ht1 : ∀ (s : Shared) (H : Hp) (C : Addr) (cl : List (Str × Addr)) (fp : List Addr), STs (X.blk s H scope (compEnvC scope cl C X.env) fp) ifs1 t1)
    (he : ∀ (s : Shared) (H : Hp) (C : Addr) (cl : List (Str × Addr)) (fp : List Addr), SE (X.blk s H scope (compEnvC scope cl C X.env) fp) noW elt el) (hs : ∀ x, foldedSetIterable iter X.env x = pure x := by intro _; rfl) (hs1 : ∀ env x, foldedSetIterable iter1 env x = pure x := by intro _ _; rfl) :
    SE X W (.ListComp elt [⟨tg, iter, ifs, 0⟩, ⟨tg1, iter1, ifs1, 0⟩] scope pos) (eLc2 f g t f1 g1 t1 el (own.map (·.2)) vs1) :=
  ⟨(pe_lc2 hc hN hi.pi ok hvs (fun s H C cl fp => (hg s H C cl fp).pg) (fun s H C cl fp => (ht s H C cl fp).pts) (fun s H C cl fp => (hi1 s H C cl fp).pi) (fun s H C cl fp => (hg1 s H C cl fp).pg) (fun s H C cl fp => (ht1 s H C cl fp).pts) (fun s H C cl fp => (he s H C cl fp).pe) hs hs1).imp fun σ H Q h => lc2_ok hv hv1 h⟩
theorem ss_setLc2 {i : Nat} {y : Str} {py spos : Pos} (hc : X.calm = true) (hN : X.N.Nodup) (hsw : swapsWith (.ListComp elt [⟨tg, iter, ifs, 0⟩, ⟨tg1, iter1, ifs1, 0⟩] scope pos) (some (.Name y py)) spos.line X.env = pure true) (hi : SI X W tg iter f) (ok : BlkOk X.N X.env.scope scope own) (hv : ∀ i ∈ g.vs, i ∈ own.map (·.2)) (hv1 : ∀ i ∈ g1.vs, i ∈ vs1) (hvs : ∀ i ∈ vs1, i ∈ own.map (·.2))
    (hg : ∀ (s : Shared) (H : Hp) (C : Addr) (cl : List (Str × Addr)) (fp : List Addr), SLT (X.blk s H scope (compEnvC scope cl C X.env) fp) tg g) (ht : ∀ (s : Shared) (H : Hp) (C : Addr) (cl : List (Str × Addr)) (fp : List Addr), STs (X.blk s H scope (compEnvC scope cl C X.env) fp) ifs t)
    (hi1 : ∀ (s : Shared) (H : Hp) (C : Addr) (cl : List (Str × Addr)) (fp : List Addr), SI (X.blk s H scope (compEnvC scope cl C X.env) fp) noW tg1 iter1 f1)
    (hg1 : ∀ (s : Shared) (H : Hp) (C : Addr) (cl : List (Str × Addr)) (fp : List Addr), SLT (X.blk s H scope (compEnvC scope cl C X.env) fp) tg1 g1) (ht1 : ∀ (s : Shared) (H : Hp) (C : Addr) (cl : List (Str × Addr)) (fp : List Addr), STs (X.blk s H scope (compEnvC scope cl C X.env) fp) ifs1 t1)
    (he : ∀ (s : Shared) (H : Hp) (C : Addr) (cl : List (Str × Addr)) (fp : List Addr), SE (X.blk s H scope (compEnvC scope cl C X.env) fp) noW elt el) (hy : X.N[i]? = some y := by rfl) (hyl : X.env.scope.names.lookup y = some .local := by rfl) (hs : ∀ x, foldedSetIterable iter X.env x = pure x := by intro _; rfl) (hs1 : ∀ env x, foldedSetIterable iter1 env x = pure x := by intro _ _; rfl) :
    SS X W (.Assign [.Name y py] (.ListComp elt [⟨tg, iter, ifs, 0⟩, ⟨tg1, iter1, ifs1, 0⟩] scope pos) spos) (sAsg (eLc2 f g t f1 g1 t1 el (own.map (·.2)) vs1) (gNm i)) :=
  ⟨(ps_setLc2 (i := i) hc hN hy hyl hsw hi.pi ok hvs (fun s H C cl fp => (hg s H C cl fp).pg) (fun s H C cl fp => (ht s H C cl fp).pts) (fun s H C cl fp => (hi1 s H C cl fp).pi) (fun s H C cl fp => (hg1 s H C cl fp).pg) (fun s H C cl fp => (ht1 s H C cl fp).pts) (fun s H C cl fp => (he s H C cl fp).pe) hs hs1).imp fun D σ H ⟨ρ, e, M, R, S, p⟩ =>
    lc2_ok (W := W) hv hv1 ⟨ρ, e, M, R, S, (PoS.ofE (R := RVr X.K) S p).imp fun v H1 ⟨ρ1, M1, x, E1, R1, r1, p1⟩ => p1 ρ1 H1 _ (Ext.refl _ _) R1 ((S.mono E1).set i r1)⟩⟩
end
end Sm

/-! max(t), min(t) of a tuple of ints -/
namespace L2
open PySem PySem.Spec PyProof.Rows
section
variable {prog : Program} {w : World} {A : Around} {E : Value → Shared → Prop} {s : Shared} {l : Addr} {xs : Array (Int × Tok)}
theorem iter_intTup {Q : Value → Shared → Prop} (hl : s.heap.IsTuple l (intItems xs))
    (h : ∀ s₂ : Shared, s₂ = { s with heap := s.heap.push { cls := .type "tuple_iterator", data := .fields #[.ref l, .int 0 0] } } → (s₂.heap.IsTupleIter s.heap.objs.size l 0 ∧ s₂.heap.IsTuple l (intItems xs)) → (∀ b ∈ [s.heap.objs.size, l], b < s₂.heap.objs.size) → l ≠ s.heap.objs.size → Q (.ref s.heap.objs.size) s₂) :
    wpAny (model prog w) A (pyIter (.ref l)) Q E s := by
  obtain ⟨o, ho, _⟩ := id hl
  have hlt := Heap.lt_size ho
  refine wpAny_pyIter_tuple hl (h _ rfl ⟨⟨_, Heap.get?_push_size _ rfl, rfl, rfl⟩, hl.push _⟩ (fun b hb => ?_) (Nat.ne_of_lt hlt))
  show b < (s.heap.push _).objs.size
  rw [Heap.size_push]
  rcases List.mem_cons.mp hb with e | hb
  · rw [e]; exact Nat.lt_succ_self _
  · rcases List.mem_cons.mp hb with e | hb
    · rw [e]; exact Nat.lt_succ_of_lt hlt
    · cases hb
theorem old_keptT {h' : Heap} (hk : ∀ b o, b ∉ [s.heap.objs.size] → (s.heap.push { cls := .type "tuple_iterator", data := .fields #[.ref l, .int 0 0] }).get? b = some o → h'.get? b = some o) : ∀ b o, s.heap.get? b = some o → h'.get? b = some o := fun b o e => by
  refine hk b o (fun hm => ?_) (Heap.get?_push_of_some _ e)
  rcases List.mem_cons.mp hm with e1 | hm
  · exact absurd (e1 ▸ Heap.lt_size e) (Nat.lt_irrefl _)
  · cases hm
theorem max_intTup {Q : Value → Shared → Prop} (hh : A.handled = none) (hl : s.heap.IsTuple l (intItems xs)) (hne : 0 < xs.size)
    (h : ∀ v h' tk, (intItems xs)[argBest (fun i j => decide (numAt xs i > numAt xs j)) (xs.size - 1)]? = some v → (∀ b o, s.heap.get? b = some o → h'.get? b = some o) → Q v { s with heap := h', toks := tk }) :
    wpAny (model prog w) A (call (.builtin "max") [.ref l]) Q E s := by
  refine call_max_walk (iter_intTup hl fun s₂ e st hfp hlI => ?_)
  subst e
  refine ⟨_, _, _, _, _, _, _, rfl, Walks.tuple (A := A.in1) hh _ l hlI (intItems xs), st, hfp, by simpa [intItems] using hne, CmpOf.ints_gt (numAt xs) (fun _ _ => intItems_at), fun v h' tk hP hk => ?_⟩
  exact h v h' tk (by simpa [intItems] using hP) (old_keptT hk)
theorem min_intTup {Q : Value → Shared → Prop} (hh : A.handled = none) (hl : s.heap.IsTuple l (intItems xs)) (hne : 0 < xs.size)
    (h : ∀ v h' tk, (intItems xs)[argBest (fun i j => decide (numAt xs i < numAt xs j)) (xs.size - 1)]? = some v → (∀ b o, s.heap.get? b = some o → h'.get? b = some o) → Q v { s with heap := h', toks := tk }) :
    wpAny (model prog w) A (call (.builtin "min") [.ref l]) Q E s := by
  refine call_min_walk (iter_intTup hl fun s₂ e st hfp hlI => ?_)
  subst e
  refine ⟨_, _, _, _, _, _, _, rfl, Walks.tuple (A := A.in1) hh _ l hlI (intItems xs), st, hfp, by simpa [intItems] using hne, CmpOf.ints_lt (numAt xs) (fun _ _ => intItems_at), fun v h' tk hP hk => ?_⟩
  exact h v h' tk (by simpa [intItems] using hP) (old_keptT hk)
variable {its : List Value} {ns : List Int}
theorem max_rawT {Q : Value → Shared → Prop} (hh : A.handled = none) (hl : s.heap.IsTuple l its.toArray) (hi : IntsAre its ns) (hne : 0 < ns.length)
    (h : ∀ h' tk M t', (∀ b o, s.heap.get? b = some o → h'.get? b = some o) → M ∈ ns → (∀ a, a ∈ ns → a ≤ M) → Q (.int M t') { s with heap := h', toks := tk }) : wpAny (model prog w) A (call (.builtin "max") [.ref l]) Q E s := by
  obtain ⟨xs, e⟩ := hi.allInts.items
  have hn : numsOf (intItems xs).toList = ns := by rw [← e]; exact hi.numsOf
  rw [nums_intItems] at hn
  subst hn
  rw [e] at hl
  have hsz : 0 < xs.size := by simpa using hne
  refine max_intTup hh hl hsz fun v h' tk hv hk => ?_
  obtain ⟨t, rfl⟩ := intItems_at hv
  obtain ⟨h1, h2⟩ := argBest_gt (numAt xs) (xs.size - 1)
  refine h h' tk _ t hk ?_ fun a ha => ?_
  · rw [numAt_eq]; exact PySem.getD_mem (by rw [List.length_map, Array.length_toList]; omega)
  · obtain ⟨j, hj, rfl⟩ := mem_getD ha
    rw [List.length_map, Array.length_toList] at hj
    rw [← numAt_eq]; exact h2 j (by omega)
theorem min_rawT {Q : Value → Shared → Prop} (hh : A.handled = none) (hl : s.heap.IsTuple l its.toArray) (hi : IntsAre its ns) (hne : 0 < ns.length)
    (h : ∀ h' tk M t', (∀ b o, s.heap.get? b = some o → h'.get? b = some o) → M ∈ ns → (∀ a, a ∈ ns → M ≤ a) → Q (.int M t') { s with heap := h', toks := tk }) : wpAny (model prog w) A (call (.builtin "min") [.ref l]) Q E s := by
  obtain ⟨xs, e⟩ := hi.allInts.items
  have hn : numsOf (intItems xs).toList = ns := by rw [← e]; exact hi.numsOf
  rw [nums_intItems] at hn
  subst hn
  rw [e] at hl
  have hsz : 0 < xs.size := by simpa using hne
  refine min_intTup hh hl hsz fun v h' tk hv hk => ?_
  obtain ⟨t, rfl⟩ := intItems_at hv
  obtain ⟨h1, h2⟩ := argBest_lt (numAt xs) (xs.size - 1)
  refine h h' tk _ t hk ?_ fun a ha => ?_
  · rw [numAt_eq]; exact PySem.getD_mem (by rw [List.length_map, Array.length_toList]; omega)
  · obtain ⟨j, hj, rfl⟩ := mem_getD ha
    rw [List.length_map, Array.length_toList] at hj
    rw [← numAt_eq]; exact h2 j (by omega)
end
section
variable {X : Cx}
def rMaxQ (K : PySem.W.Frag) : List V → Hp → VK → Prop := fun vs H Q => rMax K vs H Q ∨ ∃ (a : Addr) (ns : List Int), vs = [V.ref a] ∧ SqT K H a (ns.map V.int) ∧ 0 < ns.length ∧ ∀ m, m ∈ ns → (∀ y, y ∈ ns → y ≤ m) → Q (.int m) H
def rMinQ (K : PySem.W.Frag) : List V → Hp → VK → Prop := fun vs H Q => rMin K vs H Q ∨ ∃ (a : Addr) (ns : List Int), vs = [V.ref a] ∧ SqT K H a (ns.map V.int) ∧ 0 < ns.length ∧ ∀ m, m ∈ ns → (∀ y, y ∈ ns → m ≤ y) → Q (.int m) H
theorem cr_maxQ (hc : X.calm = true) : CallR X (.builtin "max") (rMaxQ X.K) := by
  intro pins s σ H vs us Q I r h
  rcases h with h | ⟨a, ns, rfl, hs, hne, q⟩
  · exact cr_max hc pins s σ H vs us Q I r h
  · obtain ⟨its, rv, hl, _⟩ := I.tuple hs
    rw [Vals.ref1 r]
    exact max_rawT (I.ok.hd hc) (show s.heap.IsTuple a its.toArray from hl) rv.ints hne fun h' tk m t' hk h1 h2 => ⟨.int _, H, I.kept hk, ⟨_, rfl⟩, q m h1 h2⟩
theorem cr_minQ (hc : X.calm = true) : CallR X (.builtin "min") (rMinQ X.K) := by
  intro pins s σ H vs us Q I r h
  rcases h with h | ⟨a, ns, rfl, hs, hne, q⟩
  · exact cr_min hc pins s σ H vs us Q I r h
  · obtain ⟨its, rv, hl, _⟩ := I.tuple hs
    rw [Vals.ref1 r]
    exact min_rawT (I.ok.hd hc) (show s.heap.IsTuple a its.toArray from hl) rv.ints hne fun h' tk m t' hk h1 h2 => ⟨.int _, H, I.kept hk, ⟨_, rfl⟩, q m h1 h2⟩
end
end L2
namespace Sm
open PySem L2
open PySem.Spec PyProof.Rows
variable [LT] [WB]
def maxQ : FnS := fun l M => match l with
  | [.tup xs] => (match intsOf xs with
    | some ns => if 0 < ns.length then .ok (.int (maxL ns)) M else .bad
    | none => .bad)
  | _ => maxV l M
def minQ : FnS := fun l M => match l with
  | [.tup xs] => (match intsOf xs with
    | some ns => if 0 < ns.length then .ok (.int (minL ns)) M else .bad
    | none => .bad)
  | _ => minV l M
variable {K : PySem.W.Frag}
theorem cs_maxQ : CallS K (rMaxQ K) maxQ := by
  intro ρ M H σ W Q l vs R r p
  unfold maxQ at p
  split at p
  · rename_i xs
    obtain ⟨v, e, r1⟩ := rv1 r
    obtain ⟨a, us, e1, h1, h2⟩ := r1
    subst e e1
    split at p
    · rename_i ns hns
      have e := ints_ok hns
      subst e
      have e2 := (RVs.ints ns).mp h2
      subst e2
      split at p
      · rename_i hz
        refine .inr ⟨a, ns, rfl, h1, hz, fun m hm ho => ?_⟩
        obtain ⟨k1, k2⟩ := maxL_mem hz
        rw [Int.le_antisymm (k2 m hm) (ho _ k1)]
        exact p.val R rfl
      · exact p.elim
    · exact p.elim
  · exact .inl (cs_max ρ M H σ W Q l vs R r p)
theorem cs_minQ : CallS K (rMinQ K) minQ := by
  intro ρ M H σ W Q l vs R r p
  unfold minQ at p
  split at p
  · rename_i xs
    obtain ⟨v, e, r1⟩ := rv1 r
    obtain ⟨a, us, e1, h1, h2⟩ := r1
    subst e e1
    split at p
    · rename_i ns hns
      have e := ints_ok hns
      subst e
      have e2 := (RVs.ints ns).mp h2
      subst e2
      split at p
      · rename_i hz
        refine .inr ⟨a, ns, rfl, h1, hz, fun m hm ho => ?_⟩
        obtain ⟨k1, k2⟩ := minL_mem hz
        rw [Int.le_antisymm (ho _ k1) (k2 m hm)]
        exact p.val R rfl
      · exact p.elim
    · exact p.elim
  · exact .inl (cs_min ρ M H σ W Q l vs R r p)
end Sm

namespace PySem.W
open PySem PySem.Spec PySem.Calls PyProof.Rows
/-- a class of the text, asked for what is to be called -/
theorem sm_method {prog : Program} {w : World} {A : Around} {E : Value → Shared → Prop} {s : Shared} {K : Frag} {C : Addr} {name : Str} {v : Value} {pl : Sem Bool} {Q : Value × List Value → Shared → Prop}
    (X : K.In s.heap) (hr : readsIn K C (.type "type") = true) (e : findCls K (.ref C) (.type "type") name = some (.val v)) (hh : handedIn v = true) (h : Q (v, []) { s with toks := s.toks + 1 }) : wpAny (model prog w) A (getMethod (.ref C) name pl) Q E s := by
  have hr2 := hr
  simp only [readsIn, Bool.and_eq_true, beq_iff_eq] at hr2
  obtain ⟨⟨⟨⟨_, ht⟩, hg⟩, _⟩, _⟩ := hr2
  have L0 : Looks (model prog w) s.heap (typeOf (.ref C)) (.type "type") := looks_typeIn X ht
  unfold getMethod specialOf
  refine wpAny_bind (wpAny_bind (L0.here ((looks_findIn X hg).here ?_)))
  dsimp only
  rw [if_pos canon_tga]
  exact wpAny_bind (wpAny_mono (Q := fun u => Q (u, [])) (E := E) (cls_value X hr e hh h) (fun _ _ z => wpAny_pure z) fun _ _ z => z)
end PySem.W
namespace L2
open PySem
/-- C.__init__(self, ..), C a class of the text over ValueError -/
theorem pe_baseInit {X : Cx} {e : Expr} {es : List Expr} {ta : TA} {x : Str} {C : Addr} {p1 p2 pos : Pos} {pl : Sem Bool} (hg : Gl X x) (hm : X.mg x = some (.ref C)) (hr : PySem.W.readsIn X.K C (.type "type") = true)
    (hi : PySem.W.findCls X.K (.ref C) (.type "type") "__init__" = some (.val (.builtin "ValueError.__init__"))) (ha : PA X (e :: es) ta)
    (hc : eval (.Call (.Attribute (.Name x p1) "__init__" p2) (e :: es) [] pos) X.env = (do
      let f0 ← eval (.Name x p1) X.env
      standAt p2.atName
      let (f1, f2) ← holding [f0] (getMethod f0 "__init__" pl)
      callWith pos f1 f2 (backTo pos (starEach (e :: es) X.env)) (backToKw pos (keywordEach [] X.env))) := by rfl)
    (hd : (x == ("__debug__" : Str)) = false := by decide) (he : starEach (e :: es) X.env = (false, eval e X.env) :: starEach es X.env := by rfl) (hpl : (backTo pos (starEach es X.env)).any (·.1) = false := by rfl) :
    PE X (.Call (.Attribute (.Name x p1) "__init__" p2) (e :: es) [] pos) (tVeI X.K ta) := by
  refine ⟨fun pins s σ H Q I h => ?_⟩
  refine PySem.W.methodCall_KW (ld_glob I hg hm (PySem.W.sm_method I.kIn hr hi (by decide +kernel) ?_) hd) hc
  show wpAny _ _ (callWith pos (Value.builtin "ValueError.__init__") [] _ []) _ _ _
  refine PyProof.Rows.callWith_method1 (thn (ha.run pos pins _ σ H _ (I.tok _) h) fun us s1 hh => ?_) he hpl
  obtain ⟨vs, H1, I1, r1, a, D, ws, ev, hl, T, ea, q⟩ := hh
  subst ev
  cases r1 with
  | @cons _ u0 _ ur ra rr =>
    obtain rfl : u0 = Value.ref a := ra
    exact oinit_ok T I1 ea (by rw [← rr.length, sizeLine_eq]; omega) fun s' J => ⟨.non, H1, J, rfl, q⟩
end L2
namespace Sm
open PySem L2
open PyProof.Rows (envOfC)
variable [LT] [WB]
/-! what the text's classes of exceptions must say -/
def oexB (K : PySem.W.Frag) (C : Addr) : Bool := (match K.lookup C with
  | some ⟨.type t, _, .cls cd, sl⟩ => decide (t = "type") && (match cd.mro, sl.toList with
    | .ref D :: bm, [_, _, _, _, some (.builtin n), _] => decide (D = C) && (decide (n = "ValueError.__new__") && (!cd.hasDel && (cd.hasDict && PySem.HandSPX.refsVE bm)))
    | _, _ => false)
  | _ => false) && (He.eqO (PySem.W.findIn K (.ref C) "__setattr__") (some (some (.builtin "object.__setattr__"))) && (decide (PySem.W.subIn K (.ref C) (.type "BaseException") = some true) &&
    (decide (PySem.W.typeIn K (.ref C) = some (.type "type")) && PySem.W.keepIn K (.ref C))))
theorem oexB_ok {K : PySem.W.Frag} {C : Addr} (h : oexB K C = true) : OexC K C := by
  unfold oexB at h
  obtain ⟨h1, h⟩ := He.ba h
  obtain ⟨h2, h⟩ := He.ba h
  obtain ⟨h3, h⟩ := He.ba h
  obtain ⟨h4, h5⟩ := He.ba h
  refine ⟨?_, He.eqO_ok h2, of_decide_eq_true h3, of_decide_eq_true h4, h5⟩
  split at h1
  · rename_i t dd cd sl ho
    obtain ⟨h6, h7⟩ := He.ba h1
    cases of_decide_eq_true h6
    split at h7
    · rename_i D bm k0 k1 k2 k3 n k5 hm hs
      obtain ⟨e1, h7⟩ := He.ba h7
      obtain ⟨e2, h7⟩ := He.ba h7
      obtain ⟨e3, h7⟩ := He.ba h7
      obtain ⟨e4, e5⟩ := He.ba h7
      obtain ⟨nm, bs, mro, ns, qn, hd, sn, sb, ab, col, del⟩ := cd
      dsimp only at hm e3 e4
      cases of_decide_eq_true e1
      cases of_decide_eq_true e2
      subst hm e4
      have e3 : del = false := by cases del <;> simp_all
      subst e3
      obtain ⟨l⟩ := sl
      have hs : l = [k0, k1, k2, k3, some (.builtin "ValueError.__new__"), k5] := hs
      subst hs
      exact ⟨_, _, _, _, _, _, _, _, _, _, _, _, _, _, _, ho, e5⟩
    · cases h7
  · cases h1
/-- a class whose __init__ is its own -/
def xinB (K : PySem.W.Frag) (x : Str) (fs : List Str) : Bool := oexB K (He.ga K x) && (He.eqO (PySem.W.findIn K (.ref (He.ga K x)) "__init__") (some (some (.ref (He.ma K (He.ga K x) "__init__")))) &&
  (decide (PySem.W.typeIn K (.ref (He.ma K (He.ga K x) "__init__")) = some (.type "function")) && fs.all fun f => He.eqO (PySem.W.findIn K (.ref (He.ga K x)) f) (some none)))
structure XinC (K : PySem.W.Frag) (x : Str) (fs : List Str) : Prop where
  o : OexC K (He.ga K x)
  i : PySem.W.findIn K (.ref (He.ga K x)) "__init__" = some (some (.ref (He.ma K (He.ga K x) "__init__")))
  t : PySem.W.typeIn K (.ref (He.ma K (He.ga K x) "__init__")) = some (.type "function")
  n : ∀ f ∈ fs, PySem.W.findIn K (.ref (He.ga K x)) f = some none
theorem xinB_ok {K : PySem.W.Frag} {x : Str} {fs : List Str} (h : xinB K x fs = true) : XinC K x fs := by
  obtain ⟨h1, h⟩ := He.ba h
  obtain ⟨h2, h⟩ := He.ba h
  obtain ⟨h3, h4⟩ := He.ba h
  exact ⟨oexB_ok h1, He.eqO_ok h2, of_decide_eq_true h3, fun f hf => He.eqO_ok (List.all_eq_true.mp h4 f hf)⟩
def xbaB (K : PySem.W.Frag) (x : Str) : Bool := PySem.W.readsIn K (He.ga K x) (.type "type") && (match PySem.W.findCls K (.ref (He.ga K x)) (.type "type") "__init__" with
  | some (.val (.builtin n)) => decide (n = "ValueError.__init__")
  | _ => false)
structure XbaC (K : PySem.W.Frag) (x : Str) : Prop where
  r : PySem.W.readsIn K (He.ga K x) (.type "type") = true
  i : PySem.W.findCls K (.ref (He.ga K x)) (.type "type") "__init__" = some (.val (.builtin "ValueError.__init__"))
theorem xbaB_ok {K : PySem.W.Frag} {x : Str} (h : xbaB K x = true) : XbaC K x := by
  obtain ⟨h1, h2⟩ := He.ba h
  refine ⟨h1, ?_⟩
  split at h2
  · rename_i n e; rw [e, of_decide_eq_true h2]
  · cases h2
/-! the __init__s -/
def smI (i : Int) : Bool := decide (-(2 ^ 62) < i ∧ i < 2 ^ 62)
theorem smI_log {i : Int} (h : smI i = true) : i.natAbs.log2 < 1920 := by
  have h := of_decide_eq_true h
  have h2 : i.natAbs < 2 ^ 63 := by omega
  by_cases h0 : i.natAbs = 0
  · rw [h0]; decide
  · have := (Nat.log2_lt h0).mpr h2
    omega
def spI1 (C : Addr) (f : Str) : Sp := fun vs H Q _ => ∃ (a : Addr) (i : Int), vs = [.ref a, .int i] ∧ smI i = true ∧ H a = some (exo a C none) ∧ ∀ dx, H dx = none → dx ≠ a → Q .non (upd (upd H dx (exd dx [(f, .int i)])) a (exo a C (some dx)))
def spI2 (C : Addr) (f g : Str) : Sp := fun vs H Q _ => ∃ (a : Addr) (i j : Int), vs = [.ref a, .int i, .int j] ∧ smI i = true ∧ H a = some (exo a C none) ∧
  ∀ dx, H dx = none → dx ≠ a → Q .non (upd (upd (upd H dx (exd dx [(f, .int i)])) a (exo a C (some dx))) dx (exd dx [(g, .int j), (f, .int i)]))
section
variable {P : Program} {w : World} {K : PySem.W.Frag} {mg : Str → Option Value} {base : Heap} {x qual B v f g u z : Str} {params : Arguments} {scope : Scope} {fI : Addr} {fd : FuncData} {C : Addr}
variable {p1 p2 p3 p4 p5 p6 p7 p8 p9 q1 q2 q3 q4 r1 r2 r3 r4 : Pos} {j : Nat}
theorem fmt_len (w : Str) (i : Int) (hw : w.length ≤ 100) (hi : smI i = true) : (Str.empty ++ w).length ≤ sizeLine ∧ ((Str.empty ++ w) ++ (toString i : Str)).length ≤ sizeLine := by
  have h := smI_log hi
  have e1 := int_text_length_le (k := 1920) (by decide) h
  have e2 : (Str.ofString (toString i)).length ≤ 1921 := by rw [PySem.ofString_length]; exact e1
  have e3 : (Str.empty ++ w).length = w.length := by rw [PySem.Str.length_append]; show 0 + _ = _; omega
  refine ⟨by rw [e3, sizeLine_eq]; omega, ?_⟩
  show ((Str.empty ++ w) ++ Str.ofString (toString i)).length ≤ sizeLine
  rw [PySem.Str.length_append, e3, sizeLine_eq]; omega
/-- C.__init__ called on one line -/
abbrev BaseCall (B : Str) (p1 p2 p8 : Pos) (args : List Expr) : Prop := ∀ env : Env, eval (.Call (.Attribute (.Name B p1) "__init__" p2) args [] p8) env = (do
      let f0 ← eval (.Name B p1) env
      standAt p2.atName
      let (f1, f2) ← holding [f0] (getMethod f0 "__init__" (plainOf (.Name B p1) env))
      callWith p8 f1 f2 (backTo p8 (starEach args env)) (backToKw p8 (keywordEach [] env)))
section
variable {P : Program} {w : World} {K : PySem.W.Frag} {mg : Str → Option Value} {base : Heap} {qual B v g f u z : Str} {scope : Scope} {fI : Addr} {C : Addr} {N : List Str} {A : Around} {outer : List Env} {s : Shared} {H : Hp} {E : XK} {cdv : Value}
variable {p1 p2 p3 p4 p5 p6 p7 p8 p9 : Pos} {j : Nat}
abbrev initCx (P : Program) (w : World) (K : PySem.W.Frag) (mg : Str → Option Value) (base : Heap) (N : List Str) (qual : Str) (scope : Scope) (fI : Addr) (cdv : Value) (A : Around) (outer : List Env) (s : Shared) (H : Hp) (E : XK) : Cx := cxOf (L2.CX P w) P w K mg base N qual scope fI cdv A outer s H E
/-- the first line -/
theorem init_base1 (hv1 : N[1]? = some v) (hv0 : N[0]? = some ("self" : Str)) (hB : mg B = some (.ref (He.ga K B))) (T : XbaC K B) (hc : BaseCall B p1 p2 p8 [.Name "self" p3, .JoinedStr [.Constant (.str u) j p4, .FormattedValue (.Name v p5) (-1) none p6] p7])
    (hsc : scope.names.lookup B = some .globalImplicit) (hv : scope.names.lookup v = some .local) (hs : scope.names.lookup ("self" : Str) = some .local) (hd : (B == ("__debug__" : Str)) = false) (hd2 : (v == ("__debug__" : Str)) = false) (hd3 : (v == ("__classdict__" : Str)) = false) :
    PE (initCx P w K mg base N qual scope fI cdv A outer s H E) (.Call (.Attribute (.Name B p1) "__init__" p2) [.Name "self" p3, .JoinedStr [.Constant (.str u) j p4, .FormattedValue (.Name v p5) (-1) none p6] p7] [] p8)
      (tVeI K (tCons (tVar 0) (tCons (fun σ H Q => tJs [tC (.str u), tFmt (tVar 1)] Str.empty σ H fun out H1 => Q (.str out) H1) tNil))) :=
  pe_baseInit (X := initCx P w K mg base N qual scope fI cdv A outer s H E) hsc hB T.r T.i (pa_cons (pe_var (i := 0) hv0 (.inl hs) (by decide) (by decide)) (pa_cons (pe_joined (.cons pe_str (.cons (pe_fmt (pe_var (i := 1) hv1 (.inl hv) hd2 hd3)) .nil))) pa_nil (by rfl)) (by rfl)) (hc _) hd (by rfl) (by rfl)
end
theorem init1_ok (F : FunD K x qual params [.Expr (.Call (.Attribute (.Name B p1) "__init__" p2) [.Name "self" p3, .JoinedStr [.Constant (.str u) j p4, .FormattedValue (.Name v p5) (-1) none p6] p7] [] p8) p9,
      .Assign [.Attribute (.Name "self" q1) f q2] (.Name v q3) q4] scope [] [] fI fd) (S : FnScope ["self", v] ["self", v] scope) (hB : mg B = some (.ref (He.ga K B))) (T : XbaC K B) (O : OexC K C) (hn : PySem.W.findIn K (.ref C) f = some none) (hu : u.length ≤ 100)
    (hc : BaseCall B p1 p2 p8 [.Name "self" p3, .JoinedStr [.Constant (.str u) j p4, .FormattedValue (.Name v p5) (-1) none p6] p7] := by intro _; rfl)
    (hw : ∀ env, swapsWith (.Call (.Attribute (.Name B p1) "__init__" p2) [.Name "self" p3, .JoinedStr [.Constant (.str u) j p4, .FormattedValue (.Name v p5) (-1) none p6] p7] [] p8) none p9.line env = pure false := by intro _; rfl)
    (hw2 : ∀ env, swapsWith (.Name v q3) (some (.Attribute (.Name "self" q1) f q2)) q4.line env = pure false := by intro _; rfl)
    (hsc : scope.names.lookup B = some .globalImplicit := by rfl) (hv : scope.names.lookup v = some .local := by rfl) (hs : scope.names.lookup ("self" : Str) = some .local := by rfl) (hd : (B == ("__debug__" : Str)) = false := by decide) (hd2 : (v == ("__debug__" : Str)) = false := by decide) (hd3 : (v == ("__classdict__" : Str)) = false := by decide) :
    FnOk P w K mg base (L2.CX P w) 1 fI fd ["self", v] (spI1 C f) := by
  refine F.ok S (fun vs H Q E ⟨a, i, e, _⟩ => by rw [e]; rfl) fun cdv A outer s H vs Q E hr ⟨a, i, e, hi, ea, q⟩ => ?_
  subst e
  refine ⟨_, pss_cons (ps_expr (init_base1 rfl rfl hB T hc hsc hv hs hd hd2 hd3) (hw _)) (pss_one (ps_ost (pe_var (i := 0) rfl (.inl hs) (by decide) (by decide)) (pe_var (i := 1) rfl (.inl hv) hd2 hd3) (hw2 _))), ?_⟩
  obtain ⟨l1, l2⟩ := fmt_len u i hu hi
  refine ⟨.ref a, rfl, u, rfl, l1, .int i, rfl, .inr ⟨i, rfl, smI_log hi, toString i, rfl, l2, a, C, _, rfl, by simp, O, ea, ?_⟩⟩
  exact ⟨.int i, rfl, .ref a, rfl, a, C, rfl, O, hn, .inl ⟨ea, q⟩⟩
theorem init2_ok (F : FunD K x qual params [.Expr (.Call (.Attribute (.Name B p1) "__init__" p2) [.Name "self" p3, .JoinedStr [.Constant (.str u) j p4, .FormattedValue (.Name v p5) (-1) none p6] p7] [] p8) p9,
      .Assign [.Attribute (.Name "self" q1) f q2] (.Name v q3) q4, .Assign [.Attribute (.Name "self" r1) g r2] (.Name z r3) r4] scope [] [] fI fd) (S : FnScope ["self", v, z] ["self", v, z] scope) (hB : mg B = some (.ref (He.ga K B))) (T : XbaC K B) (O : OexC K C) (hn : PySem.W.findIn K (.ref C) f = some none) (hn2 : PySem.W.findIn K (.ref C) g = some none) (hu : u.length ≤ 100)
    (hc : BaseCall B p1 p2 p8 [.Name "self" p3, .JoinedStr [.Constant (.str u) j p4, .FormattedValue (.Name v p5) (-1) none p6] p7] := by intro _; rfl)
    (hw : ∀ env, swapsWith (.Call (.Attribute (.Name B p1) "__init__" p2) [.Name "self" p3, .JoinedStr [.Constant (.str u) j p4, .FormattedValue (.Name v p5) (-1) none p6] p7] [] p8) none p9.line env = pure false := by intro _; rfl)
    (hw2 : ∀ env, swapsWith (.Name v q3) (some (.Attribute (.Name "self" q1) f q2)) q4.line env = pure false := by intro _; rfl) (hw3 : ∀ env, swapsWith (.Name z r3) (some (.Attribute (.Name "self" r1) g r2)) r4.line env = pure false := by intro _; rfl)
    (hsc : scope.names.lookup B = some .globalImplicit := by rfl) (hv : scope.names.lookup v = some .local := by rfl) (hz : scope.names.lookup z = some .local := by rfl) (hs : scope.names.lookup ("self" : Str) = some .local := by rfl) (hd : (B == ("__debug__" : Str)) = false := by decide) (hd2 : (v == ("__debug__" : Str)) = false := by decide) (hd3 : (v == ("__classdict__" : Str)) = false := by decide)
    (hd4 : (z == ("__debug__" : Str)) = false := by decide) (hd5 : (z == ("__classdict__" : Str)) = false := by decide) :
    FnOk P w K mg base (L2.CX P w) 1 fI fd ["self", v, z] (spI2 C f g) := by
  refine F.ok S (fun vs H Q E ⟨a, i, j, e, _⟩ => by rw [e]; rfl) fun cdv A outer s H vs Q E hr ⟨a, i, j, e, hi, ea, q⟩ => ?_
  subst e
  refine ⟨_, pss_cons (ps_expr (init_base1 rfl rfl hB T hc hsc hv hs hd hd2 hd3) (hw _)) (pss_cons (ps_ost (pe_var (i := 0) rfl (.inl hs) (by decide) (by decide)) (pe_var (i := 1) rfl (.inl hv) hd2 hd3) (hw2 _))
    (pss_one (ps_ost (pe_var (i := 0) rfl (.inl hs) (by decide) (by decide)) (pe_var (i := 2) rfl (.inl hz) hd4 hd5) (hw3 _)))), ?_⟩
  obtain ⟨l1, l2⟩ := fmt_len u i hu hi
  refine ⟨.ref a, rfl, u, rfl, l1, .int i, rfl, .inr ⟨i, rfl, smI_log hi, toString i, rfl, l2, a, C, _, rfl, by simp, O, ea, ?_⟩⟩
  refine ⟨.int i, rfl, .ref a, rfl, a, C, rfl, O, hn, .inl ⟨ea, fun dx n ne => ?_⟩⟩
  refine ⟨.int j, rfl, .ref a, rfl, a, C, rfl, O, hn2, .inr ⟨dx, [(f, .int i)], upd_same, ?_, by simp, q dx n ne⟩⟩
  rw [upd_ne ne, upd_same]
end
/-! raise -/
def sRaise0 (C : Str) : SF := fun e M => .ex ⟨C, []⟩ e M
def sRaiseN (C : Str) (ns : List Str) (fa : AF) : SF := fun e M => (fa e M).toS e fun l M1 => match intsOf l with
  | some is => if is.length = ns.length ∧ is.all smI = true then .ex ⟨C, (ns.zip is).reverse⟩ e M1 else .bad
  | none => .bad
/-- C(e, ..) of a class with its own __init__, what it comes to -/
def MkX (P : Program) (w : World) (K : PySem.W.Frag) (mg : Str → Option Value) (base : Heap) (x : Str) (ns : List Str) : Prop :=
  XinC K x ns ∧ mg x = some (.ref (He.ga K x)) ∧ ∃ fd : FuncData, (∃ v f, ns = [f] ∧ FnOk P w K mg base (L2.CX P w) 1 (He.ma K (He.ga K x) "__init__") fd ["self", v] (spI1 (He.ga K x) f) ∧ Binds K fd ["self", v] []) ∨
    ∃ v z f g, ns = [f, g] ∧ FnOk P w K mg base (L2.CX P w) 1 (He.ma K (He.ga K x) "__init__") fd ["self", v, z] (spI2 (He.ga K x) f g) ∧ Binds K fd ["self", v, z] []
section
variable {X : Cx} {W : WX} {x m : Str} {p p2 p3 pos : Pos} {j k : Nat} {a : Expr} {es : List Expr} {fa : AF} {ns : List Str}
theorem ss_raise0 (q : PySem.W.excIn X.K (He.ga X.K x) He.veBase "ValueError.__new__" = true ∧ PySem.W.keepIn X.K (.ref (He.ga X.K x)) = true ∧ PySem.W.subIn X.K (.ref (He.ga X.K x)) (.type "BaseException") = some true ∧ PySem.W.typeIn X.K (.ref (He.ga X.K x)) = some (.type "type"))
    (hm : X.mg x = some (.ref (He.ga X.K x))) (tk : Takes X W) (hc : X.calm = true := by rfl) (hg : Gl X x := by rfl) (hd : (x == ("__debug__" : Str)) = false := by decide) : SS X W (.Raise (some (.Call (.Name x p) [.Constant (.str m) j p2] [] p3)) none pos) (sRaise0 x) :=
  ⟨(ps_raise hc tk (pmk_own PySem.F.excBase_ValueError q.1 hm q.2.1 (raises_own q.2.2.1 q.2.2.2) hg hd)).imp fun D σ H ⟨ρ, e, M, R, S, h⟩ => h ρ H σ _ _ (Ext.refl _ _) R S ⟨rfl, rfl⟩⟩
theorem intsOf_len {l : List Val} {is : List Int} (h : intsOf l = some is) : l.length = is.length := by rw [ints_ok h]; simp
/-- the exception's dict is new -/
theorem raise_end {K : PySem.W.Frag} {ρ : List Addr} {M : Mem} {H1 H2 : Hp} {σ : St} {e : Sl} {D : Ends} {C : Str} {f : Str × Int} {r : List (Str × Int)} {d : Addr} (hp : PoS K ρ H1 W D (.ex ⟨C, f :: r⟩ e M)) (R : Rel K ρ M H1) (S : SlR K ρ H1 e σ) (hd : H1 d = none)
    (h2 : H2 = upd H1 d (.xd ((f :: r).map fun q => (q.1, V.int q.2)))) : W (.ref (He.ga K C)) (some d) σ H2 := by
  subst h2
  refine hp ρ _ σ _ _ (Ext.fresh ρ hd) (R.fresh hd) (S.mono (Ext.fresh ρ hd)) ⟨rfl, d, rfl, fun z => ?_, upd_same⟩
  obtain ⟨o, ho, _⟩ := R.mem z
  rw [hd] at ho; cases ho
theorem ss_raiseN (T : MkX X.prog X.w X.K X.mg X.base x ns) (hr : Room 2 X.A) (tk : Takes X W) (ha : SA X W (a :: es) fa) (hc : X.calm = true := by rfl) (hg : Gl X x := by rfl) (hd : (x == ("__debug__" : Str)) = false := by decide)
    (he : starEach (a :: es) X.env = (false, eval a X.env) :: starEach es X.env := by rfl) (hpl : (backTo p3 (starEach es X.env)).any (·.1) = false := by rfl) : SS X W (.Raise (some (.Call (.Name x p) (a :: es) [] p3)) none pos) (sRaiseN x ns fa) := by
  obtain ⟨⟨O, I, ti, hn⟩, hm, fd, ⟨v, f, en, F, b⟩ | ⟨v, z, f, g, en, F, b⟩⟩ := T
  all_goals subst en
  · refine ⟨(ps_raise hc tk (pmk_oex O I ti F hr b .nil (fun _ _ _ _ _ _ _ c => by obtain ⟨_, _, _, _, _, _, _, _, _, _, _, _, y⟩ := c; exact y.elim) hg hm ha.pa hd he hpl)).imp fun D σ H ⟨ρ, e, M, R, S, p⟩ => ⟨ρ, e, M, R, S, (PoS.ofE (R := RVsr X.K) S p).imp fun vs H1 ⟨ρ1, M1, l, E1, R1, r1, p1⟩ => ?_⟩⟩
    split at p1
    · rename_i is hi
      split at p1
      · rename_i hl
        obtain ⟨h1, h2⟩ := hl
        obtain ⟨i, rfl⟩ : ∃ i, is = [i] := by
          match is, h1 with
          | [i], _ => exact ⟨i, rfl⟩
        have e1 := ints_ok hi
        subst e1
        have e2 := (RVs.ints [i]).mp r1
        subst e2
        refine ⟨by simp, fun a ha => ⟨a, i, rfl, by simpa using h2, upd_same, fun dx n ne => ⟨rfl, dx, [(f, .int i)], upd_same, ?_, ?_, ?_⟩⟩⟩
        · rw [upd_ne ne, upd_same]
        · rwa [upd_ne ne] at n
        · rw [upd_ne ne] at n
          refine raise_end p1 R1 (S.mono E1) n ?_
          funext b
          by_cases hb : b = dx
          · subst hb; rw [upd_same, upd_same]; rfl
          · rw [upd_ne hb, upd_ne hb]
            by_cases hba : b = a
            · subst hba; rw [del_same, ha]
            · rw [del_ne hba, upd_ne hba, upd_ne hb, upd_ne hba]
      · exact p1.elim
    · exact p1.elim
  · refine ⟨(ps_raise hc tk (pmk_oex O I ti F hr b .nil (fun _ _ _ _ _ _ _ c => by obtain ⟨_, _, _, _, _, _, _, _, _, _, _, _, y⟩ := c; exact y.elim) hg hm ha.pa hd he hpl)).imp fun D σ H ⟨ρ, e, M, R, S, p⟩ => ⟨ρ, e, M, R, S, (PoS.ofE (R := RVsr X.K) S p).imp fun vs H1 ⟨ρ1, M1, l, E1, R1, r1, p1⟩ => ?_⟩⟩
    split at p1
    · rename_i is hi
      split at p1
      · rename_i hl
        obtain ⟨h1, h2⟩ := hl
        obtain ⟨i, j, rfl⟩ : ∃ i j, is = [i, j] := by
          match is, h1 with
          | [i, j], _ => exact ⟨i, j, rfl⟩
        have e1 := ints_ok hi
        subst e1
        have e2 := (RVs.ints [i, j]).mp r1
        subst e2
        simp only [List.all_cons, List.all_nil, Bool.and_true, Bool.and_eq_true] at h2
        refine ⟨by simp, fun a ha => ⟨a, i, j, rfl, h2.1, upd_same, fun dx n ne => ⟨rfl, dx, [(g, .int j), (f, .int i)], ?_, upd_same, ?_, ?_⟩⟩⟩
        · rw [upd_ne (Ne.symm ne), upd_same]
        · rwa [upd_ne ne] at n
        · rw [upd_ne ne] at n
          refine raise_end p1 R1 (S.mono E1) n ?_
          funext b
          by_cases hb : b = dx
          · subst hb; rw [upd_same, upd_same]; rfl
          · rw [upd_ne hb, upd_ne hb]
            by_cases hba : b = a
            · subst hba; rw [del_same, ha]
            · rw [del_ne hba, upd_ne hb, upd_ne hba, upd_ne hb, upd_ne hba]
      · exact p1.elim
    · exact p1.elim
end
end Sm

namespace L2
open PySem PySem.Spec PyProof.Rows
section
variable {X : Cx} {pins : List (Addr × Obj)} {σ : St} {H : Hp} {s : Shared}
/-- something that stands in the heap is known from now on -/
theorem Inv.known {a : Addr} {o : HO} (I : Inv X pins σ H s) (na : H a = none) (n0 : X.s_0.heap.get? a = none) (nL : a ≠ X.env.locals) (nC : ∀ x c, X.env.cells.lookup x = some c → c ≠ a) (nP : ∀ p ∈ X.pn ++ pins, p.1 ≠ a)
    (ho : ObjOk X.prog X.w (upd H a o) s.heap a o) : Inv X pins σ (upd H a o) s := by
  have up : ∀ {b : Addr} {u : HO}, H b = some u → upd H a o b = some u := fun {b u} e => by rw [upd_ne (ne_of_none e na)]; exact e
  have ne0 : ∀ {b : Addr} {u : Obj}, X.s_0.heap.get? b = some u → b ≠ a := fun {b u} e z => by rw [z, n0] at e; cases e
  refine ⟨I.ok, I.os, I.bare, ⟨I.base.keep, I.base.slot, fun b u e n x => by rw [upd_ne (ne0 e)]; exact I.base.free b u e n x, I.base.there, fun b xs e => up (I.base.tups b xs e), fun b u v e => up (I.base.frzs b u v e), fun b ps e => ?_⟩,
    I.loc, I.cell, by rw [upd_ne (Ne.symm nL)]; exact I.free, fun x c e => by rw [upd_ne (nC x c e)]; exact I.freeC x c e, fun p hp => ?_, fun b u e => ?_, I.len⟩
  · obtain ⟨more, q⟩ := I.base.tbls b ps e
    exact ⟨more, up q⟩
  · obtain ⟨h1, h2, h3⟩ := I.pin p hp
    exact ⟨h1, by rw [upd_ne (nP p hp)]; exact h2, h3⟩
  · by_cases hb : b = a
    · subst hb
      rw [upd_same] at e; cases e
      exact ho
    · rw [upd_ne hb] at e
      exact (I.hok b u e).stay (fun _ _ _ q => q) (fun _ q => up q) fun _ _ q => up q
end
end L2
namespace Sm
open PySem L2 PySem.Spec PyProof.Rows
/-- an exception, held -/
theorem excH_ok {P : Program} {w : World} {H : Hp} {h : Heap} {a : Addr} {oe : Obj} {vs : Array Value} {cls : Value} {d : Option Addr} (ha : h.get? a = some oe) (hz : Zc cls d oe) (hd : oe.data = .fields vs) : ObjOk P w H h a (excH a cls d) :=
  ⟨⟨oe, vs, ha, hz, hd⟩, ⟨oe, ha⟩, fun h1 h2 ⟨o, v, q1, q2, q3⟩ k => ⟨o, v, k o q1, q2, q3⟩⟩
theorem excH_at {P : Program} {w : World} {H : Hp} {h : Heap} {a : Addr} {cls : Value} {d : Option Addr} (hok : HOk P w H h) (e : H a = some (excH a cls d)) : ∃ oe vs, h.get? a = some oe ∧ Zc cls d oe ∧ oe.data = .fields vs := by
  have x : ObjOk P w H h a (.ext fun h => ∃ oe vs, h.get? a = some oe ∧ Zc cls d oe ∧ oe.data = .fields vs) := hok a _ e
  exact x.1
/-- what a clause wishes of what the body lets out; the slot i is its name's -/
def wTry (K : PySem.W.Frag) (c : Value) (i : Nat) (ts : TS) (Wo : WX) (D : Ends) : WX := fun cls d σ H => ∃ b, PySem.W.exmOne K cls c = some b ∧
  (b = true → ∀ a, H a = none → ts { nx := fun σ1 H1 => D.nx (σ1.set i none) H1, rt := D.rt, bk := fun σ1 H1 => D.bk (σ1.set i none) H1, ct := fun σ1 H1 => D.ct (σ1.set i none) H1 } (σ.set i (some (.ref a))) (upd H a (excH a cls d))) ∧
  (b = false → Wo cls d σ H)
section
variable {X : Cx} {x n : Str} {c : Value} {i : Nat} {body suite : List Stmt} {st : Stmt} {np p1 p2 : Pos} {tb : WX → TS} {ts : TS} {Wo : WX}
/-- try: body / except x as n: suite, the exception held by the abstract heap -/
theorem ps_tryHeld (hs : X.stack = X.env :: X.outer) (hf : X.env.frame = some X.env.locals) (hN : X.N.Nodup) (hi : X.N[i]? = some n) (hl : X.env.kindOf n = some .local) (hc : Names X x c) (tk : Takes X Wo) (hex : X.ex = [])
    (hb : ∀ (W : WX) (pn : List (Addr × Obj)) (xe : Value → Shared → Prop), Takes (X.tr pn xe) W → PassesOwn (model X.prog X.w) X.A X.env xe → PSs (X.tr pn xe) body (tb W))
    (hsu : ∀ (a : Addr) (pn : List (Addr × Obj)), PSs (X.suite a pn) (st :: suite) ts) :
    PS X (.Try body [.ExceptHandler (some (.Name x np)) (some n) (st :: suite) p1] [] [] p2) (fun D σ H => tb (wTry X.K c i ts Wo D) D σ H) := by
  refine ⟨fun pins s σ H D I h => ?_⟩
  have ok := I.ok
  have hfr : X.A.frames = some (X.env :: X.outer) := by rw [ok.frames, hs]
  refine wpAny_Try_except ?_
  have run := (hb (wTry X.K c i ts Wo D) (X.pn ++ pins) (fun e s1 => wpAny (model X.prog X.w) X.A (noteFrame e X.env)
    (fun _ s2 => wpAny (model X.prog X.w) X.A (setFlight e none) (fun _ s3 => wpAny (model X.prog X.w) X.A (handleBy e X.env [.ExceptHandler (some (.Name x np)) (some n) (st :: suite) p1]) (SP X pins D) X.xe s3) X.xe s2) X.xe s1)
    (fun u s1 z => ?_) PassesOwn.looking).run [] s σ H D (I.toTry _) h
  · refine wpAny_mono run (fun f s1 z => ?_) fun _ _ z => z
    cases f with
    | next => obtain ⟨σ1, H1, J, q⟩ := z; exact wpAny_execs_nil ⟨σ1, H1, J.ofTry ok, q⟩
    | brk => obtain ⟨σ1, H1, J, q⟩ := z; exact ⟨σ1, H1, J.ofTry ok, q⟩
    | cont => obtain ⟨σ1, H1, J, q⟩ := z; exact ⟨σ1, H1, J.ofTry ok, q⟩
    | ret u => obtain ⟨v, σ1, H1, J, r, q⟩ := z; exact ⟨v, σ1, H1, J.ofTry ok, r, q⟩
  · obtain ⟨a, G, sG, ps1, σ1, H1, cls, d, eu, J0, near, ups, sky, na, hos, bare, b, hb1, yes, no⟩ := z
    subst eu
    have J : Inv X pins σ1 H1 sG := J0.ofTry ok
    have sky1 : Sky G (X.env :: X.outer) a (Zc cls d) X.env.locals s1.heap := by rw [← hs]; exact sky
    show wpAny (model X.prog X.w) X.A (noteFrame (.ref a) X.env) _ _ _
    refine Sky.land Zc.steady hfr hf sky1 fun h3 fly3 up3 => ?_
    have noFr : ∀ {h : Heap} {o : Obj} {vs : Array Value}, h.FunFrames G (X.env :: X.outer) → h.get? a = some o → o.data = .fields vs → a ∉ frs (X.env :: X.outer) := fun {h o vs} ff e k hm => by
      obtain ⟨_, o2, e2, nf⟩ := ff.mem hm
      rw [e] at e2; cases e2
      exact nf _ k
    obtain ⟨oe3, vs3, he3, hz3, hd3⟩ := fly3.there
    have nfr := noFr fly3.2.2.1 he3 hd3
    have nL : a ≠ X.env.locals := fun z => nfr (List.mem_filterMap.mpr ⟨X.env, List.mem_cons_self, by rw [hf, z]⟩)
    have nF : a ∉ X.fs := fun hm => by
      obtain ⟨e, he, q⟩ := List.mem_filterMap.mp hm
      exact nfr (List.mem_filterMap.mpr ⟨e, List.mem_cons_of_mem _ he, q⟩)
    have nG : G.get? a = none := fly3.2.1
    have inG : ∀ {b : Addr} {o : Obj}, sG.heap.get? b = some o → b ∉ X.fs → b ≠ X.env.locals → b ≠ a := fun {b o} e h1 h2 z => by
      have hfs : b ∉ frs X.stack := fun hm => by
        rw [hs] at hm
        obtain ⟨v, hv, q⟩ := List.mem_filterMap.mp hm
        rcases List.mem_cons.mp hv with rfl | hv
        · rw [hf] at q
          exact h2 (Option.some.inj q).symm
        · exact h1 (List.mem_filterMap.mpr ⟨v, hv, q⟩)
      have := near b o e hfs
      rw [z, nG] at this; cases this
    have n0 : X.s_0.heap.get? a = none := by
      cases q : X.s_0.heap.get? a with
      | none => rfl
      | some o =>
        exfalso
        have hx : a ∉ X.ex := by rw [hex]; exact List.not_mem_nil
        cases hH : X.H_0 a with
        | none => exact inG (J.base.keep a o q hH nF hx) nF nL rfl
        | some u =>
          obtain ⟨o2, e2⟩ := J.base.there a o q hx
          exact inG e2 nF nL rfl
    have J3 : Inv X pins σ1 H1 { s1 with heap := h3 } := J.landed near fly3.1 (ups.trans up3) hos bare
    have nP : ∀ p ∈ X.pn ++ pins, p.1 ≠ a := fun p hp => by
      obtain ⟨e1, _, e3, e4, _⟩ := J.pin p hp
      exact inG e1 e4 e3
    have nC : ∀ {h : Heap} {oe : Obj} {vs : Array Value} {K : Inv X pins σ1 H1 { s1 with heap := h }}, h.get? a = some oe → oe.data = .fields vs → ∀ y c, X.env.cells.lookup y = some c → c ≠ a := fun {h oe vs K} e k y c l z => by
      obtain ⟨v, o, e2, k2⟩ := K.cell y c l
      have e2 : h.get? c = some o := e2
      rw [z, e] at e2; cases e2
      rw [k] at k2; cases k2
    have held : ∀ {h : Heap} {oe : Obj} {vs : Array Value}, Inv X pins σ1 H1 { s1 with heap := h } → h.get? a = some oe → Zc cls d oe → oe.data = .fields vs → Inv (X.suite a (X.pn ++ pins)) [] σ1 (upd H1 a (excH a cls d)) { s1 with heap := h } := fun {h oe vs} K e1 e2 e3 => by
      have K1 := K.known (o := excH a cls d) na n0 nL (nC (K := K) e1 e3) nP (excH_ok e1 e2 e3)
      exact ⟨K1.ok.suite _ _, K1.os, K1.bare, K1.base, K1.loc, K1.cell, K1.free, K1.freeC, fun p hp => K1.pin p (by rw [List.append_nil] at hp; exact hp), K1.hok, K1.len⟩
    have S3 := held J3 he3 hz3 hd3
    refine wpAny_handleBy_cons (codeAny_handlers_test ?_) (by intro q; cases q)
    have LT3 : PySem.W.Looks (model X.prog X.w) h3 (typeOf (.ref a)) cls := fun A Q E s k q => wpAny_typeOf_ref (k _ _ he3) (by rw [hz3.1]; exact q)
    have LM := PySem.W.exm_one (M := model X.prog X.w) J3.kIn LT3 hb1
    have test : ∀ {Q : Value → Shared → Prop} {E : Value → Shared → Prop}, Q c { s1 with heap := h3 } → wpAny (model X.prog X.w) (X.A.mark (some (.ref a))) (eval (.Name x np) X.env) Q E { s1 with heap := h3 } := fun {Q E} q => by
      obtain ⟨g1, g2, g3 | ⟨g3, g4, g5⟩⟩ := hc
      · exact ld_glob (X := X.suite a (X.pn ++ pins)) S3 g1 g3 q g2
      · exact ld_blt (X := X.suite a (X.pn ++ pins)) S3 g1 g3 g4 q g5 g2
    refine test (LM.here ?_)
    cases b with
    | false =>
      show wpAny _ X.A (handleBy (.ref a) X.env []) _ _ _
      refine wpAny_handleBy_nil ?_
      have fly4 := fly3
      obtain ⟨_, _, _, oe, vs, T, oT, tt, he, hz, hd, h1, _⟩ := fly4
      unfold PySem.passOn
      refine wpAny_bind (wpAny_field he hd h1 ?_)
      rw [if_neg (show ¬ ((Value.ref T == Value.none) = true) from by simp)]
      have out : wpAny (model X.prog X.w) X.A (setFlight (.ref a) X.env.frame) (fun _ s4 => wpAny (model X.prog X.w) X.A (throw (.ref a) : Sem Flow) (SP X pins D) X.xe s4) X.xe { s1 with heap := h3 } := by
        rw [hf]
        refine HandSPX.setFlight_upZ fly3 fun h4 held4 up4 => wpAny_throw (tk _ _ ⟨a, G, sG, pins, σ1, H1, cls, d, rfl, J, near, (ups.trans up3).trans up4, .inr (.inr (by rw [hs]; exact held4)), na, hos, bare, no rfl⟩)
      first
        | exact wpAny_bind out
        | exact wpAny_bind (wpAny_pure (wpAny_bind out))
    | true =>
      refine codeAny_handlers_suite_as (HandSPX.lands_againZ fly3 fun h4 fly4 up4 => ?_)
      have J4 : Inv X pins σ1 H1 { s1 with heap := h4 } := J.landed near fly4.1 ((ups.trans up3).trans up4) hos bare
      obtain ⟨oe4, vs4, he4, hz4, hd4⟩ := fly4.there
      have S4 := held J4 he4 hz4 hd4
      refine store_ok (X := X.suite a (X.pn ++ pins)) (v := .ref a) S4 hN hi (.inl hl) rfl (fun s5 S5 => ?_) (.inr hl)
      refine wpAny_mono ((hsu a (X.pn ++ pins)).run [] s5 _ _ _ S5 (yes rfl a na)) (fun f s6 z => ?_) fun _ _ z => z.elim
      have back : ∀ {σ6 : L2.St} {H6 : Hp}, Inv (X.suite a (X.pn ++ pins)) [] σ6 H6 s6 → Inv X pins σ6 H6 s6 := fun {σ6 H6} S6 =>
        ⟨ok, S6.os, S6.bare, S6.base, S6.loc, S6.cell, S6.free, S6.freeC, fun p hp => S6.pin p (by rw [List.append_nil]; exact hp), S6.hok, S6.len⟩
      have fin : ∀ {σ6 : L2.St} {H6 : Hp} {Q : Shared → Prop}, Inv (X.suite a (X.pn ++ pins)) [] σ6 H6 s6 → (∀ s7, Inv X pins (σ6.set i none) H6 s7 → Q s7) →
          wpAny (model X.prog X.w) X.A (do bindName X.env n .none; unbindBehindTheSuite X.env n p1) (fun _ s7 => Q s7) X.xe s6 := fun {σ6 H6 Q} S6 k => gone_ok (back S6) hN hi hl k
      cases f with
      | next => obtain ⟨σ6, H6, S6, q⟩ := z; exact fin S6 fun s7 J7 => ⟨_, _, J7, q⟩
      | brk => obtain ⟨σ6, H6, S6, q⟩ := z; exact fin S6 fun s7 J7 => ⟨_, _, J7, q⟩
      | cont => obtain ⟨σ6, H6, S6, q⟩ := z; exact fin S6 fun s7 J7 => ⟨_, _, J7, q⟩
      | ret u => obtain ⟨v, σ6, H6, S6, r, q⟩ := z; exact fin S6 fun s7 J7 => ⟨_, _, _, J7, r, q⟩
end
end Sm

namespace PySem.W
open PySem PySem.Spec PySem.Calls PyProof.Rows
/-- what isinstance asks of an own exception, whether it has a dict or not -/
theorem sm_kitx {K : Frag} {x D : Addr} {ox : Obj} {od : Option Obj} (c : L2.ExcC K D) : KitX K (.ref x) (.ref D) (fun h => InstAt h x ox D od) where
  ty := fun _ _ _ I => I.type
  it := fun _ _ X _ => by
    obtain ⟨cd, hcd, _⟩ := any_some c.hd
    unfold clsIn at hcd
    split at hcd
    · rename_i q1 q2 q3 q4 ho
      intro A E Q s k q
      unfold isType loadHead
      exact wpAny_bind (wpAny_loadPart (k _ _ (X _ _ ho)) (wpAny_pure q))
    · cases hcd
  ne := fun h tp dd its n sl X e => by
    obtain ⟨cd, hcd, _⟩ := any_some c.hd
    refine Bool.eq_false_iff.mpr fun q => ?_
    cases Value.ref.inj (beq_iff_eq.mp q)
    unfold clsIn at hcd
    split at hcd
    · rename_i q1 q2 q3 q4 ho
      have z := (X _ _ ho).symm.trans e
      cases z
    · cases hcd
  ca := fun {prog w A E Q s} X I k => by
    have hf : findObj K D od "__class__" = some (.bind (.builtin "getset_descriptor.__get__") (.builtin "object.__class__")) := by
      obtain ⟨cd, hcd, _⟩ := any_some c.hd
      unfold findObj
      rw [hcd, Option.bind_some, c.ha, Option.bind_some]
      simp [c.hn, c.ht]
    obtain ⟨hp, g, d, t, os⟩ := s
    have L0 := I.type (M := model prog w)
    have L1 := looks_findIn (M := model prog w) X c.hg
    have L2 := looks_findIn (M := model prog w) X c.hk
    have L3 := looks_find (M := model prog w) X I hf
    have sub : Looks (model prog w) hp (isInstance (.ref x) (.type "BaseException")) true := L0.andThen (looks_subIn X c.hs)
    have b2 : (Value.builtin "BaseException.__getattribute__" == Value.builtin "object.__getattribute__") = false := by decide +kernel
    have b1 : (onTheHeap (Value.ref D) && Value.builtin "BaseException.__getattribute__" == Value.builtin "object.__getattribute__") = false := by rw [b2]; rfl
    unfold getAttr? getAttrBy? getAttrBy
    refine wpAny_bind (wpAny_mkText (wpAny_bind (wpAny_attempt (wpAny_holding (wpAny_bind (L0.at (wpAny_bind (L1.at ?_))))))))
    show wpAny _ _ (ite _ _ _) _ _ _
    rw [b1, if_neg Bool.false_ne_true]
    unfold getAttrByItsOwn hookBefore
    refine wpAny_bind ?_
    rw [if_pos (show onTheHeap (Value.ref D) = true from rfl)]
    refine L2.at (wpAny_bind (wpAny_attempt (wpAny_holding ?_)))
    unfold callGetattribute
    rw [show (false && onTheHeap (Value.builtin "BaseException.__getattribute__")) = false from rfl, if_neg Bool.false_ne_true]
    unfold boundAndCalled
    rw [PySem.F.excAttr_ValueError.ga.bind (.ref x)]
    refine wpAny_bind (wpAny_pure (wpAny_call (codeAny_call_builtin PySem.F.excAttr_ValueError.ga.plain PySem.F.entry_bexc_ga ?_)))
    refine @check_slot (model prog w) _ _ ⟨hp, g, d, t + 1, os⟩ "BaseException.__getattribute__" "BaseException" "__getattribute__" (.ref x) [.str "__class__" t] [] _ (by decide +kernel) (by decide +kernel) sub (PySem.F.args_bexc_ga (.ref x) (.str "__class__" t)) ?_
    unfold Builtin.«object.__getattribute__»
    refine wpAny_bind (wpAny_of_eq (a := ((Value.ref x : Value), [Value.str "__class__" t])) (by first | rfl | (simp only [slotArgs]; rfl)) (wpAny_bind (wpAny_pure (wpAny_bind (L0.at (wpAny_bind (L3.at ?_)))))))
    show wpAny _ _ (holding [Value.builtin "object.__class__"] (call (.builtin "getset_descriptor.__get__") _) >>= ret) _ _ _
    refine wpAny_bind (wpAny_holding (wpAny_call (class_get (s := ⟨hp, g, d, t + 1, os⟩) (ox := ox) (od := od) X I c.hm (wpAny_pure ?_))))
    show wpAny _ _ (handedOut (.ref D)) _ _ _
    rw [handedOut_of (v := .ref D) rfl]
    first
      | exact wpAny_pure (wpAny_pure k)
      | exact wpAny_pure k
      | exact wpAny_pure (wpAny_bind (wpAny_pure (wpAny_pure k)))
end PySem.W
namespace Sm
open PySem L2 PySem.Spec PyProof.Rows
variable [LT] [WB]
/-! try .. except .. as e -/
def SO.unslot (i : Nat) : SO → SO
  | .nx e M => .nx (e.set i none) M
  | .bk e M => .bk (e.set i none) M
  | .ct e M => .ct (e.set i none) M
  | .rt x M => .rt x M
  | .ex _ _ _ => .bad
  | .bad => .bad
def sTry (cs : List Str) (fb : SF) (i : Nat) (fs : SF) : SF := fun e M => match fb e M with
  | .ex x e1 M1 => if x.cls ∈ cs then (fs (e1.set i (some (.exc x.cls x.fs))) M1).unslot i else .bad
  | o => o
section
variable {X : Cx} {W : WX} {x n : Str} {c : Value} {i : Nat} {body suite : List Stmt} {st : Stmt} {np p1 p2 : Pos} {fb fs : SF} {cs : List Str}
theorem Rel.heldE {K : PySem.W.Frag} {ρ : List Addr} {M : Mem} {H : Hp} {a : Addr} {C : Str} {fs : List (Str × Int)} {cls : Value} {d : Option Addr} (R : Rel K ρ M H) (na : H a = none) (r : XrI K ρ H C fs cls d) : RV K ρ (upd H a (excH a cls d)) (.exc C fs) (.ref a) := by
  refine ⟨a, cls, d, rfl, fun z => ?_, upd_same, (Ext.fresh (o := excH a cls d) ρ na).xrI r⟩
  obtain ⟨o, ho, _⟩ := R.mem z
  rw [na] at ho; cases ho
theorem PoS.unslot {K : PySem.W.Frag} {ρ : List Addr} {H : Hp} {D : Ends} {i : Nat} : ∀ {o : SO}, PoS K ρ H W D (o.unslot i) → PoS K ρ H (fun _ _ _ _ => False) { nx := fun σ1 H1 => D.nx (σ1.set i none) H1, rt := D.rt, bk := fun σ1 H1 => D.bk (σ1.set i none) H1, ct := fun σ1 H1 => D.ct (σ1.set i none) H1 } o
  | .nx _ _, h => fun ρ' H' σ' E R S => h ρ' H' _ E R (S.unset i)
  | .bk _ _, h => fun ρ' H' σ' E R S => h ρ' H' _ E R (S.unset i)
  | .ct _ _, h => fun ρ' H' σ' E R S => h ρ' H' _ E R (S.unset i)
  | .rt _ _, h => h
  | .ex _ _ _, h => h.elim
  | .bad, h => h
theorem ss_try (hcs : ∀ C ∈ cs, PySem.W.exmOne X.K (.ref (He.ga X.K C)) c = some true) (hN : X.N.Nodup) (hc : Names X x c) (tk : Takes X W)
    (hb : ∀ (W : WX) (pn : List (Addr × Obj)) (xe : Value → Shared → Prop), Takes (X.tr pn xe) W → PassesOwn (model X.prog X.w) X.A X.env xe → SSs (X.tr pn xe) W body fb)
    (hsu : ∀ (a : Addr) (pn : List (Addr × Obj)), SSs (X.suite a pn) noW (st :: suite) fs) (hi : X.N[i]? = some n := by rfl) (hl : X.env.kindOf n = some .local := by rfl)
    (hs : X.stack = X.env :: X.outer := by rfl) (hf : X.env.frame = some X.env.locals := by rfl) (hex : X.ex = [] := by rfl) :
    SS X W (.Try body [.ExceptHandler (some (.Name x np)) (some n) (st :: suite) p1] [] [] p2) (sTry cs fb i fs) :=
  ⟨(ps_tryHeld hs hf hN hi hl hc tk hex (tb := fun W => tSt X.K W fb) (ts := tSt X.K noW fs) (fun W pn xe t p => (hb W pn xe t p).pss) fun a pn => (hsu a pn).pss).imp fun D σ H ⟨ρ, e, M, R, S, p⟩ => ⟨ρ, e, M, R, S, by
    unfold sTry at p
    cases h : fb e M with
    | nx e1 M1 => rw [h] at p; exact p
    | rt v M1 => rw [h] at p; exact p
    | bk e1 M1 => rw [h] at p; exact p
    | ct e1 M1 => rw [h] at p; exact p
    | bad => rw [h] at p; exact p
    | ex y e1 M1 =>
      rw [h] at p
      simp only at p
      split at p
      · rename_i hm
        intro ρ1 H1 σ1 cls d E1 R1 S1 q
        refine ⟨true, ?_, fun _ a na => ?_, fun z => by cases z⟩
        · rw [q.1]; exact hcs _ hm
        · have E2 := Ext.fresh (o := excH a cls d) ρ1 na
          exact ⟨ρ1, _, M1, R1.fresh na, (S1.mono E2).set i (R1.heldE na q), PoS.unslot (W := W) (p.mono (E1.trans E2))⟩
      · exact p.elim⟩⟩
end
/-! isinstance, fields -/
def excCB (K : PySem.W.Frag) (x : Str) : Bool := He.eqO (PySem.W.findIn K (.ref (He.ga K x)) "__getattribute__") (some (some (.builtin "BaseException.__getattribute__"))) && (He.eqO (PySem.W.findIn K (.ref (He.ga K x)) "__getattr__") (some none) &&
  (decide (PySem.W.subIn K (.ref (He.ga K x)) (.type "BaseException") = some true) && (PySem.W.hasDictIn K (He.ga K x) && (He.eqO (PySem.W.findIn K (.ref (He.ga K x)) "__class__") (some (some (.builtin "object.__class__"))) &&
  (He.eqO (PySem.W.specialIn K (.builtin "object.__class__") "__get__") (some (some (.builtin "getset_descriptor.__get__"))) && (decide (PySem.W.takesIn K (.builtin "object.__class__") = some true) && decide (PySem.W.mroIn K (He.ga K x) (.type "object") = some true)))))))
theorem excCB_ok {K : PySem.W.Frag} {x : Str} (h : excCB K x = true) : ExcC K (He.ga K x) := by
  obtain ⟨h1, h⟩ := He.ba h
  obtain ⟨h2, h⟩ := He.ba h
  obtain ⟨h3, h⟩ := He.ba h
  obtain ⟨h4, h⟩ := He.ba h
  obtain ⟨h5, h⟩ := He.ba h
  obtain ⟨h6, h⟩ := He.ba h
  obtain ⟨h7, h8⟩ := He.ba h
  exact ⟨He.eqO_ok h1, He.eqO_ok h2, of_decide_eq_true h3, h4, He.eqO_ok h5, He.eqO_ok h6, of_decide_eq_true h7, of_decide_eq_true h8⟩
/-- the raw object of a held exception, its dict -/
theorem held_at {X : Cx} {pins : List (Addr × Obj)} {σ : L2.St} {H : Hp} {s : Shared} {ρ : List Addr} {C : Str} {fs : List (Str × Int)} {a : Addr} {cls : Value} {d : Option Addr} (I : Inv X pins σ H s) (e : H a = some (excH a cls d)) (q : XrI X.K ρ H C fs cls d) :
    ∃ ox od, PySem.W.InstAt s.heap a ox (He.ga X.K C) od ∧ ∀ f, ∀ i, fs.lookup f = some i → ∃ o, od = some o ∧ ∃ t, PySem.W.lookIn f o = some (some (.int i t)) := by
  obtain ⟨oe, vs, h1, h2, h3⟩ := excH_at I.hok e
  have hno : PySem.W.notCls oe = true := by unfold PySem.W.notCls; rw [h3]
  have hcl : oe.cls = .ref (He.ga X.K C) := h2.1.trans q.1
  have qq := q.2
  cases fs with
  | nil =>
    have qd : d = none := qq
    refine ⟨oe, none, ⟨h1, hcl, hno, ?_⟩, fun f i k => by cases k⟩
    rw [h2.2, qd]; trivial
  | cons f0 r =>
    obtain ⟨dd, qd, _, hdd⟩ := qq
    have hx : ObjOk X.prog X.w H s.heap dd (.xd ((f0 :: r).map fun p => (p.1, V.int p.2))) := I.hok dd _ hdd
    obtain ⟨mA, hns, hr⟩ := hx
    obtain ⟨od, ho, hl⟩ := lookIn_ns hns
    refine ⟨oe, some od, ⟨h1, hcl, hno, ?_⟩, fun f i k => ⟨od, rfl, ?_⟩⟩
    · rw [h2.2, qd]; exact ho
    · have lk : ∀ (l : List (Str × Int)), l.lookup f = some i → (l.map fun p => (p.1, V.int p.2)).lookup f = some (V.int i) := fun l => by
        induction l with
        | nil => intro z; cases z
        | cons p l ih =>
          intro z
          rw [List.map_cons, List.lookup_cons] at *
          cases hp : f == p.1 with
          | true => rw [hp] at z; simp only at z ⊢; cases z; rfl
          | false => rw [hp] at z; exact ih z
      obtain ⟨u, hu, ru⟩ := RelO.some_of (v := V.int i) (o := mA f) (by rw [← lk _ k]; exact hr f)
      obtain ⟨t, rfl⟩ := ru
      exact ⟨t, by rw [hl, hu]⟩
def eIsE (tb : List (Str × Bool)) (f : EF) : EF := fun e M => (f e M).bind fun x M1 => match x with
  | .exc C _ => (match tb.lookup C with
    | some b => .ok (.bl b) M1
    | none => .bad)
  | _ => .bad
def eXf (cs : List Str) (n : Str) (f : EF) : EF := fun e M => (f e M).bind fun x M1 => match x with
  | .exc C fs => if C ∈ cs then (match fs.lookup n with
    | some i => .ok (.int i) M1
    | none => .bad) else .bad
  | _ => .bad
def rIsH (X : Cx) : List V → Hp → VK → Prop := fun xs H Q => ∃ (a : Addr) (ρ : List Addr) (C : Str) (fs : List (Str × Int)) (cls : Value) (d : Option Addr) (c : V) (cv : Value) (b : Bool), xs = [.ref a, c] ∧ H a = some (excH a cls d) ∧ XrI X.K ρ H C fs cls d ∧ ExcC X.K (He.ga X.K C) ∧
  (∀ u, RelV c u → u = cv) ∧ PySem.W.kitOne X.K (.ref (He.ga X.K C)) cv = some b ∧ Q (.bl b) H
theorem call_isH {X : Cx} : CallR X (.builtin "isinstance") (rIsH X) := by
  intro pins s σ H xs us Q I r h
  obtain ⟨a, ρ, C, fs, cls, d, c, cv, b, rfl, e, q, k, hcv, kit, hq⟩ := h
  cases r with
  | cons rx rr =>
    cases rr with
    | cons rt rr =>
      cases rr
      cases rx
      have ec := hcv _ rt
      subst ec
      obtain ⟨ox, od, J, _⟩ := held_at I e q
      exact PySem.W.kia_one (PySem.W.sm_kitx k) I.kIn J kit (fun z => nomatch z) fun tk => ⟨.bl b, H, I.kept (t' := tk) fun _ _ z => z, rfl, hq⟩
section
variable {X : Cx} {W : WX} {a : Expr} {fa : EF} {x n : Str} {p pos q apos : Pos} {tb : List (Str × Bool)} {cs : List Str}
/-- isinstance(a, C), C a class of the text or a built-in one -/
theorem se_isE {c : V} {cv : Value} (ha : SE X W a fa) (hx : PE X (.Name x q) (tC c)) (hcv : ∀ u, RelV c u → u = cv) (ht : ∀ p ∈ tb, ExcC X.K (He.ga X.K p.1) ∧ PySem.W.kitOne X.K (.ref (He.ga X.K p.1)) cv = some p.2) (hm : X.mg "isinstance" = none) (hg : Gl X "isinstance" := by rfl)
    (he : starEach [a, .Name x q] X.env = (false, eval a X.env) :: starEach [.Name x q] X.env := by rfl) (hpl : (backTo pos (starEach [.Name x q] X.env)).any (·.1) = false := by rfl) : SE X W (.Call (.Name "isinstance" p) [a, .Name x q] [] pos) (eIsE tb fa) :=
  ⟨(pe_callB call_isH hg hm (by decide +kernel) (pa_cons ha.pe (pa_cons hx pa_nil) he) (by decide) (by decide) he hpl).imp fun σ H Q ⟨ρ, e, M, R, S, p⟩ => ⟨ρ, e, M, R, S, (Po.bind p).imp fun v H1 ⟨ρ1, M1, y, E1, R1, r1, p1⟩ => by
    split at p1
    · rename_i C fs
      obtain ⟨a, cls, d, e1, _, e3, e4⟩ := r1
      subst e1
      split at p1
      · rename_i b hb
        have hmem : (C, b) ∈ tb := PySem.mem_of_lookup hb
        obtain ⟨k1, k2⟩ := ht _ hmem
        exact ⟨a, ρ1, C, fs, cls, d, c, cv, b, rfl, e3, e4, k1, hcv, k2, p1.val R1 rfl⟩
      · exact p1.elim
    · exact p1.elim⟩⟩
/-- a.n, a a held exception -/
theorem se_xf (ha : SE X W a fa) (ht : ∀ C ∈ cs, ExcC X.K (He.ga X.K C) ∧ PySem.W.findIn X.K (.ref (He.ga X.K C)) n = some none) (hb : attributeBase a n X.env (eval a X.env) = eval a X.env := by rfl) : SE X W (.Attribute a n apos) (eXf cs n fa) := by
  refine ⟨⟨fun pins s σ H Q I ⟨ρ, e, M, R, S, p⟩ => ?_⟩⟩
  refine attr_of hb (thn (ha.pe.run pins s σ H _ I ⟨ρ, e, M, R, S, Po.bind (R := RVr X.K) p⟩) fun u s1 hh => ?_)
  obtain ⟨v, H1, I1, rv, ρ1, M1, y, E1, R1, r1, p1⟩ := hh
  split at p1
  · rename_i C fs
    split at p1
    · rename_i hC
      split at p1
      · rename_i i hi
        obtain ⟨a, cls, d, e1, _, e3, e4⟩ := r1
        subst e1
        obtain rfl : u = Value.ref a := rv
        obtain ⟨ox, od, J, hl⟩ := held_at I1 e3 e4
        obtain ⟨o, eo, t, lk⟩ := hl n i hi
        subst eo
        obtain ⟨k, hno⟩ := ht C hC
        exact HandSPX.exc_get I1.kIn J k.hg k.hk k.hs (PySem.W.findObj_own k.hd hno rfl lk) rfl ⟨.int i, H1, I1.tok _, ⟨t, rfl⟩, p1.val R1 rfl⟩
      · exact p1.elim
    · exact p1.elim
  · exact p1.elim
end
end Sm

namespace L2
open PySem PySem.Spec PyProof.Rows LamX
section
variable {X : Cx} {pins : List (Addr × Obj)} {σ : L2.St} {H : Hp} {s : Shared}
/-- a(), a the lambda that was handed in; what it lets out is told at the slots as they are -/
theorem pe_lamAt {CXg : CXT} {Eg : XK} {Ng : List Str} {qg : Str} {sg : Scope} {g f cd : Addr} {cdg pm ctv : Value} {params : Arguments} {body : Expr} {scope : Scope} {k i : Nat} {a : Str} {pn : List (Addr × Obj)} {xe : Value → Shared → Prop} {W : WX} {tb : XK → TE} {p1 p2 : Pos}
    (I : Inv X pins σ H s) (L : LamS X.env.scope scope) (hf : s.heap.get? f = some (PySem.W.kla_obj "<lambda>" (X.env.qual ++ "<lambda>") params body scope (cloFrom X.env.cells scope.names []) pm cd ctv)) (nf : H f = none) (nfr : f ∉ frs X.stack)
    (bnd : bindArgs (PySem.W.kla_fn "<lambda>" (X.env.qual ++ "<lambda>") params body scope (cloFrom X.env.cells scope.names []) pm (.ref cd) ctv) ⟨[], []⟩ = pure [])
    (tk : Takes ((cxOf CXg X.prog X.w X.K X.mg X.base Ng qg sg g cdg X.A X.stack s H Eg).tr pn xe) W) (hr : Room (k + 1) (X.A.deeper (envOfC qg sg s.heap.objs.size g cdg)))
    (hb : ∀ (A : Around) (outer : List Env) (s : Shared) (H : Hp) (E : XK), Room k (A.deeper (lamEnv X scope s.heap.objs.size f cd)) → PE (lamCx X A outer s H E scope f cd) body (tb E))
    (hN : Ng[i]? = some a) (hv : Vis sg a) (hd : (a == ("__debug__" : Str)) = false) (hd2 : (a == ("__classdict__" : Str)) = false) :
    PE ((cxOf CXg X.prog X.w X.K X.mg X.base Ng qg sg g cdg X.A X.stack s H Eg).tr pn xe) (.Call (.Name a p1) [] [] p2)
      (fun σ2 H2 Q => σ2[i]? = some (some (.ref f)) ∧ H2 cd = some (CodeO cd (X.env.qual ++ "<lambda>")) ∧ tb (fun cls d H3 => W cls d σ2 H3) σ H2 Q) := by
  refine ⟨fun pins2 s2 σ2 H2 Q J ⟨e1, e2, ht⟩ => ?_⟩
  refine wpAny_Call_Name_kw (thn ((pe_var (pos := p1) (i := i) hN hv hd hd2).run pins2 s2 σ2 H2 (fun v H1 => v = .ref f ∧ H1 = H2) J ⟨.ref f, e1, rfl, rfl⟩) fun u s1 hh => ?_)
  obtain ⟨v, H1, J1, r1, ev, eH⟩ := hh
  subst ev eH
  obtain rfl : u = Value.ref f := r1
  have at1 := J1.base.keep f _ hf nf nfr (fun z => nomatch (show f ∈ ([] : List Addr) from z))
  refine PySem.W.callWith_F0 ⟨_, _, _, _, at1⟩ ?_
  have un : Un (frs X.stack) [] H H1 s.heap s1.heap := J1.base
  obtain ⟨⟨oc, vs, t, c1, c2, c3⟩, _, _⟩ := J1.hok cd _ e2
  have run : codeAny (model X.prog X.w) (X.A.deeper (envOfC qg sg s.heap.objs.size g cdg)) (.call (.ref f) ⟨[], []⟩) (CR (L2.CX X.prog X.w) (envOfC qg sg s.heap.objs.size g cdg :: X.stack) X.prog X.w H1 s1 Q (fun cls d H3 => W cls d σ2 H3)) s1 := by
    refine PySem.W.kla_callFunE hr.depth at1 rfl L.co L.gen rfl ⟨cd, oc, vs, t, rfl, c1, c2, c3⟩ ?_
    rw [bnd]
    refine wpAny_pure (wpAny_newFunctionEnv (fun y hy => (L.own y hy).2) (fun y hy => absurd hy (by simp)) (fun h2 hns sb => ⟨J1.nolimit.fresh _ sb, ?_⟩) L.kind)
    have keep : ∀ b o, s1.heap.get? b = some o → h2.get? b = some o := fun b o e => sb.extBut b o (Nat.ne_of_lt (Heap.lt_size e)) (Heap.get?_push_of_some _ e)
    have K := lam_start2 (E := fun cls d H3 => W cls d σ2 H3) (A := X.A.deeper (envOfC qg sg s.heap.objs.size g cdg)) (outer := envOfC qg sg s.heap.objs.size g cdg :: X.stack) (f := f) (c' := cd) (tk := s1.toks + ([] : List (Str × Value)).length) I L J1.env0 hr.hd un hns keep
    refine PySem.W.kla_codeExpr (wpAny_mono ((hb _ _ s1 H1 _ (hr.deeper _)).run [] _ _ H1 Q K ht) (fun v s3 z => ?_) fun _ _ z => z)
    obtain ⟨w, H3, K3, rv, q⟩ := z
    exact ⟨w, H3, K3.os, K3.bare, K3.base, K3.hok, rv, q⟩
  refine wpAny_call (codeAny_mono run fun r s3 z => ?_)
  cases r with
  | error e => exact tk e s3 (XE.of_call J1 (fun _ _ _ q => q) z)
  | ok fl =>
    cases fl with
    | ret u => exact J1.after z
    | next => exact z.elim
    | brk => exact z.elim
    | cont => exact z.elim
end
/-- the def that calls what it is handed: what it makes of it (TT) -/
def Hands (X : Cx) (Ng : List Str) (x : Str) (sg : Scope) (g : Addr) (cdg : Value) (bg : List Stmt) (a q : Str) (TT : (XK → Hp → VK → Prop) → Hp → VK → Prop) : Prop :=
  ∀ (f cd : Addr) (s : Shared) (H : Hp) (Q : VK) (tl : XK → Hp → VK → Prop),
    (∀ (W : WX) (pn : List (Addr × Obj)) (xe : Value → Shared → Prop) (p1 p2 : Pos), Takes ((cxOf C8.CX0 X.prog X.w X.K X.mg X.base Ng x sg g cdg X.A X.stack s H C8.E0).tr pn xe) W →
      PE ((cxOf C8.CX0 X.prog X.w X.K X.mg X.base Ng x sg g cdg X.A X.stack s H C8.E0).tr pn xe) (.Call (.Name a p1) [] [] p2) (fun σ2 H2 Q => σ2[0]? = some (some (.ref f)) ∧ H2 cd = some (CodeO cd q) ∧ tl (fun cls d H3 => W cls d σ2 H3) H2 Q)) →
    H cd = some (CodeO cd q) → TT tl H Q →
    ∃ t, PSs (cxOf C8.CX0 X.prog X.w X.K X.mg X.base Ng x sg g cdg X.A X.stack s H C8.E0).nox bg t ∧ t { nx := fun _ H' => Q .non H', rt := Q } (L2.start Ng [.ref f]) H
section
variable {X : Cx}
/-- x(lambda: body) -/
theorem pe_lamTo {T : List (Addr × Str)} {TT : (XK → Hp → VK → Prop) → Hp → VK → Prop} {x a qx : Str} {g c P : Addr} {k : Nat} {pg : Arguments} {bg : List Stmt} {sg : Scope} {fd : FuncData} {Ng : List Str} {params : Arguments} {body : Expr} {scope : Scope} {t : XK → TE} {p lpos pos : Pos}
    (hg : Gl X x) (hm : X.mg x = some (.ref g)) (F : FunD X.K x qx pg bg sg [] [] g fd) (b : L2.Binds X.K fd [a] []) (Sg : FnScope Ng [a] sg) (h0 : Ng[0]? = some a) (va : Vis sg a)
    (hG : ∀ cdg, Hands X Ng qx sg g cdg bg a (X.env.qual ++ "<lambda>") TT) (TB : TabB X.base X.mg c P) (hcode : X.env.code = .ref c) (hT : (P, X.env.qual ++ "<lambda>") ∈ T) (hu : ∀ p ∈ T, p.1 = P → p.2 = X.env.qual ++ "<lambda>") (hr : Room (k + 2) X.A) (L : LamS X.env.scope scope)
    (hdef : defaultsOf params X.env = ([], [])) (bnd : ∀ (q : Str) (cl : List (Str × Addr)) (pm cv ctv : Value), bindArgs (PySem.W.kla_fn "<lambda>" q params body scope cl pm cv ctv) ⟨[], []⟩ = pure [])
    (hb : ∀ (A : Around) (outer : List Env) (s : Shared) (H : Hp) (E : XK) (f cd : Addr), Room k (A.deeper (lamEnv X scope s.heap.objs.size f cd)) → PE (lamCx X A outer s H E scope f cd) body (t E))
    (hd : (x == ("__debug__" : Str)) = false) (hd2 : (a == ("__debug__" : Str)) = false) (hd3 : (a == ("__classdict__" : Str)) = false) : PE X (.Call (.Name x p) [.Lambda params body scope lpos] [] pos) (tLam T TT t) := by
  obtain ⟨oc, od, dV, kV, doc, pm, an, cdv, ct, osl, rfl, lk, hcg, _, _⟩ := F.ex
  refine ⟨fun pins s σ H Q I ⟨hTb, h⟩ => ?_⟩
  refine wpAny_Call_Name_kw (ld_glob I hg hm (PySem.W.callWith_K (h₀ := X.base) I.ok.mod.kin F.kp ?_ (by rfl) (by rfl)) hd)
  show wpAny _ _ (spliced ((false, eval (.Lambda params body scope lpos) X.env) :: backTo pos (starEach [] X.env))) _ _ s
  refine Calls.spliced_cons (lam_make2 I TB hcode hT hu hTb hdef (L.has I.ok) fun f cd pm2 ctv H1 s1 I1 eN T1 hf nf nfr hco => Calls.spliced_nil ⟨I1.kIn, ?_⟩)
  have run : codeAny (model X.prog X.w) X.A (.call (.ref g) ⟨[.ref f], []⟩) (CR C8.CX0 X.stack X.prog X.w H1 s1 Q C8.E0) s1 := by
    refine run_ofS (N := Ng) (ps := [a]) (us := [.ref f]) (vs := [.ref f]) lk hcg Sg hr I1.env0 (b s1 [.ref f] I1.kIn rfl) (.cons rfl .nil) rfl fun hr2 => ?_
    obtain ⟨t2, ht2, hq2⟩ := hG cdv f cd s1 H1 Q (fun E H2 Q2 => t E σ H2 Q2) (fun W pn xe p1 p2 tk => pe_lamAt (i := 0) I1 L hf nf nfr (bnd _ _ _ _ _) tk hr2 (fun A outer s H E h => hb A outer s H E f cd h) h0 va hd2 hd3) hco (h H1 eN T1)
    exact ⟨t2, ht2.nox, hq2⟩
  refine wpAny_call (codeAny_mono run fun r s2 z => ?_)
  cases r with
  | error e => exact (show False from z).elim
  | ok fl =>
    cases fl with
    | ret u => exact I1.after z
    | next => exact z.elim
    | brk => exact z.elim
    | cont => exact z.elim
end
end L2

namespace L2
open PySem PySem.Spec PySem.Calls PyProof.Rows LamX
abbrev lamFn (qual : Str) (params : Arguments) (body : Expr) (scope : Scope) (cl : List (Str × Addr)) (pm cdv ct dV : Value) : FuncData :=
  { name := "<lambda>", qualname := qual, params, body := .expr body, scope, globals := mainGlobals, closure := cl, defaults := dV, kwdefaults := .none, doc := .none, pyModule := pm, annotations := none, code := cdv, closureTuple := ct, builtins := builtinsNs }
abbrev lamObj (qual : Str) (params : Arguments) (body : Expr) (scope : Scope) (cl : List (Str × Addr)) (pm : Value) (c' : Addr) (ct dV : Value) : Obj :=
  { cls := .type "function", data := .func (lamFn qual params body scope cl pm (.ref c') ct dV) }
section
variable {M : Model} {A : Around} {E : Value → Shared → Prop} {s : Shared} {qual : Str} {params : Arguments} {body : Expr} {scope : Scope} {env : Env} {c P : Addr} {ps : Array Value} {pos : Pos} {firstLine : Nat} {mg : Str → Option Value}
  {clos : List (Str × Addr)} {Q : Value → Shared → Prop} {dV : Value}
theorem sm_tailNew (hcl : closureFor scope env = pure clos) (hge0 : env.globals = mainGlobals) (hg : s.heap.Ns mainGlobals mg) (hcode : env.code = .ref c) (C : PySem.W.CodeHd s.heap c P) (hP : s.heap.get? P = some (PySem.W.tabObj ps)) (ht : TriplesOk ps.toList)
    (hnf : codeAmong pos ps.toList = none) (hgP : mainGlobals ≠ P) (hb : s.heap.BuiltinsAt mg P)
    (h : ∀ c' ctv h' tk, Heap.ExtBut P s.heap h' → s.heap.objs.size ≤ c' → c' < h'.objs.size → h'.CodeRec (.ref c') qual → h'.get? P = some (PySem.W.tabObj (ps ++ #[rawInt pos.line, rawInt pos.col, .ref c'])) →
      Q (.ref h'.objs.size) { s with heap := h'.push (lamObj qual params body scope clos ((mg "__name__").getD .none) c' ctv dV), toks := tk }) :
    wpAny M A (makeTail "<lambda>" qual params (.expr body) scope env dV .none none pos firstLine) Q E s := by
  obtain ⟨bm, ob, hbm, hne0, _, hneP, hbo, hcls, hdict, hdata⟩ := hb
  unfold makeTail
  rw [hcl, hge0]
  refine wpAny_bind (wpAny_pure ?_)
  cases clos with
  | nil =>
    simp only [List.isEmpty_nil, if_true]
    refine wpAny_bind (wpAny_pure ?_)
    refine wpAny_bind (wpAny_functionCodeX hcode (C.code hP ht) (C.tab hP) hnf fun c' h' tk hx hge hlt _ hrec htb _ => ?_)
    have hg' := hg.extBut hx hgP
    refine wpAny_bind (wpAny_builtinsFor hg' hbm hne0 (hx _ _ hneP hbo) hcls hdict hdata ?_)
    refine wpAny_bind (wpAny_nsGet hg' ?_)
    exact wpAny_bind (wpAny_pure (wpAny_newObj_type (h c' .none h' tk hx hge hlt hrec htb.2) (by size_fits)))
  | cons q r =>
    simp only [List.isEmpty_cons, Bool.false_eq_true, if_false]
    refine wpAny_bind (wpAny_newTextTuple ?_)
    have ck := fun (oT : Obj) => C.keeps (h' := s.heap.push oT) fun b o e => Heap.get?_push_of_some _ e
    refine wpAny_bind (wpAny_functionCodeX hcode ((ck _).code (Heap.get?_push_of_some _ hP) ht) ((ck _).tab (Heap.get?_push_of_some _ hP)) hnf fun c' h' tk hx hge hlt _ hrec htb _ => ?_)
    have hg' := (hg.push _).extBut hx hgP
    have hx' : Heap.ExtBut P s.heap h' := fun b o hb' e => hx b o hb' (Heap.get?_push_of_some _ e)
    have hge' : s.heap.objs.size ≤ c' := Nat.le_trans (by rw [Heap.size_push]; omega) hge
    refine wpAny_bind (wpAny_builtinsFor hg' hbm hne0 (hx' _ _ hneP hbo) hcls hdict hdata ?_)
    refine wpAny_bind (wpAny_nsGet hg' ?_)
    exact wpAny_bind (wpAny_pure (wpAny_newObj_type (h c' _ h' tk hx' hge' hlt hrec htb.2) (by size_fits)))
theorem sm_tailHit {cv : Value} (hcl : closureFor scope env = pure clos) (hge0 : env.globals = mainGlobals) (hg : s.heap.Ns mainGlobals mg) (hcode : env.code = .ref c) (C : PySem.W.CodeHd s.heap c P) (hP : s.heap.get? P = some (PySem.W.tabObj ps)) (ht : TriplesOk ps.toList)
    (hf : codeAmong pos ps.toList = some cv) (hb : s.heap.BuiltinsAt mg P)
    (h : ∀ (ctv : Value) (h' : Heap) (tk : Tok), (∀ b o, s.heap.get? b = some o → h'.get? b = some o) → s.heap.objs.size ≤ h'.objs.size →
      Q (.ref h'.objs.size) { s with heap := h'.push { cls := .type "function", data := .func (lamFn qual params body scope clos ((mg "__name__").getD .none) cv ctv dV) }, toks := tk }) :
    wpAny M A (makeTail "<lambda>" qual params (.expr body) scope env dV .none none pos firstLine) Q E s := by
  obtain ⟨bm, ob, hbm, hne0, _, hneP, hbo, hcls, hdict, hdata⟩ := hb
  unfold makeTail
  rw [hcl, hge0]
  refine wpAny_bind (wpAny_pure ?_)
  cases clos with
  | nil =>
    simp only [List.isEmpty_nil, if_true]
    refine wpAny_bind (wpAny_pure ?_)
    refine wpAny_bind (wpAny_functionCode_hit hcode (C.code hP ht) hf ?_)
    refine wpAny_bind (wpAny_builtinsFor hg hbm hne0 hbo hcls hdict hdata ?_)
    refine wpAny_bind (wpAny_nsGet hg ?_)
    exact wpAny_bind (wpAny_pure (wpAny_newObj_type (h .none s.heap s.toks (fun _ _ e => e) (Nat.le_refl _)) (by size_fits)))
  | cons q r =>
    simp only [List.isEmpty_cons, Bool.false_eq_true, if_false]
    refine wpAny_bind (wpAny_newTextTuple ?_)
    have ck := fun (oT : Obj) => C.keeps (h' := s.heap.push oT) fun b o e => Heap.get?_push_of_some _ e
    refine wpAny_bind (wpAny_functionCode_hit hcode ((ck _).code (Heap.get?_push_of_some _ hP) ht) hf ?_)
    refine wpAny_bind (wpAny_builtinsFor (hg.push _) hbm hne0 (Heap.get?_push_of_some _ hbo) hcls hdict hdata ?_)
    refine wpAny_bind (wpAny_nsGet (hg.push _) ?_)
    have hsz : ∀ oT : Obj, s.heap.objs.size ≤ (s.heap.push oT).objs.size := fun oT => by rw [Heap.size_push]; omega
    exact wpAny_bind (wpAny_pure (wpAny_newObj_type (h _ _ s.toks (fun b o e => Heap.get?_push_of_some _ e) (hsz _)) (by size_fits)))
end
theorem objH_ok {P : Program} {w : World} {H : Hp} {h : Heap} {a : Addr} {o : Obj} (ha : h.get? a = some o) : ObjOk P w H h a (Sm.objH a o) := ⟨ha, ⟨o, ha⟩, fun _ _ e k => k _ e⟩
theorem objH_at {P : Program} {w : World} {H : Hp} {h : Heap} {a : Addr} {o : Obj} (hok : HOk P w H h) (e : H a = some (Sm.objH a o)) : h.get? a = some o := by
  have x : ObjOk P w H h a (.ext fun h => h.get? a = some o) := hok a _ e
  exact x.1
theorem objH_nt {a : Addr} {o : Obj} (ps : Array Value) : Sm.objH a o ≠ .tbl ps := fun z => by
  unfold Sm.objH at z
  cases z
/-- the lambda's defaults -/
def DefOf (X : Cx) (params : Arguments) : Option (Str × Int) → Prop
  | none => defaultsOf params X.env = ([], [])
  | some p => ∃ e, defaultsOf params X.env = ([eval e X.env], []) ∧ PE X e (tC (.int p.2))
def DefAt (H : Hp) (dV : Value) : Option (Str × Int) → Prop
  | none => dV = .none
  | some p => ∃ q, dV = .ref q ∧ H q = some (.tup [.int p.2])
section
variable {X : Cx} {pins : List (Addr × Obj)} {σ : L2.St} {H : Hp} {s : Shared}
theorem lam_tail {T : List (Addr × Str)} {c P : Addr} {params : Arguments} {body : Expr} {scope : Scope} {pos : Pos} {E : Value → Shared → Prop} {Q : Value → Shared → Prop} {dV : Value} (I : Inv X pins σ H s) (TB : TabB X.base X.mg c P) (hcode : X.env.code = .ref c)
    (hm : (P, X.env.qual ++ "<lambda>") ∈ T) (hu : ∀ p ∈ T, p.1 = P → p.2 = X.env.qual ++ "<lambda>") (hT : Tabs T H) (hfree : ∀ y ∈ scope.names, y.2 = .free → ∃ c, X.env.cells.lookup y.1 = some c)
    (h : ∀ (f c' : Addr) (pm ctv : Value) (H1 : Hp) (s' : Shared), Inv X pins σ H1 s' → ExtN H H1 → H f = none → Tabs T H1 →
      H1 f = some (Sm.objH f (lamObj (X.env.qual ++ "<lambda>") params body scope (cloFrom X.env.cells scope.names []) pm c' ctv dV)) → H1 c' = some (CodeO c' (X.env.qual ++ "<lambda>")) → Q (.ref f) s') :
    wpAny (model X.prog X.w) X.A (makeTail "<lambda>" (X.env.qual ++ "<lambda>") params (.expr body) scope X.env dV .none none pos pos.line) Q E s := by
  obtain ⟨ps, hP, ht, ha⟩ := hT _ hm
  have bP : s.heap.BuiltinsAt X.mg P := TB.bm.keeps I.bk
  have hP' : s.heap.get? P = some { cls := .none, data := .fields ps } := I.hok P _ hP
  cases hc : codeAmong pos ps.toList with
  | none =>
    refine sm_tailNew (mg := X.mg) (c := c) (P := P) (ps := ps) (closure_ok hfree) I.ok.glob (I.mod.glob.keeps I.bk) hcode (TB.code.keeps I.bk) hP' ht hc TB.gP bP fun c' ctv h' tk hx hge hlt hrec htb => ?_
    obtain ⟨c2, oc, vs, t, e2, hoc, hd, hv⟩ := hrec
    cases e2
    have hsz : s.heap.objs.size ≤ h'.objs.size := Nat.le_trans hge (Nat.le_of_lt hlt)
    have nC : H c' = none := I.hok.fresh hge
    have I1 := inv_table (t' := tk) (more := #[rawInt pos.line, rawInt pos.col, .ref c']) (h' := h') I hP hx htb hge ⟨oc, vs, t, hoc, hd, hv⟩
    have nF : upd (upd H P (.tbl (ps ++ #[rawInt pos.line, rawInt pos.col, .ref c']))) c' (CodeO c' (X.env.qual ++ "<lambda>")) h'.objs.size = none := I1.hok.fresh (Nat.le_refl _)
    have I2 := I1.laid (a := h'.objs.size) (o := Sm.objH h'.objs.size (lamObj (X.env.qual ++ "<lambda>") params body scope (cloFrom X.env.cells scope.names []) ((X.mg "__name__").getD .none) c' ctv dV)) (t' := tk) (h' := h'.push (lamObj (X.env.qual ++ "<lambda>") params body scope (cloFrom X.env.cells scope.names []) ((X.mg "__name__").getD .none) c' ctv dV)) (fun b u e => Heap.get?_push_of_some _ e) (Nat.le_refl _) (objH_ok (Heap.get?_push_size _ rfl))
    have hE : ExtN H (upd (upd H P (.tbl (ps ++ #[rawInt pos.line, rawInt pos.col, .ref c']))) c' (CodeO c' (X.env.qual ++ "<lambda>"))) := fun b o e n => by
      rw [upd_ne (ne_of_none e nC), upd_ne (fun z => n ps (Option.some.inj (e.symm.trans (by rw [z]; exact hP))))]
      exact e
    have eL : (ps ++ #[rawInt pos.line, rawInt pos.col, .ref c']).toList = ps.toList ++ [rawInt pos.line, rawInt pos.col, .ref c'] := by simp
    have T1 : Tabs T (upd (upd H P (.tbl (ps ++ #[rawInt pos.line, rawInt pos.col, .ref c']))) c' (CodeO c' (X.env.qual ++ "<lambda>"))) := fun p hp => by
      by_cases hb : p.1 = P
      · rw [hu p hp hb, hb]
        refine ⟨_, by rw [upd_ne (ne_of_none hP nC), upd_same], by rw [eL]; exact PySem.TriplesOk_snoc _ _ _ _ ht, fun p' cv hcv => ?_⟩
        rw [eL] at hcv
        rcases among_app _ ht hcv with z | z
        · obtain ⟨c0, e1, e2⟩ := ha p' cv z
          exact ⟨c0, e1, hE _ _ e2 codeO_ne⟩
        · exact ⟨c', z, upd_same⟩
      · obtain ⟨ps', a1, a2, a3⟩ := hT p hp
        refine ⟨ps', by rw [upd_ne (ne_of_none a1 nC), upd_ne hb]; exact a1, a2, fun p' cv hcv => ?_⟩
        obtain ⟨c0, e1, e2⟩ := a3 p' cv hcv
        exact ⟨c0, e1, hE _ _ e2 codeO_ne⟩
    have up : ∀ b o, (upd (upd H P (.tbl (ps ++ #[rawInt pos.line, rawInt pos.col, .ref c']))) c' (CodeO c' (X.env.qual ++ "<lambda>"))) b = some o → (upd (upd (upd H P (.tbl (ps ++ #[rawInt pos.line, rawInt pos.col, .ref c']))) c' (CodeO c' (X.env.qual ++ "<lambda>"))) h'.objs.size (Sm.objH h'.objs.size (lamObj (X.env.qual ++ "<lambda>") params body scope (cloFrom X.env.cells scope.names []) ((X.mg "__name__").getD .none) c' ctv dV))) b = some o := fun b o e => by rw [upd_ne (ne_of_none e nF)]; exact e
    exact h h'.objs.size c' ((X.mg "__name__").getD .none) ctv _ _ I2 (hE.trans (ExtN.of up)) (I.hok.fresh hsz) (T1.ext up) upd_same (up _ _ upd_same)
  | some cv =>
    obtain ⟨c', e, hco⟩ := ha pos cv hc
    subst e
    refine sm_tailHit (mg := X.mg) (c := c) (P := P) (ps := ps) (closure_ok hfree) I.ok.glob (I.mod.glob.keeps I.bk) hcode (TB.code.keeps I.bk) hP' ht hc bP fun ctv h' tk hx hsz => ?_
    have I1 : Inv X pins σ H { s with heap := h', toks := tk } := I.kept hx
    have nF : H h'.objs.size = none := I.hok.fresh hsz
    have I2 := I1.laid (a := h'.objs.size) (o := Sm.objH h'.objs.size (lamObj (X.env.qual ++ "<lambda>") params body scope (cloFrom X.env.cells scope.names []) ((X.mg "__name__").getD .none) c' ctv dV)) (t' := tk) (h' := h'.push (lamObj (X.env.qual ++ "<lambda>") params body scope (cloFrom X.env.cells scope.names []) ((X.mg "__name__").getD .none) c' ctv dV)) (fun b u e => Heap.get?_push_of_some _ e) (Nat.le_refl _) (objH_ok (Heap.get?_push_size _ rfl))
    have up : ∀ b o, H b = some o → (upd H h'.objs.size (Sm.objH h'.objs.size (lamObj (X.env.qual ++ "<lambda>") params body scope (cloFrom X.env.cells scope.names []) ((X.mg "__name__").getD .none) c' ctv dV))) b = some o := fun b o e => by rw [upd_ne (ne_of_none e nF)]; exact e
    exact h h'.objs.size c' ((X.mg "__name__").getD .none) ctv _ _ I2 (ExtN.of up) nF (hT.ext up) upd_same (up _ _ hco)
/-- the lambda is made; it is tracked from now on -/
theorem lam_make3 {T : List (Addr × Str)} {c P : Addr} {params : Arguments} {body : Expr} {scope : Scope} {pos : Pos} {E : Value → Shared → Prop} {Q : Value → Shared → Prop} {ds : Option (Str × Int)} (I : Inv X pins σ H s) (TB : TabB X.base X.mg c P) (hcode : X.env.code = .ref c)
    (hm : (P, X.env.qual ++ "<lambda>") ∈ T) (hu : ∀ p ∈ T, p.1 = P → p.2 = X.env.qual ++ "<lambda>") (hT : Tabs T H) (hdef : DefOf X params ds) (hfree : ∀ y ∈ scope.names, y.2 = .free → ∃ c, X.env.cells.lookup y.1 = some c) (hxe : ∀ e s', X.xe e s' → E e s')
    (h : ∀ (f c' : Addr) (pm ctv dV : Value) (H1 : Hp) (s' : Shared), Inv X pins σ H1 s' → ExtN H H1 → H f = none → Tabs T H1 →
      H1 f = some (Sm.objH f (lamObj (X.env.qual ++ "<lambda>") params body scope (cloFrom X.env.cells scope.names []) pm c' ctv dV)) → H1 c' = some (CodeO c' (X.env.qual ++ "<lambda>")) → DefAt H1 dV ds → Q (.ref f) s') :
    wpAny (model X.prog X.w) X.A (eval (.Lambda params body scope pos) X.env) Q E s := by
  cases ds with
  | none =>
    have hdef : defaultsOf params X.env = ([], []) := hdef
    rw [arm_eval_Lambda, hdef]
    show wpAny _ _ (do let dv ← evalAll []; let kdv ← holding dv (evalAllOpt []); makeFunction "<lambda>" (X.env.qual ++ "<lambda>") params (.expr body) scope X.env dv kdv [] pos pos.line) Q E s
    refine wpAny_bind (wpAny_pure (wpAny_bind (wpAny_holding (wpAny_pure ?_))))
    rw [makeFunction_eq]
    simp only [List.zip_nil_right, List.filterMap_nil, List.isEmpty_nil, if_true, pure_bind]
    exact lam_tail I TB hcode hm hu hT hfree fun f c' pm ctv H1 s' I1 eN nf T1 hf hc => h f c' pm ctv .none H1 s' I1 eN nf T1 hf hc rfl
  | some p =>
    obtain ⟨e, hdef, he⟩ := hdef
    rw [arm_eval_Lambda, hdef]
    show wpAny _ _ (do let dv ← evalAll [eval e X.env]; let kdv ← holding dv (evalAllOpt []); makeFunction "<lambda>" (X.env.qual ++ "<lambda>") params (.expr body) scope X.env dv kdv [] pos pos.line) Q E s
    refine wpAny_bind (wpAny_bind (wpAny_mono (he.run pins s σ H (fun v H1 => v = .int p.2 ∧ H1 = H) I ⟨rfl, rfl⟩) (fun u s1 hh => ?_) hxe))
    obtain ⟨v, H1, I1, rv, ev, eH⟩ := hh
    subst ev eH
    obtain ⟨t, rfl⟩ := rv
    refine wpAny_bind (wpAny_holding (wpAny_pure (wpAny_pure ?_)))
    refine wpAny_bind (wpAny_holding (wpAny_pure ?_))
    rw [makeFunction_eq]
    simp only [List.zip_nil_right, List.filterMap_nil, List.isEmpty_nil, List.isEmpty_cons, Bool.false_eq_true, if_false, if_true, pure_bind]
    refine wpAny_bind (wpAny_newTextTuple ?_)
    have nF : H1 s1.heap.objs.size = none := I1.hok.fresh (Nat.le_refl _)
    have I2 := I1.laid (a := s1.heap.objs.size) (o := .tup [.int p.2]) (t' := s1.toks) (h' := s1.heap.push { cls := .type "tuple", data := .seq [Value.int p.2 t].toArray }) (fun b u e => Heap.get?_push_of_some _ e) (Nat.le_refl _)
      ⟨by show 1 ≤ sizeLine; decide, [.int p.2 t], .cons ⟨t, rfl⟩ .nil, ⟨_, Heap.get?_push_size _ rfl, rfl, _, rfl⟩⟩
    have up : ∀ b o, H1 b = some o → (upd H1 s1.heap.objs.size (.tup [.int p.2])) b = some o := fun b o e => by rw [upd_ne (ne_of_none e nF)]; exact e
    refine lam_tail I2 TB hcode hm hu (hT.ext up) hfree fun f c' pm ctv H2 s' I3 eN nf T1 hf hc => h f c' pm ctv _ H2 s' I3 ((ExtN.of up).trans eN) ?_ T1 hf hc ⟨_, rfl, eN _ _ upd_same (fun _ z => by cases z)⟩
    cases hq : H1 f with
    | none => rfl
    | some o => rw [up _ _ hq] at nf; cases nf
end
/-! ### the lambda's names -/
structure LamT (N : List Str) (sc scope : Scope) (ds : Option (Str × Int)) : Prop where
  kind : scope.kind = .function
  co : scope.isCoroutine = false
  gen : scope.isGenerator = false
  own : ∀ y ∈ scope.names, y.2 ≠ .cell
  loc : ∀ y ∈ scope.names, y.2 = .local → y.1 ∉ N
  free : ∀ y ∈ scope.names, y.2 = .free → sc.names.lookup y.1 = some .cell ∨ sc.names.lookup y.1 = some .free
  par : ∀ p, ds = some p → scope.names.lookup p.1 = some .local
def lamTB (N : List Str) (sc scope : Scope) (ds : Option (Str × Int)) : Bool :=
  decide (scope.kind = .function) && (!scope.isCoroutine && (!scope.isGenerator && ((scope.names.all fun y => !decide (y.2 = .cell) && ((!decide (y.2 = .local) || !decide (y.1 ∈ N)) && (!decide (y.2 = .free) || decide (sc.names.lookup y.1 = some .cell) || decide (sc.names.lookup y.1 = some .free)))) &&
    (match ds with
      | none => true
      | some p => decide (scope.names.lookup p.1 = some .local)))))
theorem lamT_by {N : List Str} {sc scope : Scope} {ds : Option (Str × Int)} (h : lamTB N sc scope ds = true) : LamT N sc scope ds := by
  unfold lamTB at h
  simp only [Bool.and_eq_true, Bool.or_eq_true, Bool.not_eq_true', decide_eq_true_eq, decide_eq_false_iff_not, List.all_eq_true] at h
  obtain ⟨h1, h2, h3, h4, h5⟩ := h
  refine ⟨h1, h2, h3, fun y hy => (h4 y hy).1, fun y hy e => ?_, fun y hy e => ?_, fun p e => ?_⟩
  · rcases (h4 y hy).2.1 with z | z
    · exact absurd e z
    · exact z
  · rcases (h4 y hy).2.2 with (z | z) | z
    · exact absurd e z
    · exact .inl z
    · exact .inr z
  · subst e
    simpa using h5
theorem LamT.has {X : Cx} {scope : Scope} {ds : Option (Str × Int)} (L : LamT X.N X.env.scope scope ds) (ok : X.Ok) : ∀ y ∈ scope.names, y.2 = .free → ∃ c, X.env.cells.lookup y.1 = some c := fun y hy e => by
  rcases L.free y hy e with k | k
  · exact ok.has _ (.inl k)
  · exact ok.has _ (.inr k)
/-- binding no arguments -/
def LamBd (params : Arguments) (body : Expr) (scope : Scope) : Option (Str × Int) → Prop
  | none => ∀ (q : Str) (cl : List (Str × Addr)) (pm cv ctv : Value), bindArgs (lamFn q params body scope cl pm cv ctv .none) ⟨[], []⟩ = pure []
  | some p => ∃ k : Str → List (Str × Addr) → Value → Value → Value → Value → Option (Array Value) → Sem (List (Str × Value)), (∀ (q : Str) (cl : List (Str × Addr)) (pm cv ctv dV : Value), bindArgs (lamFn q params body scope cl pm cv ctv dV) ⟨[], []⟩ = seqItems? dV >>= k q cl pm cv ctv dV) ∧
    ∀ (q : Str) (cl : List (Str × Addr)) (pm cv ctv dV v : Value), k q cl pm cv ctv dV (some #[v]) = pure [(p.1, v)]
section
variable {X : Cx} {pins : List (Addr × Obj)} {σ : L2.St} {H HZ : Hp} {s s1 : Shared}
theorem LamBd.to {P : Program} {w : World} {params : Arguments} {body : Expr} {scope : Scope} {ds : Option (Str × Int)} (b : LamBd params body scope ds) {q : Str} {cl : List (Str × Addr)} {pm cv ctv dV : Value} (d : DefAt H dV ds) (hok : HOk P w H s.heap) :
    ∃ binds : List (Str × Value), BindsTo s (lamFn q params body scope cl pm cv ctv dV) ⟨[], []⟩ binds ∧ ∀ x ∈ binds, ∃ p, ds = some p ∧ x.1 = p.1 := by
  cases ds with
  | none =>
    have d : dV = .none := d
    subst d
    exact ⟨[], BindsTo.of_eq (b q cl pm cv ctv), fun x hx => absurd hx (by simp)⟩
  | some p =>
    obtain ⟨a, rfl, hd⟩ := d
    obtain ⟨k, h1, h2⟩ := b
    obtain ⟨_, its, r, oT, ho, hcl, n, hdt⟩ := hok a _ hd
    cases r with
    | cons r0 rr =>
      cases rr
      rename_i v
      exact ⟨[(p.1, v)], BindsTo.of_defaults rfl ho hdt (h1 q cl pm cv ctv _) (h2 q cl pm cv ctv _ v), fun x hx => ⟨p, rfl, by simp at hx; rw [hx]⟩⟩
theorem lam_start4 {A : Around} {outer : List Env} {E : XK} {scope : Scope} {f c' : Addr} {h₁ : Heap} {tk : Nat} {ds : Option (Str × Int)} {binds : List (Str × Value)} (I : Inv X pins σ H s) (L : LamT X.N X.env.scope scope ds) (e0 : Env0 X.prog X.w X.K X.mg X.base A outer s1 HZ) (hd : A.handled = none)
    (cu : ∀ y c, X.env.cells.lookup y = some c → HZ c = none ∧ ∀ o, s.heap.get? c = some o → ∃ sl, s1.heap.get? c = some { o with slots := sl }) (hns : h₁.Ns s1.heap.objs.size fun y => binds.reverse.lookup y) (kp : ∀ b o, s1.heap.get? b = some o → h₁.get? b = some o) :
    Inv (lamCx X A outer s1 HZ E scope f c') [] σ HZ { s1 with heap := h₁, toks := tk } := by
  have hfree := L.has I.ok
  have cm : ∀ {y c}, (cloFrom X.env.cells scope.names []).lookup y = some c → X.env.cells.lookup y = some c := fun {y c} e => by
    rcases cloFrom_mem (PySem.mem_of_lookup e) with hm | ⟨h1, h2⟩
    · cases hm
    · obtain ⟨c1, hc⟩ := hfree _ h1 rfl
      have hc : X.env.cells.lookup y = some c1 := hc
      have e2 : c = c1 := by
        rw [h2, hc] <;> rfl
      rw [e2]
      exact hc
  have look : ∀ {y}, scope.names.lookup y = some .free → ∃ c, (cloFrom X.env.cells scope.names []).lookup y = some c := fun {y} hl => by
    have hy : (y, NameKind.free) ∈ scope.names := PySem.mem_of_lookup hl
    exact mem_lookup (cloFrom_has (cells := X.env.cells) (acc := []) hy)
  have cellK : ∀ {y : Str} {c : Addr} {v : Option Value}, X.env.cells.lookup y = some c → s.heap.IsCell c v → h₁.IsCell c v := fun {y c v} n ⟨o, ho, hd⟩ => by
    obtain ⟨sl, q⟩ := (cu y c n).2 o ho
    exact ⟨_, kp _ _ q, hd⟩
  have noA : ∀ b : Addr, b ∉ (lamCx X A outer s1 HZ E scope f c').ex := fun b z => absurd (show b ∈ ([] : List Addr) from z) (by simp)
  refine ⟨⟨e0.mod, L.kind, rfl, rfl, Nat.le_refl _, fun y z c e1 e2 => I.ok.inj y z c (cm e1) (cm e2), fun y hy => ?_, fun y c z _ => ?_, fun _ => hd, Around.frames_deeper e0.frames, .inr ⟨rfl, rfl⟩, fun b z => absurd z (noA b), e0.bs, e0.bsz, fun b _ _ => noA b,
      fun b z => absurd z (noA b), e0.funs, e0.frf⟩,
    rfl, e0.bare, Un.kept kp, ⟨_, hns, fun i y v e1 e2 e3 => ?_⟩, fun y c e => ?_, e0.hok.fresh (Nat.le_refl _), fun y c e => ?_, fun q hq => absurd (show q ∈ ([] : List (Addr × Obj)) ++ [] from hq) (by simp), e0.hok.kept kp, I.len⟩
  · have hy : scope.names.lookup y = some .cell ∨ scope.names.lookup y = some .free := hy
    rcases hy with hy | hy
    · exact absurd rfl (L.own _ (PySem.mem_of_lookup hy))
    · exact look hy
  · have z : false = true := z
    cases z
  · have e3 : Vis scope y := e3
    have e1 : X.N[i]? = some y := e1
    rcases e3 with k | k | k
    · exact absurd (List.mem_of_getElem? e1) (L.loc _ (PySem.mem_of_lookup k) rfl)
    · exact absurd rfl (L.own _ (PySem.mem_of_lookup k))
    · obtain ⟨m, hn, hl⟩ := I.loc
      have hvis : Vis X.env.scope y := (L.free _ (PySem.mem_of_lookup k) rfl).elim (fun k => .inr (.inl k)) (fun k => .inr (.inr k))
      obtain ⟨w', r, q⟩ := hl i y v e1 e2 hvis
      obtain ⟨c2, h2⟩ := look k
      refine ⟨w', r, .inr ⟨.inr k, c2, h2, ?_⟩⟩
      have c1 := cm h2
      rcases q with ⟨k', _⟩ | ⟨_, c3, e', z⟩
      · have k' : X.env.scope.names.lookup y = some .local := k'
        rcases L.free _ (PySem.mem_of_lookup k) rfl with k2 | k2 <;> rw [show X.env.scope.names.lookup y = _ from k2] at k' <;> cases k'
      · rw [c1] at e'
        cases e'
        exact cellK c1 z
  · obtain ⟨w', z⟩ := I.cell y c (cm e)
    exact ⟨w', cellK (cm e) z⟩
  · exact (cu y c (cm e)).1
/-- a(), a the lambda that was handed in; what it is made of was known at s0 -/
theorem pe_lamAt4 {CXg : CXT} {Eg : XK} {Ng : List Str} {qg : Str} {sg : Scope} {g f cd : Addr} {cdg pm ctv dV : Value} {params : Arguments} {body : Expr} {scope : Scope} {ds : Option (Str × Int)} {k i : Nat} {a : Str} {pn : List (Addr × Obj)} {xe : Value → Shared → Prop} {W : WX} {tb : XK → TE} {p1 p2 : Pos}
    {H0 : Hp} {s0 : Shared} (I : Inv X pins σ H0 s0) (cu0 : ∀ y c, X.env.cells.lookup y = some c → H c = none ∧ ∀ o, s0.heap.get? c = some o → ∃ sl, s.heap.get? c = some { o with slots := sl }) (L : LamT X.N X.env.scope scope ds) (bnd : LamBd params body scope ds)
    (tk : Takes ((cxOf CXg X.prog X.w X.K X.mg X.base Ng qg sg g cdg X.A X.stack s H Eg).tr pn xe) W) (hr : Room (k + 1) (X.A.deeper (envOfC qg sg s.heap.objs.size g cdg)))
    (hb : ∀ (A : Around) (outer : List Env) (s : Shared) (H : Hp) (E : XK), Room k (A.deeper (lamEnv X scope s.heap.objs.size f cd)) → PE (lamCx X A outer s H E scope f cd) body (tb E))
    (hN : Ng[i]? = some a) (hv : Vis sg a) (hd : (a == ("__debug__" : Str)) = false) (hd2 : (a == ("__classdict__" : Str)) = false) :
    PE ((cxOf CXg X.prog X.w X.K X.mg X.base Ng qg sg g cdg X.A X.stack s H Eg).tr pn xe) (.Call (.Name a p1) [] [] p2)
      (fun σ2 H2 Q => σ2[i]? = some (some (.ref f)) ∧ H2 f = some (Sm.objH f (lamObj (X.env.qual ++ "<lambda>") params body scope (cloFrom X.env.cells scope.names []) pm cd ctv dV)) ∧ H2 cd = some (CodeO cd (X.env.qual ++ "<lambda>")) ∧ DefAt H2 dV ds ∧ tb (fun cls d H3 => W cls d σ2 H3) σ H2 Q) := by
  refine ⟨fun pins2 s2 σ2 H2 Q J ⟨e1, e3, e2, e4, ht⟩ => ?_⟩
  refine wpAny_Call_Name_kw (thn ((pe_var (pos := p1) (i := i) hN hv hd hd2).run pins2 s2 σ2 H2 (fun v H1 => v = .ref f ∧ H1 = H2) J ⟨.ref f, e1, rfl, rfl⟩) fun u s1 hh => ?_)
  obtain ⟨v, H1, J1, r1, ev, eH⟩ := hh
  subst ev eH
  obtain rfl : u = Value.ref f := r1
  have at1 := objH_at J1.hok e3
  refine PySem.W.callWith_F0 ⟨_, _, _, _, at1⟩ ?_
  have un : Un (frs X.stack) [] H H1 s.heap s1.heap := J1.base
  obtain ⟨⟨oc, vs, t, c1, c2, c3⟩, _, _⟩ := J1.hok cd _ e2
  have run : codeAny (model X.prog X.w) (X.A.deeper (envOfC qg sg s.heap.objs.size g cdg)) (.call (.ref f) ⟨[], []⟩) (CR (L2.CX X.prog X.w) (envOfC qg sg s.heap.objs.size g cdg :: X.stack) X.prog X.w H1 s1 Q (fun cls d H3 => W cls d σ2 H3)) s1 := by
    refine PySem.W.kla_callFunE hr.depth at1 rfl L.co L.gen rfl ⟨cd, oc, vs, t, rfl, c1, c2, c3⟩ ?_
    obtain ⟨binds, hbd, hbx⟩ := bnd.to (q := X.env.qual ++ "<lambda>") (cl := cloFrom X.env.cells scope.names []) (pm := pm) (cv := .ref cd) (ctv := ctv) e4 J1.hok
    refine hbd _ _ _ _ (wpAny_newFunctionEnv (fun y hy => L.own y hy) (fun y hy => ?_) (fun h2 hns sb => ⟨J1.nolimit.fresh _ sb, ?_⟩) L.kind)
    · obtain ⟨p, e5, e6⟩ := hbx y hy
      rw [e6]; exact L.par p e5
    have keep : ∀ b o, s1.heap.get? b = some o → h2.get? b = some o := fun b o e => sb.extBut b o (Nat.ne_of_lt (Heap.lt_size e)) (Heap.get?_push_of_some _ e)
    have cu : ∀ y c, X.env.cells.lookup y = some c → H1 c = none ∧ ∀ o, s0.heap.get? c = some o → ∃ sl, s1.heap.get? c = some { o with slots := sl } := fun y c hc => by
      obtain ⟨h1, h2⟩ := cu0 y c hc
      obtain ⟨v, o, ho, hd⟩ := I.cell y c hc
      obtain ⟨sl, ho2⟩ := h2 o ho
      refine ⟨un.free c _ ho2 h1 (by simp), fun o' ho' => ?_⟩
      obtain ⟨sl2, ho3⟩ := h2 o' ho'
      obtain ⟨sl3, ho4⟩ := un.any ho3 h1 (by simp)
      exact ⟨sl3, ho4⟩
    have K := lam_start4 (E := fun cls d H3 => W cls d σ2 H3) (A := X.A.deeper (envOfC qg sg s.heap.objs.size g cdg)) (outer := envOfC qg sg s.heap.objs.size g cdg :: X.stack) (f := f) (c' := cd) (tk := s1.toks + binds.length) I L J1.env0 hr.hd cu hns keep
    refine PySem.W.kla_codeExpr (wpAny_mono ((hb _ _ s1 H1 _ (hr.deeper _)).run [] _ _ H1 Q K ht) (fun v s3 z => ?_) fun _ _ z => z)
    obtain ⟨w, H3, K3, rv, q⟩ := z
    exact ⟨w, H3, K3.os, K3.bare, K3.base, K3.hok, rv, q⟩
  refine wpAny_call (codeAny_mono run fun r s3 z => ?_)
  cases r with
  | error e => exact tk e s3 (XE.of_call J1 (fun _ _ _ q => q) z)
  | ok fl =>
    cases fl with
    | ret u => exact J1.after z
    | next => exact z.elim
    | brk => exact z.elim
    | cont => exact z.elim
theorem pe_lamAt3 {CXg : CXT} {Eg : XK} {Ng : List Str} {qg : Str} {sg : Scope} {g f cd : Addr} {cdg pm ctv dV : Value} {params : Arguments} {body : Expr} {scope : Scope} {ds : Option (Str × Int)} {k i : Nat} {a : Str} {pn : List (Addr × Obj)} {xe : Value → Shared → Prop} {W : WX} {tb : XK → TE} {p1 p2 : Pos}
    (I : Inv X pins σ H s) (L : LamT X.N X.env.scope scope ds) (bnd : LamBd params body scope ds)
    (tk : Takes ((cxOf CXg X.prog X.w X.K X.mg X.base Ng qg sg g cdg X.A X.stack s H Eg).tr pn xe) W) (hr : Room (k + 1) (X.A.deeper (envOfC qg sg s.heap.objs.size g cdg)))
    (hb : ∀ (A : Around) (outer : List Env) (s : Shared) (H : Hp) (E : XK), Room k (A.deeper (lamEnv X scope s.heap.objs.size f cd)) → PE (lamCx X A outer s H E scope f cd) body (tb E))
    (hN : Ng[i]? = some a) (hv : Vis sg a) (hd : (a == ("__debug__" : Str)) = false) (hd2 : (a == ("__classdict__" : Str)) = false) :
    PE ((cxOf CXg X.prog X.w X.K X.mg X.base Ng qg sg g cdg X.A X.stack s H Eg).tr pn xe) (.Call (.Name a p1) [] [] p2)
      (fun σ2 H2 Q => σ2[i]? = some (some (.ref f)) ∧ H2 f = some (Sm.objH f (lamObj (X.env.qual ++ "<lambda>") params body scope (cloFrom X.env.cells scope.names []) pm cd ctv dV)) ∧ H2 cd = some (CodeO cd (X.env.qual ++ "<lambda>")) ∧ DefAt H2 dV ds ∧ tb (fun cls d H3 => W cls d σ2 H3) σ H2 Q) :=
  pe_lamAt4 I (fun y c hc => ⟨I.freeC y c hc, fun o ho => ⟨o.slots, ho⟩⟩) L bnd tk hr hb hN hv hd hd2
end
end L2

namespace Sm
open PySem L2 PySem.Spec PyProof.Rows LamX
/-- the call of what was handed in at slot 0, a function cell at n0 -/
def eWork (n0 : Nat) (oc : Mem → Out Val) : EF := fun (e : List (Option Val)) M => match e[0]? with
  | some (some (Val.loc n)) => if n = n0 then oc M else .bad
  | _ => .bad
/-- what a def makes of a handed lambda -/
abbrev WF := Nat → (Mem → Out Val) → SF
def eWord (nN : Nat) (Fw : WF) (fb : EF) : EF := fun e M => match Fw M.length (fun M' => fb e M') (some (.loc M.length) :: List.replicate (nN - 1) none) (M ++ [.fn]) with
  | .nx _ M1 => .ok .non M1
  | .rt v M1 => .ok v M1
  | _ => .bad
/-- the def that calls what it is handed -/
structure Wd [LT] (P : Program) (w : World) (K : PySem.W.Frag) (mg : Str → Option Value) (base : Heap) (x : Str) (k nN : Nat) (Fw : WF) : Prop where
  ex : ∃ (g : Addr) (fd : FuncData) (pg : Arguments) (bg : List Stmt) (sg : Scope) (Ng : List Str) (a qx : Str), FunD K x qx pg bg sg [] [] g fd ∧ mg x = some (.ref g) ∧ Binds K fd [a] [] ∧ FnScope Ng [a] sg ∧ Ng[0]? = some a ∧ Vis sg a ∧ (a == ("__debug__" : Str)) = false ∧ (a == ("__classdict__" : Str)) = false ∧ Ng.length = nN ∧
    ∀ (B : WB) (n0 : Nat) (oc : Mem → Out Val) (cdg : Value) (A : Around) (outer : List Env) (s : Shared) (H : Hp), Room k (A.deeper (envOfC qx sg s.heap.objs.size g cdg)) →
      (∀ (W : WX) (pn : List (Addr × Obj)) (xe : Value → Shared → Prop) (p1 p2 : Pos), Takes ((cxOf C8.CX0 P w K mg base Ng qx sg g cdg A outer s H C8.E0).tr pn xe) W → SE ((cxOf C8.CX0 P w K mg base Ng qx sg g cdg A outer s H C8.E0).tr pn xe) W (.Call (.Name a p1) [] [] p2) (eWork n0 oc)) →
      SSs (cxOf C8.CX0 P w K mg base Ng qx sg g cdg A outer s H C8.E0).nox noW bg (Fw n0 oc)
theorem wd_of [LT] {P : Program} {w : World} {K : PySem.W.Frag} {mg : Str → Option Value} {base : Heap} {x qx a : Str} {k : Nat} {Fw : WF} {g : Addr} {fd : FuncData} {pg : Arguments} {bg : List Stmt} {sg : Scope} {Ng : List Str} (F : FunD K x qx pg bg sg [] [] g fd) (hm : mg x = some (.ref g)) (Sg : FnScope Ng [a] sg)
    (hbind : ∀ (kV doc pm : Value) (an : Option Addr) (cdv ct : Value) (us : List Value), us.length = 1 → bindArgs (PySem.W.fnOf x qx pg bg sg .none kV doc pm an cdv ct) ⟨us, []⟩ = pure ([a].zip us))
    (h0 : Ng[0]? = some a) (va : Vis sg a) (hd1 : (a == ("__debug__" : Str)) = false) (hd2 : (a == ("__classdict__" : Str)) = false)
    (hb : ∀ (B : WB) (n0 : Nat) (oc : Mem → Out Val) (cdg : Value) (A : Around) (outer : List Env) (s : Shared) (H : Hp), Room k (A.deeper (envOfC qx sg s.heap.objs.size g cdg)) →
      (∀ (W : WX) (pn : List (Addr × Obj)) (xe : Value → Shared → Prop) (p1 p2 : Pos), Takes ((cxOf C8.CX0 P w K mg base Ng qx sg g cdg A outer s H C8.E0).tr pn xe) W → SE ((cxOf C8.CX0 P w K mg base Ng qx sg g cdg A outer s H C8.E0).tr pn xe) W (.Call (.Name a p1) [] [] p2) (eWork n0 oc)) →
      SSs (cxOf C8.CX0 P w K mg base Ng qx sg g cdg A outer s H C8.E0).nox noW bg (Fw n0 oc)) : Wd P w K mg base x k Ng.length Fw :=
  ⟨⟨g, fd, pg, bg, sg, Ng, a, qx, F, hm, F.bindsN (ps := [a]) hbind, Sg, h0, va, hd1, hd2, rfl, hb⟩⟩
section
variable [LT] [WB] {K : PySem.W.Frag} {ρ ρ' : List Addr} {H H' : Hp} {M : Mem} {σ : L2.St} {W : WX}
/-- a lambda made beside what is known -/
theorem Ext.made {f : Addr} (eN : ExtN H H') (nf : H f = none) (hT : Tabs LT.T H') : Ext ρ H (ρ ++ [f]) H' :=
  ⟨⟨[f], rfl⟩, fun a xs h => eN _ _ h (fun _ z => by cases z), fun a o u h => eN _ _ h (fun _ z => by cases z), fun a φ h => eN _ _ h (fun _ z => by cases z),
    fun a o h e n => ⟨fun z => (List.mem_append.mp z).elim h fun z => (by rw [List.mem_singleton.mp z, nf] at e; cases e), eN _ _ e n⟩, fun _ => hT⟩
theorem CellR.nt {a : Addr} : ∀ {c : Cell}, CellR K ρ H a c → ∃ o, H a = Option.some o ∧ ∀ ps, o ≠ HO.tbl ps
  | .lst _, ⟨_, h, _⟩ => ⟨_, h, fun _ z => by cases z⟩
  | .dK _, ⟨_, h, _⟩ => ⟨_, h, fun _ z => by cases z⟩
  | .dT _, ⟨_, h, _⟩ => ⟨_, h, fun _ z => by cases z⟩
  | .ins _ _, ⟨_, _, h, _⟩ => ⟨_, h, fun _ z => by cases z⟩
  | .fn, ⟨_, h⟩ => ⟨_, h, objH_nt⟩
theorem Rel.made {f : Addr} {o : Obj} (R : Rel K ρ M H) (eN : ExtN H H') (nf : H f = none) (hT : Tabs LT.T H') (hf : H' f = some (objH f o)) : Rel K (ρ ++ [f]) (M ++ [.fn]) H' := by
  have E := Ext.made (ρ := ρ) eN nf hT
  have hnot : f ∉ ρ := fun h => by
    obtain ⟨u, hu, _⟩ := R.mem h
    rw [nf] at hu; cases hu
  refine ⟨by simp [R.len], ?_, fun n c' a h1 h2 => ?_, hT, WB.mono E R.bd⟩
  · rw [List.nodup_append]
    refine ⟨R.nd, by simp, fun x hx y hy e => hnot ?_⟩
    have hy' : y = f := by simpa using hy
    rw [← hy', ← e]; exact hx
  · by_cases hn : n < M.length
    · rw [List.getElem?_append_left hn] at h1
      rw [List.getElem?_append_left (by rw [R.len]; exact hn)] at h2
      have hc := R.at_ n c' a h1 h2
      refine hc.mono E ?_
      obtain ⟨u, hu, hn⟩ := hc.nt
      rw [hu]; exact eN _ _ hu hn
    · have hl := (List.getElem?_eq_some_iff.mp h1).1
      simp at hl
      have e : n = M.length := by omega
      subst e
      rw [List.getElem?_append_right (Nat.le_refl _)] at h1
      rw [← R.len, List.getElem?_append_right (Nat.le_refl _)] at h2
      simp at h1 h2
      subst h1 h2
      exact ⟨_, hf⟩
/-- the maker's world and the handed lambda -/
abbrev wbW (n0 : Nat) (f : Addr) (ρ1 : List Addr) (H1 : Hp) : WB := ⟨fun ρ2 H2 => WB.B ρ2 H2 ∧ ρ2[n0]? = some f ∧ Ext ρ1 H1 ρ2 H2, fun E h => ⟨WB.mono E h.1, E.get h.2.1, h.2.2.trans E⟩⟩
theorem Rel.low {n0 : Nat} {f : Addr} {ρ1 : List Addr} {H1 : Hp} (R : @Rel _ (wbW n0 f ρ1 H1) K ρ M H) : Rel K ρ M H := ⟨@Rel.len _ (wbW n0 f ρ1 H1) _ _ _ _ R, @Rel.nd _ (wbW n0 f ρ1 H1) _ _ _ _ R, @Rel.at_ _ (wbW n0 f ρ1 H1) _ _ _ _ R, @Rel.tab _ (wbW n0 f ρ1 H1) _ _ _ _ R, (@Rel.bd _ (wbW n0 f ρ1 H1) _ _ _ _ R).1⟩
theorem Rel.high {n0 : Nat} {f : Addr} {ρ1 : List Addr} {H1 : Hp} (R : Rel K ρ M H) (h : @WB.B _ (wbW n0 f ρ1 H1) ρ H) : @Rel _ (wbW n0 f ρ1 H1) K ρ M H := @Rel.mk _ (wbW n0 f ρ1 H1) _ _ _ _ R.len R.nd R.at_ R.tab h
theorem Po.low {n0 : Nat} {f : Addr} {ρ1 : List Addr} {H1 : Hp} {α β : Type} {RR : RR α β} {Q : β → Hp → Prop} (h : @WB.B _ (wbW n0 f ρ1 H1) ρ H) : ∀ {o : Out α}, @Po _ (wbW n0 f ρ1 H1) α β RR K ρ H σ W Q o → Po RR K ρ H σ (fun c d _ H => W c d σ H) Q o
  | .ok a M, p => fun ρ' H' b E R r => p ρ' H' b E (Rel.high R (@WB.mono _ (wbW n0 f ρ1 H1) _ _ _ _ E h)) r
  | .ex _ _, p => fun ρ' H' c d E R q => p ρ' H' c d E (Rel.high R (@WB.mono _ (wbW n0 f ρ1 H1) _ _ _ _ E h)) q
  | .bad, p => p
end
section
variable [LT] [WB] {X : Cx} {W : WX} {x : Str} {k nN : Nat} {Fw : WF} {params : Arguments} {body : Expr} {scope : Scope} {fb : EF} {c P : Addr} {ds : Option (Str × Int)} {p lpos pos : Pos}
/-- x(lambda: body) -/
theorem se_word (C : Wd X.prog X.w X.K X.mg X.base x k nN Fw) (TB : TabB X.base X.mg c P) (hcode : X.env.code = .ref c) (hT : (P, X.env.qual ++ "<lambda>") ∈ LT.T) (hu : ∀ p ∈ LT.T, p.1 = P → p.2 = X.env.qual ++ "<lambda>") (hr : Room (k + 1) X.A) (tk : Takes X W)
    (L : LamT X.N X.env.scope scope ds) (bnd : LamBd params body scope ds) (hdef : DefOf X params ds) {k2 : Nat} (hk : k2 + 1 ≤ k)
    (hb : ∀ (A : Around) (outer : List Env) (s : Shared) (H : Hp) (E : XK) (f cd : Addr), Room k2 (A.deeper (lamEnv X scope s.heap.objs.size f cd)) → SE (lamCx X A outer s H E scope f cd) (fun c d _ H => E c d H) body fb)
    (hg : Gl X x := by rfl) (hd : (x == ("__debug__" : Str)) = false := by decide) :
    SE X W (.Call (.Name x p) [.Lambda params body scope lpos] [] pos) (eWord nN Fw fb) := by
  obtain ⟨g, fd, pg, bg, sg, Ng, a, qx, F, hm, b, Sg, h0, va, hd1, hd2, hnN, hw⟩ := C.ex
  refine ⟨⟨fun pins s σ H Q I ⟨ρ, e, M, R, S, p⟩ => ?_⟩⟩
  obtain ⟨oc, od, dV, kV, doc, pm, an, cdv, ct, osl, rfl, lk, hcg, _, _⟩ := F.ex
  refine wpAny_Call_Name_kw (ld_glob I hg hm (PySem.W.callWith_K (h₀ := X.base) I.ok.mod.kin F.kp ?_ (by rfl) (by rfl)) hd)
  show wpAny _ _ (spliced ((false, eval (.Lambda params body scope lpos) X.env) :: backTo pos (starEach [] X.env))) _ _ s
  refine Calls.spliced_cons (lam_make3 I TB hcode hT hu R.tab hdef (L.has I.ok) (fun _ _ z => z) fun f cd pm2 ctv dV2 H1 s1 I1 eN nf T1 hf hco hdv => Calls.spliced_nil ⟨I1.kIn, ?_⟩)
  have E1 : Ext ρ H (ρ ++ [f]) H1 := Ext.made eN nf T1
  have R1 : Rel X.K (ρ ++ [f]) (M ++ [.fn]) H1 := R.made eN nf T1 hf
  have hn : (ρ ++ [f])[M.length]? = some f := by rw [← R.len, List.getElem?_append_right (Nat.le_refl _)]; simp
  have hB : @WB.B _ (wbW M.length f (ρ ++ [f]) H1) (ρ ++ [f]) H1 := ⟨R1.bd, hn, Ext.refl _ _⟩
  have run : codeAny (model X.prog X.w) X.A (.call (.ref g) ⟨[.ref f], []⟩) (CR C8.CX0 X.stack X.prog X.w H1 s1 Q C8.E0) s1 := by
    refine run_ofS (N := Ng) (ps := [a]) (us := [.ref f]) (vs := [.ref f]) lk hcg Sg hr I1.env0 (b s1 [.ref f] I1.kIn rfl) (.cons rfl .nil) rfl fun hr2 => ?_
    have act := hw (wbW M.length f (ρ ++ [f]) H1) M.length (fun M' => fb e M') cdv X.A X.stack s1 H1 hr2 (fun W2 pn xe p1 p2 tk2 => ?_)
    · refine ⟨_, (@SSs.pss _ (wbW M.length f (ρ ++ [f]) H1) _ _ _ _ act).nox, ρ ++ [f], _, M ++ [Cell.fn], R1.high hB, SlR.start (N := Ng) (np := 1) (l := [Val.loc M.length]) (vs := [V.ref f]) ⟨.ref f, [], rfl, ⟨f, rfl, hn⟩, rfl⟩ rfl, ?_⟩
      unfold eWord at p
      show @PoS _ (wbW M.length f (ρ ++ [f]) H1) X.K _ H1 _ _ (Fw M.length (fun M' => fb e M') (some (.loc M.length) :: List.replicate (Ng.length - 1) none) (M ++ [.fn]))
      rw [hnN]
      cases hF : Fw M.length (fun M' => fb e M') (some (.loc M.length) :: List.replicate (nN - 1) none) (M ++ [.fn]) with
      | nx e1 M1 => rw [hF] at p; exact fun ρ' H' σ' E' R' S' => p ρ' H' .non (E1.trans E') R'.low rfl
      | rt v M1 => rw [hF] at p; exact fun ρ' H' u E' R' r => p ρ' H' u (E1.trans E') R'.low r
      | ex _ _ _ => rw [hF] at p; exact p.elim
      | bk _ _ => rw [hF] at p; exact p.elim
      | ct _ _ => rw [hF] at p; exact p.elim
      | bad => rw [hF] at p; exact p.elim
    · obtain ⟨j, rfl⟩ : ∃ j, k = k2 + 1 + j := ⟨k - (k2 + 1), by omega⟩
      have z := pe_lamAt3 (i := 0) (p1 := p1) (p2 := p2) (k := k2) (f := f) (cd := cd) (pm := pm2) (ctv := ctv) (dV := dV2) (tb := fun E => tE X.K (fun c d _ H => E c d H) fb) I1 L bnd tk2 (hr2.mono (by omega)) (fun A outer s H E h => (hb A outer s H E f cd h).pe) h0 va hd1 hd2
      refine @SE.mk _ (wbW M.length f (ρ ++ [f]) H1) _ _ _ _ (z.imp fun σ2 H2 Q2 q => ?_)
      obtain ⟨ρ2, e2, M2, R2, S2, p2⟩ := q
      unfold eWork at p2
      split at p2
      · rename_i n hn2
        split at p2
        · rename_i en
          subst en
          obtain ⟨v, hv, a2, e3, e4⟩ := S2.at_ 0 _ hn2
          subst e3
          have bd2 := @Rel.bd _ (wbW M.length f (ρ ++ [f]) H1) _ _ _ _ R2
          have ea : a2 = f := by
            have z2 := bd2.2.1
            rw [e4] at z2
            exact Option.some.inj z2
          subst ea
          have EX := bd2.2.2
          refine ⟨hv, EX.exx _ _ hf, EX.exx _ _ hco, ?_, ρ2, e, M2, R2.low, S.mono (E1.trans EX), ?_⟩
          · cases ds with
            | none => exact hdv
            | some q =>
              obtain ⟨a3, h5, h6⟩ := hdv
              exact ⟨a3, h5, EX.tup _ _ h6⟩
          · have p3 := Po.low (h := bd2) p2
            replace p3 : Po (RVr X.K) X.K ρ2 H2 σ2 (fun c d _ H => W2 c d σ2 H) Q2 (fb e M2) := p3
            show Po (RVr X.K) X.K ρ2 H2 σ (fun c d _ H => W2 c d σ2 H) Q2 (fb e M2)
            cases ho : fb e M2 with
            | ok v M3 => rw [ho] at p3; exact p3
            | ex y M3 => rw [ho] at p3; exact p3
            | bad => rw [ho] at p3; exact p3
        · exact p2.elim
      · exact p2.elim
  refine wpAny_call (codeAny_mono run fun r s2 z => ?_)
  cases r with
  | error e => exact (show False from z).elim
  | ok fl =>
    cases fl with
    | ret u => exact I1.after z
    | next => exact z.elim
    | brk => exact z.elim
    | cont => exact z.elim
end
end Sm

namespace L2
open PySem PySem.Spec PyProof.Rows
variable {X : Cx}
/-! list.count of flat values -/
def rCntF (K : PySem.W.Frag) : V → List V → Hp → VK → Prop := fun x xs H Q => ∃ (p : Addr) (ys : List V) (y : V), x = V.ref p ∧ xs = [y] ∧ SqL K H p ys ∧ flatV y = true ∧ ys.all flatV = true ∧ Q (.int (ys.countP (fun z => eqV z y) : Nat)) H
theorem count_eqU {y : V} : ∀ {ys : List V} {us : List Value}, Vals ys us → ys.all flatV = true → us.countP (eqU y) = ys.countP (fun z => eqV z y)
  | _, _, .nil, _ => rfl
  | z :: ys, u :: us, .cons r t, f => by
    rw [List.all_cons, Bool.and_eq_true] at f
    rw [List.countP_cons, List.countP_cons, count_eqU t f.2, eqU_of r f.1]
theorem mt_countF : MtR X "list.count" (rCntF X.K) := by
  intro pins s σ H x xs v us Q I rx rxs h
  obtain ⟨p, ys, y, rfl, rfl, hs, fy, fys, q⟩ := h
  cases rx
  obtain ⟨u, rfl, ru⟩ := rxs.one
  obtain ⟨its, rv, ⟨⟨cls, dd, data, sl⟩, n, ho, hc, hdn, hd⟩, hlen⟩ := I.list hs
  simp only at hc hd
  subst hc hd
  refine call_meets PySem.F.slot_list_count ⟨_, ho, rfl⟩ PySem.F.entry_list_count (PySem.F.args_list_count_2 _ _)
    (SeqAt.list_countAt p its.toArray n dd sl u (eqU y)) ⟨ho, fun w hw => mem_eqAt ru fy rv fys w (by simpa using hw), ?_⟩
  refine ⟨.int (ys.countP (fun z => eqV z y) : Nat), H, I.tok _, ⟨s.toks, ?_⟩, q⟩
  show Value.int ((its.toArray.toList.countP (eqU y) : Nat) : Int) s.toks = _
  rw [← count_eqU rv fys]
/-! x in a tuple of lists -/
def rInT (K : PySem.W.Frag) (neg : Bool) : R2 := fun x y H Q => ∃ d ds, Dp K H x d ∧ Dp K H y (.tuple ds) ∧ SeqAt.shaped d = true ∧ SeqAt.shaped (.list ds) = true ∧ SeqAt.shaped (.tuple ds) = true ∧ Q (.bl (if neg = true then !(ds.any fun z => PyData.eqv z d) else ds.any fun z => PyData.eqv z d)) H
theorem op_inT (hu : X.A.units + 65 < cLine) : OpR X (compareOp .In) (rInT X.K false) := by
  intro pins s σ H x y v u Q I rx ry h
  obtain ⟨d, ds, hd, he, sd, se, _, q⟩ := h
  obtain ⟨as, r1⟩ := Dp.reads I d x v hd rx
  obtain ⟨bs, r2⟩ := Dp.reads I (.tuple ds) y u he ry
  exact SeqAt.in_tuple_reads r2 r1 (SeqAt.canLay_of_shaped se) (SeqAt.canLay_of_shaped sd) (room_in_shaped sd hu) ⟨.bl _, H, I, rfl, q⟩
theorem op_notInT (hu : X.A.units + 65 < cLine) : OpR X (compareOp .NotIn) (rInT X.K true) := by
  intro pins s σ H x y v u Q I rx ry h
  obtain ⟨d, ds, hd, he, sd, se, _, q⟩ := h
  obtain ⟨as, r1⟩ := Dp.reads I d x v hd rx
  obtain ⟨bs, r2⟩ := Dp.reads I (.tuple ds) y u he ry
  exact SeqAt.notIn_tuple_reads r2 r1 (SeqAt.canLay_of_shaped se) (SeqAt.canLay_of_shaped sd) (room_in_shaped sd hu) ⟨.bl _, H, I, rfl, q⟩
/-! text * int -/
def repS (x : Str) (n : Int) : Str := ⟨(List.replicate n.toNat x.cps).foldl (· ++ ·) #[]⟩
def rRepS : R2 := fun x y H Q => ∃ (a : Str) (n : Int), x = .str a ∧ y = .int n ∧ 2 ≤ n ∧ 1 ≤ a.length ∧ a.length * n.toNat ≤ sizeLine ∧ (repS a n).length ≤ sizeLine ∧ Q (.str (repS a n)) H
theorem op_mulS : OpR X (binaryOp .Mult) rRepS := by
  intro pins s σ H x y v u Q I rx ry h
  obtain ⟨a, n, rfl, rfl, h1, h2, h3, h4, q⟩ := h
  obtain ⟨t, rfl⟩ := rx
  obtain ⟨t', rfl⟩ := ry
  have hsl := sizeLine_eq
  have hn : n.toNat ≤ a.length * n.toNat := Nat.le_mul_of_pos_left _ h2
  have hn2 : n ≤ sizeLine := by omega
  refine P.mul_str ?_ (fun _ _ => ?_) (fun _ _ => ?_) ?_
  · rw [decide_eq_false (by omega), decide_eq_false (by omega)]; rfl
  · intro z
    have e : (a.length : Int) * n ≤ 2 ^ 63 - 1 := by
      have : (a.length * n.toNat : Nat) ≤ sizeLine := h3
      have e2 : ((a.length * n.toNat : Nat) : Int) = (a.length : Int) * n := by
        rw [Int.natCast_mul, Int.toNat_of_nonneg (by omega)]
      omega
    have := Int.le_ediv_of_mul_le (by omega : 0 < n) e
    omega
  · exact decide_eq_false (show ¬ sizeLine < a.length * n.toNat by omega)
  · rw [if_neg (by omega), if_neg (by simp; omega)]
    exact ⟨h4, ⟨.str _, H, I.tok _, ⟨_, rfl⟩, q⟩⟩
end L2
namespace Sm
open PySem L2
section
variable [LT] [WB] {K : PySem.W.Frag} {ρ : List Addr} {M : Mem} {H : Hp}
def countV : MtF := fun o l M => match o, l with
  | .loc n, [y] => (match getL M n with
    | some xs => if flat y && xs.all flat then .ok (.int (xs.countP (fun z => eqF z y) : Nat)) M else .bad
    | none => .bad)
  | _, _ => .bad
/-- where the first equal one stands -/
def indexV : MtF := fun o l M => match o, l with
  | .loc n, [y] => (match getL M n with
    | some xs => if flat y && xs.all flat then (match xs.findIdx? (fun z => eqF z y) with
      | some j => .ok (.int (j : Nat)) M
      | none => .bad) else .bad
    | none => .bad)
  | _, _ => .bad
theorem countF_ok {x : Val} {v : V} (rx : RV K ρ H x v) (fx : flat x = true) : ∀ {l : List Val} {vs : List V}, RVs K ρ H l vs → l.all flat = true → vs.countP (fun z => L2.eqV z v) = l.countP fun z => eqF z x
  | [], _, h, _ => by cases (show _ = [] from h); rfl
  | z :: l, _, ⟨w, us, e, r1, r2⟩, f => by
    subst e
    rw [List.all_cons, Bool.and_eq_true] at f
    rw [List.countP_cons, List.countP_cons, eqF_ok r1 rx f.1 fx, countF_ok rx fx r2 f.2]
theorem ms_count : MethS K (rCntF K) countV := by
  intro ρ M H σ W Q x v l vs R rx rl p
  unfold countV at p
  split at p
  · split at p
    · rename_i xs hx
      split at p
      · rename_i hf
        rw [Bool.and_eq_true] at hf
        obtain ⟨a, us, e1, h1, h2, h3⟩ := R.lst (getL_ok hx) rx
        obtain ⟨u, e2, r2⟩ := rv1 rl
        exact ⟨a, us, u, e1, e2, SqL.of h2, by rw [flat_ok r2]; exact hf.1, by rw [flats_ok h3]; exact hf.2, by rw [countF_ok r2 hf.1 h3 hf.2]; exact p.val R rfl⟩
      · exact p.elim
    · exact p.elim
  · exact p.elim
theorem ms_index : MethS K (rIndex K) indexV := by
  intro ρ M H σ W Q x v l vs R rx rl p
  unfold indexV at p
  split at p
  · rename_i n y
    split at p
    · rename_i xs hx
      split at p
      · rename_i hf
        rw [Bool.and_eq_true] at hf
        split at p
        · rename_i j hj
          obtain ⟨a, us, e1, h1, h2, h3⟩ := R.lst (getL_ok hx) rx
          obtain ⟨u, e2, r2⟩ := rv1 rl
          obtain ⟨hl, hp, hno⟩ := List.findIdx?_eq_some_iff_getElem.mp hj
          obtain ⟨z, hz, rz⟩ := h3.get (List.getElem?_eq_getElem hl)
          have fz : ∀ (m : Nat) (hm : m < xs.length), flat xs[m] = true := fun m hm => List.all_eq_true.mp hf.2 _ (List.getElem_mem hm)
          refine ⟨a, us, u, j, z, e1, e2, SqL.of h2, by rw [flat_ok r2]; exact hf.1, by rw [flats_ok h3]; exact hf.2, hz, by rw [eqF_ok rz r2 (fz _ hl) hf.1]; exact hp, fun m z' hm hz' => ?_, p.val R rfl⟩
          have hml : m < xs.length := by omega
          obtain ⟨z2, hz2, rz2⟩ := h3.get (List.getElem?_eq_getElem hml)
          rw [hz2] at hz'
          cases hz'
          rw [eqF_ok rz2 r2 (fz _ hml) hf.1]
          have := hno m hm
          simpa using this
        · exact p.elim
      · exact p.elim
    · exact p.elim
  · exact p.elim
/-! in a tuple of lists -/
def inTD (x y : Val) (M : Mem) : Option Bool := match y with
  | .tup l => (match toD M 8 x, l.mapM (toD M 7) with
    | some d, some ds => if SeqAt.shaped d && SeqAt.shaped (.list ds) && SeqAt.shaped (.tuple ds) then some (ds.any fun z => PyData.eqv z d) else none
    | _, _ => none)
  | _ => none
def inTV (x y : Val) (M : Mem) : Out Val := match inTD x y M with
  | some b => .ok (.bl b) M
  | none => .bad
def notInTV (x y : Val) (M : Mem) : Out Val := match inTD x y M with
  | some b => .ok (.bl (!b)) M
  | none => .bad
theorem inTD_ok {x y : Val} {v u : V} {b : Bool} (R : Rel K ρ M H) (rx : RV K ρ H x v) (ry : RV K ρ H y u) (h : inTD x y M = some b) :
    ∃ d ds, Dp K H v d ∧ Dp K H u (.tuple ds) ∧ SeqAt.shaped d = true ∧ SeqAt.shaped (.list ds) = true ∧ SeqAt.shaped (.tuple ds) = true ∧ (ds.any fun z => PyData.eqv z d) = b := by
  unfold inTD at h
  split at h
  · rename_i l
    split at h
    · rename_i d ds hd hds
      split at h
      · rename_i hs
        rw [Bool.and_eq_true, Bool.and_eq_true] at hs
        cases h
        obtain ⟨a, vs, e, h1, h2⟩ := ry
        subst e
        exact ⟨d, ds, toD_ok R _ _ _ _ rx hd, .tup h1 (toD_all (toD_ok R 7) h2 hds), hs.1.1, hs.1.2, hs.2, rfl⟩
      · cases h
    · cases h
  · cases h
theorem os_inT : OpS K (rInT K false) inTV := by
  intro ρ M H σ W Q x y v u R rx ry p
  unfold inTV at p
  split at p
  · rename_i b h
    obtain ⟨d, ds, h1, h2, h3, h4, h5, h6⟩ := inTD_ok R rx ry h
    exact ⟨d, ds, h1, h2, h3, h4, h5, by rw [if_neg Bool.false_ne_true, h6]; exact p.val R rfl⟩
  · exact p.elim
theorem os_notInT : OpS K (rInT K true) notInTV := by
  intro ρ M H σ W Q x y v u R rx ry p
  unfold notInTV at p
  split at p
  · rename_i b h
    obtain ⟨d, ds, h1, h2, h3, h4, h5, h6⟩ := inTD_ok R rx ry h
    exact ⟨d, ds, h1, h2, h3, h4, h5, by rw [if_pos rfl, h6]; exact p.val R rfl⟩
  · exact p.elim
/-! text * int -/
def mulSV (x y : Val) (M : Mem) : Out Val := match x, y with
  | .str a, .int n => if 2 ≤ n ∧ 1 ≤ a.length ∧ a.length * n.toNat ≤ sizeLine ∧ (repS a n).length ≤ sizeLine then .ok (.str (repS a n)) M else .bad
  | _, _ => .bad
theorem os_mulS : OpS K rRepS mulSV := by
  intro ρ M H σ W Q x y v u R rx ry p
  unfold mulSV at p
  split at p
  · cases (show v = _ from rx); cases (show u = _ from ry)
    split at p
    · rename_i h
      exact ⟨_, _, rfl, rfl, h.1, h.2.1, h.2.2.1, h.2.2.2, p.val R rfl⟩
    · exact p.elim
  · exact p.elim
end
/-! [::-1] -/
def eRev (f : EF) : EF := fun e M => (f e M).bind fun x M1 => match x with
  | .loc n => (match getL M1 n with
    | some xs => .ok (.loc M1.length) (M1 ++ [.lst xs.reverse])
    | none => .bad)
  | _ => .bad
section
variable [LT] [WB] {X : Cx} {W : WX} {a : Expr} {fa : EF} {k : Nat} {p1 p2 p3 pos : Pos}
theorem se_rev (ha : SE X W a fa) : SE X W (.Subscript a (.Slice none none (some (.UnaryOp .USub (.Constant (.int 1) k p1) p2)) p3) pos) (eRev fa) :=
  ⟨(pe_revL ha.pe).imp fun σ H Q ⟨ρ, e, M, R, S, p⟩ => ⟨ρ, e, M, R, S, (Po.bind p).imp fun v H1 ⟨ρ1, M1, x, E1, R1, r1, p1⟩ => by
    split at p1
    · split at p1
      · rename_i n xs hx
        obtain ⟨a, us, e1, h1, h2, h3⟩ := R1.lst (getL_ok hx) r1
        exact ⟨a, us, e1, SqL.of h2, p1.newList R1 h3.reverse⟩
      · exact p1.elim
    · exact p1.elim⟩⟩
end
end Sm

namespace Sm
open PySem L2
instance (priority := low) ltD : LT := ⟨[]⟩
instance (priority := low) wbD : WB := ⟨fun _ _ => True, fun _ h => h⟩
/-! what an outcome leaves -/
def Out.wp {α : Type} (o : Out α) (Q : α → Mem → Prop) (E : Ex → Mem → Prop) : Prop := match o with
  | .ok a M => Q a M
  | .ex x M => E x M
  | .bad => False
def SO.wp (o : SO) (N : Sl → Mem → Prop) (R : Val → Mem → Prop) (B C : Sl → Mem → Prop) (E : Ex → Sl → Mem → Prop) : Prop := match o with
  | .nx e M => N e M
  | .rt x M => R x M
  | .bk e M => B e M
  | .ct e M => C e M
  | .ex x e M => E x e M
  | .bad => False
def GO.wp (o : GO) (N : Sl → Mem → Prop) (E : Ex → Sl → Mem → Prop) : Prop := match o with
  | .nx e M => N e M
  | .ex x e M => E x e M
  | .bad => False
abbrev noE : Ex → Mem → Prop := fun _ _ => False
theorem Out.wp_mono {α : Type} {o : Out α} {Q Q' : α → Mem → Prop} {E E' : Ex → Mem → Prop} (h : o.wp Q E) (hq : ∀ a M, Q a M → Q' a M) (he : ∀ x M, E x M → E' x M) : o.wp Q' E' := by
  cases o with
  | ok a M => exact hq a M h
  | ex x M => exact he x M h
  | bad => exact h
theorem Out.wp_imp {α : Type} {o : Out α} {Q Q' : α → Mem → Prop} {E' : Ex → Mem → Prop} (h : o.wp Q noE) (hq : ∀ a M, Q a M → Q' a M) : o.wp Q' E' := Out.wp_mono h hq fun _ _ z => z.elim
theorem SO.wp_mono {o : SO} {N N' : Sl → Mem → Prop} {R R' : Val → Mem → Prop} {B B' C C' : Sl → Mem → Prop} {E E' : Ex → Sl → Mem → Prop} (h : o.wp N R B C E) (h1 : ∀ e M, N e M → N' e M) (h2 : ∀ x M, R x M → R' x M) (h3 : ∀ e M, B e M → B' e M) (h4 : ∀ e M, C e M → C' e M)
    (h5 : ∀ x e M, E x e M → E' x e M) : o.wp N' R' B' C' E' := by
  cases o with
  | nx e M => exact h1 e M h
  | rt x M => exact h2 x M h
  | bk e M => exact h3 e M h
  | ct e M => exact h4 e M h
  | ex x e M => exact h5 x e M h
  | bad => exact h
theorem Out.wp_ok {α : Type} {o : Out α} {Q : α → Mem → Prop} (h : o.wp Q noE) : ∃ a M, o = .ok a M ∧ Q a M := by
  cases o with
  | ok a M => exact ⟨a, M, rfl, h⟩
  | ex x M => exact h.elim
  | bad => exact h.elim
section
variable {α β : Type} {Q : α → Mem → Prop} {Qv : Val → Mem → Prop} {Qb : Bool → Mem → Prop} {Ql : List Val → Mem → Prop} {E : Ex → Mem → Prop} {e : Sl} {M : Mem} {N B C : Sl → Mem → Prop} {R : Val → Mem → Prop} {Es : Ex → Sl → Mem → Prop}
@[simp] theorem wp_ok (a : α) : (Out.ok a M).wp Q E = Q a M := rfl
@[simp] theorem wp_ex (x : Ex) : (Out.ex x M : Out α).wp Q E = E x M := rfl
@[simp] theorem wp_bad : (Out.bad : Out α).wp Q E = False := rfl
@[simp] theorem wp_snx : (SO.nx e M).wp N R B C Es = N e M := rfl
@[simp] theorem wp_srt (x : Val) : (SO.rt x M).wp N R B C Es = R x M := rfl
@[simp] theorem wp_sbk : (SO.bk e M).wp N R B C Es = B e M := rfl
@[simp] theorem wp_sct : (SO.ct e M).wp N R B C Es = C e M := rfl
@[simp] theorem wp_sex (x : Ex) : (SO.ex x e M).wp N R B C Es = Es x e M := rfl
@[simp] theorem wp_sbad : (SO.bad).wp N R B C Es = False := rfl
theorem wp_bind (o : Out α) (k : α → Mem → Out β) (Q : β → Mem → Prop) : (o.bind k).wp Q E = o.wp (fun a M => (k a M).wp Q E) E := by cases o <;> rfl
theorem wp_toS (o : Out α) (k : α → Mem → SO) : (o.toS e k).wp N R B C Es = o.wp (fun a M => (k a M).wp N R B C Es) (fun x M => Es x e M) := by cases o <;> rfl
theorem wp_gtoS (o : GO) (k : Sl → Mem → SO) : (o.toS k).wp N R B C Es = o.wp (fun a M => (k a M).wp N R B C Es) Es := by cases o <;> rfl
@[simp] theorem wp_eC (x : Val) : (eC x e M).wp Qv E = Qv x M := rfl
/-- a slot -/
def sget (e : Sl) (i : Nat) : Option Val := match e[i]? with
  | some o => o
  | none => none
@[simp] theorem wp_eVar (i : Nat) : (eVar i e M).wp Qv E = ∃ x, sget e i = some x ∧ Qv x M := by
  unfold eVar sget
  cases h : e[i]? with
  | none => simp
  | some o => cases o <;> simp
@[simp] theorem sget_0 (o : Option Val) (e : Sl) : sget (o :: e) 0 = o := rfl
@[simp] theorem sget_s (o : Option Val) (e : Sl) (i : Nat) : sget (o :: e) (i + 1) = sget e i := by unfold sget; simp
@[simp] theorem wp_eOp2 (g : Val → Val → Mem → Out Val) (fa fb : EF) : (eOp2 g fa fb e M).wp Qv E = (fa e M).wp (fun x M1 => (fb e M1).wp (fun y M2 => (g x y M2).wp Qv E) E) E := by
  unfold eOp2; simp only [wp_bind]
@[simp] theorem wp_eOp1 (g : Val → Mem → Out Val) (fa : EF) : (eOp1 g fa e M).wp Qv E = (fa e M).wp (fun x M1 => (g x M1).wp Qv E) E := by unfold eOp1; simp only [wp_bind]
@[simp] theorem wp_aNil : (aNil e M).wp Ql E = Ql [] M := rfl
@[simp] theorem wp_aCons (fa : EF) (fr : AF) : (aCons fa fr e M).wp Ql E = (fa e M).wp (fun x M1 => (fr e M1).wp (fun l M2 => Ql (x :: l) M2) E) E := by unfold aCons; simp only [wp_bind, wp_ok]
theorem wp_ite {c : Prop} [Decidable c] {o : Out α} : (if c then o else .bad).wp Q E = (c ∧ o.wp Q E) := by
  by_cases h : c <;> simp [h]
@[simp] theorem wp_eTup (fa : AF) : (eTup fa e M).wp Qv E = (fa e M).wp (fun l M1 => l.length ≤ sizeLine ∧ Qv (.tup l) M1) E := by unfold eTup; simp only [wp_bind, wp_ite, wp_ok]
@[simp] theorem wp_eLst (fa : AF) : (eLst fa e M).wp Qv E = (fa e M).wp (fun l M1 => l.length ≤ sizeLine ∧ Qv (.loc M1.length) (M1 ++ [.lst l])) E := by unfold eLst; simp only [wp_bind, wp_ite, wp_ok]
@[simp] theorem wp_eCall (F : FnS) (fa : AF) : (eCall F fa e M).wp Qv E = (fa e M).wp (fun l M1 => (F l M1).wp Qv E) E := by unfold eCall; simp only [wp_bind]
@[simp] theorem wp_eFn (np : Nat) (F : FnS) (fa : AF) : (eFn np F fa e M).wp Qv E = (fa e M).wp (fun l M1 => l.length = np ∧ (F l M1).wp Qv E) E := by unfold eFn; simp only [wp_bind, wp_ite]
@[simp] theorem wp_eIf (t : TF) (fa fb : EF) : (eIf t fa fb e M).wp Qv E = (t e M).wp (fun b M1 => if b = true then (fa e M1).wp Qv E else (fb e M1).wp Qv E) E := by
  unfold eIf; simp only [wp_bind]; congr 1; funext b M1; split <;> rfl
/-! tests -/
def isB (x : Val) : Option Bool := match x with
  | .bl b => some b
  | _ => none
@[simp] theorem isB_bl (b : Bool) : isB (.bl b) = some b := rfl
theorem wp_isB (x : Val) (M : Mem) : Out.wp (match x with | .bl b => .ok b M | _ => .bad) Qb E = ∃ b, x = .bl b ∧ Qb b M := by
  cases x <;> simp
@[simp] theorem wp_tCmp2 (g : Val → Val → Mem → Out Val) (fa fb : EF) : (tCmp2 g fa fb e M).wp Qb E = (fa e M).wp (fun x M1 => (fb e M1).wp (fun y M2 => (g x y M2).wp (fun z M3 => ∃ b, z = .bl b ∧ Qb b M3) E) E) E := by
  unfold tCmp2; simp only [wp_bind, wp_eOp2]; congr 1; funext x M1; congr 1; funext y M2; congr 1; funext z M3; cases z <;> simp
@[simp] theorem wp_tOfE (f : EF) : (tOfE f e M).wp Qb E = (f e M).wp (fun z M3 => ∃ b, z = .bl b ∧ Qb b M3) E := by unfold tOfE; simp only [wp_bind]; congr 1; funext z M3; cases z <;> simp
@[simp] theorem wp_tTru (f : EF) : (tTru f e M).wp Qb E = (f e M).wp (fun z M3 => ∃ b, truV z M3 = some b ∧ Qb b M3) E := by
  unfold tTru; simp only [wp_bind]; congr 1; funext z M3; cases truV z M3 <;> simp
@[simp] theorem wp_tNotF (t : TF) : (tNotF t e M).wp Qb E = (t e M).wp (fun b M1 => Qb (!b) M1) E := by unfold tNotF; simp only [wp_bind, wp_ok]
@[simp] theorem wp_tAndF (t u : TF) : (tAndF t u e M).wp Qb E = (t e M).wp (fun b M1 => if b = true then (u e M1).wp Qb E else Qb false M1) E := by
  unfold tAndF; simp only [wp_bind]; congr 1; funext b M1; split <;> rfl
@[simp] theorem wp_tOrF (t u : TF) : (tOrF t u e M).wp Qb E = (t e M).wp (fun b M1 => if b = true then Qb true M1 else (u e M1).wp Qb E) E := by
  unfold tOrF; simp only [wp_bind]; congr 1; funext b M1; split <;> rfl
@[simp] theorem wp_tTrue : (tTrue e M).wp Qb E = Qb true M := rfl
@[simp] theorem wp_eAnd (f g : EF) : (eAnd f g e M).wp Qv E = (f e M).wp (fun z M1 => ∃ b, z = .bl b ∧ if b = true then (g e M1).wp Qv E else Qv (.bl false) M1) E := by
  unfold eAnd; simp only [wp_bind]; congr 1; funext z M1; cases z <;> simp <;> split <;> simp_all
@[simp] theorem wp_eOr (f g : EF) : (eOr f g e M).wp Qv E = (f e M).wp (fun z M1 => ∃ b, z = .bl b ∧ if b = true then Qv (.bl true) M1 else (g e M1).wp Qv E) E := by
  unfold eOr; simp only [wp_bind]; congr 1; funext z M1; cases z <;> simp <;> split <;> simp_all
@[simp] theorem wp_eNot (f : EF) : (eNot f e M).wp Qv E = (f e M).wp (fun z M1 => ∃ b, z = .bl b ∧ Qv (.bl (!b)) M1) E := by
  unfold eNot; simp only [wp_bind]; congr 1; funext z M1; cases z <;> simp
@[simp] theorem wp_eChain (g g' : Val → Val → Mem → Out Val) (fa fb fc : EF) : (eChain g g' fa fb fc e M).wp Qv E = (fa e M).wp (fun x M1 => (fb e M1).wp (fun y M2 => (g x y M2).wp (fun z M3 => ∃ b, z = .bl b ∧
    if b = true then (fc e M3).wp (fun w M4 => (g' y w M4).wp Qv E) E else Qv (.bl false) M3) E) E) E := by
  unfold eChain; simp only [wp_bind]; congr 1; funext x M1; congr 1; funext y M2; congr 1; funext z M3; cases z <;> simp <;> split <;> simp_all [wp_bind]
@[simp] theorem sizeLine_val : sizeLine = 16777216 := by decide
/-! statements -/
@[simp] theorem wp_sNil : (sNil e M).wp N R B C Es = N e M := rfl
@[simp] theorem wp_sSeq (f g : SF) : (sSeq f g e M).wp N R B C Es = (f e M).wp (fun e1 M1 => (g e1 M1).wp N R B C Es) R B C Es := by
  unfold sSeq SO.seq; cases f e M <;> rfl
@[simp] theorem wp_sExpr (f : EF) : (sExpr f e M).wp N R B C Es = (f e M).wp (fun _ M1 => N e M1) (fun x M1 => Es x e M1) := by unfold sExpr; simp only [wp_toS, wp_snx]
@[simp] theorem wp_sRet (f : EF) : (sRet f e M).wp N R B C Es = (f e M).wp R (fun x M1 => Es x e M1) := by unfold sRet; simp only [wp_toS, wp_srt]
@[simp] theorem wp_sRetN : (sRetN e M).wp N R B C Es = R .non M := rfl
@[simp] theorem wp_sBrk : (sBrk e M).wp N R B C Es = B e M := rfl
@[simp] theorem wp_sCnt : (sCnt e M).wp N R B C Es = C e M := rfl
@[simp] theorem wp_sBad : (sBad e M).wp N R B C Es = False := rfl
@[simp] theorem wp_sIf (t : TF) (f g : SF) : (sIf t f g e M).wp N R B C Es = (t e M).wp (fun b M1 => if b = true then (f e M1).wp N R B C Es else (g e M1).wp N R B C Es) (fun x M1 => Es x e M1) := by
  unfold sIf; simp only [wp_toS]; congr 1; funext b M1; split <;> rfl
@[simp] theorem wp_gnx : (GO.nx e M).wp N Es = N e M := rfl
@[simp] theorem wp_gbad : (GO.bad).wp N Es = False := rfl
@[simp] theorem wp_sAsg (f : EF) (g : GF) : (sAsg f g e M).wp N R B C Es = (f e M).wp (fun x M1 => (g x e M1).wp N Es) (fun x M1 => Es x e M1) := by unfold sAsg; simp only [wp_toS, wp_gtoS, wp_snx]
@[simp] theorem wp_gNm (i : Nat) (x : Val) : (gNm i x e M).wp N Es = N (e.set i (some x)) M := rfl
theorem wp_gbind (o : GO) (k : Sl → Mem → GO) : (o.bind k).wp N Es = o.wp (fun a M => (k a M).wp N Es) Es := by cases o <;> rfl
@[simp] theorem wp_gTp (n : Nat) (gs : GsF) (l : List Val) : (gTp n gs (.tup l) e M).wp N Es = (l.length = n ∧ (gs l e M).wp N Es) := by
  unfold gTp; by_cases h : l.length = n <;> simp [h]
@[simp] theorem wp_gsNil : (gsNil [] e M).wp N Es = N e M := rfl
@[simp] theorem wp_gsCons (g : GF) (gs : GsF) (x : Val) (l : List Val) : (gsCons g gs (x :: l) e M).wp N Es = (g x e M).wp (fun e1 M1 => (gs l e1 M1).wp N Es) Es := by unfold gsCons; simp only [wp_gbind]
@[simp] theorem wp_gSb (fo fi : EF) (x : Val) : (gSb fo fi x e M).wp N Es = (fo e M).wp (fun o M1 => (fi e M1).wp (fun i M2 => ∃ M3, setV o i x M2 = some M3 ∧ N e M3) (fun y M2 => Es y e M2)) (fun y M1 => Es y e M1) := by
  unfold gSb
  cases fo e M with
  | ok o M1 =>
    simp only [wp_ok]
    cases fi e M1 with
    | ok i M2 => simp only [wp_ok]; cases setV o i x M2 <;> simp
    | ex _ _ => rfl
    | bad => rfl
  | ex _ _ => rfl
  | bad => rfl
@[simp] theorem wp_sPar (is : List Nat) (fa : AF) : (sPar is fa e M).wp N R B C Es = (fa e M).wp (fun l M1 => l.length = is.length ∧ N (setAll is l e) M1) (fun x M1 => Es x e M1) := by
  unfold sPar; simp only [wp_toS]; congr 1; funext l M1; by_cases h : l.length = is.length <;> simp [h]
@[simp] theorem setAll_nil (l : List Val) (e : Sl) : setAll [] l e = e := by cases l <;> rfl
@[simp] theorem setAll_cons (i : Nat) (is : List Nat) (x : Val) (l : List Val) (e : Sl) : setAll (i :: is) (x :: l) e = setAll is l (e.set i (some x)) := rfl
@[simp] theorem wp_sAug (i : Nat) (g : Val → Val → Mem → Out Val) (f : EF) : (sAug i g f e M).wp N R B C Es = ∃ x, sget e i = some x ∧ (f e M).wp (fun y M1 => (g x y M1).wp (fun z M2 => N (e.set i (some z)) M2) (fun x M1 => Es x e M1)) (fun x M1 => Es x e M1) := by
  unfold sAug sget
  cases h : e[i]? with
  | none => simp
  | some o => cases o <;> simp [wp_toS]
/-- a def, called -/
@[simp] theorem wp_fnS (np n : Nat) (body : SF) (l : List Val) : (fnS np n body l M).wp Qv E = (l.length = np ∧ (body (l.map some ++ List.replicate (n - np) none) M).wp (fun _ M => Qv .non M) Qv (fun _ _ => False) (fun _ _ => False) (fun x _ M => E x M)) := by
  unfold fnS
  by_cases h : l.length = np
  · rw [if_pos h]
    cases body (l.map some ++ List.replicate (n - np) none) M <;> simp [h]
  · simp [h]
/-! values -/
@[simp] theorem wp_add_ii (i j : Int) : (addV (.int i) (.int j) M).wp Qv E = Qv (.int (i + j)) M := rfl
@[simp] theorem wp_add_tt (a b : List Val) : (addV (.tup a) (.tup b) M).wp Qv E = (a.length + b.length ≤ sizeLine ∧ Qv (.tup (a ++ b)) M) := by unfold addV; simp only [wp_ite, wp_ok]
@[simp] theorem wp_add_ss (a b : Str) : (addV (.str a) (.str b) M).wp Qv E = (a.length + b.length ≤ sizeLine ∧ Qv (.str (a ++ b)) M) := by unfold addV; simp only [wp_ite, wp_ok]
@[simp] theorem wp_add_ll (m n : Nat) : (addV (.loc m) (.loc n) M).wp Qv E = ∃ a b, getL M m = some a ∧ getL M n = some b ∧ a.length + b.length ≤ sizeLine ∧ Qv (.loc M.length) (M ++ [.lst (a ++ b)]) := by
  cases h : getL M m with
  | none => simp [addV, h]
  | some a => cases h' : getL M n with
    | none => simp [addV, h, h']
    | some b => simp [addV, h, h', wp_ite]
@[simp] theorem wp_sub_ii (i j : Int) : (subV (.int i) (.int j) M).wp Qv E = Qv (.int (i - j)) M := rfl
@[simp] theorem wp_mul_ii (i j : Int) : (mulV (.int i) (.int j) M).wp Qv E = ((small64 i || small64 j) = true ∧ Qv (.int (i * j)) M) := by unfold mulV; simp only [wp_ite, wp_ok]
@[simp] theorem wp_mul_li (n : Nat) (k : Int) : (mulV (.loc n) (.int k) M).wp Qv E = ∃ l, getL M n = some l ∧ (-(2 ^ 63) ≤ k ∧ k < 2 ^ 63 ∧ l.length * k.toNat ≤ sizeLine) ∧ Qv (.loc M.length) (M ++ [.lst (List.replicate k.toNat l).flatten]) := by
  cases h : getL M n with
  | none => simp [mulV, h]
  | some a => simp [mulV, h, wp_ite]
@[simp] theorem wp_mul_ti (l : List Val) (k : Int) : (mulV (.tup l) (.int k) M).wp Qv E = ((l ≠ [] ∧ 2 ≤ k ∧ k ≤ 1000 ∧ l.length ≤ 1000) ∧ Qv (.tup (List.replicate k.toNat l).flatten) M) := by unfold mulV; simp only [wp_ite, wp_ok]
@[simp] theorem wp_div_ii (i j : Int) : (divV (.int i) (.int j) M).wp Qv E = ((0 < j ∧ j < 1073741824) ∧ Qv (.int (i / j)) M) := by unfold divV; simp only [wp_ite, wp_ok]
@[simp] theorem wp_mod_ii (i j : Int) : (modV (.int i) (.int j) M).wp Qv E = (0 < j ∧ Qv (.int (i % j)) M) := by unfold modV; simp only [wp_ite, wp_ok]
@[simp] theorem wp_pow_ii (i j : Int) : (powV (.int i) (.int j) M).wp Qv E = ((0 ≤ j ∧ j ≤ 1000000 ∧ i.natAbs < 2 ^ 64) ∧ Qv (.int (i ^ j.toNat)) M) := by unfold powV; simp only [wp_ite, wp_ok]
@[simp] theorem wp_cmp_ii (p : Int → Int → Bool) (i j : Int) : (cmpV p (.int i) (.int j) M).wp Qv E = Qv (.bl (p i j)) M := rfl
@[simp] theorem wp_neg_i (i : Int) : (negV (.int i) M).wp Qv E = Qv (.int (-i)) M := rfl
@[simp] theorem wp_isN (x : Val) : (isN x .non M).wp Qv E = Qv (.bl (isNon x)) M := rfl
@[simp] theorem wp_notN (x : Val) : (notN x .non M).wp Qv E = Qv (.bl (!isNon x)) M := rfl
@[simp] theorem isNon_non : isNon .non = true := rfl
@[simp] theorem isNon_int (i : Int) : isNon (.int i) = false := rfl
@[simp] theorem isNon_tup (l : List Val) : isNon (.tup l) = false := rfl
@[simp] theorem isNon_loc (l : Nat) : isNon (.loc l) = false := rfl
@[simp] theorem isNon_str (l : Str) : isNon (.str l) = false := rfl
@[simp] theorem isNon_bl (l : Bool) : isNon (.bl l) = false := rfl
@[simp] theorem wp_eqV (x y : Val) : (eqV x y M).wp Qv E = ∃ b, eqD x y M = some b ∧ Qv (.bl b) M := by unfold eqV; cases eqD x y M <;> simp
@[simp] theorem wp_neV (x y : Val) : (neV x y M).wp Qv E = ∃ b, eqD x y M = some b ∧ Qv (.bl (!b)) M := by unfold neV; cases eqD x y M <;> simp
@[simp] theorem eqD_ii (i j : Int) : eqD (.int i) (.int j) M = some (decide (i = j)) := rfl
@[simp] theorem eqD_ss (i j : Str) : eqD (.str i) (.str j) M = some (decide (i = j)) := rfl
@[simp] theorem eqD_bb (i j : Bool) : eqD (.bl i) (.bl j) M = some (decide (i = j)) := rfl
@[simp] theorem wp_inV (x y : Val) : (inV x y M).wp Qv E = ∃ b, inD x y M = some b ∧ Qv (.bl b) M := by unfold inV; cases inD x y M <;> simp
@[simp] theorem wp_notInV (x y : Val) : (notInV x y M).wp Qv E = ∃ b, inD x y M = some b ∧ Qv (.bl (!b)) M := by unfold notInV; cases inD x y M <;> simp
/-! subscripts -/
theorem wp_opt {γ : Type} (o : Option γ) (k : γ → Out α) : Out.wp (match o with | some v => k v | none => .bad) Q E = ∃ v, o = some v ∧ (k v).wp Q E := by cases o <;> simp
@[simp] theorem wp_ix_t (l : List Val) (i : Int) : (ixV (.tup l) (.int i) M).wp Qv E = ∃ v, atI l i = some v ∧ Qv v M := by unfold ixV; (repeat' split) <;> simp_all [wp_ite]
@[simp] theorem wp_ix_f (l : List Int) (i : Int) : (ixV (.frz l) (.int i) M).wp Qv E = ∃ v, atI l i = some v ∧ Qv (.int v) M := by unfold ixV; (repeat' split) <;> simp_all [wp_ite]
@[simp] theorem wp_ix_l (n : Nat) (i : Int) : (ixV (.loc n) (.int i) M).wp Qv E = ∃ l, getL M n = some l ∧ ∃ v, atI l i = some v ∧ Qv v M := by unfold ixV; (repeat' split) <;> simp_all [wp_ite]
@[simp] theorem atI_0 {γ : Type} (x : γ) (l : List γ) : atI (x :: l) 0 = some x := atI_nat (j := 0) rfl
@[simp] theorem atI_1 {γ : Type} (x y : γ) (l : List γ) : atI (x :: y :: l) 1 = some y := atI_nat (j := 1) rfl
@[simp] theorem atI_2 {γ : Type} (x y z : γ) (l : List γ) : atI (x :: y :: z :: l) 2 = some z := atI_nat (j := 2) rfl
@[simp] theorem atI_3 {γ : Type} (x y z w : γ) (l : List γ) : atI (x :: y :: z :: w :: l) 3 = some w := atI_nat (j := 3) rfl
theorem atI_ofNat {γ : Type} {l : List γ} {i : Nat} (h : i < l.length) : atI l (i : Int) = some l[i] := atI_nat (List.getElem?_eq_getElem h)
theorem atI_of {γ : Type} {l : List γ} {i : Int} (h0 : 0 ≤ i) (h : i < l.length) : atI l i = some (l[i.toNat]'(by omega)) := by
  have hh : i.toNat < l.length := by omega
  have e : (i.toNat : Int) = i := by omega
  have := atI_ofNat hh
  rw [e] at this
  exact this
@[simp] theorem wp_oNone {Qo : Option Int → Mem → Prop} : (oNone e M).wp Qo E = Qo none M := rfl
@[simp] theorem wp_oSome {Qo : Option Int → Mem → Prop} (f : EF) : (oSome f e M).wp Qo E = (f e M).wp (fun x M1 => ∃ i, x = .int i ∧ Qo (some i) M1) E := by
  unfold oSome; simp only [wp_bind]; congr 1; funext x M1; cases x <;> simp
@[simp] theorem wp_eSl (f : EF) (l h : OF) : (eSl f l h e M).wp Qv E = (f e M).wp (fun x M1 => (l e M1).wp (fun lo M2 => (h e M2).wp (fun hi M3 => (slV x lo hi M3).wp Qv E) E) E) E := by unfold eSl; simp only [wp_bind]
@[simp] theorem wp_sl_t (l : List Val) (lo hi : Option Int) : (slV (.tup l) lo hi M).wp Qv E = Qv (.tup (cutL l lo hi)) M := rfl
@[simp] theorem wp_sl_l (n : Nat) (lo hi : Option Int) : (slV (.loc n) lo hi M).wp Qv E = ∃ l, getL M n = some l ∧ Qv (.loc M.length) (M ++ [.lst (cutL l lo hi)]) := by unfold slV; (repeat' split) <;> simp_all [wp_ite]
/-! built-ins -/
@[simp] theorem wp_len_t (l : List Val) : (lenV [.tup l] M).wp Qv E = Qv (.int l.length) M := rfl
@[simp] theorem wp_len_f (l : List Int) : (lenV [.frz l] M).wp Qv E = Qv (.int l.length) M := rfl
@[simp] theorem wp_len_l (n : Nat) : (lenV [.loc n] M).wp Qv E = ∃ l, getL M n = some l ∧ Qv (.int l.length) M := by unfold lenV; (repeat' split) <;> simp_all [wp_ite]
@[simp] theorem wp_tuple_t (l : List Val) : (tupleV [.tup l] M).wp Qv E = Qv (.tup l) M := rfl
@[simp] theorem wp_tuple_l (n : Nat) : (tupleV [.loc n] M).wp Qv E = ∃ l, getL M n = some l ∧ Qv (.tup l) M := by unfold tupleV; (repeat' split) <;> simp_all [wp_ite]
@[simp] theorem wp_list_t (l : List Val) : (listV [.tup l] M).wp Qv E = Qv (.loc M.length) (M ++ [.lst l]) := rfl
@[simp] theorem wp_list_l (n : Nat) : (listV [.loc n] M).wp Qv E = ∃ l, getL M n = some l ∧ Qv (.loc M.length) (M ++ [.lst l]) := by unfold listV; (repeat' split) <;> simp_all [wp_ite]
@[simp] theorem wp_int_i (i : Int) : (intV [.int i] M).wp Qv E = Qv (.int i) M := rfl
@[simp] theorem wp_int_b (b : Bool) : (intV [.bl b] M).wp Qv E = Qv (.int (if b then 1 else 0)) M := rfl
@[simp] theorem wp_abs (i : Int) : (absV1 [.int i] M).wp Qv E = Qv (.int (if i < 0 then -i else i)) M := rfl
@[simp] theorem wp_max2 (i j : Int) : (max2V [.int i, .int j] M).wp Qv E = Qv (.int (if j > i then j else i)) M := rfl
@[simp] theorem wp_min2 (i j : Int) : (min2V [.int i, .int j] M).wp Qv E = Qv (.int (if j < i then j else i)) M := rfl
@[simp] theorem wp_sorted (n : Nat) : (sortedV [.loc n] M).wp Qv E = ∃ l, (getL M n).bind intsOf = some l ∧ l.length < 64 ∧ Qv (.loc M.length) (M ++ [.lst ((sortI l).map .int)]) := by unfold sortedV; dsimp only; generalize (getL M n).bind intsOf = o; cases o <;> simp [wp_ite]
@[simp] theorem wp_sum (n : Nat) : (sumV [.loc n] M).wp Qv E = ∃ l, (getL M n).bind intsOf = some l ∧ Qv (.int l.sum) M := by unfold sumV; dsimp only; generalize (getL M n).bind intsOf = o; cases o <;> simp [wp_ite]
@[simp] theorem wp_max (n : Nat) : (maxV [.loc n] M).wp Qv E = ∃ l, (getL M n).bind intsOf = some l ∧ 0 < l.length ∧ Qv (.int (maxL l)) M := by unfold maxV; dsimp only; generalize (getL M n).bind intsOf = o; cases o <;> simp [wp_ite]
@[simp] theorem wp_min (n : Nat) : (minV [.loc n] M).wp Qv E = ∃ l, (getL M n).bind intsOf = some l ∧ 0 < l.length ∧ Qv (.int (minL l)) M := by unfold minV; dsimp only; generalize (getL M n).bind intsOf = o; cases o <;> simp [wp_ite]
@[simp] theorem wp_any (n : Nat) : (anyV [.loc n] M).wp Qv E = ∃ l, (getL M n).bind boolsOf = some l ∧ Qv (.bl (l.any id)) M := by unfold anyV; dsimp only; generalize (getL M n).bind boolsOf = o; cases o <;> simp [wp_ite]
@[simp] theorem wp_all (n : Nat) : (allV [.loc n] M).wp Qv E = ∃ l, (getL M n).bind boolsOf = some l ∧ Qv (.bl (l.all id)) M := by unfold allV; dsimp only; generalize (getL M n).bind boolsOf = o; cases o <;> simp [wp_ite]
@[simp] theorem wp_eLr1 (f : EF) : (eLr1 f e M).wp Qv E = (f e M).wp (fun x M1 => ∃ n, x = .int n ∧ (-(2 ^ 62) ≤ n ∧ n < 2 ^ 62 ∧ n.toNat ≤ 2 ^ 24) ∧ Qv (.loc M1.length) (M1 ++ [.lst (rangeL 0 n)])) E := by
  unfold eLr1; simp only [wp_bind]; congr 1; funext x M1; cases x <;> simp [wp_ite]
@[simp] theorem wp_eIsi (ts : List Bt) (f : EF) : (eIsi ts f e M).wp Qv E = (f e M).wp (fun x M1 => (tyN x M1).isSome = true ∧ Qv (.bl (ts.any fun t => isT x t)) M1) E := by
  unfold eIsi; simp only [wp_bind]; congr 1; funext x M1; unfold isiV; cases tyN x M1 <;> simp
@[simp] theorem tyN_int (i : Int) : tyN (.int i) M = some "int" := rfl
@[simp] theorem tyN_tup (i : List Val) : tyN (.tup i) M = some "tuple" := rfl
@[simp] theorem tyN_bl (i : Bool) : tyN (.bl i) M = some "bool" := rfl
@[simp] theorem tyN_non : tyN .non M = some "NoneType" := rfl
@[simp] theorem tyN_str (i : Str) : tyN (.str i) M = some "str" := rfl
@[simp] theorem tyN_loc (n : Nat) : (tyN (.loc n) M).isSome = (getL M n).isSome := by unfold tyN; dsimp only; cases getL M n <;> rfl
/-! methods -/
@[simp] theorem wp_eMt (T : String) (g : MtF) (fo : EF) (fa : AF) : (eMt T g fo fa e M).wp Qv E = (fo e M).wp (fun x M1 => isTyM T x M1 = true ∧ (fa e M1).wp (fun l M2 => (g x l M2).wp Qv E) E) E := by unfold eMt; simp only [wp_bind, wp_ite]
@[simp] theorem isTyM_l (n : Nat) : isTyM "list" (.loc n) M = (getL M n).isSome := by simp [isTyM]
@[simp] theorem wp_append (n : Nat) (y : Val) : (appendV (.loc n) [y] M).wp Qv E = ∃ xs, getL M n = some xs ∧ xs.length < sizeLine ∧ Qv .non (M.set n (.lst (xs ++ [y]))) := by unfold appendV; dsimp only; generalize getL M n = o; cases o <;> simp [wp_ite]
@[simp] theorem wp_extend (n m : Nat) : (extendV (.loc n) [.loc m] M).wp Qv E = ∃ xs ys, getL M n = some xs ∧ getL M m = some ys ∧ xs.length + ys.length ≤ sizeLine ∧ Qv .non (M.set n (.lst (xs ++ ys))) := by
  cases h : getL M n with
  | none => simp [extendV, h]
  | some a => cases h' : getL M m with
    | none => simp [extendV, h, h']
    | some b => simp [extendV, h, h', wp_ite]
@[simp] theorem wp_pop (n : Nat) : (popV (.loc n) [] M).wp Qv E = ∃ xs, getL M n = some xs ∧ ∃ y, xs[xs.length - 1]? = some y ∧ Qv y (M.set n (.lst xs.dropLast)) := by unfold popV; (repeat' split) <;> simp_all [wp_ite]
@[simp] theorem wp_popAt (n : Nat) (i : Int) : (popAtV (.loc n) [.int i] M).wp Qv E = ∃ xs, getL M n = some xs ∧ (-(2 ^ 63) ≤ i ∧ i < 2 ^ 63) ∧ ∃ k, ixN xs.length i = some k ∧ ∃ y, xs[k]? = some y ∧ Qv y (M.set n (.lst (xs.eraseIdx k))) := by
  cases h : getL M n with
  | none => simp [popAtV, h]
  | some xs => cases hk : ixN xs.length i with
    | none => simp [popAtV, h, hk, wp_ite]
    | some k => cases hy : xs[k]? <;> simp [popAtV, h, hk, hy, wp_ite]
@[simp] theorem wp_ar (h : Int → Int → Int) (i j : Int) : (arI h (.int i) (.int j) M).wp Qv E = Qv (.int (h i j)) M := rfl
end
/-! the memory -/
theorem getL_append_new (M : Mem) (l : List Val) : getL (M ++ [.lst l]) M.length = some l := by simp [getL]
theorem getL_append {M : Mem} {c : Cell} {n : Nat} {l : List Val} (h : getL M n = some l) : getL (M ++ [c]) n = some l := by
  have h' := getL_ok h
  have hl := (List.getElem?_eq_some_iff.mp h').1
  unfold getL
  rw [List.getElem?_append_left hl, h']
theorem getL_lt {M : Mem} {n : Nat} {l : List Val} (h : getL M n = some l) : n < M.length := (List.getElem?_eq_some_iff.mp (getL_ok h)).1
theorem getL_set {M : Mem} {n : Nat} {l l' : List Val} (h : getL M n = some l) : getL (M.set n (.lst l')) n = some l' := by
  unfold getL
  rw [List.getElem?_set_self (getL_lt h)]
theorem getL_set_ne {M : Mem} {n m : Nat} {c : Cell} (h : m ≠ n) : getL (M.set n c) m = getL M m := by
  unfold getL
  rw [List.getElem?_set_ne (Ne.symm h)]
theorem getL_pre {M M' : Mem} {n : Nat} {l : List Val} (p : M <+: M') (h : getL M n = some l) : getL M' n = some l := by
  obtain ⟨t, rfl⟩ := p
  have h' := getL_ok h
  have hl := (List.getElem?_eq_some_iff.mp h').1
  unfold getL
  rw [List.getElem?_append_left hl, h']
theorem pre_append {M M' : Mem} (p : M <+: M') (t : List Cell) : M <+: M' ++ t := p.trans (List.prefix_append _ _)
theorem pre_set {M M' : Mem} {n : Nat} {c : Cell} (p : M <+: M') (h : M.length ≤ n) : M <+: M'.set n c := by
  obtain ⟨t, rfl⟩ := p
  refine ⟨t.set (n - M.length) c, ?_⟩
  rw [List.set_append_right _ _ h]
theorem pre_len {M M' : Mem} (p : M <+: M') : M.length ≤ M'.length := p.length_le
end Sm

namespace Sm
open PySem L2 PySem.Spec PyProof.Rows
/-! facts of classes -/
def isTB (K : PySem.W.Frag) (tb : List (Str × Bool)) (cv : Value) : Bool := tb.all fun p => excCB K p.1 && decide (PySem.W.kitOne K (.ref (He.ga K p.1)) cv = some p.2)
def IsT (K : PySem.W.Frag) (tb : List (Str × Bool)) (cv : Value) : Prop := ∀ p ∈ tb, ExcC K (He.ga K p.1) ∧ PySem.W.kitOne K (.ref (He.ga K p.1)) cv = some p.2
theorem isTB_ok {K : PySem.W.Frag} {tb : List (Str × Bool)} {cv : Value} (h : isTB K tb cv = true) : IsT K tb cv := fun p hp => by
  obtain ⟨h1, h2⟩ := He.ba (List.all_eq_true.mp h p hp)
  exact ⟨excCB_ok h1, of_decide_eq_true h2⟩
def exmTB (K : PySem.W.Frag) (cs : List Str) (cv : Value) : Bool := cs.all fun C => decide (PySem.W.exmOne K (.ref (He.ga K C)) cv = some true)
def ExmT (K : PySem.W.Frag) (cs : List Str) (cv : Value) : Prop := ∀ C ∈ cs, PySem.W.exmOne K (.ref (He.ga K C)) cv = some true
theorem exmTB_ok {K : PySem.W.Frag} {cs : List Str} {cv : Value} (h : exmTB K cs cv = true) : ExmT K cs cv := fun C hC => of_decide_eq_true (List.all_eq_true.mp h C hC)
def fldTB (K : PySem.W.Frag) (cs : List Str) (n : Str) : Bool := cs.all fun C => excCB K C && He.eqO (PySem.W.findIn K (.ref (He.ga K C)) n) (some none)
def FldT (K : PySem.W.Frag) (cs : List Str) (n : Str) : Prop := ∀ C ∈ cs, ExcC K (He.ga K C) ∧ PySem.W.findIn K (.ref (He.ga K C)) n = some none
theorem fldTB_ok {K : PySem.W.Frag} {cs : List Str} {n : Str} (h : fldTB K cs n = true) : FldT K cs n := fun C hC => by
  obtain ⟨h1, h2⟩ := He.ba (List.all_eq_true.mp h C hC)
  exact ⟨excCB_ok h1, He.eqO_ok h2⟩
abbrev Exc0 (K : PySem.W.Frag) (x : Str) : Prop := PySem.W.excIn K (He.ga K x) He.veBase "ValueError.__new__" = true ∧ PySem.W.keepIn K (.ref (He.ga K x)) = true ∧ PySem.W.subIn K (.ref (He.ga K x)) (.type "BaseException") = some true ∧ PySem.W.typeIn K (.ref (He.ga K x)) = some (.type "type")
/-! a class's j-th statement -/
def clsSt (s : Stmt) (j : Nat) : Stmt := match s with
  | .ClassDef _ _ _ body _ _ _ _ _ _ _ => body.getD j (.Pass ⟨0, 0, 0, 0⟩)
  | _ => .Pass ⟨0, 0, 0, 0⟩
/-! a def whose code object is known -/
section
variable [LT] [WB] {P : Program} {w : World} {K : PySem.W.Frag} {mg : Str → Option Value} {base : Heap} {x qual : Str} {params : Arguments} {body : List Stmt} {scope : Scope} {kws : List (Str × V)} {fd : FuncData} {p : Str × Option Str}
theorem fok_ofC {dvs : List V} {N ps : List Str} {k : Nat} {fb : SF} (F : FunD K x qual params body scope dvs kws (He.fAd K p) fd) (S : FnScope N ps scope)
    (hb : ∀ (A : Around) (outer : List Env) (s : Shared) (H : Hp) (E : XK), Room k (A.deeper (envOfC qual scope s.heap.objs.size (He.fAd K p) (.ref (He.codeOf K p)))) →
      SSs (cxOf (L2.CX P w) P w K mg base N qual scope (He.fAd K p) (.ref (He.codeOf K p)) A outer s H E) (fun c d _ H => E c d H) body fb) : FOk P w K mg base (k + 1) (He.fAd K p) fd ps (fnS ps.length N.length fb) := by
  obtain ⟨oc, od, dV, kV, doc, pm, an, cdv, ct, osl, rfl, lk, hcd, _, _⟩ := F.ex
  obtain ⟨c, rfl⟩ := He.codeIn_ref hcd
  have ec : He.codeOf K p = c := He.codeOf_eq lk rfl
  refine fn_of (sp := spS K ps.length (fnS ps.length N.length fb)) lk hcd S (fun vs H Q E ⟨ρ, M, l, R, r, hl, p⟩ => by rw [r.length]; exact hl) fun A outer s H vs Q E hr hsp => ?_
  obtain ⟨ρ, M, l, R, r, hl, p⟩ := hsp
  have act := hb A outer s H E (by rw [ec]; exact hr)
  rw [ec] at act
  refine ⟨_, act.pss, ρ, _, M, R, SlR.start r hl, ?_⟩
  unfold fnS at p
  rw [if_pos hl] at p
  show PoS K ρ H _ _ (fb (l.map some ++ List.replicate (N.length - ps.length) none) M)
  cases hf : fb (l.map some ++ List.replicate (N.length - ps.length) none) M with
  | nx e1 M1 => rw [hf] at p; exact fun ρ' H' σ' E' R' S' => p ρ' H' .non E' R' rfl
  | rt v M1 => rw [hf] at p; exact p
  | ex y e1 M1 => rw [hf] at p; exact fun ρ' H' σ' c d E' R' S' q => p ρ' H' c d E' R' q
  | bk _ _ => rw [hf] at p; exact p.elim
  | ct _ _ => rw [hf] at p; exact p.elim
  | bad => rw [hf] at p; exact p.elim
theorem cal_ofC {N ps : List Str} {k : Nat} {fb : SF} (F : FunD K x qual params body scope [] kws (He.fAd K p) fd) (hm : mg x = some (.ref (He.fAd K p))) (S : FnScope N ps scope)
    (hbind : ∀ (kV doc pm : Value) (an : Option Addr) (cdv ct : Value) (us : List Value), us.length = ps.length → bindArgs (PySem.W.fnOf x qual params body scope .none kV doc pm an cdv ct) ⟨us, []⟩ = pure (ps.zip us))
    (hb : ∀ (A : Around) (outer : List Env) (s : Shared) (H : Hp) (E : XK), Room k (A.deeper (envOfC qual scope s.heap.objs.size (He.fAd K p) (.ref (He.codeOf K p)))) →
      SSs (cxOf (L2.CX P w) P w K mg base N qual scope (He.fAd K p) (.ref (He.codeOf K p)) A outer s H E) (fun c d _ H => E c d H) body fb) : Cal P w K mg base x (k + 1) ps.length (fnS ps.length N.length fb) :=
  ⟨_, fd, ps, rfl, fok_ofC F S hb, hm, F.kp, F.bindsN hbind⟩
end
/-- a def's table and its lambdas' name are told -/
structure LamD [LT] (K : PySem.W.Frag) (mg : Str → Option Value) (base : Heap) (p : Str × Option Str) (q : Str) : Prop where
  tb : LamX.TabB base mg (He.codeOf K p) (He.tabOf K (He.codeOf K p))
  mem : (He.tabOf K (He.codeOf K p), q) ∈ LT.T
  uniq : ∀ z ∈ LT.T, z.1 = He.tabOf K (He.codeOf K p) → z.2 = q
end Sm
namespace He
open PySem PySem.Spec PyProof.Rows L2
/-! the head's Hook, with some addresses more -/
section
variable {n : Nat} {xs : List Addr} {fa : List Fa} {fn : List DefD} {ts : List Tab} {tf : List Defn} {ex : PySem.W.Frag → Bool}
def asY (xs : List Addr) (g : Addr → Option Obj) (n : Nat) : List Addr := asD g n ++ xs
def obsY (n : Nat) (xs : List Addr) (fa : List Fa) (fn : List DefD) (ts : List Tab) (tf : List Defn) (ex : PySem.W.Frag → Bool) (g : Addr → Option Obj) : AlX := (obsT fa fn ts (frT g (asY xs g n)), ex (frT g (asY xs g n)) && tabsB g tf (frT g (asY xs g n)))
theorem saysY_of {w : World} {h : Heap} (e : obsY n xs fa fn ts tf ex h.get? = valX fn ts w) : SaysX fa fn ts tf ex w h (frT h.get? (asY xs h.get? n)) := by
  have e1 : obsT fa fn ts (frT h.get? (asY xs h.get? n)) = valT fn ts w := congrArg (fun z : AlX => z.1) e
  have e2 : (ex (frT h.get? (asY xs h.get? n)) && tabsB h.get? tf (frT h.get? (asY xs h.get? n))) = true := congrArg (fun z : AlX => z.2) e
  obtain ⟨h1, h2⟩ := ba e2
  have key : ∀ p ∈ tf, PySem.W.codeHdIn (frT h.get? (asY xs h.get? n)) (cT (frT h.get? (asY xs h.get? n)) p).1 (cT (frT h.get? (asY xs h.get? n)) p).2 = true ∧ ∃ o, h.get? (cT (frT h.get? (asY xs h.get? n)) p).2 = some o ∧ emptyTab o = true := fun p hp => by
    obtain ⟨h3, h4⟩ := ba (List.all_eq_true.mp h2 p hp)
    refine ⟨h3, ?_⟩
    cases q : h.get? (cT (frT h.get? (asY xs h.get? n)) p).2 with
    | none =>
      rw [q] at h4
      cases h4
    | some o =>
      rw [q] at h4
      exact ⟨o, rfl, h4⟩
  exact ⟨e1, h1, fun p hp => (key p hp).1, fun p hp => by
    obtain ⟨_, o, q, z⟩ := key p hp
    exact frT_none q z, fun p hp => by
    obtain ⟨_, o, q, z⟩ := key p hp
    rw [q, emptyTab_eq z]⟩
def hookY (n : Nat) (xs : List Addr) (fa : List Fa) (fn : List DefD) (ts : List Tab) (tf : List Defn) (ex : PySem.W.Frag → Bool) : PySem.W.Hook where
  α := AlX
  obs := fun s => obsY n xs fa fn ts tf ex s.heap.get?
  val := fun w => valX fn ts w
  says := fun w h => ∃ K : PySem.W.Frag, K.In h ∧ SaysX fa fn ts tf ex w h K
  of := fun _ _ e => ⟨_, frT_in, saysY_of e⟩
  keeps := fun _ _ _ ⟨K, hK, c⟩ k => ⟨K, PySem.W.Frag.In.keeps hK k, ⟨c.t, c.more, c.hd, c.out, fun p hp => k _ _ (c.empty p hp)⟩⟩
theorem obsY_eq {g : Addr → Option Obj} {s : Shared} (h : ∀ a, g a = s.heap.get? a) : obsY n xs fa fn ts tf ex g = (hookY n xs fa fn ts tf ex).obs s := by
  have e : g = s.heap.get? := funext h
  rw [e] <;> rfl
end
end He

namespace L2
open PySem PySem.Spec PyProof.Rows
/-! enumerate(zip(a, b)), a and b tuples: the zip's pair stays out -/
abbrev ZipOb (h : Heap) (z TI TO : Addr) (f0 : Value) (f : Bool) : Prop := h.get? z = some { cls := .type "zip", dict := none, data := .fields #[f0, .bool f, .bool false, .ref TI, .ref TO], slots := #[] }
structure ZSt (z TI TO i1 i2 a b : Addr) (i : Nat) (h : Heap) : Prop where
  hz : ∃ (f0 : Value) (f : Bool), (f0 = .none ∨ ∃ T : Addr, f0 = rawInt T) ∧ ZipOb h z TI TO f0 f
  hTI : IsPair h TI (.ref i1) (.ref i2)
  hTO : ∃ x y, IsPair h TO x y
  h1 : h.IsTupleIter i1 a i
  h2 : h.IsTupleIter i2 b i
section
variable {prog : Program} {w : World} {A : Around} {E : Value → Shared → Prop} {s : Shared} {z TI TO i1 i2 a b : Addr} {i : Nat} {xs ys : Array Value} {x y : Value}
theorem alive_is {T : Addr} {Q : Option Obj → Shared → Prop} (h : Q (s.heap.get? T) s) : wpAny (model prog w) A (loadIfAlive T) Q E s := fun _ _ _ => h
theorem zip_free {f0 : Value} {f : Bool} {Q : Bool → Shared → Prop} (hz : ZipOb s.heap z TI TO f0 f) (h0 : f0 = .none ∨ ∃ T : Addr, f0 = rawInt T) (yes : Q true s)
    (no : ∀ h', ZipOb h' z TI TO f0 true → Heap.SameBut z s.heap h' → Q false { s with heap := h' }) : wpAny (model prog w) A (Builtin.SmallTypes.ownedTupleIsFree (.ref z)) Q E s := by
  unfold Builtin.SmallTypes.ownedTupleIsFree
  refine wpAny_bind (wpAny_field hz rfl (x := f0) rfl ?_)
  rcases h0 with rfl | ⟨T, rfl⟩
  · exact wpAny_pure yes
  · show wpAny _ _ (loadIfAlive ((T : Int).toNat) >>= _) _ _ _
    rw [Int.toNat_natCast]
    refine wpAny_bind (alive_is ?_)
    cases hT : s.heap.get? T with
    | none =>
      simp only [Option.isNone_none, if_true]
      exact wpAny_pure yes
    | some o =>
      simp only [Option.isNone_some, Bool.false_eq_true, if_false]
      refine wpAny_bind (wpAny_field hz rfl (x := .bool f) rfl ?_)
      cases f with
      | true =>
        rw [if_neg (show ¬ ((Value.bool true != Value.bool true) = true) from Bool.false_ne_true)]
        exact wpAny_pure (no s.heap hz (Heap.SameBut.refl _ _))
      | false =>
        rw [if_pos (show (Value.bool false != Value.bool true) = true from rfl)]
        exact wpAny_bind (wpAny_setField_rec hz (by simp) fun h₁ hz₁ hs₁ => wpAny_pure (no h₁ hz₁ hs₁))
theorem zipT_nextOf {Q : Value → Shared → Prop} (D : ZipApart z TI TO i1 i2 a b) (st : ZSt z TI TO i1 i2 a b i s.heap) (pa : s.heap.IsTuple a xs) (pb : s.heap.IsTuple b ys) (hx : xs[i]? = some x) (hy : ys[i]? = some y)
    (hQ : ∀ h', ZSt z TI TO i1 i2 a b (i + 1) h' → IsPair h' s.heap.objs.size x y → h'.objs.size = s.heap.objs.size + 1 → (∀ c o, c ≠ z → c ≠ TO → c ≠ i1 → c ≠ i2 → s.heap.get? c = some o → h'.get? c = some o) → Q (.ref s.heap.objs.size) { s with heap := h' }) :
    wpAny (model prog w) A (Builtin.SmallTypes.nextOf (.ref z)) Q E s := by
  obtain ⟨⟨f0, f, h0, hz⟩, hTI, ⟨u, v, hTO⟩, h1, h2⟩ := st
  have hT : s.TypeIs (.ref z) "zip" := ⟨_, hz, rfl⟩
  unfold Builtin.SmallTypes.nextOf
  refine wpAny_bind (wpAny_callSpecial?_slot (name := Str.ofString "__next__") hT F.slot_zip_next
    (wpAny_call_entry F.slot_zip_next hT F.entry_zip_next ?_ (F.args_zip_next_1 _)))
  show wpAny _ _ (field (.ref z) 2 >>= _) _ _ _
  refine wpAny_bind (wpAny_field hz rfl (x := .bool false) rfl ?_)
  show wpAny _ _ (field (.ref z) 3 >>= _) _ _ _
  refine wpAny_bind (wpAny_field hz rfl (x := .ref TI) rfl ?_)
  refine wpAny_bind (wpAny_seqItems hTI rfl ?_)
  show wpAny _ _ (Builtin.SmallTypes.ownedTupleIsFree (.ref z) >>= _) _ _ _
  refine wpAny_bind (zip_free hz h0 ?_ fun h₁ hz₁ hs₁ => ?_)
  · simp only [if_true]
    obtain ⟨hp, g, d, tk, os⟩ := s
    refine wpAny_bind (wpAny_rule ?_)
    refine wpAny_bind (wpAny_field hz rfl (x := .ref TO) rfl ?_)
    refine wpAny_bind (wpAny_setField_rec hz (by simp) fun g0 hz0 hs0 => ?_)
    replace hz0 : ZipOb g0 z TI TO .ellipsis f := hz0
    replace hs0 : Heap.SameBut z hp g0 := hs0
    refine wpAny_bind ?_
    simp only [List.zipIdx_cons, List.zipIdx_nil, List.forIn_cons, List.forIn_nil]
    refine wpAny_bind (wpAny_bind (wpAny_onRaise ?_))
    show wpAny _ _ (Builtin.SmallTypes.nextOf (.ref i1) >>= _) _ _ ⟨g0, g, d, tk, os⟩
    refine wpAny_bind (wpAny_nextOf_tuple_item (s := ⟨g0, g, d, tk, os⟩) (h1.extBut hs0.extBut D.i1z) (pa.extBut hs0.extBut D.l1z) hx fun p1 hi1 hp1 => wpAny_pure ?_)
    replace hp1 : Heap.SameBut i1 g0 p1 := hp1
    have hU1 : IsTupOf2 p1 TO u v := hp1.extBut _ _ D.TOi1 (hs0.extBut _ _ D.TOz hTO)
    refine wpAny_bind (wpAny_seqItems (s := ⟨p1, g, d, tk, os⟩) hU1 rfl ?_)
    refine wpAny_bind (updateSeq_IsTupOf2 (s := ⟨p1, g, d, tk, os⟩) hU1 fun g1 hT1 hs1 => ?_)
    replace hT1 : IsTupOf2 g1 TO x v := hT1
    replace hs1 : Heap.SameBut TO p1 g1 := hs1
    refine wpAny_bind (wpAny_letGo (wpAny_pure ?_))
    refine wpAny_bind (wpAny_bind (wpAny_onRaise ?_))
    show wpAny _ _ (Builtin.SmallTypes.nextOf (.ref i2) >>= _) _ _ ⟨g1, g, d, tk, os⟩
    refine wpAny_bind (wpAny_nextOf_tuple_item (s := ⟨g1, g, d, tk, os⟩) (((h2.extBut hs0.extBut D.i2z).extBut hp1.extBut D.i12.symm).extBut hs1.extBut D.TOi2.symm) (((pb.extBut hs0.extBut D.l2z).extBut hp1.extBut D.l2i1).extBut hs1.extBut D.l2TO) hy fun p2 hi2 hp2 => wpAny_pure ?_)
    replace hp2 : Heap.SameBut i2 g1 p2 := hp2
    have hU2 : IsTupOf2 p2 TO x v := hp2.extBut _ _ D.TOi2 hT1
    refine wpAny_bind (wpAny_seqItems (s := ⟨p2, g, d, tk, os⟩) hU2 rfl ?_)
    refine wpAny_bind (updateSeq_IsTupOf2 (s := ⟨p2, g, d, tk, os⟩) hU2 fun g2 hT2 hs2 => ?_)
    replace hT2 : IsTupOf2 g2 TO x y := hT2
    replace hs2 : Heap.SameBut TO p2 g2 := hs2
    refine wpAny_bind (wpAny_letGo (wpAny_pure (wpAny_pure ?_)))
    refine wpAny_bind (wpAny_seqItems (s := ⟨g2, g, d, tk, os⟩) hT2 rfl ?_)
    refine wpAny_bind (wpAny_newTuple ?_)
    have hsz : g2.objs.size = hp.objs.size := by rw [hs2.1, hp2.1, hs1.1, hp1.1, hs0.1]
    have hzz : ZipOb g2 z TI TO .ellipsis f := (hs2.extBut _ _ D.TOz.symm (hp2.extBut _ _ D.i2z.symm (hs1.extBut _ _ D.TOz.symm (hp1.extBut _ _ D.i1z.symm hz0))))
    have hkk : ∀ c o, c ≠ z → c ≠ TO → c ≠ i1 → c ≠ i2 → hp.get? c = some o → g2.get? c = some o := fun c o cz cT c1 c2 e =>
      (hs2.extBut _ _ cT (hp2.extBut _ _ c2 (hs1.extBut _ _ cT (hp1.extBut _ _ c1 (hs0.extBut _ _ cz e)))))
    have hj1 : g2.IsTupleIter i1 a (i + 1) := ((hi1.extBut hs1.extBut D.TOi1.symm).extBut hp2.extBut D.i12).extBut hs2.extBut D.TOi1.symm
    have hj2 : g2.IsTupleIter i2 b (i + 1) := hi2.extBut hs2.extBut D.TOi2.symm
    have hzlt : z < g2.objs.size := Heap.lt_size hzz
    show wpAny _ _ (Builtin.SmallTypes.ownedTupleHandOut (.ref z) (.ref g2.objs.size) >>= _) _ _ ⟨g2.push { cls := .type "tuple", data := .seq #[x, y] }, g, d, tk, os⟩
    refine wpAny_bind ?_
    unfold Builtin.SmallTypes.ownedTupleHandOut
    have hz₆ : ZipOb (g2.push { cls := .type "tuple", data := .seq #[x, y] }) z TI TO .ellipsis f := Heap.get?_push_of_some _ hzz
    refine wpAny_bind (wpAny_setField_rec hz₆ (by simp) fun h₇ hz₇ hs₇ => ?_)
    replace hz₇ : ZipOb h₇ z TI TO (rawInt g2.objs.size) f := hz₇
    refine wpAny_setField_rec hz₇ (by simp) fun h₈ hz₈ hs₈ => ?_
    replace hz₈ : ZipOb h₈ z TI TO (rawInt g2.objs.size) false := hz₈
    replace hs₇ : Heap.SameBut z (g2.push { cls := .type "tuple", data := .seq #[x, y] }) h₇ := hs₇
    replace hs₈ : Heap.SameBut z h₇ h₈ := hs₈
    have up : ∀ c o, c ≠ z → g2.get? c = some o → h₈.get? c = some o := fun c o c1 e => hs₈.extBut _ _ c1 (hs₇.extBut _ _ c1 (Heap.get?_push_of_some _ e))
    have hT₈ : IsTupOf2 h₈ g2.objs.size x y := hs₈.extBut _ _ (Nat.ne_of_gt hzlt) (hs₇.extBut _ _ (Nat.ne_of_gt hzlt) (Heap.get?_push_size _ rfl))
    have hz8 : h₈.objs.size = g2.objs.size + 1 := by rw [hs₈.1, hs₇.1, Heap.size_push]
    refine wpAny_pure ⟨_, rfl, ?_⟩
    have stN : ZSt z TI TO i1 i2 a b (i + 1) h₈ := ⟨⟨_, _, .inr ⟨_, rfl⟩, hz₈⟩, up _ _ D.TIz (hkk _ _ D.TIz D.TITO D.TIi1 D.TIi2 hTI), ⟨x, y, up _ _ D.TOz hT2⟩, hj1.at fun o e => up _ _ D.i1z e, hj2.at fun o e => up _ _ D.i2z e⟩
    show wpAny _ _ (pure (Value.ref g2.objs.size)) _ _ ⟨h₈, g, d, tk, os⟩
    rw [hsz] at hT₈ hz8 ⊢
    exact wpAny_pure (hQ h₈ stN hT₈ hz8 fun c o cz cT c1 c2 e => up c o cz (hkk c o cz cT c1 c2 e))
  · simp only [Bool.false_eq_true, if_false]
    refine wpAny_bind ?_
    rw [← Array.forIn_toList]
    simp only [List.forIn_cons, List.forIn_nil]
    refine wpAny_bind (wpAny_bind (wpAny_holding ?_))
    show wpAny _ _ (Builtin.SmallTypes.nextOf (.ref i1) >>= _) _ _ _
    refine wpAny_bind (wpAny_nextOf_tuple_item (s := { s with heap := h₁ }) (h1.extBut hs₁.extBut D.i1z) (pa.extBut hs₁.extBut D.l1z) hx fun h₂ h1₂ hs₂ => wpAny_pure ?_)
    refine wpAny_pure ?_
    refine wpAny_bind (wpAny_bind (wpAny_holding ?_))
    show wpAny _ _ (Builtin.SmallTypes.nextOf (.ref i2) >>= _) _ _ _
    refine wpAny_bind (wpAny_nextOf_tuple_item (s := { s with heap := h₂ }) ((h2.extBut hs₁.extBut D.i2z).extBut hs₂.extBut D.i12.symm) ((pb.extBut hs₁.extBut D.l2z).extBut hs₂.extBut D.l2i1) hy fun h₃ h2₃ hs₃ => wpAny_pure ?_)
    refine wpAny_pure (wpAny_pure ?_)
    show wpAny _ _ (newTuple [x, y] >>= _) _ _ _
    refine wpAny_bind (wpAny_newTuple ?_)
    have hsz : h₃.objs.size = s.heap.objs.size := by rw [hs₃.1, hs₂.1, hs₁.1]
    have hz₃ : ZipOb h₃ z TI TO f0 true := hs₃.extBut _ _ D.i2z.symm (hs₂.extBut _ _ D.i1z.symm hz₁)
    have hk : ∀ c o, c ≠ z → c ≠ i1 → c ≠ i2 → s.heap.get? c = some o → h₃.get? c = some o := fun c o c1 c2 c3 e => hs₃.extBut _ _ c3 (hs₂.extBut _ _ c2 (hs₁.extBut _ _ c1 e))
    have h1₃ : h₃.IsTupleIter i1 a (i + 1) := h1₂.extBut hs₃.extBut D.i12
    refine wpAny_pure ⟨_, rfl, ?_⟩
    have hp : IsPair (h₃.push { cls := .type "tuple", data := .seq #[x, y] }) h₃.objs.size x y := Heap.get?_push_size _ rfl
    have hz4 : (h₃.push { cls := .type "tuple", data := .seq #[x, y] }).objs.size = h₃.objs.size + 1 := Heap.size_push ..
    have up : ∀ c o, h₃.get? c = some o → (h₃.push { cls := .type "tuple", data := .seq #[x, y] }).get? c = some o := fun c o e => Heap.get?_push_of_some _ e
    have stN : ZSt z TI TO i1 i2 a b (i + 1) (h₃.push { cls := .type "tuple", data := .seq #[x, y] }) := ⟨⟨_, _, h0, up _ _ hz₃⟩, up _ _ (hk _ _ D.TIz D.TIi1 D.TIi2 hTI), ⟨u, v, up _ _ (hk _ _ D.TOz D.TOi1 D.TOi2 hTO)⟩, h1₃.at fun o e => up _ _ e, h2₃.at fun o e => up _ _ e⟩
    show wpAny _ _ (pure (Value.ref h₃.objs.size)) _ _ _
    rw [hsz] at hp hz4 ⊢
    exact wpAny_pure (hQ _ stN hp hz4 fun c o c1 _ c2 c3 e => up _ _ (hk c o c1 c2 c3 e))
theorem zipT_nextEnd {Q : Value → Shared → Prop} (hh : A.handled = none) (D : ZipApart z TI TO i1 i2 a b) (st : ZSt z TI TO i1 i2 a b i s.heap) (pa : s.heap.IsTuple a xs) (hx : xs[i]? = none)
    (hE : ∀ h' e, (∀ c o, c ≠ z → c ≠ TO → c ≠ i1 → c ≠ i2 → s.heap.get? c = some o → h'.get? c = some o) → (∃ o, h'.get? e = some o ∧ o.cls = .type "StopIteration") → E (.ref e) { s with heap := h' }) :
    wpAny (model prog w) A (Builtin.SmallTypes.nextOf (.ref z)) Q E s := by
  obtain ⟨⟨f0, f, h0, hz⟩, hTI, ⟨u, v, hTO⟩, h1, h2⟩ := st
  have hT : s.TypeIs (.ref z) "zip" := ⟨_, hz, rfl⟩
  unfold Builtin.SmallTypes.nextOf
  refine wpAny_bind (wpAny_callSpecial?_slot (name := Str.ofString "__next__") hT F.slot_zip_next
    (wpAny_call_entry F.slot_zip_next hT F.entry_zip_next ?_ (F.args_zip_next_1 _)))
  show wpAny _ _ (field (.ref z) 2 >>= _) _ _ _
  refine wpAny_bind (wpAny_field hz rfl (x := .bool false) rfl ?_)
  show wpAny _ _ (field (.ref z) 3 >>= _) _ _ _
  refine wpAny_bind (wpAny_field hz rfl (x := .ref TI) rfl ?_)
  refine wpAny_bind (wpAny_seqItems hTI rfl ?_)
  show wpAny _ _ (Builtin.SmallTypes.ownedTupleIsFree (.ref z) >>= _) _ _ _
  refine wpAny_bind (zip_free hz h0 ?_ fun h₁ hz₁ hs₁ => ?_)
  · simp only [if_true]
    obtain ⟨hp, g, d, tk, os⟩ := s
    refine wpAny_bind (wpAny_rule ?_)
    refine wpAny_bind (wpAny_field hz rfl (x := .ref TO) rfl ?_)
    refine wpAny_bind (wpAny_setField_rec hz (by simp) fun g0 hz0 hs0 => ?_)
    replace hz0 : ZipOb g0 z TI TO .ellipsis f := hz0
    replace hs0 : Heap.SameBut z hp g0 := hs0
    refine wpAny_bind ?_
    simp only [List.zipIdx_cons, List.zipIdx_nil, List.forIn_cons, List.forIn_nil]
    refine wpAny_bind (wpAny_bind (wpAny_onRaise ?_))
    show wpAny _ _ (Builtin.SmallTypes.nextOf (.ref i1) >>= _) _ _ ⟨g0, g, d, tk, os⟩
    refine wpAny_bind (wpAny_nextOf_tuple_end (s := ⟨g0, g, d, tk, os⟩) hh (h1.extBut hs0.extBut D.i1z) (pa.extBut hs0.extBut D.l1z) hx fun q e hq he => ?_)
    replace hq : Heap.ExtBut i1 g0 q := hq
    obtain ⟨oe, hoe, hce⟩ := he
    replace hoe : q.get? e = some oe := hoe
    have hzq : ZipOb q z TI TO .ellipsis f := hq _ _ D.i1z.symm hz0
    have hez : e ≠ z := fun x => by subst x; rw [hzq] at hoe; cases hoe; simp at hce
    refine wpAny_setField_rec (s := ⟨q, g, d, tk, os⟩) hzq (by simp) fun q' _ hq' => ?_
    replace hq' : Heap.SameBut z q q' := hq'
    exact hE q' e (fun c o cz cT c1 c2 x => hq'.extBut _ _ cz (hq _ _ c1 (hs0.extBut _ _ cz x))) ⟨oe, hq'.extBut _ _ hez hoe, hce⟩
  · simp only [Bool.false_eq_true, if_false]
    refine wpAny_bind ?_
    rw [← Array.forIn_toList]
    simp only [List.forIn_cons, List.forIn_nil]
    refine wpAny_bind (wpAny_bind (wpAny_holding ?_))
    show wpAny _ _ (Builtin.SmallTypes.nextOf (.ref i1) >>= _) _ _ _
    refine wpAny_bind (wpAny_nextOf_tuple_end (s := { s with heap := h₁ }) hh (h1.extBut hs₁.extBut D.i1z) (pa.extBut hs₁.extBut D.l1z) hx fun h₂ e hs₂ he => ?_)
    exact hE h₂ e (fun c o c1 _ c2 _ x => hs₂ _ _ c2 (hs₁.extBut _ _ c1 x)) he
end
end L2

namespace L2
open PySem PySem.Spec PyProof.Rows
section
variable {prog : Program} {w : World} {A : Around} {E : Value → Shared → Prop} {s : Shared} {e z TI TO i1 i2 a b : Addr} {i : Nat} {xs ys : Array Value} {x y old : Value}
theorem enumZ_item {Q : Option Value → Shared → Prop} (D : ZipApart z TI TO i1 i2 a b) (he : IsEnum s.heap e z ((i : Nat) : Int) old) (st : ZSt z TI TO i1 i2 a b i s.heap) (pa : s.heap.IsTuple a xs) (pb : s.heap.IsTuple b ys) (hx : xs[i]? = some x) (hy : ys[i]? = some y)
    (ez : e ≠ z) (eI : e ≠ TI) (eO : e ≠ TO) (e1 : e ≠ i1) (e2 : e ≠ i2)
    (hQ : ∀ h' tk, IsEnumOut h' e z ((i : Int) + 1) (.ref s.heap.objs.size) (s.heap.objs.size + 1) → ZSt z TI TO i1 i2 a b (i + 1) h' → IsPair h' s.heap.objs.size x y →
      IsPair h' (s.heap.objs.size + 1) (.int i tk) (.ref s.heap.objs.size) → (∀ c o, c ≠ e → c ≠ z → c ≠ TO → c ≠ i1 → c ≠ i2 → s.heap.get? c = some o → h'.get? c = some o) → Q (some (.ref (s.heap.objs.size + 1))) { s with heap := h', toks := tk + 1 }) :
    wpAny (model prog w) A (pyNext (.ref e)) Q E s := by
  have hT : s.TypeIs (.ref e) "enumerate" := ⟨_, he, rfl⟩
  unfold pyNext
  refine wpAny_bind (wpAny_attempt (wpAny_callSpecial?_slot (name := Str.ofString "__next__") hT F.slot_enumerate_next
    (wpAny_call_entry F.slot_enumerate_next hT F.entry_enumerate_next ?_ (F.args_enumerate_next_1 _))))
  obtain ⟨hp, g, d, tk, os⟩ := s
  show wpAny _ _ (field (.ref e) 2 >>= _) _ _ _
  refine wpAny_bind (wpAny_field he rfl (x := .ref z) rfl ?_)
  refine wpAny_bind (zipT_nextOf D st pa pb hx hy fun h₁ st₁ hp₁ hz₁ hk₁ => ?_)
  have he₁ : IsEnum h₁ e z ((i : Nat) : Int) old := hk₁ e _ ez eO e1 e2 he
  show wpAny _ _ (field (.ref e) 3 >>= _) _ _ ⟨h₁, g, d, tk, os⟩
  refine wpAny_bind (wpAny_field he₁ rfl (x := rawInt i) rfl ?_)
  show wpAny _ _ (field (.ref e) 4 >>= _) _ _ ⟨h₁, g, d, tk, os⟩
  refine wpAny_bind (wpAny_field he₁ rfl (x := .none) rfl ?_)
  show wpAny _ _ (mkInt i >>= _) _ _ ⟨h₁, g, d, tk, os⟩
  refine wpAny_bind (wpAny_mkInt ?_)
  show wpAny _ _ (setField (.ref e) 3 (rawInt ((i : Int) + 1)) >>= _) _ _ ⟨h₁, g, d, tk + 1, os⟩
  refine wpAny_bind (wpAny_setField_rec he₁ (by simp) fun h₂ he₂ hs₂ => ?_)
  replace hs₂ : Heap.SameBut e h₁ h₂ := hs₂
  replace he₂ : IsEnum h₂ e z ((i : Int) + 1) old := he₂
  show wpAny _ _ (setField (.ref e) 4 .none >>= _) _ _ ⟨h₂, g, d, tk + 1, os⟩
  refine wpAny_bind (wpAny_setField_rec he₂ (by simp) fun h₃ he₃ hs₃ => ?_)
  replace hs₃ : Heap.SameBut e h₂ h₃ := hs₃
  replace he₃ : IsEnum h₃ e z ((i : Int) + 1) old := he₃
  show wpAny _ _ (newTuple [.int i tk, .ref hp.objs.size] >>= _) _ _ ⟨h₃, g, d, tk + 1, os⟩
  refine wpAny_bind (wpAny_newTuple ?_)
  have he₄ : IsEnum (h₃.push { cls := .type "tuple", data := .seq #[.int i tk, .ref hp.objs.size] }) e z ((i : Int) + 1) old := Heap.get?_push_of_some _ he₃
  generalize hh₄ : h₃.push { cls := .type "tuple", data := .seq #[.int i tk, .ref hp.objs.size] } = h₄ at he₄
  have hsz : h₃.objs.size = hp.objs.size + 1 := by rw [hs₃.1, hs₂.1]; exact hz₁
  have hel : e < hp.objs.size := Heap.lt_size he
  have ht₄ : IsPair h₄ (hp.objs.size + 1) (.int i tk) (.ref hp.objs.size) := by rw [← hh₄, ← hsz]; exact Heap.get?_push_size _ rfl
  have up₄ : ∀ b o, b ≠ e → h₁.get? b = some o → h₄.get? b = some o := fun b o hbe hb => by rw [← hh₄]; exact Heap.get?_push_of_some _ (hs₃.extBut b o hbe (hs₂.extBut b o hbe hb))
  show wpAny _ _ (Builtin.SmallTypes.ownedTupleIsFree (.ref e) >>= _) _ _ ⟨h₄, g, d, tk + 1, os⟩
  rw [hsz]
  refine wpAny_bind ?_
  unfold Builtin.SmallTypes.ownedTupleIsFree
  refine wpAny_bind (wpAny_field (s := ⟨h₄, g, d, tk + 1, os⟩) he₄ rfl (x := .none) rfl (wpAny_pure ?_))
  simp only [if_true]
  refine wpAny_bind (wpAny_rule ?_)
  refine wpAny_bind (wpAny_field (s := ⟨h₄, g, d, tk + 1, os⟩) he₄ rfl (x := old) rfl ?_)
  refine wpAny_bind (wpAny_setField_rec (s := ⟨h₄, g, d, tk + 1, os⟩) he₄ (by simp) fun h₅ he₅ hs₅ => ?_)
  replace hs₅ : Heap.SameBut e h₄ h₅ := hs₅
  replace he₅ : IsEnum h₅ e z ((i : Int) + 1) (.ref hp.objs.size) := he₅
  show wpAny _ _ (Builtin.SmallTypes.ownedTupleHandOut (.ref e) (.ref (hp.objs.size + 1)) >>= _) _ _ ⟨h₅, g, d, tk + 1, os⟩
  refine wpAny_bind ?_
  unfold Builtin.SmallTypes.ownedTupleHandOut
  refine wpAny_bind (wpAny_setField_rec he₅ (by simp) fun h₆ he₆ hs₆ => ?_)
  replace hs₆ : Heap.SameBut e h₅ h₆ := hs₆
  replace he₆ : IsEnumOut h₆ e z ((i : Int) + 1) (.ref hp.objs.size) (hp.objs.size + 1) := he₆
  refine wpAny_setField_rec he₆ (by simp) fun h₇ he₇ hs₇ => ?_
  replace hs₇ : Heap.SameBut e h₆ h₇ := hs₇
  replace he₇ : IsEnumOut h₇ e z ((i : Int) + 1) (.ref hp.objs.size) (hp.objs.size + 1) := he₇
  have up₇ : ∀ b o, b ≠ e → h₄.get? b = some o → h₇.get? b = some o := fun b o hbe hb => hs₇.extBut b o hbe (hs₆.extBut b o hbe (hs₅.extBut b o hbe hb))
  have up : ∀ b o, b ≠ e → h₁.get? b = some o → h₇.get? b = some o := fun b o hbe hb => up₇ b o hbe (up₄ b o hbe hb)
  have ne1 : ∀ {k}, hp.objs.size ≤ k → k ≠ e := fun {k} hk => Nat.ne_of_gt (Nat.lt_of_lt_of_le hel hk)
  obtain ⟨⟨f0, f, h0, hz⟩, hTI, ⟨u, v, hTO⟩, k1, k2⟩ := st₁
  have st₇ : ZSt z TI TO i1 i2 a b (i + 1) h₇ := ⟨⟨f0, f, h0, up _ _ ez.symm hz⟩, up _ _ eI.symm hTI, ⟨u, v, up _ _ eO.symm hTO⟩, k1.at fun o q => up _ _ e1.symm q, k2.at fun o q => up _ _ e2.symm q⟩
  refine wpAny_bind (wpAny_letGo (wpAny_pure ⟨_, rfl, ?_⟩))
  refine wpAny_pure ?_
  exact hQ h₇ tk he₇ st₇ (up _ _ (ne1 (Nat.le_refl _)) hp₁) (up₇ _ _ (ne1 (Nat.le_succ _)) ht₄) fun c o ce cz cT c1 c2 q => up c o ce (hk₁ c o cz cT c1 c2 q)
theorem enumZ_end {Q : Option Value → Shared → Prop} (hh : A.in1.handled = none) (D : ZipApart z TI TO i1 i2 a b) (he : IsEnum s.heap e z ((i : Nat) : Int) old) (st : ZSt z TI TO i1 i2 a b i s.heap) (pa : s.heap.IsTuple a xs) (hx : xs[i]? = none)
    (hQ : ∀ h', (∀ c o, c ≠ z → c ≠ TO → c ≠ i1 → c ≠ i2 → s.heap.get? c = some o → h'.get? c = some o) → Q none { s with heap := h' }) : wpAny (model prog w) A (pyNext (.ref e)) Q E s := by
  have hT : s.TypeIs (.ref e) "enumerate" := ⟨_, he, rfl⟩
  unfold pyNext
  refine wpAny_bind (wpAny_attempt (wpAny_callSpecial?_slot (name := Str.ofString "__next__") hT F.slot_enumerate_next
    (wpAny_call_entry F.slot_enumerate_next hT F.entry_enumerate_next ?_ (F.args_enumerate_next_1 _))))
  show wpAny _ _ (field (.ref e) 2 >>= _) _ _ _
  refine wpAny_bind (wpAny_field he rfl (x := .ref z) rfl ?_)
  refine wpAny_bind (zipT_nextEnd hh D st pa hx fun h' x hk hx' => ?_)
  obtain ⟨o, ho, hc⟩ := hx'
  refine wpAny_bind (wpAny_isInstance (T := "StopIteration") (b := true) ⟨o, ho, hc⟩ isSubtype_stop ?_)
  exact wpAny_pure (hQ _ hk)
set_option maxHeartbeats 4000000 in
theorem meets_enum_newZ {z TI TO : Addr} :
    Meets (Builtin.«enumerate.__new__» ⟨[.type "enumerate", .ref z], []⟩) (fun _ R s => IsZip s.heap z TI TO .none ∧
      R (.ok (.ret (.ref s.heap.objs.size))) { s with heap := s.heap.push { cls := .type "enumerate", data := .fields #[.none, .bool false, .ref z, rawInt 0, .none, .none] } }) :=
  .of_wp fun prog w A R s h => by
    obtain ⟨hp, g, d, tk, os⟩ := s; obtain ⟨h1, h⟩ := h
    have hsub := sub_enumerate
    have q1 : ∀ {A' : Around} {E : Value → Shared → Prop} {Q : Value → Shared → Prop}, Q (.ref z) ⟨hp, g, d, tk, os⟩ → wpAny (model prog w) A' (pyIter (.ref z)) Q E ⟨hp, g, d, tk, os⟩ :=
      fun q => wpAny_pyIter_zip (s := ⟨hp, g, d, tk, os⟩) h1 q
    wp_walk using q1
    refine wpAny_stack_any fun st => wpAny_pure ?_
    split
    · rename_i c _ _ _ _ _
      cases (c == Value.type "enumerate")
      · wp_walk using q1
        exact ⟨_, rfl, h⟩
      · wp_walk using q1
        exact ⟨_, rfl, h⟩
    · wp_walk using q1
      exact ⟨_, rfl, h⟩
theorem enum_newZ {Q : Value → Shared → Prop} (hz : IsZip s.heap z TI TO .none)
    (h : ∀ h', IsEnum h' s.heap.objs.size z 0 .none → (∀ b o, s.heap.get? b = some o → h'.get? b = some o) → Q (.ref s.heap.objs.size) { s with heap := h' }) :
    wpAny (model prog w) A (call (.type "enumerate") [.ref z]) Q E s := by
  refine callType_new F.called_enumerate (by decide) (F.typeCall_enumerate_1 _) (F.newCall_enumerate_1 _) (fun obj => F.args_object_init_2 obj _) F.entry_enumerate_new
    (meets_enum_newZ (TI := TI) (TO := TO)) ⟨hz, ?_⟩
  have he : IsEnum (s.heap.push { cls := .type "enumerate", data := .fields #[.none, .bool false, .ref z, rawInt 0, .none, .none] }) s.heap.objs.size z 0 .none := Heap.get?_push_size _ rfl
  exact ⟨⟨_, he, rfl⟩, h _ he fun b o x => Heap.get?_push_of_some _ x⟩
end
/-- the pairs of two tuples, numbered -/
def IteZ (K : PySem.W.Frag) (a b : Addr) : It :=
  ⟨fun i H => ∃ (xs ys : List V) (x y : V), SqT K H a xs ∧ SqT K H b ys ∧ xs[i]? = some x ∧ ys[i]? = some y,
    fun i H v H' => ∃ T U x y, v = .ref U ∧ H T = none ∧ H U = none ∧ U ≠ T ∧ H' = upd (upd H T (.tup [x, y])) U (.tup [.int (i : Nat), .ref T]) ∧ (∀ xs, SqT K H a xs → xs[i]? = some x) ∧ ∀ ys, SqT K H b ys → ys[i]? = some y,
    fun i H => ∃ xs : List V, SqT K H a xs ∧ xs.length ≤ i⟩
theorem turn_enumZ {P : Program} {w : World} {K : PySem.W.Frag} {elts : List Expr} {kk : Nat} {tpos : Pos} {e a b z TI TO i1 i2 : Addr} (D : ZipApart z TI TO i1 i2 a b) (ez : e ≠ z) (eI : e ≠ TI) (eO : e ≠ TO) (e1 : e ≠ i1) (e2 : e ≠ i2) :
    Turn P w K (.Tuple elts kk tpos) (IteZ K a b) [e, z, TI, TO, i1, i2] e (fun i h => (∃ old, IsEnum h e z ((i : Nat) : Int) old) ∧ ZSt z TI TO i1 i2 a b i h) where
  mem := by simp
  obj := fun i h st c hc => by
    obtain ⟨⟨old, he⟩, ⟨f0, f, _, hz⟩, hTI, ⟨x, y, hTO⟩, ⟨o1, k1, _, d1⟩, ⟨o2, k2, _, d2⟩⟩ := st
    have e' : c = e ∨ c = z ∨ c = TI ∨ c = TO ∨ c = i1 ∨ c = i2 := by simpa using hc
    rcases e' with q | q | q | q | q | q
    · rw [q]; exact ⟨_, he, fun v q => nomatch q⟩
    · rw [q]; exact ⟨_, hz, fun v q => nomatch q⟩
    · rw [q]; exact ⟨_, hTI, fun v q => nomatch q⟩
    · rw [q]; exact ⟨_, hTO, fun v q => nomatch q⟩
    · rw [q]; exact ⟨o1, k1, fun v q => by rw [d1] at q; cases q⟩
    · rw [q]; exact ⟨o2, k2, fun v q => by rw [d2] at q; cases q⟩
  keep := fun i h h' st k => by
    obtain ⟨⟨old, he⟩, ⟨f0, f, h0, hz⟩, hTI, ⟨x, y, hTO⟩, h1, h2⟩ := st
    exact ⟨⟨old, k e (by simp) _ he⟩, ⟨f0, f, h0, k z (by simp) _ hz⟩, k TI (by simp) _ hTI, ⟨x, y, k TO (by simp) _ hTO⟩, h1.at fun o q => k i1 (by simp) o q, h2.at fun o q => k i2 (by simp) o q⟩
  item := by
    intro X hP hw hK hc i pins s σ H E I hf st hg
    subst hP hw hK
    obtain ⟨⟨old, he⟩, st⟩ := st
    obtain ⟨xs, ys, x, y, hqx, hqy, hx, hy⟩ := hg
    obtain ⟨its, rv, p, _⟩ := I.tuple hqx
    obtain ⟨its2, rv2, p2, _⟩ := I.tuple hqy
    obtain ⟨u, hu, ru⟩ := rv.get hx
    obtain ⟨u2, hu2, ru2⟩ := rv2.get hy
    have pt : s.heap.IsTuple a its.toArray := p
    have pt2 : s.heap.IsTuple b its2.toArray := p2
    have hel : e < s.heap.objs.size := Heap.lt_size he
    refine enumZ_item D he st pt pt2 (x := u) (y := u2) (by simpa using hu) (by simpa using hu2) ez eI eO e1 e2 fun h' tk ho st' hT hU hk => ?_
    refine ⟨_, rfl, wpAny_letOwnedTupleGo_enum (s := { s with heap := h', toks := tk + 1 }) ho fun h'' he' sb => ?_⟩
    have ne1 : ∀ {k}, s.heap.objs.size ≤ k → k ≠ e := fun {k} hk => Nat.ne_of_gt (Nat.lt_of_lt_of_le hel hk)
    have hT2 : IsPair h'' s.heap.objs.size u u2 := (sb.2 _ (ne1 (Nat.le_refl _))).trans hT
    have hU2 : IsPair h'' (s.heap.objs.size + 1) (.int i tk) (.ref s.heap.objs.size) := (sb.2 _ (ne1 (Nat.le_succ _))).trans hU
    have kp : ∀ c o, c ∉ [e, z, TI, TO, i1, i2] → s.heap.get? c = some o → h''.get? c = some o := fun c o hb q => (sb.2 c (fun q' => hb (by simp [q']))).trans (hk c o (fun q' => hb (by simp [q'])) (fun q' => hb (by simp [q'])) (fun q' => hb (by simp [q'])) (fun q' => hb (by simp [q'])) (fun q' => hb (by simp [q'])) q)
    have new : ObjOk X.prog X.w (upd H s.heap.objs.size (.tup [x, y])) h'' s.heap.objs.size (.tup [x, y]) :=
      ⟨by show 2 ≤ sizeLine; decide, [u, u2], .cons ru (.cons ru2 .nil), ⟨_, hT2, rfl, _, rfl⟩⟩
    have I1 : Inv X pins σ (upd H s.heap.objs.size (.tup [x, y])) { s with heap := h'', toks := tk + 1 } :=
      I.turnedNew (t' := tk + 1) (ch := [e, z, TI, TO, i1, i2]) kp hf (Nat.le_refl _) new
    have hUn : H (s.heap.objs.size + 1) = none := I.hok.fresh (Nat.le_succ _)
    have hUn1 : upd H s.heap.objs.size (.tup [x, y]) (s.heap.objs.size + 1) = none := by rw [upd_ne (Nat.succ_ne_self _)]; exact hUn
    obtain ⟨_, g1, _, g3, g4, g5⟩ := I.fpOk (b := s.heap.objs.size + 1) (Nat.le_succ _) hUn
    have n0 : X.s_0.heap.get? (s.heap.objs.size + 1) = none := by
      cases q : X.s_0.heap.get? (s.heap.objs.size + 1) with
      | none => rfl
      | some o =>
        exact absurd (Nat.lt_of_lt_of_le (Heap.lt_size q) I.sz) (Nat.not_lt.mpr (Nat.le_succ _))
    have I2 := I1.known (a := s.heap.objs.size + 1) (o := .tup [.int (i : Nat), .ref s.heap.objs.size]) hUn1 n0 g1 (fun x c q => g4 x c q) (fun p hp => g5 p hp)
      ⟨by show 2 ≤ sizeLine; decide, [.int i tk, .ref s.heap.objs.size], .cons ⟨tk, rfl⟩ (.cons rfl .nil), ⟨_, hU2, rfl, _, rfl⟩⟩
    refine ⟨.ref (s.heap.objs.size + 1), _, I2, rfl, ⟨_, _, x, y, rfl, I.hok.fresh (Nat.le_refl _), hUn, Nat.succ_ne_self _, rfl, fun l hl => by rw [I.tuple_inj hl hqx]; exact hx, fun l hl => by rw [I.tuple_inj hl hqy]; exact hy⟩, ⟨⟨.ref s.heap.objs.size, ?_⟩, ?_⟩, fun c hcm => ?_⟩
    · have q1 : ((i + 1 : Nat) : Int) = (i : Int) + 1 := by omega
      rw [q1]; exact he'
    · obtain ⟨⟨f0, f, h0, hz⟩, hTI, ⟨u, v, hTO⟩, k1, k2⟩ := st'
      have upe : ∀ c o, c ≠ e → h'.get? c = some o → h''.get? c = some o := fun c o hc q => (sb.2 c hc).trans q
      exact ⟨⟨f0, f, h0, upe _ _ ez.symm hz⟩, upe _ _ eI.symm hTI, ⟨u, v, upe _ _ eO.symm hTO⟩, k1.at fun o q => upe _ _ e1.symm q, k2.at fun o q => upe _ _ e2.symm q⟩
    · have hlt : c < s.heap.objs.size := by
        obtain ⟨⟨f0, f, h0, hz⟩, hTI, ⟨u, v, hTO⟩, ⟨_, k1, _⟩, ⟨_, k2, _⟩⟩ := st
        have e' : c = e ∨ c = z ∨ c = TI ∨ c = TO ∨ c = i1 ∨ c = i2 := by simpa using hcm
        rcases e' with q | q | q | q | q | q
        · rw [q]; exact hel
        · rw [q]; exact Heap.lt_size hz
        · rw [q]; exact Heap.lt_size hTI
        · rw [q]; exact Heap.lt_size hTO
        · rw [q]; exact Heap.lt_size k1
        · rw [q]; exact Heap.lt_size k2
      rw [upd_ne (Nat.ne_of_lt (Nat.lt_succ_of_lt hlt)), upd_ne (Nat.ne_of_lt hlt)]
      exact (hf c hcm).1
  done := by
    intro X hP hw hK hc i pins s σ H E I hf st hg
    subst hP hw hK
    obtain ⟨⟨old, he⟩, st⟩ := st
    obtain ⟨xs, hqx, hx⟩ := hg
    obtain ⟨its, rv, p, _⟩ := I.tuple hqx
    have pt : s.heap.IsTuple a its.toArray := p
    have hl := rv.length
    exact enumZ_end (I.ok.hd hc) D he st pt (by simp; omega) fun h' hk => ⟨rfl, I.turnedL (t' := s.toks) (ch := [e, z, TI, TO, i1, i2]) (fun c o hb q =>
      hk c o (fun q' => hb (by simp [q'])) (fun q' => hb (by simp [q'])) (fun q' => hb (by simp [q'])) (fun q' => hb (by simp [q'])) q) hf⟩
  self := fun A i s Q E st h => let ⟨⟨_, he⟩, _⟩ := st; wpAny_pyIter_enum he h
def iEnumZ (K : PySem.W.Frag) (ta : TA) : TI := fun σ H R => ta σ H fun vs H1 => ∃ a b xs ys, vs = [.ref a, .ref b] ∧ SqT K H1 a xs ∧ SqT K H1 b ys ∧ R (IteZ K a b) H1
theorem pi_enumZ {X : Cx} {e e2 : Expr} {ta : TA} {p pos p2 pos2 tpos : Pos} {elts : List Expr} {kk : Nat} (hg : Gl X "enumerate") (hm : X.mg "enumerate" = none) (hg2 : Gl X "zip") (hm2 : X.mg "zip" = none) (ha : PA X [e, e2] ta)
    (hs : starEach [.Call (.Name "zip" p2) [e, e2] [] pos2] X.env = [(false, eval (.Call (.Name "zip" p2) [e, e2] [] pos2) X.env)] := by rfl)
    (hs2 : starEach [e, e2] X.env = (false, eval e X.env) :: starEach [e2] X.env := by rfl) (hpl : (backTo pos2 (starEach [e2] X.env)).any (·.1) = false := by rfl) :
    PI X (.Tuple elts kk tpos) (.Call (.Name "enumerate" p) [.Call (.Name "zip" p2) [e, e2] [] pos2] [] pos) (iEnumZ X.K ta) := by
  refine ⟨fun pins s σ H R I h => ?_⟩
  refine Call_ (ld_blt I hg hm boot_enumerate (PyProof.Rows.callWith_type1 ?_ hs rfl))
  show wpAny _ _ (spliced (backTo pos (starEach [.Call (.Name "zip" p2) [e, e2] [] pos2] X.env))) _ _ _
  have q0 : backTo pos (starEach [.Call (.Name "zip" p2) [e, e2] [] pos2] X.env) = [(false, eval (.Call (.Name "zip" p2) [e, e2] [] pos2) X.env)] := by rw [hs]; rfl
  rw [q0]
  refine Calls.spliced_cons ((Call_ (ld_blt I hg2 hm2 PyProof.Rows.boot_zip (PyProof.Rows.callWith_type1 (thn (ha.run pos2 pins s σ H _ I h) fun us s1 ⟨vs, H1, I1, r1, q1⟩ => ?_) hs2 hpl))))
  obtain ⟨a, b, xs, ys, ex, hqx, hqy, q⟩ := q1
  subst ex
  cases r1 with
  | cons r rr =>
    cases rr with
    | cons r' rr =>
      cases rr
      cases r
      cases r'
      obtain ⟨its, rv, p1, _⟩ := I1.tuple hqx
      obtain ⟨its2, rv2, p2, _⟩ := I1.tuple hqy
      obtain ⟨o1, ho1, _⟩ := id p1
      obtain ⟨o2, ho2, _⟩ := id p2
      refine RZ.call_zipT (show s1.heap.IsTuple a its.toArray from p1) (show s1.heap.IsTuple b its2.toArray from p2) fun h' hz hTI hTO h1 h2 hsz hk => ?_
      refine Calls.spliced_nil ?_
      refine enum_newZ (s := { s1 with heap := h' }) hz fun h2' he hk2 => wpAny_pyIter_enum he ?_
      have I2 : Inv X pins σ H1 { s1 with heap := h2' } := I1.kept (t' := s1.toks) fun b o q => hk2 b o (hk b o q)
      have es : ({ s1 with heap := h' } : Shared).heap.objs.size = s1.heap.objs.size + 5 := hsz
      rw [es] at he ⊢
      have D := PySem.W.ktu_apart s1.heap.objs.size a b (Heap.lt_size ho1) (Heap.lt_size ho2)
      have ne : ∀ j, j < 5 → s1.heap.objs.size + 5 ≠ s1.heap.objs.size + j := fun j hj => by omega
      refine ⟨s1.heap.objs.size + 5, [s1.heap.objs.size + 5, s1.heap.objs.size + 4, s1.heap.objs.size + 2, s1.heap.objs.size + 3, s1.heap.objs.size, s1.heap.objs.size + 1], _, _, H1, rfl, I2, turn_enumZ D (ne 4 (by decide)) (ne 2 (by decide)) (ne 3 (by decide)) (ne 0 (by decide)) (ne 1 (by decide)),
        ⟨⟨.none, he⟩, ⟨.none, false, .inl rfl, hk2 _ _ hz⟩, hk2 _ _ hTI, ⟨_, _, hk2 _ _ hTO⟩, h1.at fun o q => hk2 _ _ q, h2.at fun o q => hk2 _ _ q⟩, fun c hcm => ?_, q⟩
      have hle : s1.heap.objs.size ≤ c := by
        have e' : c = s1.heap.objs.size + 5 ∨ c = s1.heap.objs.size + 4 ∨ c = s1.heap.objs.size + 2 ∨ c = s1.heap.objs.size + 3 ∨ c = s1.heap.objs.size ∨ c = s1.heap.objs.size + 1 := by simpa using hcm
        rcases e' with q | q | q | q | q | q <;> rw [q]
        all_goals first | exact Nat.le_refl _ | exact Nat.le_add_right _ _
      exact I1.fpOk hle (I1.hok.fresh hle)
end L2
namespace Sm
open PySem L2
def itEnZ (x y : Val) : Option Itr := match x, y with
  | .tup l, .tup m => if l.length = m.length then some (itNum (itZ (itTup l) (itTup m))) else none
  | _, _ => none
def iEnZ (f g : EF) : IF := fun e M => (f e M).bind fun x M1 => (g e M1).bind fun y M2 => match itEnZ x y with
  | some it => .ok it M2
  | none => .bad
section
variable [LT] [WB] {X : Cx} {W : WX} {K : PySem.W.Frag} {ρ : List Addr} {M : Mem} {H : Hp} {a b : Expr} {fa fb : EF} {elts : List Expr} {kk : Nat} {p pos p2 pos2 tpos : Pos}
theorem sim_enumZ {l m : List Val} {a d : Addr} {vs vs' : List V} (h : SqT K H a vs) (r : RVs K ρ H l vs) (h' : SqT K H d vs') (r' : RVs K ρ H m vs') (hl : l.length = m.length) : SimIt K ρ H (itNum (itZ (itTup l) (itTup m))) (IteZ K a d) := fun i ρ1 M1 H1 E R => by
  have h1 := E.sqT h
  have h1' := E.sqT h'
  have r1 := RVs.mono E _ _ r
  have r1' := RVs.mono E _ _ r'
  refine ⟨fun ho => ?_, fun z ho => ?_⟩
  · have hz : (itZ (itTup l) (itTup m)).nxt i M1 = some none := by
      unfold itNum at ho
      simp only at ho
      cases hq : (itZ (itTup l) (itTup m)).nxt i M1 with
      | none => rw [hq] at ho; cases ho
      | some o => cases o with
        | none => rfl
        | some q => rw [hq] at ho; cases ho
    obtain ⟨o, p, e1, e2, e3⟩ := itZ_none hz
    have k1 : l[i]? = o := Option.some.inj e1
    have k2 : m[i]? = p := Option.some.inj e2
    refine ⟨vs, h1, ?_⟩
    rw [r1.length]
    rcases e3 with e3 | e3
    · exact List.getElem?_eq_none_iff.mp (k1.trans e3)
    · rw [hl]; exact List.getElem?_eq_none_iff.mp (k2.trans e3)
  · obtain ⟨q, hq, ez⟩ : ∃ q, (itZ (itTup l) (itTup m)).nxt i M1 = some (some q) ∧ z = .tup [.int (i : Nat), q] := by
      unfold itNum at ho
      simp only at ho
      cases hq : (itZ (itTup l) (itTup m)).nxt i M1 with
      | none => rw [hq] at ho; cases ho
      | some o => cases o with
        | none => rw [hq] at ho; cases ho
        | some q => rw [hq] at ho; cases ho; exact ⟨q, rfl, rfl⟩
    obtain ⟨x, y, e1, e2, e3⟩ := itZ_some hq
    obtain ⟨v, hv, rv⟩ := r1.get (Option.some.inj e1)
    obtain ⟨v', hv', rv'⟩ := r1'.get (Option.some.inj e2)
    subst e3 ez
    refine ⟨⟨vs, vs', v, v', h1, h1', hv, hv'⟩, fun u H' ⟨T, U, w, w', q1, hT, hU, hne, q2, q3, q4⟩ => ?_⟩
    subst q1 q2
    have z1 := q3 _ h1
    have z2 := q4 _ h1'
    rw [hv] at z1; rw [hv'] at z2
    cases z1; cases z2
    obtain ⟨E1, R1, k1⟩ := pair_new R hT rv rv'
    have hU1 : upd H1 T (.tup [v, v']) U = none := by rw [upd_ne hne]; exact hU
    obtain ⟨E2, R2, k2⟩ := pair_new (x := .int (i : Nat)) (v := .int (i : Nat)) R1 hU1 rfl k1
    exact ⟨E1.trans E2, R2, k2⟩
theorem si_enumZip (ha : SE X W a fa) (hb : SE X W b fb) (hm : X.mg "enumerate" = none) (hm2 : X.mg "zip" = none) (hg : Gl X "enumerate" := by rfl) (hg2 : Gl X "zip" := by rfl)
    (hs : starEach [.Call (.Name "zip" p2) [a, b] [] pos2] X.env = [(false, eval (.Call (.Name "zip" p2) [a, b] [] pos2) X.env)] := by rfl)
    (hs2 : starEach [a, b] X.env = (false, eval a X.env) :: starEach [b] X.env := by rfl) (hs3 : starEach [b] X.env = (false, eval b X.env) :: starEach [] X.env := by rfl) (hpl : (backTo pos2 (starEach [b] X.env)).any (·.1) = false := by rfl) :
    SI X W (.Tuple elts kk tpos) (.Call (.Name "enumerate" p) [.Call (.Name "zip" p2) [a, b] [] pos2] [] pos) (iEnZ fa fb) :=
  ⟨PI.imp (pi_enumZ hg hm hg2 hm2 (sa_cons ha (sa_cons hb sa_nil hs3) hs2).pa hs hs2 hpl) fun σ H Q ⟨ρ, e, M, R, S, p⟩ => ⟨ρ, e, M, R, S, by
    have p' : Po (Ritr X.K) X.K ρ H σ W Q ((aCons fa (aCons fb aNil) e M).bind fun l M1 => match l with
      | [x, y] => (match itEnZ x y with
        | some it => .ok it M1
        | none => .bad)
      | _ => .bad) := by
      unfold iEnZ at p
      unfold aCons aNil
      cases h : fa e M with
      | ok x M1 =>
        rw [h] at p
        simp only [Out.bind_ok] at p ⊢
        cases h2 : fb e M1 with
        | ok y M2 => rw [h2] at p; exact p
        | ex x M1 => rw [h2] at p; exact p
        | bad => rw [h2] at p; exact p
      | ex x M1 => rw [h] at p; exact p
      | bad => rw [h] at p; exact p
    exact (Po.bind (R := RVsr X.K) p').imp fun vs H1 ⟨ρ1, M1, l, E1, R1, r1, p1⟩ => by
      match l, r1, p1 with
      | [x, y], ⟨v, r, e1, r2, u, r', e1', r2', e3⟩, p1 =>
        cases (show r' = [] from e3)
        subst e1'
        subst e1
        cases x with
        | tup l => cases y with
          | tup m =>
            unfold itEnZ at p1
            simp only at p1
            split at p1
            · rename_i it hit
              split at hit
              · rename_i hl
                cases hit
                obtain ⟨q, vs, h1, h2, h3⟩ := r2
                obtain ⟨q', vs', h1', h2', h3'⟩ := r2'
                subst h1 h1'
                exact ⟨q, q', vs, vs', rfl, h2, h2', p1 ρ1 H1 _ (Ext.refl _ _) R1 (sim_enumZ h2 h3 h2' h3' hl)⟩
              · cases hit
            · exact p1.elim
          | _ => exact p1.elim
        | _ => exact p1.elim
      | [], _, p1 => exact p1.elim
      | [_], _, p1 => exact p1.elim
      | _ :: _ :: _ :: _, _, p1 => exact p1.elim⟩⟩
end
end Sm

namespace SrtO
open PySem PySem.Spec PyProof.Rows
section
variable {prog : Program} {w : World} {A : Around} {E : Value → Shared → Prop} {s : Shared}
theorem collect_grow {Q : List Value → Shared → Prop} (it : Addr) {T : String} {o : Obj} {items : Array Value} {n : Nat} (hT : T = "list" ∨ T = "tuple")
    (ho : s.heap.get? it = some o) (hc : o.cls = .type T) (hd : o.data = .seq items n)
    (hQ : ∀ h', (∀ b o', s.heap.get? b = some o' → h'.get? b = some o') → s.heap.objs.size ≤ h'.objs.size → Q items.toList { s with heap := h' }) (hsz : items.size ≤ sizeLine) :
    wpAny (model prog w) A (collect (.ref it)) Q E s := by
  unfold collect
  refine wpAny_bind (wpAny_runValue (codeAny_builtin F.entry_proto_collect ?_))
  rw [Around.under_plainId F.plain_proto_collect _]
  show wpAny _ A.in1 (newList [] >>= fun l => again (.builtin "list.__iadd__" ⟨[l, .ref it], []⟩)) _ _ s
  refine wpAny_bind (wpAny_newObj_type ?_)
  refine wpAny_pure ⟨plainId_quiet F.plain_list_iadd _, codeAny_builtin F.entry_list_iadd ?_⟩
  rw [Around.under_plainId F.plain_list_iadd _]
  show wpAny _ A.in1 (Builtin.List.listExtendWith (.ref s.heap.objs.size) (.ref it) (.ref s.heap.objs.size)) _ _ _
  have hS : (s.heap.push { cls := .type "list", data := .seq ([] : List Value).toArray }).get? s.heap.objs.size = some { cls := .type "list", data := .seq #[] 0 } := Heap.get?_push_size _ rfl
  have hS₂ := Heap.get?_update_self (Obj.mapSeq (· ++ items)) hS rfl
  have fin' : wpAny (model prog w) A (match Value.ref s.heap.objs.size with
      | Value.ref a => do
        match (← load a).data with
          | Data.seq xs _ => pure xs.toList
          | _ => unsupported "internal:collect"
      | _ => unsupported "internal:collect") Q E { s with heap := (s.heap.push { cls := .type "list", data := .seq ([] : List Value).toArray }).update s.heap.objs.size (Obj.mapSeq (· ++ items)) } := by
    show wpAny _ A (load s.heap.objs.size >>= _) _ _ _
    refine wpAny_bind (wpAny_load hS₂ ?_)
    refine wpAny_pure ?_
    have e : ((#[] : Array Value) ++ items).toList = items.toList := by simp
    show Q ((#[] : Array Value) ++ items).toList _
    rw [e]
    refine hQ _ (fun b o' hb => ?_) ?_
    · exact (Heap.get?_update_other _ _ (Nat.ne_of_gt (Heap.lt_size hb))).trans (Heap.get?_push_of_some _ hb)
    · rw [Heap.size_update, Heap.size_push]; exact Nat.le_succ _
  refine wpAny_mono (wpAny_extend_seq (hsz := hsz) (A := A) (R := fun r s' => r = .ok (.ret (.ref s.heap.objs.size)) ∧ s' = { s with heap := (s.heap.push { cls := .type "list", data := .seq ([] : List Value).toArray }).update s.heap.objs.size (Obj.mapSeq (· ++ items)) })
    (s := { s with heap := s.heap.push { cls := .type "list", data := .seq ([] : List Value).toArray } }) _ it _ 0 hT hS (Heap.get?_push_of_some _ ho) hc hd ⟨rfl, rfl⟩) (fun fin s' h => ?_) (fun e s' h => ?_)
  · cases fin with
    | done f =>
      obtain ⟨e, rfl⟩ := h
      cases e
      exact fin'
    | again c' => exact ⟨h.1, codeAny_mono h.2 fun r s'' hr => by obtain ⟨rfl, rfl⟩ := hr; exact fin'⟩
  · exact absurd h.1 (by simp)
/-- sorted of a list or a tuple of pairs of ints -/
theorem sorted_seqO {l : Addr} {T : String} {o : Obj} {n : Nat} {vs : List Value} {k : Value → Int × Int} {Q : Value → Shared → Prop} (hT : T = "list" ∨ T = "tuple") (ho : s.heap.get? l = some o) (hc : o.cls = .type T) (hd : o.data = .seq vs.toArray n) (hz : vs.length ≤ sizeLine) (hp : ∀ v ∈ vs, Srt.IsPair s.heap v (k v).1 (k v).2)
    (h : ∀ (h' : Heap) (d : Addr) (out : List Value), Srtd (fun v u => lexB (k v) (k u)) out → Stb (fun v u => lexB (k v) (k u)) out vs → (∀ b o, s.heap.get? b = some o → h'.get? b = some o) → s.heap.objs.size ≤ d → (∃ n, h'.get? d = some (seqObj "list" out.toArray n)) → Q (.ref d) { s with heap := h' }) :
    wpAny (model prog w) A (call (.builtin "sorted") [.ref l]) Q E s := by
  refine Calls.call_function_entry kind_sorted plain_sorted entry_sorted (args_sorted1 _) ?_
  unfold Builtin.«sorted»
  refine wpAny_bind (m := checkCount "sorted" 1 1 _) (wpAny_pure ?_)
  refine wpAny_bind (collect_grow l hT ho hc hd (fun h1 hk hsz => ?_) (by simpa using hz))
  refine wpAny_bind (wpAny_newList ?_ (by simpa using hz))
  have hoL : (h1.push (seqObj "list" vs.toArray 0)).get? h1.objs.size = some (seqObj "list" vs.toArray 0) := Heap.get?_push_size _ rfl
  have keep : ∀ b o, s.heap.get? b = some o → b ≠ h1.objs.size ∧ (h1.push (seqObj "list" vs.toArray 0)).get? b = some o := fun b o q => ⟨Nat.ne_of_lt (Heap.lt_size (hk _ _ q)), Heap.get?_push_of_some _ (hk _ _ q)⟩
  show wpAny _ _ _ _ _ { s with heap := h1.push (seqObj "list" vs.toArray 0) }
  refine wpAny_bind (wpAny_holding (wpAny_call_entry slot_list_sort ⟨_, hoL, rfl⟩ entry_list_sort (list_sort_ord (swo_lex k) hoL hz (fun h2 => ?_) fun out hs hb => ⟨_, rfl, ?_⟩) (args_list_sort _)))
  · refine pairs_sortableO (s := { s with heap := h1.push (seqObj "list" vs.toArray 0) }) (by omega) (fun v hm => (hp v hm).keeps fun b o e _ => (keep b o e).2) fun o e => ?_
    have e' : some o = some (seqObj "list" vs.toArray 0) := e.symm.trans hoL
    cases e'
    intro c
    exact absurd (Value.type.inj c) (by decide)
  · refine wpAny_pure ⟨_, rfl, h _ _ out hs hb (fun b o q => ?_) hsz (sortedHeap_at hoL)⟩
    obtain ⟨q1, q2⟩ := keep b o q
    rw [sortedHeap_old q1 (Heap.lt_size q2)]
    exact q2
end
end SrtO
namespace L2
open PySem PySem.Spec PyProof.Rows
/-! sorted pairs of ints -/
def lexL (p q : Int × Int) : Bool := !SrtO.lexB q p
def sortP (l : List (Int × Int)) : List (Int × Int) := l.mergeSort lexL
theorem lexL_total (a b : Int × Int) : (lexL a b || lexL b a) = true := by
  unfold lexL
  cases h : SrtO.lexB b a <;> cases h2 : SrtO.lexB a b <;> simp
  have := SrtO.lexB_iff.mp h
  have := SrtO.lexB_iff.mp h2
  omega
theorem lexL_trans (a b c : Int × Int) (h : lexL a b = true) (k : lexL b c = true) : lexL a c = true := by
  unfold lexL at *
  simp only [Bool.not_eq_true'] at *
  have h1 := SrtO.lexB_no.mp h
  have h2 := SrtO.lexB_no.mp k
  refine SrtO.lexB_no.mpr ?_
  omega
theorem lexL_anti {a b : Int × Int} (h : lexL a b = true) (k : lexL b a = true) : a = b := by
  unfold lexL at *
  simp only [Bool.not_eq_true'] at *
  have h1 := SrtO.lexB_no.mp h
  have h2 := SrtO.lexB_no.mp k
  obtain ⟨a1, a2⟩ := a
  obtain ⟨b1, b2⟩ := b
  simp only at h1 h2
  have e1 : a1 = b1 := by omega
  have e2 : a2 = b2 := by omega
  rw [e1, e2]
theorem sortP_perm (l : List (Int × Int)) : (sortP l).Perm l := List.mergeSort_perm _ _
theorem sortP_sorted (l : List (Int × Int)) : (sortP l).Pairwise fun a b => lexL a b = true := List.pairwise_mergeSort (fun a b c => lexL_trans a b c) (fun a b => lexL_total a b) l
theorem sorted_uniq : ∀ {l m : List (Int × Int)}, l.Perm m → l.Pairwise (fun a b => lexL a b = true) → m.Pairwise (fun a b => lexL a b = true) → l = m
  | [], m, h, _, _ => (List.Perm.eq_nil h.symm).symm
  | x :: l, [], h, _, _ => absurd h.length_eq (by simp)
  | x :: l, y :: m, h, hl, hm => by
    have h1 := List.pairwise_cons.mp hl
    have h2 := List.pairwise_cons.mp hm
    have e : x = y := by
      rcases List.mem_cons.mp (h.mem_iff.mp (List.mem_cons_self (a := x) (l := l))) with e | e
      · exact e
      · rcases List.mem_cons.mp (h.mem_iff.mpr (List.mem_cons_self (a := y) (l := m))) with e2 | e2
        · exact e2.symm
        · exact lexL_anti (h1.1 y e2) (h2.1 x e)
    subst e
    rw [sorted_uniq h.cons_inv h1.2 h2.2]
theorem sortP_eq {l m : List (Int × Int)} (h : l.Perm m) : sortP l = sortP m := sorted_uniq ((sortP_perm l).trans (h.trans (sortP_perm m).symm)) (sortP_sorted l) (sortP_sorted m)
/-- objects that are these pairs -/
def Pr (K : PySem.W.Frag) (H : Hp) : List (Int × Int) → List V → Prop
  | [], xs => xs = []
  | p :: ps, xs => ∃ x r, xs = x :: r ∧ (∃ t, x = V.ref t ∧ Sm.TqT H t [.int p.1, .int p.2]) ∧ Pr K H ps r
open Classical in
noncomputable def keyP (K : PySem.W.Frag) (H : Hp) (x : V) : Int × Int := if h : ∃ p : Int × Int, ∃ t, x = V.ref t ∧ Sm.TqT H t [.int p.1, .int p.2] then Classical.choose h else (0, 0)
section
variable {X : Cx} {pins : List (Addr × Obj)} {σ : L2.St} {H : Hp} {s : Shared}
theorem keyP_eq (I : Inv X pins σ H s) {x : V} {p : Int × Int} {t : Addr} (e : x = V.ref t) (h : Sm.TqT H t [.int p.1, .int p.2]) : keyP X.K H x = p := by
  have hx : ∃ p : Int × Int, ∃ t, x = V.ref t ∧ Sm.TqT H t [.int p.1, .int p.2] := ⟨p, t, e, h⟩
  unfold keyP
  rw [dif_pos hx]
  obtain ⟨t', e', h'⟩ := Classical.choose_spec hx
  rw [e] at e'
  cases e'
  have z := I.tuple_inj h'.sq h.sq
  simp only [List.cons.injEq, V.int.injEq, and_true] at z
  exact Prod.ext z.1 z.2
theorem Pr.key (I : Inv X pins σ H s) : ∀ {ps : List (Int × Int)} {xs : List V}, Pr X.K H ps xs → ps = xs.map (keyP X.K H) ∧ ∀ x ∈ xs, ∃ t, x = V.ref t ∧ Sm.TqT H t [.int (keyP X.K H x).1, .int (keyP X.K H x).2]
  | [], xs, h => by cases (show xs = [] from h); exact ⟨rfl, fun x hx => absurd hx (by simp)⟩
  | p :: ps, xs, ⟨x, r, e, ⟨t, et, ht⟩, hr⟩ => by
    obtain ⟨h1, h2⟩ := hr.key I
    subst e
    have hk := keyP_eq I et ht
    refine ⟨by rw [List.map_cons, hk, ← h1], fun y hy => ?_⟩
    rcases List.mem_cons.mp hy with q | q
    · subst q; exact ⟨t, et, by rw [hk]; exact ht⟩
    · exact h2 y q
theorem Pr.of : ∀ {xs : List V}, (∀ x ∈ xs, ∃ t, x = V.ref t ∧ Sm.TqT H t [.int (keyP X.K H x).1, .int (keyP X.K H x).2]) → Pr X.K H (xs.map (keyP X.K H)) xs
  | [], _ => rfl
  | x :: r, h => ⟨x, r, rfl, h x List.mem_cons_self, Pr.of fun y hy => h y (List.mem_cons_of_mem _ hy)⟩
end
/-- sorted(xs), xs a list or a tuple of pairs of ints -/
def rSortedPQ (K : PySem.W.Frag) : List V → Hp → VK → Prop := fun vs H Q => ∃ (a : Addr) (xs : List V) (ps : List (Int × Int)), vs = [V.ref a] ∧ (SqL K H a xs ∨ SqT K H a xs) ∧ Pr K H ps xs ∧
  ∀ ys p, Pr K H (sortP ps) ys → H p = none → Q (.ref p) (upd H p (.lst ys))
theorem cr_sortedPQ {X : Cx} : CallR X (.builtin "sorted") (rSortedPQ X.K) := by
  intro pins s σ H vs us Q I r h
  obtain ⟨a, xs, ps, rfl, hs, hpr, q⟩ := h
  obtain ⟨eps, hx⟩ := hpr.key I
  obtain ⟨u, rfl, ru⟩ := vals1 r
  obtain rfl : u = Value.ref a := ru
  obtain ⟨T, o, n, its, hT, rv, ho, hc, hd, hz⟩ : ∃ (T : String) (o : Obj) (n : Nat) (its : List Value), (T = "list" ∨ T = "tuple") ∧ Vals xs its ∧ s.heap.get? a = some o ∧ o.cls = .type T ∧ o.data = .seq its.toArray n ∧ xs.length ≤ sizeLine := by
    rcases hs with hs | hs
    · obtain ⟨its, rv, ⟨o, n, ho, hc, hdn, hd⟩, hz⟩ := I.list hs
      exact ⟨_, o, n, its, .inl rfl, rv, ho, hc, hd, hz⟩
    · obtain ⟨its, rv, ⟨o, ho, hc, n, hd⟩, hz⟩ := I.tuple hs
      exact ⟨_, o, n, its, .inr rfl, rv, ho, hc, hd, hz⟩
  obtain ⟨e1, e2⟩ := refs_back rv fun x m => by
    obtain ⟨t, e, _⟩ := hx x m
    exact ⟨t, e⟩
  refine SrtO.sorted_seqO (k := fun u => keyP X.K H (backV u)) hT ho hc hd (by rw [← rv.length]; exact hz) (fun v hv => ?_) fun h' d out h1 h2 kp hd hn => ?_
  · obtain ⟨t, rfl⟩ := e2 v hv
    have hm : V.ref t ∈ xs := by rw [e1]; exact List.mem_map.mpr ⟨_, hv, rfl⟩
    obtain ⟨t', e, ht⟩ := hx _ hm
    cases e
    obtain ⟨its2, r2, pt, _⟩ := I.tuple ht.sq
    obtain ⟨o2, ho2, hc2, n2, hd2⟩ := id pt
    obtain ⟨u1, u2, rfl, ri, rj⟩ := vals2 r2
    obtain ⟨t1, rfl⟩ := ri
    obtain ⟨t2, rfl⟩ := rj
    exact ⟨t, o2, t1, t2, n2, rfl, ho2, hc2, hd2⟩
  · have h3 : ∀ u ∈ out, ∃ a, u = Value.ref a := fun u hu => e2 u (h2.perm.mem_iff.mp hu)
    obtain ⟨n, hn⟩ := hn
    have hpm : (out.map backV).Perm xs := by
      rw [e1]
      exact h2.perm.map backV
    have hsr : ((out.map backV).map (keyP X.K H)).Pairwise fun a b => lexL a b = true := by
      rw [List.map_map, List.pairwise_map]
      refine h1.imp fun {x y} hxy => ?_
      show (!SrtO.lexB (keyP X.K H (backV y)) (keyP X.K H (backV x))) = true
      have hxy2 : SrtO.lexB (keyP X.K H (backV y)) (keyP X.K H (backV x)) = false := hxy
      rw [hxy2]; rfl
    have hys : (out.map backV).map (keyP X.K H) = sortP ps := sorted_uniq ((hpm.map _).trans (by rw [← eps]; exact (sortP_perm ps).symm)) hsr (sortP_sorted ps)
    refine ⟨.ref d, upd H d (.lst (out.map backV)), I.laid (t' := s.toks) kp hd ⟨?_, out, n, vals_back h3, hn⟩, rfl, q _ d ?_ (I.hok.fresh hd)⟩
    · rw [hpm.length_eq]
      exact hz
    · rw [← hys]
      exact Pr.of fun x hx2 => hx x (hpm.mem_iff.mp hx2)
end L2
namespace Sm
open PySem L2
def pairV (p : Int × Int) : Val := .tup [.int p.1, .int p.2]
def pairsV : List Val → Option (List (Int × Int))
  | [] => some []
  | .tup [.int i, .int j] :: l => (pairsV l).map ((i, j) :: ·)
  | _ => none
theorem pairsV_ok : ∀ {l : List Val} {ps : List (Int × Int)}, pairsV l = some ps → l = ps.map pairV
  | [], ps, h => by cases h; rfl
  | x :: l, ps, h => by
    unfold pairsV at h
    split at h
    · rename_i e; cases e
    · rename_i i j l2 e
      cases e
      cases hq : pairsV l with
      | none => rw [hq] at h; cases h
      | some qs =>
        rw [hq] at h
        cases h
        rw [pairsV_ok hq]; rfl
    · cases h
theorem pairsV_map : ∀ ps : List (Int × Int), pairsV (ps.map pairV) = some ps
  | [] => rfl
  | p :: ps => by
    show (pairsV (ps.map pairV)).map ((p.1, p.2) :: ·) = _
    rw [pairsV_map ps]; rfl
def sortedPV : FnS := fun l M => match l with
  | [.loc n] => (match (getL M n).bind pairsV with
    | some ps => .ok (.loc M.length) (M ++ [.lst ((sortP ps).map pairV)])
    | none => .bad)
  | [.tup l] => (match pairsV l with
    | some ps => .ok (.loc M.length) (M ++ [.lst ((sortP ps).map pairV)])
    | none => .bad)
  | _ => .bad
section
variable [LT] [WB] {K : PySem.W.Frag} {ρ : List Addr} {M : Mem} {H : Hp}
theorem pr_iff : ∀ {ps : List (Int × Int)} {vs : List V}, RVs K ρ H (ps.map pairV) vs ↔ Pr K H ps vs
  | [], vs => Iff.rfl
  | p :: ps, vs => by
    constructor
    · rintro ⟨v, r, e, ⟨a, us, e1, e2, e3⟩, h⟩
      have e4 : us = [.int p.1, .int p.2] := (RVs.ints [p.1, p.2]).mp e3
      subst e4
      exact ⟨v, r, e, ⟨a, e1, e2⟩, pr_iff.mp h⟩
    · rintro ⟨v, r, e, ⟨a, e1, e2⟩, h⟩
      exact ⟨v, r, e, ⟨a, _, e1, e2, (RVs.ints [p.1, p.2]).mpr rfl⟩, pr_iff.mpr h⟩
theorem cs_sortedPQ : CallS K (rSortedPQ K) sortedPV := by
  intro ρ M H σ W Q l vs R r p
  unfold sortedPV at p
  split at p
  · rename_i n
    cases hq : (getL M n).bind pairsV with
    | none => rw [hq] at p; exact p.elim
    | some ps =>
      rw [hq] at p
      simp only at p
      obtain ⟨xs, hx, hps⟩ := Option.bind_eq_some_iff.mp hq
      obtain ⟨v, r0, e1, r1, e3⟩ := r
      cases (show r0 = [] from e3)
      subst e1
      obtain ⟨a, us, e4, h1, h2, h3⟩ := R.lst (getL_ok hx) r1
      subst e4
      rw [pairsV_ok hps] at h3
      exact ⟨a, us, ps, rfl, .inl (SqL.of h2), pr_iff.mp h3, fun ys q hy hq' => p.newList R (pr_iff.mpr hy) q hq'⟩
  · rename_i l
    cases hq : pairsV l with
    | none => rw [hq] at p; exact p.elim
    | some ps =>
      rw [hq] at p
      simp only at p
      obtain ⟨v, r0, e1, ⟨a, us, e4, h2, h3⟩, e3⟩ := r
      cases (show r0 = [] from e3)
      subst e1 e4
      rw [pairsV_ok hq] at h3
      exact ⟨a, us, ps, rfl, .inr h2, pr_iff.mp h3, fun ys q hy hq' => p.newList R (pr_iff.mpr hy) q hq'⟩
  · exact p.elim
end
end Sm

namespace Sm
open PySem L2 PySem.Spec PyProof.Rows LamX
/-! lists of lambdas -/
structure LamI where
  params : Arguments
  body : Expr
  scope : Scope
  ds : Option (Str × Int)
def IsLam (q : Str) (cl : List (Str × Addr)) (H : Hp) (f : Addr) (l : LamI) : Prop := ∃ (c' : Addr) (pm ctv dV : Value), H f = some (Sm.objH f (lamObj (q ++ "<lambda>") l.params l.body l.scope (cloFrom cl l.scope.names []) pm c' ctv dV)) ∧ H c' = some (CodeO c' (q ++ "<lambda>")) ∧ DefAt H dV l.ds
def locsF : Nat → Nat → List Val
  | 0, _ => []
  | k + 1, n => .loc n :: locsF k (n + 1)
theorem locsF_length : ∀ k n, (locsF k n).length = k
  | 0, _ => rfl
  | k + 1, n => by show (locsF k (n + 1)).length + 1 = _; rw [locsF_length]
section
variable [LT] [WB] {K : PySem.W.Frag} {ρ ρ' : List Addr} {H H' : Hp} {M : Mem} {σ : L2.St} {W : WX} {q : Str} {cl : List (Str × Addr)}
theorem IsLam.ext {f : Addr} {l : LamI} (E : Ext ρ H ρ' H') (h : IsLam q cl H f l) : IsLam q cl H' f l := by
  obtain ⟨c', pm, ctv, dV, h1, h2, h3⟩ := h
  refine ⟨c', pm, ctv, dV, E.exx _ _ h1, E.exx _ _ h2, ?_⟩
  cases hd : l.ds with
  | none => rw [hd] at h3; exact h3
  | some p =>
    rw [hd] at h3
    obtain ⟨a, h5, h6⟩ := h3
    exact ⟨a, h5, E.tup _ _ h6⟩
abbrev wbL (q : Str) (cl : List (Str × Addr)) (n0 : Nat) (ls : List LamI) : WB := ⟨fun ρ H => WB.B ρ H ∧ ∀ (i : Nat) (l : LamI), ls[i]? = some l → ∃ f, ρ[n0 + i]? = some f ∧ IsLam q cl H f l, fun E h => ⟨WB.mono E h.1, fun i l hl => by obtain ⟨f, h1, h2⟩ := h.2 i l hl; exact ⟨f, E.get h1, h2.ext E⟩⟩⟩
theorem Rel.highL {n0 : Nat} {ls : List LamI} (R : Rel K ρ M H) (h : ∀ (i : Nat) (l : LamI), ls[i]? = some l → ∃ f, ρ[n0 + i]? = some f ∧ IsLam q cl H f l) : @Rel _ (wbL q cl n0 ls) K ρ M H := @Rel.mk _ (wbL q cl n0 ls) _ _ _ _ R.len R.nd R.at_ R.tab ⟨R.bd, h⟩
theorem Rel.lowL {n0 : Nat} {ls : List LamI} (R : @Rel _ (wbL q cl n0 ls) K ρ M H) : Rel K ρ M H := ⟨@Rel.len _ (wbL q cl n0 ls) _ _ _ _ R, @Rel.nd _ (wbL q cl n0 ls) _ _ _ _ R, @Rel.at_ _ (wbL q cl n0 ls) _ _ _ _ R, @Rel.tab _ (wbL q cl n0 ls) _ _ _ _ R, (@Rel.bd _ (wbL q cl n0 ls) _ _ _ _ R).1⟩
theorem PoS.lowL {n0 : Nat} {ls : List LamI} {D : Ends} : ∀ {o : SO}, PoS K ρ H W D o → @PoS _ (wbL q cl n0 ls) K ρ H W D o
  | .nx _ _, h => fun ρ2 H2 b E2 r2 q => h ρ2 H2 b E2 r2.lowL q
  | .rt _ _, h => fun ρ2 H2 b E2 r2 q => h ρ2 H2 b E2 r2.lowL q
  | .bk _ _, h => fun ρ2 H2 b E2 r2 q => h ρ2 H2 b E2 r2.lowL q
  | .ct _ _, h => fun ρ2 H2 b E2 r2 q => h ρ2 H2 b E2 r2.lowL q
  | .ex _ _ _, h => fun ρ2 H2 s c d E2 r2 q => h ρ2 H2 s c d E2 r2.lowL q
  | .bad, h => h
end
section
variable [LT] [WB] {X : Cx} {W : WX}
def tLam (X : Cx) (l : LamI) : TE := fun _ H Q => Tabs LT.T H ∧ ∀ f H1, ExtN H H1 → H f = none → Tabs LT.T H1 → (∃ o, H1 f = some (Sm.objH f o)) → IsLam X.env.qual X.env.cells H1 f l → Q (.ref f) H1
theorem pe_lam {l : LamI} {lpos : Pos} {c P : Addr} (TB : TabB X.base X.mg c P) (hcode : X.env.code = .ref c) (hT : (P, X.env.qual ++ "<lambda>") ∈ LT.T) (hu : ∀ p ∈ LT.T, p.1 = P → p.2 = X.env.qual ++ "<lambda>")
    (L : LamT X.N X.env.scope l.scope l.ds) (hdef : DefOf X l.params l.ds) : PE X (.Lambda l.params l.body l.scope lpos) (tLam X l) :=
  ⟨fun pins s σ H Q I h => lam_make3 I TB hcode hT hu h.1 hdef (L.has I.ok) (fun _ _ z => z) fun f c' pm ctv dV H1 s' I1 eN nf T1 hf hc hd => ⟨.ref f, H1, I1, rfl, h.2 f H1 eN nf T1 ⟨_, hf⟩ ⟨c', pm, ctv, dV, hf, hc, hd⟩⟩⟩
def tLams (X : Cx) : List LamI → TA
  | [] => tNil
  | l :: ls => tCons (tLam X l) (tLams X ls)
theorem lams_run {σ : L2.St} : ∀ (ls : List LamI) {ρ : List Addr} {M : Mem} {H : Hp} {Q : List V → Hp → Prop}, Rel X.K ρ M H →
    (∀ ρ' H' fs, Ext ρ H ρ' H' → Rel X.K ρ' (M ++ List.replicate ls.length .fn) H' → RVs X.K ρ' H' (locsF ls.length M.length) fs → (∀ (i : Nat) (l : LamI), ls[i]? = some l → ∃ f, ρ'[M.length + i]? = some f ∧ IsLam X.env.qual X.env.cells H' f l) → Q fs H') → tLams X ls σ H Q
  | [], ρ, M, H, Q, R, h => h ρ H [] (Ext.refl _ _) (by simpa using R) rfl (fun i l hl => by simp at hl)
  | l :: ls, ρ, M, H, Q, R, h => by
    refine ⟨R.tab, fun f H1 eN nf T1 hf hl => ?_⟩
    obtain ⟨o, hf⟩ := hf
    have E1 := Ext.made (ρ := ρ) eN nf T1
    have R1 := R.made eN nf T1 hf
    have hn : (ρ ++ [f])[M.length]? = some f := by rw [← R.len, List.getElem?_append_right (Nat.le_refl _)]; simp
    have hl1 : (M ++ [Cell.fn]).length = M.length + 1 := by simp
    refine lams_run ls R1 fun ρ' H' fs E R' r hL => ?_
    rw [hl1] at r hL
    refine h ρ' H' (.ref f :: fs) (E1.trans E) ?_ ⟨.ref f, fs, rfl, ⟨f, rfl, E.get hn⟩, r⟩ (fun i l' hi => ?_)
    · rw [List.append_assoc] at R'
      exact R'
    · cases i with
      | zero =>
        cases hi
        exact ⟨f, E.get hn, hl.ext E⟩
      | succ i =>
        obtain ⟨f', h1, h2⟩ := hL i l' hi
        exact ⟨f', by rw [← h1]; congr 1; omega, h2⟩
def sWks (k : Nat) (g : GF) (T : Nat → SF) : SF := fun e M => (g (.loc (M.length + k)) e (M ++ List.replicate k .fn ++ [.lst (locsF k M.length)])).toS fun e1 M1 => T M.length e1 M1
/-- works = [lambda: .., ..]; what follows knows them -/
theorem ss_works {ls : List LamI} {es : List Expr} {tg : Expr} {g : GF} {rest : List Stmt} {T : Nat → SF} {lpos pos : Pos} (hes : PA X es (tLams X ls)) (hk : ls.length ≤ 1000) (hg : SG X W tg g) (hr : ∀ n0, @SSs _ (wbL X.env.qual X.env.cells n0 ls) X W rest (T n0))
    (hs : swapsWithSole [tg] (.List es lpos) pos.line X.env = pure false := by rfl) (hw : swappedStores [tg] (.List es lpos) X.env = pure none := by rfl) (h1 : (assignEach [tg] X.env).map (·.2) = [assign tg X.env] := by rfl) : SSs X W (.Assign [tg] (.List es lpos) pos :: rest) (sWks ls.length g T) := by
  have hrest : PSs X rest (fun D σ H => ∃ n0, @tSt _ (wbL X.env.qual X.env.cells n0 ls) X.K W (T n0) D σ H) := ⟨fun pins s σ H D I ⟨n0, h⟩ => (@SSs.pss _ (wbL X.env.qual X.env.cells n0 ls) _ _ _ _ (hr n0)).run pins s σ H D I h⟩
  refine ⟨(pss_cons (ps_asg (pe_lst hes) hg.pg hs hw h1) hrest).imp fun D σ H ⟨ρ, e, M, R, S, p⟩ => ?_⟩
  refine lams_run (X := X) (σ := σ) ls R fun ρ' H' fs E R' r hL => ⟨by rw [r.length, locsF_length]; show ls.length ≤ 16777216; omega, fun a ha => ?_⟩
  have E2 := Ext.alloc (o := .lst fs) ρ' ha
  have R2 := R'.alloc ha (c := .lst (locsF ls.length M.length)) ⟨fs, upd_same, RVs.mono E2 _ _ r⟩
  have hidx : (ρ' ++ [a])[M.length + ls.length]? = some a := by
    have hl := R'.len
    rw [List.length_append, List.length_replicate] at hl
    rw [List.getElem?_append_right (by omega)]
    simp [hl]
  refine ⟨ρ' ++ [a], e, _, .loc (M.length + ls.length), R2, S.mono (E.trans E2), ⟨a, rfl, hidx⟩, ?_⟩
  exact (PoG.toS (p.mono (E.trans E2))).imp fun σ1 H1 ⟨ρ1, e1, M1, E3, R3, S3, p3⟩ => ⟨M.length, ρ1, e1, M1, R3.highL fun i l hl => by
    obtain ⟨f, h1, h2⟩ := hL i l hl
    exact ⟨f, E3.get (E2.get h1), (h2.ext E2).ext E3⟩, S3, p3.lowL⟩
end
end Sm

namespace Sm
open PySem L2 PySem.Spec PyProof.Rows LamX
/-- x(w): w one of the lambdas known -/
def eWordAt (nN : Nat) (Fw : WF) (tab : Nat → Option EF) (i : Nat) : EF := fun (e : List (Option Val)) M => match e[i]? with
  | some (some (Val.loc n)) => (match tab n with
    | some fb => (match Fw n (fun M' => fb e M') (some (.loc n) :: List.replicate (nN - 1) none) M with
      | .nx _ M1 => .ok .non M1
      | .rt v M1 => .ok v M1
      | _ => .bad)
    | none => .bad)
  | _ => .bad
section
variable [LT] [WB] {X : Cx} {W : WX} {x : Str} {k nN : Nat} {Fw : WF} {c P : Addr} {p pos : Pos}
/-- what is known of the lambdas in a table -/
def TabLam (X : Cx) (k2 : Nat) (tab : Nat → Option EF) : Prop := ∀ n fb, tab n = some fb → ∃ l : LamI, (∀ ρ H, WB.B ρ H → ∃ f, ρ[n]? = some f ∧ IsLam X.env.qual X.env.cells H f l) ∧ LamT X.N X.env.scope l.scope l.ds ∧ LamBd l.params l.body l.scope l.ds ∧
  ∀ (A : Around) (outer : List Env) (s : Shared) (H : Hp) (E : XK) (f cd : Addr), Room k2 (A.deeper (lamEnv X l.scope s.heap.objs.size f cd)) → SE (lamCx X A outer s H E l.scope f cd) (fun c d _ H => E c d H) l.body fb
theorem se_wordAt {tab : Nat → Option EF} {i k2 : Nat} {e0 : Expr} (C : Wd X.prog X.w X.K X.mg X.base x k nN Fw) (hr : Room (k + 1) X.A) (tk : Takes X W) (hk : k2 + 1 ≤ k) (ht : TabLam X k2 tab) (ha : SE X W e0 (eVar i)) (hse : starEach [e0] X.env = (false, eval e0 X.env) :: starEach [] X.env := by rfl)
    (hg : Gl X x := by rfl) (hd : (x == ("__debug__" : Str)) = false := by decide) :
    SE X W (.Call (.Name x p) [e0] [] pos) (eWordAt nN Fw tab i) := by
  obtain ⟨g, fd, pg, bg, sg, Ng, a, qx, F, hm, b, Sg, h0, va, hd1, hd2, hnN, hw⟩ := C.ex
  refine ⟨⟨fun pins s σ H Q I ⟨ρ, e, M, R, S, p⟩ => ?_⟩⟩
  obtain ⟨oc, od, dV, kV, doc, pm, an, cdv, ct, osl, rfl, lk, hcg, _, _⟩ := F.ex
  unfold eWordAt at p
  split at p
  · rename_i n hn
    split at p
    · rename_i fb hfb
      obtain ⟨l, hB, L, bnd, hb⟩ := ht n fb hfb
      obtain ⟨f, hf, hlam⟩ := hB ρ H R.bd
      refine wpAny_Call_Name_kw (ld_glob I hg hm (PySem.W.callWith_K (h₀ := X.base) I.ok.mod.kin F.kp ?_ hse (by rfl)) hd)
      rw [hse]
      show wpAny _ _ (spliced ((false, eval e0 X.env) :: backTo pos (starEach [] X.env))) _ _ s
      have hev : tE X.K W (eVar i) σ H (fun v H1 => v = .ref f ∧ ∃ ρ1, Ext ρ H ρ1 H1 ∧ Rel X.K ρ1 M H1) := by
        refine ⟨ρ, e, M, R, S, ?_⟩
        unfold eVar
        rw [hn]
        exact fun ρ1 H1 v E1 R1 ⟨a, ev, ea⟩ => ⟨by rw [E1.get hf] at ea; rw [ev]; cases ea; rfl, ρ1, E1, R1⟩
      refine Calls.spliced_cons (thn (ha.pe.run pins s σ H _ I hev) fun u s1 hh => Calls.spliced_nil ?_)
      obtain ⟨v, H1, I1, rv, ev, ρ1, E1, R1⟩ := hh
      subst ev
      obtain rfl : u = Value.ref f := rv
      refine ⟨I1.kIn, ?_⟩
      have hn1 := E1.get hf
      obtain ⟨cd, pm2, ctv, dV2, hfo, hco, hdv⟩ := hlam.ext E1
      have hB1 : @WB.B _ (wbW n f ρ1 H1) ρ1 H1 := ⟨R1.bd, hn1, Ext.refl _ _⟩
      have run : codeAny (model X.prog X.w) X.A (.call (.ref g) ⟨[.ref f], []⟩) (CR C8.CX0 X.stack X.prog X.w H1 s1 Q C8.E0) s1 := by
        refine run_ofS (N := Ng) (ps := [a]) (us := [.ref f]) (vs := [.ref f]) lk hcg Sg hr I1.env0 (b s1 [.ref f] I1.kIn rfl) (.cons rfl .nil) rfl fun hr2 => ?_
        have act := hw (wbW n f ρ1 H1) n (fun M' => fb e M') cdv X.A X.stack s1 H1 hr2 (fun W2 pn xe p1 p2 tk2 => ?_)
        · refine ⟨_, (@SSs.pss _ (wbW n f ρ1 H1) _ _ _ _ act).nox, ρ1, _, M, R1.high hB1, SlR.start (N := Ng) (np := 1) (l := [Val.loc n]) (vs := [V.ref f]) ⟨.ref f, [], rfl, ⟨f, rfl, hn1⟩, rfl⟩ rfl, ?_⟩
          show @PoS _ (wbW n f ρ1 H1) X.K _ H1 _ _ (Fw n (fun M' => fb e M') (some (.loc n) :: List.replicate (Ng.length - 1) none) M)
          rw [hnN]
          cases hF : Fw n (fun M' => fb e M') (some (.loc n) :: List.replicate (nN - 1) none) M with
          | nx e1 M1 => rw [hF] at p; exact fun ρ' H' σ' E' R' S' => p ρ' H' .non (E1.trans E') R'.low rfl
          | rt v M1 => rw [hF] at p; exact fun ρ' H' u E' R' r => p ρ' H' u (E1.trans E') R'.low r
          | ex _ _ _ => rw [hF] at p; exact p.elim
          | bk _ _ => rw [hF] at p; exact p.elim
          | ct _ _ => rw [hF] at p; exact p.elim
          | bad => rw [hF] at p; exact p.elim
        · obtain ⟨j, rfl⟩ : ∃ j, k = k2 + 1 + j := ⟨k - (k2 + 1), by omega⟩
          have z := pe_lamAt3 (i := 0) (p1 := p1) (p2 := p2) (k := k2) (f := f) (cd := cd) (pm := pm2) (ctv := ctv) (dV := dV2) (tb := fun E => tE X.K (fun c d _ H => E c d H) fb) I1 L bnd tk2 (hr2.mono (by omega)) (fun A outer s H E h => (hb A outer s H E f cd h).pe) h0 va hd1 hd2
          refine @SE.mk _ (wbW n f ρ1 H1) _ _ _ _ (z.imp fun σ2 H2 Q2 q => ?_)
          obtain ⟨ρ2, e2, M2, R2, S2, p2⟩ := q
          unfold eWork at p2
          split at p2
          · rename_i n2 hn2
            split at p2
            · rename_i en
              subst en
              obtain ⟨v, hv, a2, e3, e4⟩ := S2.at_ 0 _ hn2
              subst e3
              have bd2 := @Rel.bd _ (wbW n2 f ρ1 H1) _ _ _ _ R2
              have ea : a2 = f := by
                have z2 := bd2.2.1
                rw [e4] at z2
                exact Option.some.inj z2
              subst ea
              have EX := bd2.2.2
              refine ⟨hv, EX.exx _ _ hfo, EX.exx _ _ hco, ?_, ρ2, e, M2, R2.low, S.mono (E1.trans EX), ?_⟩
              · cases hds : l.ds with
                | none => rw [hds] at hdv; exact hdv
                | some q =>
                  rw [hds] at hdv
                  obtain ⟨a3, h5, h6⟩ := hdv
                  exact ⟨a3, h5, EX.tup _ _ h6⟩
              · have p3 := Po.low (h := bd2) p2
                replace p3 : Po (RVr X.K) X.K ρ2 H2 σ2 (fun c d _ H => W2 c d σ2 H) Q2 (fb e M2) := p3
                show Po (RVr X.K) X.K ρ2 H2 σ (fun c d _ H => W2 c d σ2 H) Q2 (fb e M2)
                cases ho : fb e M2 with
                | ok v M3 => rw [ho] at p3; exact p3
                | ex y M3 => rw [ho] at p3; exact p3
                | bad => rw [ho] at p3; exact p3
            · exact p2.elim
          · exact p2.elim
      refine wpAny_call (codeAny_mono run fun r s2 z => ?_)
      cases r with
      | error e => exact (show False from z).elim
      | ok fl =>
        cases fl with
        | ret u => exact I1.after z
        | next => exact z.elim
        | brk => exact z.elim
        | cont => exact z.elim
    · exact p.elim
  · exact p.elim
theorem pa_lam {p : Arguments} {b : Expr} {sc : Scope} {lpos : Pos} {ds : Option (Str × Int)} {es : List Expr} {ls : List LamI} {c P : Addr} (TB : TabB X.base X.mg c P) (hcode : X.env.code = .ref c) (hT : (P, X.env.qual ++ "<lambda>") ∈ LT.T) (hu : ∀ p ∈ LT.T, p.1 = P → p.2 = X.env.qual ++ "<lambda>")
    (L : LamT X.N X.env.scope sc ds) (hdef : DefOf X p ds) (hr : PA X es (tLams X ls)) (hs : starEach (.Lambda p b sc lpos :: es) X.env = (false, eval (.Lambda p b sc lpos) X.env) :: starEach es X.env := by rfl) : PA X (.Lambda p b sc lpos :: es) (tLams X (⟨p, b, sc, ds⟩ :: ls)) :=
  pa_cons (pe_lam (l := ⟨p, b, sc, ds⟩) TB hcode hT hu L hdef) hr hs
theorem pa_lam0 : PA X [] (tLams X []) := pa_nil
/-- the table of the lambdas behind n0 -/
def tabL (n0 : Nat) (fs : List EF) : Nat → Option EF := fun n => if n0 ≤ n then fs[n - n0]? else none
/-- what the lambdas make -/
def LamsOk (X : Cx) (k2 : Nat) : List LamI → List EF → Prop
  | [], [] => True
  | l :: ls, f :: fs => (LamT X.N X.env.scope l.scope l.ds ∧ LamBd l.params l.body l.scope l.ds ∧
    ∀ (A : Around) (outer : List Env) (s : Shared) (H : Hp) (E : XK) (g cd : Addr), Room k2 (A.deeper (lamEnv X l.scope s.heap.objs.size g cd)) → SE (lamCx X A outer s H E l.scope g cd) (fun c d _ H => E c d H) l.body f) ∧ LamsOk X k2 ls fs
  | _, _ => False
theorem lamsOk_nil {k2 : Nat} : LamsOk X k2 [] [] := trivial
theorem lamsOk_cons {k2 : Nat} {l : LamI} {ls : List LamI} {f : EF} {fs : List EF} (a : LamT X.N X.env.scope l.scope l.ds) (b : LamBd l.params l.body l.scope l.ds)
    (c : ∀ (A : Around) (outer : List Env) (s : Shared) (H : Hp) (E : XK) (g cd : Addr), Room k2 (A.deeper (lamEnv X l.scope s.heap.objs.size g cd)) → SE (lamCx X A outer s H E l.scope g cd) (fun c d _ H => E c d H) l.body f) (r : LamsOk X k2 ls fs) : LamsOk X k2 (l :: ls) (f :: fs) := ⟨⟨a, b, c⟩, r⟩
theorem LamsOk.at_ {k2 : Nat} : ∀ {ls : List LamI} {fs : List EF}, LamsOk X k2 ls fs → ∀ (i : Nat) (f : EF), fs[i]? = some f → ∃ l, ls[i]? = some l ∧ LamT X.N X.env.scope l.scope l.ds ∧ LamBd l.params l.body l.scope l.ds ∧
    ∀ (A : Around) (outer : List Env) (s : Shared) (H : Hp) (E : XK) (g cd : Addr), Room k2 (A.deeper (lamEnv X l.scope s.heap.objs.size g cd)) → SE (lamCx X A outer s H E l.scope g cd) (fun c d _ H => E c d H) l.body f
  | [], [], _, i, f, h => by simp at h
  | l :: ls, f' :: fs, ⟨h1, h2⟩, 0, f, h => by cases h; exact ⟨l, rfl, h1⟩
  | l :: ls, f' :: fs, ⟨h1, h2⟩, i + 1, f, h => h2.at_ i f h
  | [], _ :: _, h, _, _, _ => h.elim
  | _ :: _, [], h, _, _, _ => h.elim
theorem tabL_ok {k2 n0 : Nat} {ls : List LamI} {fs : List EF} {q : Str} {cl : List (Str × Addr)} (hB : ∀ ρ H, WB.B ρ H → ∀ (i : Nat) (l : LamI), ls[i]? = some l → ∃ f, ρ[n0 + i]? = some f ∧ IsLam q cl H f l) (hq : X.env.qual = q := by rfl) (hc : X.env.cells = cl := by rfl) (h : LamsOk X k2 ls fs) : TabLam X k2 (tabL n0 fs) := fun n fb hn => by
  unfold tabL at hn
  split at hn
  · rename_i hle
    obtain ⟨l, hl, a, b, c⟩ := h.at_ _ _ hn
    refine ⟨l, fun ρ H hb => ?_, a, b, c⟩
    obtain ⟨f, h1, h2⟩ := hB ρ H hb _ _ hl
    rw [hq, hc]
    exact ⟨f, by rw [← h1]; congr 1; omega, h2⟩
  · cases hn
/-- works = [lambda: .., ..]; the next statement knows them -/
theorem ss_works2 {ls : List LamI} {es : List Expr} {tg : Expr} {g : GF} {st : Stmt} {rest : List Stmt} {T : Nat → SF} {F2 : SF} {lpos pos : Pos} (hes : PA X es (tLams X ls)) (hk : ls.length ≤ 1000) (hg : SG X W tg g)
    (hst : ∀ (B : WB) (n0 : Nat), (∀ ρ H, B.B ρ H → ∀ (i : Nat) (l : LamI), ls[i]? = some l → ∃ f, ρ[n0 + i]? = some f ∧ IsLam X.env.qual X.env.cells H f l) → @SS _ B X W st (T n0)) (h2 : SSs X W rest F2)
    (hs : swapsWithSole [tg] (.List es lpos) pos.line X.env = pure false := by rfl) (hw : swappedStores [tg] (.List es lpos) X.env = pure none := by rfl) (h1 : (assignEach [tg] X.env).map (·.2) = [assign tg X.env] := by rfl) : SSs X W (.Assign [tg] (.List es lpos) pos :: st :: rest) (sSeq (sWks ls.length g T) F2) := by
  have hps : PS X st (fun D σ H => ∃ n0, @tSt _ (wbL X.env.qual X.env.cells n0 ls) X.K W (T n0) D σ H) := ⟨fun pins s σ H D I ⟨n0, h⟩ => (@SS.ps _ (wbL X.env.qual X.env.cells n0 ls) _ _ _ _ (hst (wbL X.env.qual X.env.cells n0 ls) n0 fun ρ H h => h.2)).run pins s σ H D I h⟩
  refine ⟨(pss_cons (ps_asg (pe_lst hes) hg.pg hs hw h1) (pss_cons hps h2.pss)).imp fun D σ H ⟨ρ, e, M, R, S, p⟩ => ?_⟩
  have p : PoS X.K ρ H W { D with nx := tSt X.K W F2 D } (sWks ls.length g T e M) := PoS.seq p
  refine lams_run (X := X) (σ := σ) ls R fun ρ' H' fs E R' r hL => ⟨by rw [r.length, locsF_length]; show ls.length ≤ 16777216; omega, fun a ha => ?_⟩
  have E2 := Ext.alloc (o := .lst fs) ρ' ha
  have R2 := R'.alloc ha (c := .lst (locsF ls.length M.length)) ⟨fs, upd_same, RVs.mono E2 _ _ r⟩
  have hidx : (ρ' ++ [a])[M.length + ls.length]? = some a := by
    have hl := R'.len
    rw [List.length_append, List.length_replicate] at hl
    rw [List.getElem?_append_right (by omega)]
    simp [hl]
  refine ⟨ρ' ++ [a], e, _, .loc (M.length + ls.length), R2, S.mono (E.trans E2), ⟨a, rfl, hidx⟩, ?_⟩
  exact (PoG.toS (p.mono (E.trans E2))).imp fun σ1 H1 ⟨ρ1, e1, M1, E3, R3, S3, p3⟩ => ⟨M.length, ρ1, e1, M1, R3.highL fun i l hl => by
    obtain ⟨f, h1, h2⟩ := hL i l hl
    exact ⟨f, E3.get (E2.get h1), (h2.ext E2).ext E3⟩, S3, p3.lowL⟩
theorem ss_works3 {kk : Nat} {ls : List LamI} {es : List Expr} {tg : Expr} {g : GF} {st : Stmt} {rest : List Stmt} {T : Nat → SF} {F2 : SF} {lpos pos : Pos} (hes : PA X es (tLams X ls)) (hl : ls.length = kk) (hk : kk ≤ 1000) (hg : SG X W tg g)
    (hst : ∀ (B : WB) (n0 : Nat), (∀ ρ H, B.B ρ H → ∀ (i : Nat) (l : LamI), ls[i]? = some l → ∃ f, ρ[n0 + i]? = some f ∧ IsLam X.env.qual X.env.cells H f l) → @SS _ B X W st (T n0)) (h2 : SSs X W rest F2)
    (hs : swapsWithSole [tg] (.List es lpos) pos.line X.env = pure false := by rfl) (hw : swappedStores [tg] (.List es lpos) X.env = pure none := by rfl) (h1 : (assignEach [tg] X.env).map (·.2) = [assign tg X.env] := by rfl) : SSs X W (.Assign [tg] (.List es lpos) pos :: st :: rest) (sSeq (sWks kk g T) F2) := by
  subst hl
  exact ss_works2 hes hk hg hst h2 hs hw h1
end
end Sm

namespace L2
open PySem PySem.Spec PySem.Calls PyProof.Rows
theorem pick_one (items : Array Value) : slicePick items none none (some 1) = items.toList.toArray := by
  have e : slicePick items none none (some 1) = slicePick items none none none := rfl
  rw [e, PySem.W.kmk_pick_nat items (a := 0) (b := items.size) (by unfold sliceBounds; simp)]
  rw [List.drop_zero, List.take_of_length_le (by simp)]
def stepP (K : PySem.W.Frag) (x : V) (Q : VK) (i : Int) (H2 : Hp) : Prop := ∃ a xs, x = .ref a ∧ SqL K H2 a xs ∧ ((i = 1 ∧ ∀ p, H2 p = none → Q (.ref p) (upd H2 p (.lst xs))) ∨ (i = -1 ∧ ∀ p, H2 p = none → Q (.ref p) (upd H2 p (.lst xs.reverse))))
def stepO (K : PySem.W.Frag) (x : V) (Q : VK) : Option Int → Hp → Prop
  | some i, H2 => stepP K x Q i H2
  | none, _ => False
def tStepL (K : PySem.W.Frag) (te tb : TE) : TE := fun σ H Q => te σ H fun x H1 => tPart tb σ H1 (stepO K x Q)
theorem pe_stepL {X : Cx} {e b : Expr} {te tb : TE} {p3 pos : Pos} (he : PE X e te) (hb : PE X b tb) : PE X (.Subscript e (.Slice none none (some b) p3) pos) (tStepL X.K te tb) := by
  refine ⟨fun pins s σ H Q I h => ?_⟩
  refine Subscript_ (thn (he.run pins s σ H _ I h) fun v s1 ⟨x, H1, I1, r1, q1⟩ => ?_)
  have hst : PO X (some b) (tPart tb) := po_some hb
  refine wpAny_Slice (thn (po_none.run pins s1 σ H1 (fun o H2 => o = none ∧ H2 = H1) I1 ⟨rfl, rfl⟩) fun vl s2 ⟨l, H2, I2, pl, el, e2⟩ => ?_)
  subst el e2
  refine thn (po_none.run pins s2 σ H2 (fun o H3 => o = none ∧ H3 = H2) I2 ⟨rfl, rfl⟩) fun vu s3 ⟨u, H3, I3, pu, eu, e3⟩ => ?_
  subst eu e3
  refine thn (hst.run pins s3 σ H3 (stepO X.K x Q) I3 q1) fun vs s4 ⟨o, H4, I4, ps, q4⟩ => ?_
  cases o with
  | none => exact q4.elim
  | some i =>
    obtain ⟨a, xs, ex, hx, q⟩ := q4
    subst ex
    cases r1
    have I5 : Inv X pins σ H4 { s4 with heap := s4.heap.push { cls := .type "slice", data := .fields #[vl, vu, vs] } } := I4.kept (t' := s4.toks) fun b ob q => Heap.get?_push_of_some _ q
    obtain ⟨its, r, ht, hz⟩ := I5.list hx
    have hlen := r.length
    show wpAny (model X.prog X.w) X.A (subscriptTail e (.Slice none none (some b) p3) (.ref a) (.ref s4.heap.objs.size)) (EP X pins σ Q) X.xe { s4 with heap := s4.heap.push { cls := .type "slice", data := .fields #[vl, vu, vs] } }
    refine tail_any (ops := [.ref a, .ref s4.heap.objs.size]) ht.isList.typeIs (PySem.slot_list_getitem.lookup) ?_ (by with_unfolding_all rfl)
    rcases q with ⟨ei, q⟩ | ⟨ei, q⟩
    · subst ei
      refine wpAny_getItem_list_slice ht.isList (Heap.IsSliceOf.new _ vl vu vs) pl pu ps (by decide) ?_ (by rw [List.size_toArray]; omega)
      rw [pick_one]
      refine ⟨.ref _, _, I5.laid (t' := s4.toks) (o := .lst xs) (fun b ob q => Heap.get?_push_of_some _ q) (Nat.le_refl _) ?_, rfl, q _ (I5.hok.fresh (Nat.le_refl _))⟩
      exact ⟨hz, _, 0, r, Heap.get?_push_size _ rfl⟩
    · subst ei
      refine wpAny_getItem_list_slice ht.isList (Heap.IsSliceOf.new _ vl vu vs) pl pu ps (by decide) ?_ (by rw [List.size_toArray]; omega)
      rw [PySem.W.krv_pick]
      refine ⟨.ref _, _, I5.laid (t' := s4.toks) (o := .lst xs.reverse) (fun b ob q => Heap.get?_push_of_some _ q) (Nat.le_refl _) ?_, rfl, q _ (I5.hok.fresh (Nat.le_refl _))⟩
      exact ⟨by rw [List.length_reverse]; exact hz, _, 0, r.reverse, Heap.get?_push_size _ rfl⟩
end L2
namespace Sm
open PySem L2
/-- xs[::e], e 1 or -1 -/
def stepV (x y : Val) (M : Mem) : Out Val := match x, y with
  | .loc n, .int i => (match getL M n with
    | some xs => if i = 1 then .ok (.loc M.length) (M ++ [.lst xs]) else if i = -1 then .ok (.loc M.length) (M ++ [.lst xs.reverse]) else .bad
    | none => .bad)
  | _, _ => .bad
section
variable [LT] [WB] {X : Cx} {W : WX} {a b : Expr} {fa fb : EF} {p3 pos : Pos}
theorem se_step (ha : SE X W a fa) (hb : SE X W b fb) : SE X W (.Subscript a (.Slice none none (some b) p3) pos) (eOp2 stepV fa fb) :=
  ⟨(pe_stepL ha.pe hb.pe).imp fun σ H Q ⟨ρ, e, M, R, S, p⟩ => ⟨ρ, e, M, R, S, (Po.bind p).imp fun v H1 ⟨ρ1, M1, x, E1, R1, r1, p1⟩ => ⟨ρ1, e, M1, R1, S.mono E1, (Po.bind p1).imp fun u H2 ⟨ρ2, M2, y, E2, R2, r2, p2⟩ => by
    unfold stepV at p2
    split at p2
    · split at p2
      · rename_i n i _ _ xs hx
        obtain ⟨a, us, e1, h1, h2, h3⟩ := R2.lst (getL_ok hx) (RV.mono E2 _ _ r1)
        refine ⟨i, r2, a, us, e1, SqL.of h2, ?_⟩
        by_cases h : i = 1
        · rw [if_pos h] at p2
          exact .inl ⟨h, p2.newList R2 h3⟩
        · rw [if_neg h] at p2
          by_cases h' : i = -1
          · rw [if_pos h'] at p2
            exact .inr ⟨h', p2.newList R2 h3.reverse⟩
          · rw [if_neg h'] at p2; exact p2.elim
      · exact p2.elim
    · exact p2.elim⟩⟩⟩
end
end Sm

namespace L2
open PySem PySem.Spec PyProof.Rows
/-! a comprehension whose block knows what its def's cells hold -/
structure BlkH (X : Cx) (σ : St) (H : Hp) (s : Shared) (fp : List Addr) : Prop where
  at_ : ∃ pins, Inv X pins σ H s
  fp : ∀ b ∈ fp, ∀ x c, X.env.cells.lookup x = some c → c ≠ b
/-- a list's making is known -/
theorem know_new {X : Cx} {pins : List (Addr × Obj)} {σ : St} {H : Hp} {s : Shared} (I : Inv X pins σ H s) : Inv X pins σ (upd H s.heap.objs.size (.lst [])) { s with heap := s.heap.push { cls := .type "list", data := .seq ([] : List Value).toArray } } :=
  I.laid (t' := s.toks) (fun _ _ q => Heap.get?_push_of_some _ q) (Nat.le_refl _) ⟨Nat.zero_le _, [], 0, .nil, Heap.get?_push_size _ rfl⟩
/-- what the turns of a block ask (w: what holds ahead of a turn) -/
def KTurn (J : It) (D : Addr) (g : TG) (tt : TT) (te : TE) (vs : List Nat) (σ : St) (Q : VK) (w : Nat → Nat → Hp → Prop) : Prop := ∀ k m H, w k m H → (J.stop k H ∧ Q (.ref D) H) ∨ (J.go k H ∧ ∃ nx : Hp → Prop, (∀ H', nx H' → ∃ m', m' < m ∧ w (k + 1) m' H') ∧
  ∀ x H', J.yld k H x H' → g x (wipe σ vs) H' fun σ2 H2 => wipe σ2 vs = wipe σ vs ∧ tt σ2 H2 fun b H3 => if b = true then te σ2 H3 fun y H4 => ∃ acc, H4 D = some (.lst acc) ∧ acc.length < sizeLine ∧ nx (upd H4 D (.lst (acc ++ [y]))) else nx H3)
section
variable {X : Cx} {pins : List (Addr × Obj)} {σ : St} {elt tg iter : Expr} {ifs : List Expr} {scope : Scope} {own : List (Str × Nat)} {pos : Pos} {g : TG} {tt : TT} {te : TE} {s0 : Shared} {H0 : Hp} {ce : Env} {fp : List Addr} {it D : Addr} {tn : Nat → Heap → Prop} {J : It} {Q : VK} {w : Nat → Nat → Hp → Prop}
/-- behind the last turn one is back in the def -/
theorem know_back (O : Inv X pins σ H0 s0) (far : ∀ b ∈ fp, FpOk X pins H0 b) (hl : ce.locals = s0.heap.objs.size) {ρ : St} {H : Hp} {s : Shared} (B : Inv (X.blk s0 H0 scope ce fp) [] ρ H s) :
    Inv X pins σ H s ∧ FpOk X pins H s0.heap.objs.size ∧ ∃ m, s.heap.Ns s0.heap.objs.size m := by
  have none' : H s0.heap.objs.size = none := by rw [← hl]; exact B.free
  refine ⟨O.call' (ch := fp) B.os B.base B.hok B.bare fun b hb => ?_, O.fpOk (Nat.le_refl _) none', ?_⟩
  · obtain ⟨_, h1, _, h3, h4, h5⟩ := far b hb
    exact ⟨h3, h1, h4, h5⟩
  · obtain ⟨m, hm, _⟩ := B.loc
    exact ⟨m, hl ▸ hm⟩
/-- the source's objects, seen from within -/
theorem know_far {ρ : St} {H : Hp} {s : Shared} (B : Inv (X.blk s0 H0 scope ce fp) [] ρ H s) (hn : ∀ b ∈ fp, H b = none) : ∀ b ∈ fp, FpOk (X.blk s0 H0 scope ce fp) [] H b := by
  intro b hb
  obtain ⟨h1, h2⟩ := B.ok.exf b hb
  exact ⟨hn b hb, h1, B.ok.exfs b hb, Or.inl hb, h2, fun p hp => by cases hp⟩
theorem know_loop (O : Inv X pins σ H0 s0) (T : Turn X.prog X.w X.K tg J fp it tn) (far : ∀ b ∈ fp, FpOk X pins H0 b) (hl : ce.locals = s0.heap.objs.size) (hc : X.calm = true)
    (pg : PG (X.blk s0 H0 scope ce fp) tg g) (pt : PTs (X.blk s0 H0 scope ce fp) ifs tt) (pe : PE (X.blk s0 H0 scope ce fp) elt te) (kt : KTurn J D g tt te (own.map (·.2)) σ Q w) {Qf : Value → Shared → Prop}
    (fin : ∀ H s m, Inv X pins σ H s → FpOk X pins H s0.heap.objs.size → s.heap.Ns s0.heap.objs.size m → Q (.ref D) H → compPost (model X.prog X.w) X.A X.xe none Qf (.ref D) s0.heap.objs.size (.ok .next) s)
    {s4 : Shared} {m0 : Nat} (B4 : Inv (X.blk s0 H0 scope ce fp) [] (wipe σ (own.map (·.2))) H0 s4) (t4 : tn 0 s4.heap) (w4 : w 0 m0 H0) :
    codeAny (model X.prog X.w) X.A (.compLoop (.ListComp elt [⟨tg, iter, ifs, 0⟩] scope pos) 0 (.ref it) (.ref D) ce) (compPost (model X.prog X.w) X.A X.xe none Qf (.ref D) s0.heap.objs.size) s4 := by
  have start : ∃ k H, Inv (X.blk s0 H0 scope ce fp) [] (wipe σ (own.map (·.2))) H s4 ∧ tn k s4.heap ∧ (∀ b ∈ fp, H b = none) ∧ w k m0 H := ⟨0, H0, B4, t4, fun b hb => (far b hb).1, w4⟩
  apply compLoop_any (fun m s => ∃ k H, Inv (X.blk s0 H0 scope ce fp) [] (wipe σ (own.map (·.2))) H s ∧ tn k s.heap ∧ (∀ b ∈ fp, H b = none) ∧ w k m H) _ m0 start
  intro m s ⟨k, H, B, tk, hn, wk⟩
  cases kt k m H wk with
  | inl done =>
    apply thnF (T.done (X.blk s0 H0 scope ce fp) rfl rfl rfl hc k [] s _ H (fun _ _ => False) B (know_far B hn) tk done.1)
    intro r s' ⟨er, B'⟩
    rw [er]
    obtain ⟨h1, h2, m', h3⟩ := know_back O far hl B'
    exact fin H s' m' h1 h2 h3 done.2
  | inr more =>
    obtain ⟨go, nx, hnx, body⟩ := more
    apply thnF (T.item (X.blk s0 H0 scope ce fp) rfl rfl rfl hc k [] s _ H (fun _ _ => False) B (know_far B hn) tk go)
    intro r s1 ⟨u, er, rest⟩
    rw [er]
    apply thnF rest
    intro _ s2 ⟨x, H2, B2, rx, yl, t2, hn2⟩
    have P2 := B2.pinned (know_far B2 hn2) (T.obj _ _ t2)
    apply thnF (pg.run _ s2 _ H2 x u _ P2 rx (body x H2 yl))
    intro _ s3 ⟨σ3, H3, P3, same, r3⟩
    have close : ∀ {s' : Shared} {H' : Hp}, Inv (X.blk s0 H0 scope ce fp) ([] ++ pinsAt fp s2.heap) σ3 H' s' → nx H' →
        ∃ m', m' < m ∧ ∃ k H, Inv (X.blk s0 H0 scope ce fp) [] (wipe σ (own.map (·.2))) H s' ∧ tn k s'.heap ∧ (∀ b ∈ fp, H b = none) ∧ w k m' H := by
      intro s' H' P n
      obtain ⟨m', lt, wn⟩ := hnx H' n
      have stay : ∀ b ∈ fp, ∀ o, s2.heap.get? b = some o → s'.heap.get? b = some o ∧ H' b = none := by
        intro b hb o e
        obtain ⟨z1, z2, _⟩ := P.pin (b, o) (by simpa using mem_pinsAt hb e)
        exact ⟨z1, z2⟩
      have len : (wipe σ (own.map (·.2))).length = σ3.length := by rw [← same, wipe_length]
      have low : ∀ (i : Nat) (v : V), (wipe σ (own.map (·.2)))[i]? = some (some v) → σ3[i]? = some (some v) := by
        intro i v e
        rw [← same] at e
        exact (wipe_some e).1
      refine ⟨m', lt, k + 1, H', (P.unpinned (pins := [])).weak len low, ?_, ?_, wn⟩
      · exact T.keep _ _ _ t2 fun b hb o e => (stay b hb o e).1
      · intro b hb
        obtain ⟨o, e, _⟩ := T.obj _ _ t2 b hb
        exact (stay b hb o e).2
    apply thnF (pt.run _ s3 σ3 H3 _ P3 r3)
    intro b s4 ⟨H4, P4, r4⟩
    by_cases hb : b = true
    · subst hb
      simp only [if_true] at r4 ⊢
      apply thnF (pe.run _ s4 σ3 H4 _ P4 r4)
      intro z s5 ⟨y, H5, P5, ry, acc, hD, hz, n⟩
      exact app_ok (X := X.blk s0 H0 scope ce fp) P5 hD hz ry fun s6 P6 => close P6 n
    · simp only [if_neg hb] at r4 ⊢
      exact close P4 r4
end
section
variable {X : Cx} {elt tg iter : Expr} {ifs : List Expr} {scope : Scope} {own : List (Str × Nat)} {pos : Pos} {wi : TI} {g : TG} {tt : St → TT} {te : St → TE}
theorem pe_lcB (hc : X.calm = true) (hN : X.N.Nodup) (hi : PI X tg iter wi) (ok : BlkOk X.N X.env.scope scope own)
    (hg : ∀ (s : Shared) (H : Hp) (C : Addr) (cl : List (Str × Addr)) (fp : List Addr), PG (X.blk s H scope (compEnvC scope cl C X.env) fp) tg g)
    (ht : ∀ (σ : St) (s : Shared) (H : Hp) (C : Addr) (cl : List (Str × Addr)) (fp : List Addr), BlkH X σ H s fp → PTs (X.blk s H scope (compEnvC scope cl C X.env) fp) ifs (tt σ))
    (he : ∀ (σ : St) (s : Shared) (H : Hp) (C : Addr) (cl : List (Str × Addr)) (fp : List Addr), BlkH X σ H s fp → PE (X.blk s H scope (compEnvC scope cl C X.env) fp) elt (te σ)) (hs : ∀ x, foldedSetIterable iter X.env x = pure x := by intro _; rfl) :
    PE X (.ListComp elt [⟨tg, iter, ifs, 0⟩] scope pos) (fun σ H Q => tLc wi g (tt σ) (te σ) (own.map (·.2)) σ H Q) := by
  constructor
  intro pins s σ H Q I hq
  rw [eval_ListComp]
  have caps : ∀ y ∈ scope.names, y.2 = .free → ∃ c, X.env.cells.lookup y.1 = some c := by
    intro y hy e
    cases ok.free y hy e with
    | inl k => exact I.ok.has _ (Or.inl k)
    | inr k => exact I.ok.has _ (Or.inr k)
  apply wpAny_comprehension_free (use := none) rfl hs (closure_ok caps) ok.kind (fun y hy e => e ▸ ok.uniq y hy)
  apply thn (hi.run pins s σ H _ I hq)
  intro xv s1 a1
  apply thn a1
  rintro iv s2 ⟨it, fp, tn, J, H2, rfl, I2, T, t2, far2, rd⟩
  obtain ⟨w, ⟨m0, w0⟩, kt⟩ := rd s2.heap.objs.size (I2.hok.fresh (Nat.le_refl _))
  refine wpAny_newObj_type (newEnv_comp ?_) (by show 0 ≤ sizeLine; decide)
  have I3 := know_new I2
  have far : ∀ b ∈ fp, FpOk X pins (upd H2 s2.heap.objs.size (.lst [])) b ∧ b < (s2.heap.push { cls := .type "list", data := .seq ([] : List Value).toArray }).objs.size := by
    intro b hb
    obtain ⟨o, e, _⟩ := T.obj _ _ t2 b hb
    have lt := Heap.lt_size e
    obtain ⟨f0, fr⟩ := far2 b hb
    rw [Heap.size_push]
    exact ⟨⟨(upd_ne (Nat.ne_of_lt lt)).trans f0, fr⟩, Nat.lt_succ_of_lt lt⟩
  have B4 := block_start I3 ok hN far
  have bh : BlkH X σ (upd H2 s2.heap.objs.size (.lst [])) { s2 with heap := s2.heap.push { cls := .type "list", data := .seq ([] : List Value).toArray } } fp := ⟨⟨pins, I3⟩, fun b hb => (far b hb).1.2.2.2.2.1⟩
  have t4 : tn 0 (pushCells ((s2.heap.push { cls := .type "list", data := .seq ([] : List Value).toArray }).push { cls := .type "dict", data := .dict #[] }) scope.names) :=
    T.keep _ _ _ t2 fun b _ o e => pushCells_keeps _ _ _ _ (Heap.get?_push_of_some _ (Heap.get?_push_of_some _ e))
  have fin : ∀ (H' : Hp) (s' : Shared) (m : Str → Option Value), Inv X pins σ H' s' → FpOk X pins H' s2.heap.objs.size.succ → s'.heap.Ns s2.heap.objs.size.succ m → Q (.ref s2.heap.objs.size) H' →
      compPost (model X.prog X.w) X.A X.xe none (fun v s' => EP X pins σ Q v s') (.ref s2.heap.objs.size) s2.heap.objs.size.succ (.ok .next) s' := by
    intro H' s' m I' f hm q
    refine ⟨m, hm, fun h3 sb => ⟨.ref s2.heap.objs.size, H', ?_, rfl, q⟩⟩
    obtain ⟨f0, f1, _, f3, f4, f5⟩ := f
    exact I'.turned (t' := s'.toks) (fun b o hb e => (sb.2 b hb).trans e) f0 f1 f3 f4 f5
  have size : (s2.heap.push { cls := .type "list", data := .seq ([] : List Value).toArray }).objs.size = s2.heap.objs.size.succ := Heap.size_push ..
  rw [← size] at fin
  have loop := know_loop (iter := iter) (pos := pos) I3 T (fun b hb => (far b hb).1) rfl hc (hg _ _ _ _ _) (ht σ _ _ _ _ _ bh) (he σ _ _ _ _ _ bh) kt fin B4 t4 w0
  exact codeAny_compStart_list loop (T.self X.A 0 _ _ _ t4 loop)
end
end L2
namespace Sm
open PySem L2 PySem.Spec PyProof.Rows LamX
/-- the slots of the def stand known -/
abbrev wbS [LT] [WB] (K : PySem.W.Frag) (e0 : Sl) (σ0 : L2.St) : WB := ⟨fun ρ H => WB.B ρ H ∧ SlR K ρ H e0 σ0, fun E h => ⟨WB.mono E h.1, h.2.mono E⟩⟩
section
variable [LT] [WB] {K : PySem.W.Frag} {ρ : List Addr} {H : Hp} {M : Mem} {σ σ0 : L2.St} {e0 : Sl} {W : WX}
theorem Rel.hiS (R : Rel K ρ M H) (h : SlR K ρ H e0 σ0) : @Rel _ (wbS K e0 σ0) K ρ M H := @Rel.mk _ (wbS K e0 σ0) _ _ _ _ R.len R.nd R.at_ R.tab ⟨R.bd, h⟩
theorem Rel.loS (R : @Rel _ (wbS K e0 σ0) K ρ M H) : Rel K ρ M H := ⟨@Rel.len _ (wbS K e0 σ0) _ _ _ _ R, @Rel.nd _ (wbS K e0 σ0) _ _ _ _ R, @Rel.at_ _ (wbS K e0 σ0) _ _ _ _ R, @Rel.tab _ (wbS K e0 σ0) _ _ _ _ R, (@Rel.bd _ (wbS K e0 σ0) _ _ _ _ R).1⟩
theorem Po.hiS {α β : Type} {RR : RR α β} {Q : β → Hp → Prop} : ∀ {o : Out α}, Po RR K ρ H σ W Q o → @Po _ (wbS K e0 σ0) α β RR K ρ H σ W Q o
  | .ok _ _, h => fun ρ2 H2 b E2 r2 q => h ρ2 H2 b E2 r2.loS q
  | .ex _ _, h => fun ρ2 H2 c d E2 r2 q => h ρ2 H2 c d E2 r2.loS q
  | .bad, h => h
end
def eLcB (f : IF) (g : Tg) (t : Sl → TF) (el : Sl → EF) (vs : List Nat) : EF := fun e M => eLc f g (t e) (el e) vs e M
/-- x(w) in a block: w one of the lambdas of the def, whose slots are e0 -/
def eWordB (nN : Nat) (Fw : WF) (tab : Nat → Option EF) (i : Nat) (e0 : Sl) : EF := fun (e : List (Option Val)) M => match e[i]? with
  | some (some (Val.loc n)) => (match tab n with
    | some fb => (match Fw n (fun M' => fb e0 M') (some (.loc n) :: List.replicate (nN - 1) none) M with
      | .nx _ M1 => .ok .non M1
      | .rt v M1 => .ok v M1
      | _ => .bad)
    | none => .bad)
  | _ => .bad
section
variable [LT] [wb : WB] {X : Cx} {W : WX} {pos : Pos} {tg iter elt : Expr} {ifs : List Expr} {scope : Scope} {own : List (Str × Nat)} {f : IF} {g : Tg} {t : Sl → TF} {el : Sl → EF}
theorem gNames_mono {Q Q' : L2.St → Hp → Prop} (i : ∀ σ H, Q σ H → Q' σ H) : ∀ {is : List Nat} {us : List V} {σ : L2.St} {H : Hp}, gNames is us σ H Q → gNames is us σ H Q'
  | [], _, _, _, ⟨h1, h2⟩ => ⟨h1, i _ _ h2⟩
  | _ :: _, _, _, _, ⟨v, r, e, h⟩ => ⟨v, r, e, gNames_mono i h⟩
theorem Tg.mono {K : PySem.W.Frag} {Q Q' : L2.St → Hp → Prop} (i : ∀ σ H, Q σ H → Q' σ H) : ∀ {g : Tg} {v : V} {σ : L2.St} {H : Hp}, g.g K v σ H Q → g.g K v σ H Q'
  | .one _, _, _, _, h => i _ _ h
  | .many _, _, _, _, ⟨a, us, h1, h2, h3, h4⟩ => ⟨a, us, h1, h2, h3, gNames_mono i h4⟩
theorem lc_mono {K : PySem.W.Frag} {f : IF} {g : Tg} {W : WX} {tt tt' : TT} {te te' : TE} {vs : List Nat} {σ : L2.St} {H : Hp} {Q : VK} (ht : ∀ σ H Q Q', (∀ b H, Q b H → Q' b H) → tt σ H Q → tt' σ H Q') (he : ∀ σ H Q, te σ H Q → te' σ H Q)
    (h : tLc (tIt K W f) (g.g K) tt te vs σ H Q) : tLc (tIt K W f) (g.g K) tt' te' vs σ H Q := by
  obtain ⟨ρ, e, M, R, S, p⟩ := h
  refine ⟨ρ, e, M, R, S, p.imp fun J H1 h D hD => ?_⟩
  obtain ⟨w, hw, turn⟩ := h D hD
  refine ⟨w, hw, fun k m H wk => ?_⟩
  rcases turn k m H wk with z | ⟨go, nx, h1, h2⟩
  · exact .inl z
  · refine .inr ⟨go, nx, h1, fun x H' y => Tg.mono (fun σ2 H2 z => ⟨z.1, ht _ _ _ _ (fun b H3 z3 => ?_) z.2⟩) (h2 x H' y)⟩
    by_cases hb : b = true
    · simp only [if_pos hb] at z3 ⊢; exact he _ _ _ z3
    · simp only [if_neg hb] at z3 ⊢; exact z3
/-- what is known besides, in a block -/
def BB (wb B : WB) (K : PySem.W.Frag) (e0 : Sl) (σ0 : L2.St) : Prop := ∀ ρ H, B.B ρ H → wb.B ρ H ∧ SlR K ρ H e0 σ0
theorem se_lcB (hc : X.calm = true) (hN : X.N.Nodup) (hi : ∀ B : WB, @SI _ B X W tg iter f) (ok : BlkOk X.N X.env.scope scope own) (hv : ∀ i ∈ g.vs, i ∈ own.map (·.2))
    (hg : ∀ (s : Shared) (H : Hp) (C : Addr) (cl : List (Str × Addr)) (fp : List Addr), SLT (X.blk s H scope (compEnvC scope cl C X.env) fp) tg g)
    (ht : ∀ (B : WB) (e0 : Sl) (σ0 : L2.St), BB wb B X.K e0 σ0 → ∀ (s : Shared) (H : Hp) (C : Addr) (cl : List (Str × Addr)) (fp : List Addr), BlkH X σ0 H s fp → @STs _ B (X.blk s H scope (compEnvC scope cl C X.env) fp) ifs (t e0))
    (he : ∀ (B : WB) (e0 : Sl) (σ0 : L2.St), BB wb B X.K e0 σ0 → ∀ (s : Shared) (H : Hp) (C : Addr) (cl : List (Str × Addr)) (fp : List Addr), BlkH X σ0 H s fp → @SE _ B (X.blk s H scope (compEnvC scope cl C X.env) fp) noW elt (el e0)) (hs : ∀ x, foldedSetIterable iter X.env x = pure x := by intro _; rfl) :
    SE X W (.ListComp elt [⟨tg, iter, ifs, 0⟩] scope pos) (eLcB f g t el (own.map (·.2))) := by
  refine ⟨(pe_lcB (wi := fun σ H R => ∃ e0, @tIt _ (wbS X.K e0 σ) X.K W f σ H R) (g := g.g X.K) (tt := fun σ0 σ H Q => ∃ e0, @tT _ (wbS X.K e0 σ0) X.K noW (t e0) σ H Q) (te := fun σ0 σ H Q => ∃ e0, @tE _ (wbS X.K e0 σ0) X.K noW (el e0) σ H Q) hc hN
    ⟨fun pins s σ H R I ⟨e0, h⟩ => (@SI.pi _ (wbS X.K e0 σ) _ _ _ _ _ (hi (wbS X.K e0 σ))).run pins s σ H R I h⟩ ok (fun s H C cl fp => (hg s H C cl fp).pg)
    (fun σ0 s H C cl fp bh => ⟨fun pins s1 σ1 H1 Q I ⟨e0, h⟩ => (@STs.pts _ (wbS X.K e0 σ0) _ _ _ (ht (wbS X.K e0 σ0) e0 σ0 (fun _ _ z => z) s H C cl fp bh)).run pins s1 σ1 H1 Q I h⟩)
    (fun σ0 s H C cl fp bh => ⟨fun pins s1 σ1 H1 Q I ⟨e0, h⟩ => (@SE.pe _ (wbS X.K e0 σ0) _ _ _ _ (he (wbS X.K e0 σ0) e0 σ0 (fun _ _ z => z) s H C cl fp bh)).run pins s1 σ1 H1 Q I h⟩) hs).imp fun σ H Q h => ?_⟩
  obtain ⟨ρ, e, M, R, S, p⟩ := h
  have hh : @tE _ (wbS X.K e σ) X.K W (eLc f g (t e) (el e) (own.map (·.2))) σ H Q := ⟨ρ, e, M, R.hiS S, S, p.hiS⟩
  have z := @lc_ok _ (wbS X.K e σ) X W own f g (t e) (el e) hv σ H Q hh
  have z2 : tLc (@tIt _ (wbS X.K e σ) X.K W f) (g.g X.K) (fun σ1 H1 Q1 => ∃ e0, @tT _ (wbS X.K e0 σ) X.K noW (t e0) σ1 H1 Q1) (fun σ1 H1 Q1 => ∃ e0, @tE _ (wbS X.K e0 σ) X.K noW (el e0) σ1 H1 Q1) (own.map (·.2)) σ H Q :=
    @lc_mono _ (wbS X.K e σ) X.K f g W _ _ _ _ _ σ H Q (fun σ2 H2 Q2 Q3 i h => by
      obtain ⟨ρ2, e2, M2, R2, S2, p2⟩ := h
      exact ⟨e, ρ2, e2, M2, R2, S2, @Po.imp _ (wbS X.K e σ) _ _ _ _ _ _ _ _ _ _ i _ p2⟩) (fun σ2 H2 Q2 h => ⟨e, h⟩) z
  exact ⟨e, z2⟩
end
section
variable [LT] [WB] {X : Cx} {W : WX} {x : Str} {k nN : Nat} {Fw : WF} {c P : Addr} {p pos : Pos}
theorem se_wordB {tab : Nat → Option EF} {i k2 : Nat} {e0 : Expr} {es : Sl} {σ0 : L2.St} {s0 : Shared} {H0 : Hp} {scope : Scope} {C0 : Addr} {cl : List (Str × Addr)} {fp : List Addr} (bh : BlkH X σ0 H0 s0 fp) (hS : ∀ ρ H, WB.B ρ H → SlR X.K ρ H es σ0) (C : Wd X.prog X.w X.K X.mg X.base x k nN Fw) (hr : Room (k + 1) X.A) (hk : k2 + 1 ≤ k) (ht : TabLam X k2 tab) (ha : SE (X.blk s0 H0 scope (compEnvC scope cl C0 X.env) fp) noW e0 (eVar i)) (hse : starEach [e0] (compEnvC scope cl C0 X.env) = (false, eval e0 (compEnvC scope cl C0 X.env)) :: starEach [] (compEnvC scope cl C0 X.env) := by rfl)
    (hg : Gl (X.blk s0 H0 scope (compEnvC scope cl C0 X.env) fp) x := by rfl) (hd : (x == ("__debug__" : Str)) = false := by decide) :
    SE (X.blk s0 H0 scope (compEnvC scope cl C0 X.env) fp) noW (.Call (.Name x p) [e0] [] pos) (eWordB nN Fw tab i es) := by
  obtain ⟨g, fd, pg, bg, sg, Ng, a, qx, F, hm, b, Sg, h0, va, hd1, hd2, hnN, hw⟩ := C.ex
  refine ⟨⟨fun pins s σ H Q I ⟨ρ, e, M, R, S, p⟩ => ?_⟩⟩
  obtain ⟨oc, od, dV, kV, doc, pm, an, cdv, ct, osl, rfl, lk, hcg, _, _⟩ := F.ex
  unfold eWordB at p
  split at p
  · rename_i n hn
    split at p
    · rename_i fb hfb
      obtain ⟨l, hB, L, bnd, hb⟩ := ht n fb hfb
      obtain ⟨f, hf, hlam⟩ := hB ρ H R.bd
      refine wpAny_Call_Name_kw (ld_glob I hg hm (PySem.W.callWith_K (h₀ := X.base) I.ok.mod.kin F.kp ?_ hse (by rfl)) hd)
      rw [hse]
      show wpAny _ _ (spliced ((false, eval e0 (compEnvC scope cl C0 X.env)) :: backTo pos (starEach [] (compEnvC scope cl C0 X.env)))) _ _ s
      have hev : tE X.K noW (eVar i) σ H (fun v H1 => v = .ref f ∧ ∃ ρ1, Ext ρ H ρ1 H1 ∧ Rel X.K ρ1 M H1) := by
        refine ⟨ρ, e, M, R, S, ?_⟩
        unfold eVar
        rw [hn]
        exact fun ρ1 H1 v E1 R1 ⟨a, ev, ea⟩ => ⟨by rw [E1.get hf] at ea; rw [ev]; cases ea; rfl, ρ1, E1, R1⟩
      refine Calls.spliced_cons (thn (ha.pe.run pins s σ H _ I hev) fun u s1 hh => Calls.spliced_nil ?_)
      obtain ⟨v, H1, I1, rv, ev, ρ1, E1, R1⟩ := hh
      subst ev
      obtain rfl : u = Value.ref f := rv
      refine ⟨I1.kIn, ?_⟩
      have hn1 := E1.get hf
      obtain ⟨pins0, I0⟩ := bh.at_
      have cu0 : ∀ y c, X.env.cells.lookup y = some c → H1 c = none ∧ ∀ o, s0.heap.get? c = some o → ∃ sl, s1.heap.get? c = some { o with slots := sl } := fun y c hc => by
        have nf : c ∉ fp := fun hm => bh.fp c hm y c hc rfl
        obtain ⟨v, o, ho, _⟩ := I0.cell y c hc
        exact ⟨I1.base.free c o ho (I0.freeC y c hc) nf, fun o' ho' => I1.base.any ho' (I0.freeC y c hc) nf⟩
      obtain ⟨cd, pm2, ctv, dV2, hfo, hco, hdv⟩ := hlam.ext E1
      have hB1 : @WB.B _ (wbW n f ρ1 H1) ρ1 H1 := ⟨R1.bd, hn1, Ext.refl _ _⟩
      have run : codeAny (model X.prog X.w) X.A (.call (.ref g) ⟨[.ref f], []⟩) (CR C8.CX0 X.stack X.prog X.w H1 s1 Q C8.E0) s1 := by
        refine run_ofS (N := Ng) (ps := [a]) (us := [.ref f]) (vs := [.ref f]) lk hcg Sg hr I1.env0 (b s1 [.ref f] I1.kIn rfl) (.cons rfl .nil) rfl fun hr2 => ?_
        have act := hw (wbW n f ρ1 H1) n (fun M' => fb es M') cdv X.A X.stack s1 H1 hr2 (fun W2 pn xe p1 p2 tk2 => ?_)
        · refine ⟨_, (@SSs.pss _ (wbW n f ρ1 H1) _ _ _ _ act).nox, ρ1, _, M, R1.high hB1, SlR.start (N := Ng) (np := 1) (l := [Val.loc n]) (vs := [V.ref f]) ⟨.ref f, [], rfl, ⟨f, rfl, hn1⟩, rfl⟩ rfl, ?_⟩
          show @PoS _ (wbW n f ρ1 H1) X.K _ H1 _ _ (Fw n (fun M' => fb es M') (some (.loc n) :: List.replicate (Ng.length - 1) none) M)
          rw [hnN]
          cases hF : Fw n (fun M' => fb es M') (some (.loc n) :: List.replicate (nN - 1) none) M with
          | nx e1 M1 => rw [hF] at p; exact fun ρ' H' σ' E' R' S' => p ρ' H' .non (E1.trans E') R'.low rfl
          | rt v M1 => rw [hF] at p; exact fun ρ' H' u E' R' r => p ρ' H' u (E1.trans E') R'.low r
          | ex _ _ _ => rw [hF] at p; exact p.elim
          | bk _ _ => rw [hF] at p; exact p.elim
          | ct _ _ => rw [hF] at p; exact p.elim
          | bad => rw [hF] at p; exact p.elim
        · obtain ⟨j, rfl⟩ : ∃ j, k = k2 + 1 + j := ⟨k - (k2 + 1), by omega⟩
          have z := pe_lamAt4 (X := X) (H := H1) (s := s1) (i := 0) (p1 := p1) (p2 := p2) (k := k2) (f := f) (cd := cd) (pm := pm2) (ctv := ctv) (dV := dV2) (tb := fun E => tE X.K (fun c d _ H => E c d H) fb) I0 cu0 L bnd tk2 (hr2.mono (by omega)) (fun A outer s H E h => (hb A outer s H E f cd h).pe) h0 va hd1 hd2
          refine @SE.mk _ (wbW n f ρ1 H1) _ _ _ _ (z.imp fun σ2 H2 Q2 q => ?_)
          obtain ⟨ρ2, e2, M2, R2, S2, p2⟩ := q
          unfold eWork at p2
          split at p2
          · rename_i n2 hn2
            split at p2
            · rename_i en
              subst en
              obtain ⟨v, hv, a2, e3, e4⟩ := S2.at_ 0 _ hn2
              subst e3
              have bd2 := @Rel.bd _ (wbW n2 f ρ1 H1) _ _ _ _ R2
              have ea : a2 = f := by
                have z2 := bd2.2.1
                rw [e4] at z2
                exact Option.some.inj z2
              subst ea
              have EX := bd2.2.2
              refine ⟨hv, EX.exx _ _ hfo, EX.exx _ _ hco, ?_, ρ2, es, M2, R2.low, (hS ρ H R.bd).mono (E1.trans EX), ?_⟩
              · cases hds : l.ds with
                | none => rw [hds] at hdv; exact hdv
                | some q =>
                  rw [hds] at hdv
                  obtain ⟨a3, h5, h6⟩ := hdv
                  exact ⟨a3, h5, EX.tup _ _ h6⟩
              · have p3 := Po.low (h := bd2) p2
                replace p3 : Po (RVr X.K) X.K ρ2 H2 σ2 (fun c d _ H => W2 c d σ2 H) Q2 (fb es M2) := p3
                show Po (RVr X.K) X.K ρ2 H2 σ (fun c d _ H => W2 c d σ2 H) Q2 (fb es M2)
                cases ho : fb es M2 with
                | ok v M3 => rw [ho] at p3; exact p3
                | ex y M3 => rw [ho] at p3; exact p3
                | bad => rw [ho] at p3; exact p3
            · exact p2.elim
          · exact p2.elim
      refine wpAny_call (codeAny_mono run fun r s2 z => ?_)
      cases r with
      | error e => exact (show False from z).elim
      | ok fl =>
        cases fl with
        | ret u => exact I1.after z
        | next => exact z.elim
        | brk => exact z.elim
        | cont => exact z.elim
    · exact p.elim
  · exact p.elim
end
end Sm

/-! min(xs) of a list of data of which the first is least -/
namespace L2
open PySem PySem.W PySem.SeqAt PySem.Spec PyProof.Rows
theorem argBest_zero (bt : Nat → Nat → Bool) : ∀ n, (∀ k, k < n → bt (k + 1) 0 = false) → argBest bt n = 0
  | 0, _ => rfl
  | n + 1, h => by
    have ih := argBest_zero bt n fun k hk => h k (Nat.lt_succ_of_lt hk)
    unfold argBest
    rw [ih, h n (Nat.lt_succ_self n)]
    rfl
/-- the first of all is least -/
def FirstLeast (d : PyData) (ds : List PyData) : Prop := AlikeAll (d :: ds) ∧ ∀ e ∈ ds, dataLt e d = false
def rMinF (K : PySem.W.Frag) : List V → Hp → VK → Prop := fun vs H Q => ∃ (a : Addr) (x : V) (xs : List V) (d : PyData) (ds : List PyData), vs = [.ref a] ∧ SqL K H a (x :: xs) ∧ DpAll K H (x :: xs) (d :: ds) ∧ FirstLeast d ds ∧ PyData.depthAll (d :: ds) ≤ 50 ∧ Q x H
theorem cr_minF {X : Cx} (hc : X.calm = true) (hu : X.A.units + 65 < cLine) : CallR X (.builtin "min") (rMinF X.K) := by
  intro pins s σ H vs us Q I r h
  obtain ⟨a, x, xs, d, ds, rfl, hl, hd, ⟨ha, hf⟩, hz, q⟩ := h
  rw [Vals.ref1 r]
  obtain ⟨its, rv, pl, _⟩ := I.list hl
  obtain ⟨as, hr⟩ := Dp.readsAll I _ _ _ hd rv
  cases rv with
  | @cons _ u0 _ ur rx rr =>
    have hr' : ReadsAll s.heap (u0 :: ur).toArray.toList (d :: ds) as := by simpa using hr
    have hn := readsAll_len hr'
    refine call_min_walkH (iter_listW (A := X.A.in1) (I.ok.hd hc) pl.isList fun s2 e wk st hfp hw hk => ?_)
    refine ⟨_, _, _, _, _, _, _, s.heap, _, rfl, wk, st, hfp, by rw [hn]; exact Nat.succ_pos _, hw, hk, cmpIn_lt (A := X.A.in1) hr' ha (by show X.A.units + 1 + _ < _; omega), fun v s' hP m => ?_⟩
    obtain ⟨h', tk, rfl, hk'⟩ := moved_old e rfl m
    have e0 : argBest (fun i j => dataLt ((d :: ds).getD i .none) ((d :: ds).getD j .none)) ((u0 :: ur).toArray.size - 1) = 0 := by
      refine argBest_zero _ _ fun k hk => ?_
      rw [hn] at hk
      have hk2 : k < ds.length := hk
      show dataLt (ds.getD k .none) d = false
      have eg : ds.getD k PyData.none = ds[k] := by simp [List.getD, List.getElem?_eq_getElem hk2]
      rw [eg]
      exact hf _ (List.getElem_mem hk2)
    rw [e0] at hP
    have hP' : u0 = v := by simpa using hP
    subst hP'
    exact ⟨x, H, I.kept hk', rx, q⟩
end L2
namespace Sm
open PySem L2 PySem.W PySem.SeqAt PySem.Spec PyProof.Rows
variable [LT] [WB]
instance (d : PyData) (ds : List PyData) : Decidable (FirstLeast d ds) := by
  unfold FirstLeast AlikeAll
  haveI : DecidablePred fun x : PyData => x ≠ PyData.none := fun x => by
    cases x with
    | none => exact isFalse (fun h => h rfl)
    | _ => exact isTrue (fun h => by cases h)
  infer_instance
def minFV : FnS := fun l M => match l with
  | [.loc n] => (match getL M n with
    | some (x :: xs) => (match toD M 8 x, xs.mapM (toD M 8) with
      | some d, some ds => if FirstLeast d ds ∧ PyData.depthAll (d :: ds) ≤ 50 then .ok x M else .bad
      | _, _ => .bad)
    | _ => .bad)
  | _ => .bad
theorem cs_minF {K : PySem.W.Frag} : CallS K (rMinF K) minFV := by
  intro ρ M H σ W Q l vs R r p
  unfold minFV at p
  split at p
  · split at p
    · rename_i n x xs hl
      split at p
      · rename_i d ds hd hds
        split at p
        · rename_i hf
          obtain ⟨v, e, r1⟩ := rv1 r
          obtain ⟨a, us, e1, h1, h2, h3⟩ := R.lst (getL_ok hl) r1
          subst e e1
          obtain ⟨v0, ur, e2, r2, r3⟩ := h3
          subst e2
          exact ⟨a, v0, ur, d, ds, rfl, SqL.of h2, .cons (toD_ok R 8 _ _ _ r2 hd) (toD_all (toD_ok R 8) r3 hds), hf.1, hf.2, p.val R r2⟩
        · exact p.elim
      · exact p.elim
    · exact p.elim
  · exact p.elim
end Sm

namespace L2
open PySem
/-! methods, makings: what is raised is asked of by the caller's slots -/
section
variable {X : Cx} {CX : CXT} {k : Nat} {f C : Addr} {fd : FuncData} {ps : List Str} {sp : Sp} {E : St → XK} {x m : Str} {p pos apos : Pos} {e o : Expr} {es : List Expr} {ta : TE} {t : TA}
def tMethE (C : Addr) (m : Str) (sp : Sp) (E : St → XK) (ta : TE) (t : TA) : TE := fun σ H Q => ta σ H fun x H1 => ∃ a dx fs, x = .ref a ∧ H1 a = some (.ins C dx fs) ∧ fs.lookup m = none ∧
  t σ H1 fun vs H2 => sp (x :: vs) H2 Q (E σ)
theorem pe_methE {pl : Sem Bool} (he : PE X o ta) (c : Cls X.K C) (hm : Meth X.K C m f) (F : FnOk X.prog X.w X.K X.mg X.base CX k f fd ps sp) (hr : Room k X.A) (hb : Binds X.K fd ps []) (hx : ∀ σ, PassesAt CX X σ (E σ)) (ha : PA X (e :: es) t)
    (hst : starEach (e :: es) X.env = (false, eval e X.env) :: starEach es X.env := by rfl) (hpl : (backTo pos (starEach es X.env)).any (·.1) = false := by rfl)
    (ht : eval (.Call (.Attribute o m apos) (e :: es) [] pos) X.env = (do
      let ov ← eval o X.env
      standAt apos.atName
      let (f, first) ← holding [ov] (getMethod ov m pl)
      callWith pos f first (backTo pos (starEach (e :: es) X.env)) (backToKw pos (keywordEach [] X.env))) := by rfl) :
    PE X (.Call (.Attribute o m apos) (e :: es) [] pos) (tMethE C m sp E ta t) := by
  refine ⟨fun pins s σ H Q I h => ?_⟩
  refine PySem.W.methodCall_KW (pl := pl) (thn (he.run pins s σ H _ I h) fun u s1 ⟨x, H1, I1, rx, a, dx, fs, ex, ea, l, q⟩ => ?_) ht
  subst ex
  obtain rfl : u = Value.ref a := rx
  refine getmeth_ok I1 ea c hm l ?_
  refine PySem.W.callWith_K (first := [.ref a]) (h₀ := X.base) I.ok.mod.kin hm.kp (thn (ha.run pos pins s1 σ H1 _ I1 q) fun us s2 ⟨vs, H2, I2, r, q2⟩ => ⟨I2.kIn, ?_⟩) hst hpl
  exact run_fnS (us := .ref a :: us) (vs := .ref a :: vs) F hr hb (hx σ) I2 (.cons rfl r) q2
theorem pe_methE0 {pl : Sem Bool} (he : PE X o ta) (c : Cls X.K C) (hm : Meth X.K C m f) (F : FnOk X.prog X.w X.K X.mg X.base CX k f fd ps sp) (hr : Room k X.A) (hb : Binds X.K fd ps []) (hx : ∀ σ, PassesAt CX X σ (E σ))
    (ht : eval (.Call (.Attribute o m apos) [] [] pos) X.env = (do
      let ov ← eval o X.env
      standAt apos.atName
      let (f, first) ← holding [ov] (getMethod ov m pl)
      callWith pos f first (backTo pos (starEach [] X.env)) (backToKw pos (keywordEach [] X.env))) := by rfl) :
    PE X (.Call (.Attribute o m apos) [] [] pos) (tMethE C m sp E ta tNil) := by
  refine ⟨fun pins s σ H Q I h => ?_⟩
  refine PySem.W.methodCall_KW (pl := pl) (thn (he.run pins s σ H _ I h) fun u s1 ⟨x, H1, I1, rx, a, dx, fs, ex, ea, l, q⟩ => ?_) ht
  subst ex
  obtain rfl : u = Value.ref a := rx
  refine getmeth_ok I1 ea c hm l ?_
  exact PySem.W.callWith_K0 (first := [.ref a]) I1.kIn hm.kp (run_fnS (us := [.ref a]) (vs := [.ref a]) F hr hb (hx σ) I1 (.cons rfl .nil) q)
def tMakeE (C : Addr) (sp : Sp) (E : St → XK) (t : TA) : TE := fun σ H Q => t σ H fun vs H1 => ∀ x dx, H1 x = none → H1 dx = none → dx ≠ x →
  sp (.ref x :: vs) (upd (upd H1 dx (.own x)) x (.ins C dx [])) (fun v H2 => v = .non ∧ Q (.ref x) H2) (E σ)
theorem run_makeE {pins : List (Addr × Obj)} {σ : St} {H : Hp} {s : Shared} {Q : VK} {us : List Value} {vs : List V} (M : Mk X.K C f) (F : FnOk X.prog X.w X.K X.mg X.base CX k f fd ps sp) (hr : Room (k + 1) X.A) (hb : Binds X.K fd ps [])
    (hx : PassesAt CX X σ (E σ)) (I : Inv X pins σ H s) (r : Vals vs us)
    (h : ∀ x dx, H x = none → H dx = none → dx ≠ x → sp (.ref x :: vs) (upd (upd H dx (.own x)) x (.ins C dx [])) (fun v H2 => v = .non ∧ Q (.ref x) H2) (E σ)) :
    wpAny (model X.prog X.w) X.A (call (.ref C) us) (EP X pins σ Q) X.xe s := by
  have hq := h (s.heap.objs.size + 1) s.heap.objs.size (I.hok.fresh (Nat.le_succ _)) (I.hok.fresh (Nat.le_refl _)) (Nat.ne_of_lt (Nat.lt_succ_self _))
  have I2 := Inv.made (C := C) I
  have r2 : Vals (V.ref (s.heap.objs.size + 1) :: vs) (Value.ref (s.heap.objs.size + 1) :: us) := .cons rfl r
  have hl : (Value.ref (s.heap.objs.size + 1) :: us).length = ps.length := by
    have e := r2.length
    rw [F.len _ _ _ _ hq] at e
    exact e.symm
  have b := hb _ (Value.ref (s.heap.objs.size + 1) :: us) I2.kIn (by rw [List.append_nil]; exact hl)
  rw [List.append_nil] at b
  refine wpAny_call (make_map (f := f) I.kIn M.makes M.init (beq_iff_eq.mp M.fn) (codeAny_mono (F.run _ X.stack _ _ ⟨Value.ref (s.heap.objs.size + 1) :: us, []⟩ (Value.ref (s.heap.objs.size + 1) :: us) _ _ (E σ) (hr.make C us [])
    (I2.env0.make C us []) b r2 hq) fun r s' hq' => ?_))
  cases r with
  | error e => exact hx pins _ _ e s' I2 hq'
  | ok fl =>
    cases fl with
    | ret u =>
      obtain ⟨v, H', I3, rv, ev, q3⟩ := I2.after hq'
      subst ev
      exact ⟨rv, ⟨V.ref (s.heap.objs.size + 1), H', I3, rfl, q3⟩⟩
    | next => exact False.elim hq'
    | brk => exact False.elim hq'
    | cont => exact False.elim hq'
theorem pe_makeE (M : Mk X.K C f) (F : FnOk X.prog X.w X.K X.mg X.base CX k f fd ps sp) (hr : Room (k + 1) X.A) (hg : Gl X x) (hm : X.mg x = some (.ref C)) (hb : Binds X.K fd ps []) (hx : ∀ σ, PassesAt CX X σ (E σ))
    (ha : PA X (e :: es) t) (hdb : (x == ("__debug__" : Str)) = false := by decide) (he : starEach (e :: es) X.env = (false, eval e X.env) :: starEach es X.env := by rfl) (hpl : (backTo pos (starEach es X.env)).any (·.1) = false := by rfl) :
    PE X (.Call (.Name x p) (e :: es) [] pos) (tMakeE C sp E t) := by
  refine ⟨fun pins s σ H Q I h => ?_⟩
  refine wpAny_Call_Name_kw (ld_glob I hg hm ?_ hdb)
  refine PySem.W.callWith_K (h₀ := X.base) I.ok.mod.kin M.kp (thn (ha.run pos pins s σ H _ I h) fun us s1 ⟨vs, H1, I1, r, q⟩ => ⟨I1.kIn, ?_⟩) he hpl
  exact run_makeE M F hr hb (hx σ) I1 r q
end
end L2
namespace Sm
open PySem L2
open PyProof.Rows (envOfC)
/-! what the text's own classes must say -/
def clsB (K : PySem.W.Frag) (C : Str) (fs : List Str) : Bool := PySem.W.plainGet K (He.ga K C) Str.empty && (PySem.W.hasDictIn K (He.ga K C) && (PySem.W.plainOver K (He.ga K C) && (He.eqO (PySem.W.findIn K (.ref (He.ga K C)) "__setattr__") (some (some (.builtin "object.__setattr__"))) &&
  fs.all fun f => He.eqO (PySem.W.findIn K (.ref (He.ga K C)) f) (some none))))
structure ClsC (K : PySem.W.Frag) (C : Str) (fs : List Str) : Prop where
  c : Cls K (He.ga K C)
  n : ∀ f ∈ fs, NoAttr K (He.ga K C) f
theorem clsB_ok {K : PySem.W.Frag} {C : Str} {fs : List Str} (h : clsB K C fs = true) : ClsC K C fs := by
  obtain ⟨h1, h⟩ := He.ba h
  obtain ⟨h2, h⟩ := He.ba h
  obtain ⟨h3, h⟩ := He.ba h
  obtain ⟨h4, h5⟩ := He.ba h
  exact ⟨⟨h1, h2, h3, He.eqO_ok h4⟩, fun f hf => He.eqO_ok (List.all_eq_true.mp h5 f hf)⟩
def methB (K : PySem.W.Frag) (C m : Str) : Bool := He.eqO (PySem.W.findIn K (.ref (He.ga K C)) m) (some (some (.ref (He.fAd K (C, some m))))) && (PySem.W.isFn K (.ref (He.fAd K (C, some m))) && PySem.W.keepIn K (.ref (He.fAd K (C, some m))))
theorem methB_ok {K : PySem.W.Frag} {C m : Str} (h : methB K C m = true) : Meth K (He.ga K C) m (He.fAd K (C, some m)) := by
  obtain ⟨h1, h⟩ := He.ba h
  obtain ⟨h2, h3⟩ := He.ba h
  exact ⟨He.eqO_ok h1, h2, h3⟩
def mkB (K : PySem.W.Frag) (C : Str) : Bool := PySem.W.makesIn K (He.ga K C) && (He.eqO (PySem.W.findIn K (.ref (He.ga K C)) "__init__") (some (some (.ref (He.fAd K (C, some "__init__"))))) && (PySem.W.isFn K (.ref (He.fAd K (C, some "__init__"))) && PySem.W.keepIn K (.ref (He.ga K C))))
theorem mkB_ok {K : PySem.W.Frag} {C : Str} (h : mkB K C = true) : Mk K (He.ga K C) (He.fAd K (C, some "__init__")) := by
  obtain ⟨h1, h⟩ := He.ba h
  obtain ⟨h2, h⟩ := He.ba h
  obtain ⟨h3, h4⟩ := He.ba h
  exact ⟨h1, He.eqO_ok h2, h3, h4⟩
variable [LT] [WB]
/-! instances -/
def insG (C : Str) (x : Val) (M : Mem) : Option (List (Str × Val)) := match x with
  | .loc n => (match M[n]? with
    | some (.ins D fs) => if D = C then some fs else none
    | _ => none)
  | _ => none
/-- a field is told -/
def putFV (f : Str) (v : Val) : List (Str × Val) → List (Str × Val)
  | [] => [(f, v)]
  | (g, x) :: r => if g = f then (g, v) :: r else (g, x) :: putFV f v r
section
variable {K : PySem.W.Frag} {ρ : List Addr} {M : Mem} {H : Hp} {C : Str}
theorem insG_ok {x : Val} {v : V} {fs : List (Str × Val)} (R : Rel K ρ M H) (r : RV K ρ H x v) (h : insG C x M = some fs) : ∃ n a dx ws, x = .loc n ∧ M[n]? = some (.ins C fs) ∧ v = .ref a ∧ ρ[n]? = some a ∧ H a = some (.ins (He.ga K C) dx ws) ∧ RKs K ρ H fs ws := by
  unfold insG at h
  split at h
  · rename_i n
    split at h
    · rename_i D fs' hn
      split at h
      · rename_i hD
        subst hD
        cases h
        obtain ⟨a, e, ha⟩ := r
        obtain ⟨dx, ws, h1, h2⟩ := R.at_ _ _ _ hn ha
        exact ⟨n, a, dx, ws, rfl, hn, e, ha, h1, h2⟩
      · cases h
    · cases h
  · cases h
theorem RKs.look {f : Str} : ∀ {l : List (Str × Val)} {ws : List (Str × V)}, RKs K ρ H l ws → (l.lookup f = none → ws.lookup f = none) ∧ ∀ x, l.lookup f = some x → ∃ v, ws.lookup f = some v ∧ RV K ρ H x v
  | [], _, h => by cases (show _ = [] from h); exact ⟨fun _ => rfl, fun x e => by cases e⟩
  | (j, y) :: l, _, ⟨v, r, e, hy, h⟩ => by
    subst e
    have ih := RKs.look (f := f) h
    unfold List.lookup
    cases hj : f == j with
    | true => exact ⟨(fun e => by cases e), fun x e => by cases (show some y = some x from e); exact ⟨v, rfl, hy⟩⟩
    | false => exact ih
theorem RKs.putF {f : Str} {z : Val} {u : V} (hz : RV K ρ H z u) : ∀ {l : List (Str × Val)} {ws : List (Str × V)}, RKs K ρ H l ws → RKs K ρ H (putFV f z l) (L2.putF f u ws)
  | [], _, h => by cases (show _ = [] from h); exact ⟨u, [], rfl, hz, rfl⟩
  | (j, y) :: l, _, ⟨v, r, e, hy, h⟩ => by
    subst e
    unfold putFV L2.putF
    by_cases hj : j = f
    · rw [if_pos hj, if_pos hj]; exact ⟨u, r, rfl, hz, h⟩
    · rw [if_neg hj, if_neg hj]; exact ⟨v, _, rfl, hy, RKs.putF hz h⟩
end
def eFld (C f : Str) (fo : EF) : EF := fun e M => (fo e M).bind fun x M1 => match (insG C x M1).bind fun fs => fs.lookup f with
  | some v => .ok v M1
  | none => .bad
def sFldV (C f : Str) (fo fv : EF) : SF := fun e M => (fv e M).toS e fun y M1 => (fo e M1).toS e fun x M2 => match x, insG C x M2 with
  | .loc n, some fs => if fs.length < 1000 then .nx e (M2.set n (.ins C (putFV f y fs))) else .bad
  | _, _ => .bad
def sFldAugV (C f : Str) (g : Val → Val → Mem → Out Val) (fo fv : EF) : SF := fun e M => (fo e M).toS e fun x M1 => match (insG C x M1).bind fun fs => fs.lookup f with
  | some v => (fv e M1).toS e fun y M2 => (g v y M2).toS e fun z M3 => (match x, insG C x M3 with
    | .loc n, some fs => if fs.length < 1000 then .nx e (M3.set n (.ins C (putFV f z fs))) else .bad
    | _, _ => .bad)
  | none => .bad
/-- o.m(..); o an instance of C -/
def eMeth (C m : Str) (np : Nat) (F : FnS) (fo : EF) (fa : AF) : EF := fun e M => (fo e M).bind fun x M1 => match insG C x M1 with
  | some fs => if fs.lookup m = none then (fa e M1).bind fun l M2 => if (x :: l).length = np then F (x :: l) M2 else .bad else .bad
  | none => .bad
/-- C(..) -/
def eMake (C : Str) (np : Nat) (F : FnS) (fa : AF) : EF := fun e M => (fa e M).bind fun l M1 => if l.length + 1 = np then (F (.loc M1.length :: l) (M1 ++ [.ins C []])).bind fun v M2 => (match v with
  | .non => .ok (.loc M1.length) M2
  | _ => .bad) else .bad
/-- a method at hand; a class that can be made -/
def CalM (P : Program) (w : World) (K : PySem.W.Frag) (mg : Str → Option Value) (base : Heap) (C m : Str) (k np : Nat) (Fs : FnS) : Prop :=
  ∃ (fd : FuncData) (ps : List Str), ps.length = np ∧ FOk P w K mg base k (He.fAd K (C, some m)) fd ps Fs ∧ Binds K fd ps []
section
variable {P : Program} {w : World} {K : PySem.W.Frag} {mg : Str → Option Value} {base : Heap} {C m qual : Str} {params : Arguments} {body : List Stmt} {scope : Scope} {kws : List (Str × V)} {fd : FuncData}
theorem calM_of {N ps : List Str} {k : Nat} {fb : SF} (F : FunD K m qual params body scope [] kws (He.fAd K (C, some m)) fd) (S : FnScope N ps scope)
    (hbind : ∀ (kV doc pm : Value) (an : Option Addr) (cdv ct : Value) (us : List Value), us.length = ps.length → bindArgs (PySem.W.fnOf m qual params body scope .none kV doc pm an cdv ct) ⟨us, []⟩ = pure (ps.zip us))
    (hb : ∀ (cdv : Value) (A : Around) (outer : List Env) (s : Shared) (H : Hp) (E : XK), Room k (A.deeper (envOfC qual scope s.heap.objs.size (He.fAd K (C, some m)) cdv)) →
      SSs (cxOf (L2.CX P w) P w K mg base N qual scope (He.fAd K (C, some m)) cdv A outer s H E) (fun c d _ H => E c d H) body fb) : CalM P w K mg base C m (k + 1) ps.length (fnS ps.length N.length fb) :=
  ⟨fd, ps, rfl, fok_of F S hb, F.bindsN hbind⟩
theorem calM_bad {ps : List Str} {k np : Nat} (D : ∃ fd, FunD K m qual params body scope [] kws (He.fAd K (C, some m)) fd) (hl : ps.length = np)
    (hbind : ∀ (kV doc pm : Value) (an : Option Addr) (cdv ct : Value) (us : List Value), us.length = ps.length → bindArgs (PySem.W.fnOf m qual params body scope .none kV doc pm an cdv ct) ⟨us, []⟩ = pure (ps.zip us)) : CalM P w K mg base C m k np (fun _ _ => .bad) := by
  obtain ⟨fd, F⟩ := D
  exact ⟨fd, ps, hl, ⟨fun vs H Q E ⟨_, _, _, _, _, _, p⟩ => p.elim, fun A outer s H args us vs Q E _ _ _ _ ⟨_, _, _, _, _, _, p⟩ => p.elim⟩, F.bindsN hbind⟩
end
section
variable {X : Cx} {W : WX} {C f m x : Str} {fs : List Str} {o e : Expr} {es : List Expr} {fo fv : EF} {fa : AF} {pos pos' apos tpos p : Pos} {k np : Nat} {Fs : FnS}
theorem se_fld (c : ClsC X.K C fs) (ho : SE X W o fo) (hf : f ∈ fs := by decide) (hb : attributeBase o f X.env (eval o X.env) = eval o X.env := by rfl) : SE X W (.Attribute o f pos) (eFld C f fo) :=
  ⟨(pe_fld ho.pe hb).imp fun σ H Q ⟨ρ, e, M, R, S, p⟩ => ⟨ρ, e, M, R, S, (Po.bind p).imp fun v H1 ⟨ρ1, M1, x, E1, R1, r1, p1⟩ => by
    cases hi : insG C x M1 with
    | none => rw [hi] at p1; exact p1.elim
    | some gs =>
      rw [hi] at p1
      simp only [Option.bind_some] at p1
      obtain ⟨n, a, dx, ws, ex, hn, ev, ha, hH, hr⟩ := insG_ok R1 r1 hi
      cases hl : gs.lookup f with
      | none => rw [hl] at p1; exact p1.elim
      | some y =>
        rw [hl] at p1
        obtain ⟨u, hu, ru⟩ := (hr.look (f := f)).2 y hl
        exact ⟨a, _, dx, ws, u, ev, hH, c.c, c.n f hf, hu, p1.val R1 ru⟩⟩⟩
theorem ss_fld (c : ClsC X.K C fs) (ho : SE X W o fo) (hv : SE X W e fv) (hf : f ∈ fs := by decide) (hs : swapsWith e (some (.Attribute o f pos')) pos.line X.env = pure false := by rfl) : SS X W (.Assign [.Attribute o f pos'] e pos) (sFldV C f fo fv) :=
  ⟨(ps_fld ho.pe hv.pe hs).imp fun D σ H ⟨ρ, e, M, R, S, p⟩ => ⟨ρ, e, M, R, S, (PoS.ofE (R := RVr X.K) S p).imp fun u H1 ⟨ρ1, M1, y, E1, R1, r1, p1⟩ => ⟨ρ1, e, M1, R1, S.mono E1, (PoS.ofE (R := RVr X.K) (S.mono E1) p1).imp fun v H2 ⟨ρ2, M2, x, E2, R2, r2, p2⟩ => by
    cases hi : insG C x M2 with
    | none => rw [hi] at p2; cases x <;> exact p2.elim
    | some gs =>
      obtain ⟨n, a, dx, ws, ex, hn, ev, ha, hH, hr⟩ := insG_ok R2 r2 hi
      subst ex
      rw [hi] at p2
      simp only at p2
      split at p2
      · rename_i hl
        have hm : Mt (H2 a) := by rw [hH]; trivial
        have E3 := Ext.write (o := .ins (He.ga X.K C) dx (L2.putF f u ws)) ρ2 (List.mem_of_getElem? ha) hm
        obtain ⟨R3, _⟩ := R2.write (c := .ins C (putFV f y gs)) ha ⟨dx, _, upd_same, (RKs.putF (RV.mono E2 _ _ r1) hr).mono E3⟩
        exact ⟨a, _, dx, ws, ev, hH, c.c, c.n f hf, by rw [hr.length]; exact hl, p2 ρ2 _ _ E3 R3 (((S.mono E1).mono E2).mono E3)⟩
      · exact p2.elim⟩⟩⟩
theorem ss_fldaug {op : Operator} {rd : V → V → Hp → VK → Prop} {g : Val → Val → Mem → Out Val} (c : ClsC X.K C fs) (hop : InOp X op rd) (hg : IpS X.K rd g) (ho : SE X W o fo) (hv : SE X W e fv) (hf : f ∈ fs := by decide) : SS X W (.AugAssign (.Attribute o f tpos) op e pos) (sFldAugV C f g fo fv) :=
  ⟨(ps_fldaug ho.pe hv.pe hop).imp fun D σ H ⟨ρ, e, M, R, S, p⟩ => ⟨ρ, e, M, R, S, (PoS.ofE (R := RVr X.K) S p).imp fun v H1 ⟨ρ1, M1, x, E1, R1, r1, p1⟩ => by
    cases hi : insG C x M1 with
    | none => rw [hi] at p1; exact p1.elim
    | some gs =>
      rw [hi] at p1
      simp only [Option.bind_some] at p1
      obtain ⟨n, a, dx, ws, ex, hn, ev, ha, hH, hr⟩ := insG_ok R1 r1 hi
      cases hl : gs.lookup f with
      | none => rw [hl] at p1; exact p1.elim
      | some y =>
        rw [hl] at p1
        simp only at p1
        obtain ⟨u, hu, ru⟩ := (hr.look (f := f)).2 y hl
        refine ⟨a, _, dx, ws, u, ev, hH, c.c, c.n f hf, hu, ρ1, e, M1, R1, S.mono E1, (PoS.ofE (R := RVr X.K) (S.mono E1) p1).imp fun v2 H2 ⟨ρ2, M2, y2, E2, R2, r2, p2⟩ => ?_⟩
        refine hg _ _ _ σ W _ _ _ _ _ R2 (RV.mono E2 _ _ ru) r2 ((PoS.ofE (R := RVr X.K) ((S.mono E1).mono E2) p2).imp fun v3 H3 ⟨ρ3, M3, z, E3, R3, r3, p3⟩ => ?_)
        subst ex
        cases hi3 : insG C (.loc n) M3 with
        | none => rw [hi3] at p3; exact p3.elim
        | some gs3 =>
          have r13 := RV.mono (E2.trans E3) _ _ r1
          obtain ⟨n', a', dx', ws', en', hn', ev', ha', hH', hr'⟩ := insG_ok R3 r13 hi3
          cases en'
          rw [ev] at ev'
          cases ev'
          rw [hi3] at p3
          simp only at p3
          split at p3
          · rename_i hlt
            have hm : Mt (H3 a) := by rw [hH']; trivial
            have E4 := Ext.write (o := .ins (He.ga X.K C) dx' (L2.putF f v3 ws')) ρ3 (List.mem_of_getElem? ha') hm
            obtain ⟨R4, _⟩ := R3.write (c := .ins C (putFV f z gs3)) ha' ⟨dx', _, upd_same, (RKs.putF r3 hr').mono E4⟩
            exact ⟨dx', ws', hH', by rw [hr'.length]; exact hlt, p3 ρ3 _ _ E4 R4 ((((S.mono E1).mono E2).mono E3).mono E4)⟩
          · exact p3.elim⟩⟩
theorem Po.toE {K : PySem.W.Frag} {ρ : List Addr} {H : Hp} {σ : St} {W : WX} {Q : VK} : ∀ {o : Out Val}, Po (RVr K) K ρ H σ W Q o → Po (RVr K) K ρ H [] (fun c d _ H => W c d σ H) Q o
  | .ok _ _, h => h
  | .ex _ _, h => h
  | .bad, h => h
theorem se_meth (CM : CalM X.prog X.w X.K X.mg X.base C m k np Fs) (c : ClsC X.K C fs) (hm : Meth X.K (He.ga X.K C) m (He.fAd X.K (C, some m))) (hr : Room k X.A) (tk : Takes X W) (ho : SE X W o fo) (ha : SA X W (e :: es) fa) {pl : Sem Bool}
    (hst : starEach (e :: es) X.env = (false, eval e X.env) :: starEach es X.env := by rfl) (hpl : (backTo pos (starEach es X.env)).any (·.1) = false := by rfl)
    (ht : eval (.Call (.Attribute o m apos) (e :: es) [] pos) X.env = (do
      let ov ← eval o X.env
      standAt apos.atName
      let (f, first) ← holding [ov] (getMethod ov m pl)
      callWith pos f first (backTo pos (starEach (e :: es) X.env)) (backToKw pos (keywordEach [] X.env))) := by rfl) :
    SE X W (.Call (.Attribute o m apos) (e :: es) [] pos) (eMeth C m np Fs fo fa) := by
  obtain ⟨fd, ps, hl, F, hb⟩ := CM
  exact ⟨(pe_methE ho.pe c.c hm F hr hb (passAt tk) ha.pa hst hpl ht).imp fun σ H Q ⟨ρ, e, M, R, S, p⟩ => ⟨ρ, e, M, R, S, (Po.bind p).imp fun v H1 ⟨ρ1, M1, x, E1, R1, r1, p1⟩ => by
    cases hi : insG C x M1 with
    | none => rw [hi] at p1; exact p1.elim
    | some gs =>
      rw [hi] at p1
      simp only at p1
      obtain ⟨n, a, dx, ws, ex, hn, ev, ha, hH, hr⟩ := insG_ok R1 r1 hi
      split at p1
      · rename_i hlk
        refine ⟨a, dx, ws, ev, hH, (hr.look (f := m)).1 hlk, ρ1, e, M1, R1, S.mono E1, (Po.bind (R := RVsr X.K) p1).imp fun vs H2 ⟨ρ2, M2, l, E2, R2, r2, p2⟩ => ?_⟩
        split at p2
        · rename_i hll
          exact ⟨ρ2, M2, x :: l, R2, ⟨v, vs, rfl, RV.mono E2 _ _ r1, r2⟩, hll.trans hl.symm, p2.toE⟩
        · exact p2.elim
      · exact p1.elim⟩⟩
theorem se_meth0 (CM : CalM X.prog X.w X.K X.mg X.base C m k np Fs) (c : ClsC X.K C fs) (hm : Meth X.K (He.ga X.K C) m (He.fAd X.K (C, some m))) (hr : Room k X.A) (tk : Takes X W) (ho : SE X W o fo) {pl : Sem Bool}
    (ht : eval (.Call (.Attribute o m apos) [] [] pos) X.env = (do
      let ov ← eval o X.env
      standAt apos.atName
      let (f, first) ← holding [ov] (getMethod ov m pl)
      callWith pos f first (backTo pos (starEach [] X.env)) (backToKw pos (keywordEach [] X.env))) := by rfl) :
    SE X W (.Call (.Attribute o m apos) [] [] pos) (eMeth C m np Fs fo aNil) := by
  obtain ⟨fd, ps, hl, F, hb⟩ := CM
  exact ⟨(pe_methE0 ho.pe c.c hm F hr hb (passAt tk) ht).imp fun σ H Q ⟨ρ, e, M, R, S, p⟩ => ⟨ρ, e, M, R, S, (Po.bind p).imp fun v H1 ⟨ρ1, M1, x, E1, R1, r1, p1⟩ => by
    cases hi : insG C x M1 with
    | none => rw [hi] at p1; exact p1.elim
    | some gs =>
      rw [hi] at p1
      simp only at p1
      obtain ⟨n, a, dx, ws, ex, hn, ev, ha, hH, hr⟩ := insG_ok R1 r1 hi
      split at p1
      · rename_i hlk
        refine ⟨a, dx, ws, ev, hH, (hr.look (f := m)).1 hlk, ?_⟩
        unfold aNil at p1
        simp only [Out.bind_ok] at p1
        split at p1
        · rename_i hll
          exact ⟨ρ1, M1, [x], R1, ⟨v, [], rfl, r1, rfl⟩, hll.trans hl.symm, p1.toE⟩
        · exact p1.elim
      · exact p1.elim⟩⟩
theorem se_make (CM : CalM X.prog X.w X.K X.mg X.base C "__init__" k np Fs) (mk : Mk X.K (He.ga X.K C) (He.fAd X.K (C, some "__init__"))) (hr : Room (k + 1) X.A) (hmg : X.mg C = some (.ref (He.ga X.K C))) (tk : Takes X W) (ha : SA X W (e :: es) fa)
    (hg : Gl X C := by rfl) (hdb : (C == ("__debug__" : Str)) = false := by decide) (he : starEach (e :: es) X.env = (false, eval e X.env) :: starEach es X.env := by rfl) (hpl : (backTo pos (starEach es X.env)).any (·.1) = false := by rfl) :
    SE X W (.Call (.Name C p) (e :: es) [] pos) (eMake C np Fs fa) := by
  obtain ⟨fd, ps, hl, F, hb⟩ := CM
  exact ⟨(pe_makeE mk F hr hg hmg hb (passAt tk) ha.pa hdb he hpl).imp fun σ H Q ⟨ρ, e, M, R, S, p⟩ => ⟨ρ, e, M, R, S, (Po.bind (R := RVsr X.K) p).imp fun vs H1 ⟨ρ1, M1, l, E1, R1, r1, p1⟩ => by
    split at p1
    · rename_i hll
      intro x dx nx ndx ne
      have hnx : upd H1 dx (.own x) x = none := by rw [upd_ne (Ne.symm ne)]; exact nx
      have EA := (Ext.fresh (o := .own x) ρ1 ndx).trans (Ext.alloc (o := .ins (He.ga X.K C) dx []) ρ1 hnx)
      have R2 := (R1.fresh (o := .own x) ndx).alloc hnx (c := .ins C []) ⟨dx, [], upd_same, rfl⟩
      have hx : (ρ1 ++ [x])[M1.length]? = some x := by rw [← R1.len, List.getElem?_append_right (Nat.le_refl _)]; simp
      refine ⟨ρ1 ++ [x], _, .loc M1.length :: l, R2, ⟨.ref x, vs, rfl, ⟨x, rfl, hx⟩, RVs.mono EA _ _ r1⟩, by rw [List.length_cons, hll]; exact hl.symm, ?_⟩
      have p2 := (Po.bind (R := RVr X.K) (R' := RVr X.K) (Po.mono EA p1)).toE
      exact p2.imp fun v H2 ⟨ρ2, M2, y, E2, R2', r2, p3⟩ => by
        cases y with
        | non => cases (show v = _ from r2); exact ⟨rfl, p3.val R2' ⟨x, rfl, E2.get hx⟩⟩
        | _ => exact p3.elim
    · exact p1.elim⟩⟩
end
end Sm

namespace L2
open PySem PySem.Spec PyProof.Rows
/-! a dict display of one tuple key -/
def tDisp1 (tk tv : TE) : TE := fun σ H Q => ∀ p, H p = none → tk σ (upd H p (.dT [])) fun x H1 => tv σ H1 fun y H2 => H2 p = some (.dT []) ∧ ∃ b k, x = .ref b ∧ H2 b = some (.tup (List.map kV k)) ∧ Q (.ref p) (upd H2 p (.dT [(k, y)]))
theorem pe_disp1 {X : Cx} {pos : Pos} {ke ve : Expr} {tk tv : TE} (hu : X.A.units + 1 < cLine) (hk : PE X ke tk) (hv : PE X ve tv) : PE X (.Dict [some ke] [ve] pos) (tDisp1 tk tv) := by
  constructor
  intro pins s σ H Q I q
  have fresh := I.hok.fresh (Nat.le_refl s.heap.objs.size)
  have I1 := I.laid (a := s.heap.objs.size) (o := .dT []) (h' := s.heap.push { cls := .type "dict", data := .dict #[] }) (t' := s.toks) (fun _ _ z => Heap.get?_push_of_some _ z) (Nat.le_refl _) (dt_empty s.heap I.big)
  rw [arm_eval_Dict, zip_pairTrees [some ke] [ve] X.env pos rfl rfl, dictDisplay_pairs _ (by simp [pairTrees]) (by simp [pairTrees])]
  refine wpAny_bind (wpAny_standAt (wpAny_bind ?_))
  unfold subDict
  refine wpAny_bind (wpAny_alloc (wpAny_bind (wpAny_holding ?_)))
  rw [if_pos (by simp [pairTrees])]
  refine wpAny_bind (pairTrees_cons_walk (thn (hk.run pins _ σ _ _ I1 (q _ fresh)) fun u s1 ⟨x, H1, I2, rx, q1⟩ => thn (hv.run pins s1 σ H1 _ I2 q1) fun w2 s2 ⟨y, H2, I3, ry, e, b, k, ex, eb, q2⟩ => pairTrees_nil_walk ?_))
  subst ex
  obtain rfl : u = Value.ref b := rx
  refine wpAny_holding ?_
  obtain ⟨z, hd, xs, rel, dd⟩ := dt_of I3.hok e
  cases rel
  refine wpAny_bind ?_
  rw [List.forIn_cons]
  refine wpAny_bind (wpAny_bind (wpAny_dictSet_heap (hsz := Nat.zero_le _) (knd := tupleKind (mixKind X.prog X.w)) (show X.A.units < cLine by omega) (key_of I3.hok eb) dd fun h' dd' hs => wpAny_pure ?_))
  dsimp only
  rw [List.forIn_nil]
  refine wpAny_pure (wpAny_pure (wpAny_pure (wpAny_pure ⟨.ref s.heap.objs.size, _, ?_, rfl, q2⟩)))
  obtain ⟨o, es, ep, ho, h2, h3, h4, _, h5⟩ := dd'
  have rel : KT (upd H2 s.heap.objs.size (.dT [(k, y)])) [(k, y)] (storedH [] k b w2) := by
    have r0 : KT H2 [(k, y)] (storedH [] k b w2) := by
      have := (show KT H2 ([] : List (List Key × V)) [] from .nil).put k eb ry
      exact this
    exact r0.keeps fun c ys ec => by
      rw [upd_ne (ne_of ec e (fun z => nomatch z))]
      exact ec
  exact d_write I3 (by rw [e]; exact True.intro) hs ⟨o, ho⟩ ⟨by show 1 ≤ sizeLine; decide, hd, _, rel, o, es, ep, ho, h2, h3, h4, h5⟩
end L2
namespace Sm
open PySem L2
variable [LT] [WB]
/-! dicts whose keys are tuples of ints and texts -/
def keyT : Val → Option (List Key)
  | .tup l => l.mapM keyOf
  | _ => none
def dtG (x : Val) (M : Mem) : Option (Nat × List (List Key × Val)) := match x with
  | .loc n => (match M[n]? with
    | some (.dT kvs) => some (n, kvs)
    | _ => none)
  | _ => none
def valG {κ : Type} [DecidableEq κ] (kvs : List (κ × Val)) (k : κ) : Option Val := (kvs.find? fun p => decide (p.1 = k)).map (·.2)
def eDisp1 (fk fv : EF) : EF := fun e M => (fk e (M ++ [.dT []])).bind fun x M1 => (fv e M1).bind fun y M2 => match M2[M.length]?, keyT x with
  | some (.dT []), some k => .ok (.loc M.length) (M2.set M.length (.dT [(k, y)]))
  | _, _ => .bad
/-- d[k] -/
def dgetT (d x : Val) (M : Mem) : Out Val := match dtG d M, keyT x with
  | some (_, kvs), some k => (match valG kvs k with
    | some v => .ok v M
    | none => .bad)
  | _, _ => .bad
def notInT (x d : Val) (M : Mem) : Out Val := match dtG d M, keyT x with
  | some (_, kvs), some k => .ok (.bl (!hasK kvs k)) M
  | _, _ => .bad
def sDputT (fd fx fv : EF) : SF := fun e M => (fv e M).toS e fun v M1 => (fd e M1).toS e fun d M2 => (fx e M2).toS e fun x M3 => match dtG d M3, keyT x with
  | some (n, kvs), some k => if kvs.length < sizeLine then .nx e (M3.set n (.dT (putV kvs k v))) else .bad
  | _, _ => .bad
section
variable {K : PySem.W.Frag} {ρ : List Addr} {M : Mem} {H : Hp}
theorem keyT_all : ∀ {l : List Val} {vs : List V} {ks : List Key}, RVs K ρ H l vs → l.mapM keyOf = some ks → vs = ks.map kV
  | [], _, _, h, e => by cases (show _ = [] from h); cases e; rfl
  | x :: l, _, ks, ⟨v, r, e1, h1, h2⟩, e => by
    subst e1
    rw [List.mapM_cons] at e
    cases hx : keyOf x with
    | none => rw [hx] at e; cases e
    | some k =>
      rw [hx] at e
      cases hl : l.mapM keyOf with
      | none => rw [hl] at e; cases e
      | some ks' =>
        rw [hl] at e
        cases e
        rw [keyOf_ok hx h1, keyT_all h2 hl]; rfl
theorem keyT_ok {x : Val} {v : V} {k : List Key} (h : keyT x = some k) (r : RV K ρ H x v) : ∃ b, v = .ref b ∧ H b = some (.tup (k.map kV)) := by
  cases x with
  | tup l =>
    obtain ⟨b, vs, e, h1, h2⟩ := r
    refine ⟨b, e, ?_⟩
    rw [← keyT_all h2 h]
    exact h1.at_
  | _ => cases h
theorem dtG_ok {x : Val} {v : V} {n : Nat} {kvs : List (List Key × Val)} (R : Rel K ρ M H) (r : RV K ρ H x v) (h : dtG x M = some (n, kvs)) : ∃ a ws, v = .ref a ∧ ρ[n]? = some a ∧ M[n]? = some (.dT kvs) ∧ H a = some (.dT ws) ∧ RKs K ρ H kvs ws := by
  unfold dtG at h
  split at h
  · split at h
    · rename_i m kvs' hn
      cases h
      obtain ⟨a, e, ha⟩ := r
      obtain ⟨ws, h1, h2⟩ := R.at_ _ _ _ hn ha
      exact ⟨a, ws, e, ha, hn, h1, h2⟩
    · cases h
  · cases h
theorem RKs.val {κ : Type} [DecidableEq κ] {k : κ} : ∀ {l : List (κ × Val)} {ws : List (κ × V)}, RKs K ρ H l ws → ∀ x, valG l k = some x → ∃ v, valV ws k = some v ∧ RV K ρ H x v
  | [], _, h, x, e => by cases e
  | (j, y) :: l, _, ⟨v, r, e, hy, h⟩, x, hx => by
    subst e
    unfold valG at hx
    rw [List.find?_cons] at hx
    by_cases hj : j = k
    · rw [valV_pos hj]
      simp only [hj, decide_true, Option.map_some] at hx
      cases hx
      exact ⟨v, rfl, hy⟩
    · rw [valV_neg hj]
      simp only [decide_eq_false hj] at hx
      exact RKs.val h x hx
end
section
variable {X : Cx} {W : WX} {ke ve o i value : Expr} {fk fv fo fi : EF} {pos pos' : Pos}
theorem se_disp1 (hu : X.A.units + 1 < cLine) (hk : SE X W ke fk) (hv : SE X W ve fv) : SE X W (.Dict [some ke] [ve] pos) (eDisp1 fk fv) :=
  ⟨(pe_disp1 hu hk.pe hv.pe).imp fun σ H Q ⟨ρ, e, M, R, S, p⟩ d hd => by
    have E0 := Ext.alloc (o := .dT []) ρ hd
    have R0 := R.alloc hd (c := .dT []) ⟨[], upd_same, rfl⟩
    have hn : (ρ ++ [d])[M.length]? = some d := by rw [← R.len, List.getElem?_append_right (Nat.le_refl _)]; simp
    refine ⟨ρ ++ [d], e, _, R0, S.mono E0, (Po.bind (p.mono E0)).imp fun v H1 ⟨ρ1, M1, x, E1, R1, r1, p1⟩ => ⟨ρ1, e, M1, R1, (S.mono E0).mono E1, (Po.bind p1).imp fun u H2 ⟨ρ2, M2, y, E2, R2, r2, p2⟩ => ?_⟩⟩
    split at p2
    · rename_i k hM hk
      have hn2 := E2.get (E1.get hn)
      obtain ⟨ws, h1, h2⟩ := R2.at_ _ _ _ hM hn2
      cases (show ws = [] from h2)
      obtain ⟨b, e1, e2⟩ := keyT_ok hk (RV.mono E2 _ _ r1)
      have hm : Mt (H2 d) := by rw [h1]; trivial
      have E3 := Ext.write (o := .dT [(k, u)]) ρ2 (List.mem_of_getElem? hn2) hm
      obtain ⟨R3, _⟩ := R2.write (c := .dT [(k, y)]) hn2 ⟨_, upd_same, u, [], rfl, RV.mono E3 _ _ r2, rfl⟩
      exact ⟨h1, b, k, e1, e2, p2 ρ2 _ _ E3 R3 ⟨d, rfl, hn2⟩⟩
    · exact p2.elim⟩
theorem se_dgetT (hu : X.A.units + 1 < cLine) (ho : SE X W o fo) (hi : SE X W i fi) (hs : NoSl i := by intro _ _; rfl) : SE X W (.Subscript o i pos) (eOp2 dgetT fo fi) :=
  ⟨(pe_dget hu ho.pe hi.pe hs).imp fun σ H Q ⟨ρ, e, M, R, S, p⟩ => ⟨ρ, e, M, R, S, (Po.bind p).imp fun v H1 ⟨ρ1, M1, x, E1, R1, r1, p1⟩ => ⟨ρ1, e, M1, R1, S.mono E1, (Po.bind p1).imp fun u H2 ⟨ρ2, M2, y, E2, R2, r2, p2⟩ => by
    unfold dgetT at p2
    split at p2
    · rename_i n kvs k hd hk
      obtain ⟨a, ws, ev, ha, hM, hH, hr⟩ := dtG_ok R2 (RV.mono E2 _ _ r1) hd
      obtain ⟨b, eb, hb⟩ := keyT_ok hk r2
      split at p2
      · rename_i z hz
        obtain ⟨w, hw, rw'⟩ := hr.val z hz
        refine ⟨a, w, ev, ?_, p2.val R2 rw'⟩
        rw [eb, ← hw]
        exact DGet.t hH hb
      · exact p2.elim
    · exact p2.elim⟩⟩⟩
def rNotInT : R2 := fun x y H Q => ∃ a b k ws, x = .ref b ∧ y = .ref a ∧ H a = some (.dT ws) ∧ H b = some (.tup (List.map kV k)) ∧ Q (.bl (!(valV ws k).isSome)) H
theorem op_notInDT (hu : X.A.units + 1 < cLine) : OpR X (compareOp .NotIn) rNotInT := by
  rintro pins s σ H x y v u Q I rx ry ⟨a, b, k, ws, rfl, rfl, e, eb, q⟩
  cases (show u = Value.ref a from ry)
  exact d_notIn hu I (DGet.t e eb) rx fun s' I' => ⟨.bl (!(valV ws k).isSome), H, I', rfl, q⟩
theorem os_notInDT {K : PySem.W.Frag} : OpS K rNotInT notInT := by
  intro ρ M H σ W Q x y v u R rx ry p
  unfold notInT at p
  split at p
  · rename_i n kvs k hd hk
    obtain ⟨a, ws, ev, ha, hM, hH, hr⟩ := dtG_ok R ry hd
    obtain ⟨b, eb, hb⟩ := keyT_ok hk rx
    exact ⟨a, b, k, ws, eb, ev, hH, hb, by rw [valV_has, hr.has]; exact p.val R rfl⟩
  · exact p.elim
theorem ss_dputT (hu : X.A.units + 1 < cLine) (ho : SE X W o fo) (hi : SE X W i fi) (hv : SE X W value fv) (hs : swapsWith value (some (.Subscript o i pos')) pos.line X.env = pure false := by rfl) : SS X W (.Assign [.Subscript o i pos'] value pos) (sDputT fo fi fv) :=
  ⟨(ps_dput hu ho.pe hi.pe hv.pe hs).imp fun D σ H ⟨ρ, e, M, R, S, p⟩ => ⟨ρ, e, M, R, S, (PoS.ofE (R := RVr X.K) S p).imp fun v H1 ⟨ρ1, M1, z, E1, R1, r1, p1⟩ => ⟨ρ1, e, M1, R1, S.mono E1, (PoS.ofE (R := RVr X.K) (S.mono E1) p1).imp fun w H2 ⟨ρ2, M2, d, E2, R2, r2, p2⟩ =>
    ⟨ρ2, e, M2, R2, (S.mono E1).mono E2, (PoS.ofE (R := RVr X.K) ((S.mono E1).mono E2) p2).imp fun u H3 ⟨ρ3, M3, x, E3, R3, r3, p3⟩ => by
      split at p3
      · rename_i n kvs k hd hk
        obtain ⟨a, ws, ev, ha, hM, hH, hr⟩ := dtG_ok R3 (RV.mono E3 _ _ r2) hd
        obtain ⟨b, eb, hb⟩ := keyT_ok hk r3
        split at p3
        · rename_i hl
          have hm : Mt (H3 a) := by rw [hH]; trivial
          have E4 := Ext.write (o := .dT (putK ws k v)) ρ3 (List.mem_of_getElem? ha) hm
          obtain ⟨R4, _⟩ := R3.write (c := .dT (putV kvs k z)) ha ⟨_, upd_same, (hr.put (RV.mono (E2.trans E3) _ _ r1)).mono E4⟩
          refine ⟨a, _, ev, ?_, p3 ρ3 _ _ E4 R4 (((S.mono E1).mono E2).mono (E3.trans E4))⟩
          rw [eb]
          exact DPut.t hH hb (by rw [hr.length]; exact hl)
        · exact p3.elim
      · exact p3.elim⟩⟩⟩⟩
end
end Sm

namespace L2
open PySem PySem.Spec PySem.Calls PyProof.Rows HT
section
variable {prog : Program} {w : World} {A : Around} {E : Value → Shared → Prop} {s : Shared}
theorem adjust_back (n : Nat) : Builtin.Slice.sliceAdjust none none (-1) (n : Int) = ((n : Int) - 1, -1) := rfl
theorem places_back (n : Nat) : Builtin.Slice.slicePlaces ((n : Int) - 1) (-1) (-1) = n := by
  unfold Builtin.Slice.slicePlaces
  rw [if_neg (by decide)]
  by_cases h : (n : Int) - 1 > -1
  · rw [if_pos h, show (- -1 : Int) = 1 by decide, Int.ediv_one]
    omega
  · rw [if_neg h]
    omega
theorem applied_back {sl : Addr} {vk : Value} {n : Nat} {Q : Int × Int × Nat → Shared → Prop} (hs : s.heap.IsSliceOf sl .none .none vk) (pk : IsPart vk (some (-1)))
    (h : Q ((n : Int) - 1, -1, n) s) : wpAny (model prog w) A (Builtin.Slice.sliceApplied (.ref sl) (pure (n : Int))) Q E s := by
  obtain ⟨os, hos, hcs, hds⟩ := id hs
  unfold Builtin.Slice.sliceApplied Builtin.Slice.sliceFields
  refine wpAny_bind (wpAny_bind (wpAny_field hos hds (x := .none) rfl (wpAny_bind (wpAny_field hos hds (x := .none) rfl (wpAny_bind (wpAny_field hos hds (x := vk) rfl (wpAny_pure ?_)))))))
  refine wpAny_bind (slicePart_ pk ?_)
  show wpAny _ _ (if ((-1 : Int) == 0) = true then _ else _) _ _ s
  rw [if_neg (by decide)]
  refine wpAny_bind (slicePart_none (wpAny_bind (slicePart_none (wpAny_bind (wpAny_pure ?_)))))
  show wpAny _ _ (match Builtin.Slice.sliceAdjust none none (-1) (n : Int) with | (lo, hi) => pure (lo, (-1 : Int), Builtin.Slice.slicePlaces lo hi (-1))) _ _ s
  rw [adjust_back n]
  show wpAny _ _ (pure ((n : Int) - 1, (-1 : Int), Builtin.Slice.slicePlaces ((n : Int) - 1) (-1) (-1))) _ _ s
  rw [places_back]
  exact wpAny_pure h
theorem picked_back (xs : Array Value) : ((List.range xs.size).filterMap fun (m : Nat) => xs[((xs.size : Int) - 1 + (m : Int) * -1).toNat]?).toArray = xs.toList.reverse.toArray := by
  have e : (List.range xs.size).filterMap (fun (m : Nat) => xs[((xs.size : Int) - 1 + (m : Int) * -1).toNat]?) = ((List.range xs.size).map fun k => xs.size - 1 - k).filterMap (xs[·]?) := by
    rw [List.filterMap_map]
    have key : ∀ l : List Nat, (∀ m ∈ l, m < xs.size) → l.filterMap (fun (m : Nat) => xs[((xs.size : Int) - 1 + (m : Int) * -1).toNat]?) = l.filterMap ((fun x => xs[x]?) ∘ fun k => xs.size - 1 - k) := fun l => by
      induction l with
      | nil => intro _; rfl
      | cons m l ih =>
        intro h
        have h1 := h m List.mem_cons_self
        have e1 : xs[((xs.size : Int) - 1 + (m : Int) * -1).toNat]? = ((fun x => xs[x]?) ∘ fun k => xs.size - 1 - k) m := by
          show _ = xs[xs.size - 1 - m]?
          rw [show ((xs.size : Int) - 1 + (m : Int) * -1).toNat = xs.size - 1 - m by omega]
        rw [List.filterMap_cons, List.filterMap_cons, e1, ih fun k hk => h k (List.mem_cons_of_mem _ hk)]
    exact key _ fun m hm => List.mem_range.mp hm
  rw [e, PySem.W.krv_range, List.filterMap_reverse, PySem.W.krv_all]
theorem got_back {t sl : Addr} {items : Array Value} {vk : Value} {Q : Value → Shared → Prop} (ht : IsTup s.heap t items) (hs : s.heap.IsSliceOf sl .none .none vk) (pk : IsPart vk (some (-1)))
    (h : Q (.ref s.heap.objs.size) { s with heap := s.heap.push { cls := .type "tuple", data := .seq items.toList.reverse.toArray } }) (hsz : items.size ≤ sizeLine) : wpAny (model prog w) A (getItem (.ref t) (.ref sl)) Q E s := by
  have hfit : sizeOk (.seq items.toList.reverse.toArray) := by
    show items.toList.reverse.toArray.size ≤ sizeLine
    rw [List.size_toArray, List.length_reverse, Array.length_toList]
    exact hsz
  obtain ⟨os, hos, hcs, hds⟩ := id hs
  have hTs : s.TypeIs (.ref sl) "slice" := ⟨os, hos, hcs⟩
  unfold getItem
  try with_reducible refine wpAny_holding ?_
  first | refine wpAny_bind (wpAny_pure ?_) | skip
  refine wpAny_bind (wpAny_sequenceKey ht.typeIs (by decide) ?_)
  refine wpAny_bind (wpAny_callSpecial?_slot (name := Str.ofString "__getitem__") ht.typeIs PyProof.Rows.slot_tuple_getitem
    (wpAny_call_entry PyProof.Rows.slot_tuple_getitem ht.typeIs entry_tuple_getitem ?_ (args_tuple_getitem _ _)))
  show wpAny _ _ (Builtin.Tuple.tupleItemsOf (.ref t) >>= _) _ _ s
  refine wpAny_bind (tupleItemsOf_ ht ?_)
  refine wpAny_bind (wpAny_typeOf hTs ?_)
  rw [if_pos (by decide)]
  refine wpAny_bind (applied_back hs pk ?_)
  have hno : ¬ (((items.size : Int) - 1 == 0 && (-1 : Int) == 1 && items.size == items.size) = true) := by
    intro q
    rw [Bool.and_eq_true, Bool.and_eq_true] at q
    exact absurd q.1.2 (by decide)
  show wpAny _ _ (if ((items.size : Int) - 1 == 0 && (-1 : Int) == 1 && items.size == items.size) = true then _ else _) _ _ s
  rw [if_neg hno, picked_back]
  first
    | exact wpAny_bind (m := Builtin.Tuple.tupleExact _) (wpAny_newObj_type (wpAny_pure ⟨_, rfl, wpAny_pure h⟩) hfit)
    | exact wpAny_bind (m := Builtin.Tuple.tupleExact _) (wpAny_newObj_type (wpAny_bind (wpAny_pure (wpAny_pure ⟨_, rfl, wpAny_pure h⟩))) hfit)
    | exact wpAny_bind (wpAny_bind (m := Builtin.Tuple.tupleExact _) (wpAny_newObj_type (wpAny_pure (wpAny_pure ⟨_, rfl, wpAny_pure h⟩)) hfit))
    | exact wpAny_bind (wpAny_bind (m := Builtin.Tuple.tupleExact _) (wpAny_newObj_type (wpAny_pure ⟨_, rfl, wpAny_pure h⟩) hfit))
end
/-- t[::-1], t a tuple -/
def backO (K : PySem.W.Frag) (x : V) (Q : VK) : Option Int → Hp → Prop
  | some i, H2 => i = -1 ∧ ∃ a xs, x = .ref a ∧ SqT K H2 a xs ∧ ∀ p, H2 p = none → Q (.ref p) (upd H2 p (.tup xs.reverse))
  | none, _ => False
def tBackT (K : PySem.W.Frag) (te tb : TE) : TE := fun σ H Q => te σ H fun x H1 => tPart tb σ H1 (backO K x Q)
theorem pe_backT {X : Cx} {e b : Expr} {te tb : TE} {p3 pos : Pos} (he : PE X e te) (hb : PE X b tb) : PE X (.Subscript e (.Slice none none (some b) p3) pos) (tBackT X.K te tb) := by
  refine ⟨fun pins s σ H Q I h => ?_⟩
  refine Subscript_ (thn (he.run pins s σ H _ I h) fun v s1 ⟨x, H1, I1, r1, q1⟩ => ?_)
  have hst : PO X (some b) (tPart tb) := po_some hb
  refine wpAny_Slice (thn (po_none.run pins s1 σ H1 (fun o H2 => o = none ∧ H2 = H1) I1 ⟨rfl, rfl⟩) fun vl s2 ⟨l, H2, I2, pl, el, e2⟩ => ?_)
  subst el e2
  refine thn (po_none.run pins s2 σ H2 (fun o H3 => o = none ∧ H3 = H2) I2 ⟨rfl, rfl⟩) fun vu s3 ⟨u, H3, I3, pu, eu, e3⟩ => ?_
  subst eu e3
  refine thn (hst.run pins s3 σ H3 (backO X.K x Q) I3 q1) fun vs s4 ⟨o, H4, I4, ps, q4⟩ => ?_
  cases o with
  | none => exact q4.elim
  | some i =>
    obtain ⟨ei, a, xs, ex, hx, q⟩ := q4
    subst ei ex
    cases r1
    cases pl
    cases pu
    have I5 : Inv X pins σ H4 { s4 with heap := s4.heap.push { cls := .type "slice", data := .fields #[.none, .none, vs] } } := I4.kept (t' := s4.toks) fun b ob q => Heap.get?_push_of_some _ q
    obtain ⟨its, r, ht, hz⟩ := I5.tuple hx
    have hlen := r.length
    show wpAny (model X.prog X.w) X.A (subscriptTail e (.Slice none none (some b) p3) (.ref a) (.ref s4.heap.objs.size)) (EP X pins σ Q) X.xe { s4 with heap := s4.heap.push { cls := .type "slice", data := .fields #[.none, .none, vs] } }
    refine tail_any (ops := [.ref a, .ref s4.heap.objs.size]) ht.typeIs (PyProof.Rows.slot_tuple_getitem.lookup) ?_ (by with_unfolding_all rfl)
    refine got_back ht (Heap.IsSliceOf.new _ .none .none vs) ps ?_ (by rw [List.size_toArray]; omega)
    refine ⟨.ref _, _, I5.laid (t' := s4.toks) (o := .tup xs.reverse) (fun b ob q => Heap.get?_push_of_some _ q) (Nat.le_refl _) ?_, rfl, q _ (I5.hok.fresh (Nat.le_refl _))⟩
    exact ⟨by rw [List.length_reverse]; exact hz, _, r.reverse, IsTup.new _ _⟩
end L2
namespace Sm
open PySem L2
/-- t[::e], e is -1 -/
def backV (x y : Val) (M : Mem) : Out Val := match x, y with
  | .tup l, .int i => if i = -1 then .ok (.tup l.reverse) M else .bad
  | _, _ => .bad
section
variable [LT] [WB] {X : Cx} {W : WX} {a b : Expr} {fa fb : EF} {p3 pos : Pos}
theorem se_back (ha : SE X W a fa) (hb : SE X W b fb) : SE X W (.Subscript a (.Slice none none (some b) p3) pos) (eOp2 backV fa fb) :=
  ⟨(pe_backT ha.pe hb.pe).imp fun σ H Q ⟨ρ, e, M, R, S, p⟩ => ⟨ρ, e, M, R, S, (Po.bind p).imp fun v H1 ⟨ρ1, M1, x, E1, R1, r1, p1⟩ => ⟨ρ1, e, M1, R1, S.mono E1, (Po.bind p1).imp fun u H2 ⟨ρ2, M2, y, E2, R2, r2, p2⟩ => by
    unfold backV at p2
    split at p2
    · rename_i l i _
      split at p2
      · rename_i h
        obtain ⟨q, vs, e1, h1, h2⟩ := RV.mono E2 _ _ r1
        exact ⟨i, r2, h, q, vs, e1, h1.sq, p2.newTup R2 h2.reverse⟩
      · exact p2.elim
    · exact p2.elim⟩⟩⟩
end
end Sm

namespace L2
open PySem
/-! methods with a keyword-only parameter: left out, or told by its name -/
section
variable {X : Cx} {CX : CXT} {k n : Nat} {f C : Addr} {fd : FuncData} {ps ks : List Str} {sp : Sp} {E : St → XK} {m : Str} {pos apos : Pos} {e o : Expr} {es : List Expr} {kws : List Keyword} {ta : TE} {t tk : TA} {dvs : List V} {ds : List Value} {g : List Value → List Value → List Value} {gV : List V → List V → List V}
def tMethED (C : Addr) (m : Str) (sp : Sp) (dvs : List V) (E : St → XK) (ta : TE) (t : TA) : TE := fun σ H Q => ta σ H fun x H1 => ∃ a dx fs, x = .ref a ∧ H1 a = some (.ins C dx fs) ∧ fs.lookup m = none ∧
  t σ H1 fun vs H2 => sp ((x :: vs) ++ dvs) H2 Q (E σ)
theorem pe_methED {pl : Sem Bool} (he : PE X o ta) (c : Cls X.K C) (hm : Meth X.K C m f) (F : FnOk X.prog X.w X.K X.mg X.base CX k f fd ps sp) (hr : Room k X.A) (hb : Binds X.K fd ps ds) (hd : Vals dvs ds) (hx : ∀ σ, PassesAt CX X σ (E σ)) (ha : PA X (e :: es) t)
    (hst : starEach (e :: es) X.env = (false, eval e X.env) :: starEach es X.env := by rfl) (hpl : (backTo pos (starEach es X.env)).any (·.1) = false := by rfl)
    (ht : eval (.Call (.Attribute o m apos) (e :: es) [] pos) X.env = (do
      let ov ← eval o X.env
      standAt apos.atName
      let (f, first) ← holding [ov] (getMethod ov m pl)
      callWith pos f first (backTo pos (starEach (e :: es) X.env)) (backToKw pos (keywordEach [] X.env))) := by rfl) :
    PE X (.Call (.Attribute o m apos) (e :: es) [] pos) (tMethED C m sp dvs E ta t) := by
  refine ⟨fun pins s σ H Q I h => ?_⟩
  refine PySem.W.methodCall_KW (pl := pl) (thn (he.run pins s σ H _ I h) fun u s1 ⟨x, H1, I1, rx, a, dx, fs, ex, ea, l, q⟩ => ?_) ht
  subst ex
  obtain rfl : u = Value.ref a := rx
  refine getmeth_ok I1 ea c hm l ?_
  refine PySem.W.callWith_K (first := [.ref a]) (h₀ := X.base) I.ok.mod.kin hm.kp (thn (ha.run pos pins s1 σ H1 _ I1 q) fun us s2 ⟨vs, H2, I2, r, q2⟩ => ⟨I2.kIn, ?_⟩) hst hpl
  exact run_fnSD (us := .ref a :: us) (vs := .ref a :: vs) F hr hb hd (hx σ) I2 (.cons rfl r) q2
theorem run_fnKS {pins : List (Addr × Obj)} {σ : St} {H : Hp} {s : Shared} {Q : VK} {us ws : List Value} {vs zs : List V} (F : FnOk X.prog X.w X.K X.mg X.base CX k f fd ps sp) (hr : Room k X.A) (hb : KBn X.K fd ps n ks g gV) (hx : PassesAt CX X σ (E σ))
    (I : Inv X pins σ H s) (r : Vals vs us) (rz : Vals zs ws) (l1 : vs.length = n) (l2 : zs.length = ks.length) (hsp : sp (gV vs zs) H Q (E σ)) : wpAny (model X.prog X.w) X.A (call (.ref f) us (ks.zip ws)) (EP X pins σ Q) X.xe s := by
  have rr := hb.rel r rz
  have bt := hb.to s us ws I.kIn (r.length.symm.trans l1) (rz.length.symm.trans l2)
  apply wpAny_call
  apply codeAny_mono (F.run X.A X.stack s H ⟨us, ks.zip ws⟩ (g us ws) (gV vs zs) Q (E σ) hr I.env0 bt rr hsp)
  intro res s' hq
  match res, hq with
  | .error e, hq => exact hx pins H s e s' I hq
  | .ok (.ret u), hq => exact I.after hq
  | .ok .next, hq => exact hq.elim
  | .ok .brk, hq => exact hq.elim
  | .ok .cont, hq => exact hq.elim
def tMethEK (C : Addr) (m : Str) (n j : Nat) (sp : Sp) (gV : List V → List V → List V) (E : St → XK) (ta : TE) (t tk : TA) : TE := fun σ H Q => ta σ H fun x H1 => ∃ a dx fs, x = .ref a ∧ H1 a = some (.ins C dx fs) ∧ fs.lookup m = none ∧
  t σ H1 fun vs H2 => tk σ H2 fun zs H3 => (x :: vs).length = n ∧ zs.length = j ∧ sp (gV (x :: vs) zs) H3 Q (E σ)
theorem pe_methEK {pl : Sem Bool} (he : PE X o ta) (c : Cls X.K C) (hm : Meth X.K C m f) (F : FnOk X.prog X.w X.K X.mg X.base CX k f fd ps sp) (hr : Room k X.A) (hb : KBn X.K fd ps n ks g gV) (hx : ∀ σ, PassesAt CX X σ (E σ)) (ha : PA X (e :: es) t) (hkw : PK X kws tk)
    (hall : (backToKw pos (keywordEach kws X.env)).all (·.1.isSome) = true := by rfl) (hks : (backToKw pos (keywordEach kws X.env)).filterMap (·.1) = ks := by rfl)
    (hst : starEach (e :: es) X.env = (false, eval e X.env) :: starEach es X.env := by rfl)
    (hpl : ((backTo pos (starEach (e :: es) X.env)).any (·.1) || (backToKw pos (keywordEach kws X.env)).any (·.1.isNone)) = false := by rfl)
    (ht : eval (.Call (.Attribute o m apos) (e :: es) kws pos) X.env = (do
      let ov ← eval o X.env
      standAt apos.atName
      let (f, first) ← holding [ov] (getMethod ov m pl)
      callWith pos f first (backTo pos (starEach (e :: es) X.env)) (backToKw pos (keywordEach kws X.env))) := by rfl) :
    PE X (.Call (.Attribute o m apos) (e :: es) kws pos) (tMethEK C m n ks.length sp gV E ta t tk) := by
  refine ⟨fun pins s σ H Q I h => ?_⟩
  refine PySem.W.methodCall_KW (pl := pl) (thn (he.run pins s σ H _ I h) fun u s1 ⟨x, H1, I1, rx, a, dx, fs, ex, ea, l, q⟩ => ?_) ht
  subst ex
  obtain rfl : u = Value.ref a := rx
  refine getmeth_ok I1 ea c hm l ?_
  refine PySem.W.callWith_KW (first := [.ref a]) (h₀ := X.base) I.ok.mod.kin hm.kp hall (thn (ha.run pos pins s1 σ H1 _ I1 q) fun us s2 ⟨vs, H2, I2, r, q2⟩ => ?_) hpl hst
  refine thn (hkw.run pos pins s2 σ H2 _ I2 q2) fun ws s3 ⟨zs, H3, I3, rz, l1, l2, q3⟩ => ⟨I3.kIn, ?_⟩
  rw [hks]
  exact run_fnKS (us := .ref a :: us) (vs := .ref a :: vs) F hr hb (hx σ) I3 (.cons rfl r) rz l1 l2 q3
end
section
variable {K : PySem.W.Frag} {x qual : Str} {params : Arguments} {body : List Stmt} {scope : Scope} {kws : List (Str × V)} {f : Addr} {fd : FuncData} {ps : List Str}
/-- every parameter is given, one of them by its name -/
theorem kbn_one (F : FunD K x qual params body scope [] kws f fd) (n : Nat) (kn : Str)
    (h : ∀ (kV doc pm : Value) (an : Option Addr) (cdv ct : Value) (us : List Value) (w : Value), us.length = n → bindArgs (PySem.W.fnOf x qual params body scope .none kV doc pm an cdv ct) ⟨us, [(kn, w)]⟩ = pure (ps.zip (us ++ [w]))) :
    KBn K fd ps n [kn] (fun us ws => us ++ ws) (fun vs zs => vs ++ zs) := by
  obtain ⟨oc, od, dV, kV, doc, pm, an, cdv, ct, osl, rfl, lk, hcd, hD, hK⟩ := F.ex
  rcases hD with ⟨_, rfl⟩ | ⟨e, _⟩
  · refine ⟨fun s us ws _ l1 l2 => ?_, fun r1 r2 => r1.append r2⟩
    match ws, l2 with
    | [w], _ => exact .of_eq (h kV doc pm an cdv ct us w l1)
  · exact absurd rfl e
end
/-! a dict of the written part: d.get(x, y) -/
/-- what the dict at a holds -/
def WDct (K : PySem.W.Frag) (w : World) (a : Addr) (x : Str) (r : Option V) : Prop :=
  ∃ es n u, K.lookup a = some ⟨.type "dict", none, .dict es n, #[]⟩ ∧ PySem.W.KeysLit w.params es.toList ∧ (a == sysModules) = false ∧ PySem.W.nsIn K a x = some u ∧ (∀ v, r = some v → ∃ y, u = some y ∧ RelV v y) ∧ (r = none → u = none)
section
variable {X : Cx} {o e f : Expr} {apos cpos : Pos} {td ty tx : TE}
def tWGet2 (K : PySem.W.Frag) (w : World) (td ty tx : TE) : TE := fun σ H Q => td σ H fun x H1 => ∃ a, x = .ref a ∧ (∃ es n, K.lookup a = some ⟨.type "dict", none, .dict es n, #[]⟩ ∧ PySem.W.KeysLit w.params es.toList) ∧ ty σ H1 fun y H2 => tx σ H2 fun z H3 => ∃ k r, y = .str k ∧ WDct K w a k r ∧ Q (r.getD z) H3
theorem pe_wget2 (ho : PE X o td) (he : PE X e ty) (hf : PE X f tx) (m : M2 X o "get" apos e f cpos) : PE X (.Call (.Attribute o "get" apos) [e, f] [] cpos) (tWGet2 X.K X.w td ty tx) := by
  constructor
  intro pins s σ H Q I h
  apply wpAny_Call_method m.base m.few m.line PySem.F.plainAttrs_dict PySem.F.slot_dict_get PySem.F.type_dict_get
  apply thn (ho.run pins s σ H _ I h)
  rintro u s1 ⟨x, H1, I1, rx, a, ex, ⟨es0, n0, l0, k0⟩, q1⟩
  subst ex
  obtain rfl : u = Value.ref a := rx
  have mp0 := PySem.W.mapOf_K (prog := X.prog) (w := X.w) I1.kIn l0 k0
  refine ⟨mp0.typeIs, fun b hb => ?_, ?_⟩
  · cases hb
    exact ⟨_, I1.kIn _ _ l0, rfl⟩
  rw [m.trees]
  apply Calls.callWith_builtin rfl
  apply Calls.evalArgs_plain
  apply Calls.spliced_cons
  apply thn (he.run pins s1 σ H1 _ I1 q1)
  rintro iv s2 ⟨y, H2, I2, ry, q2⟩
  apply Calls.spliced_cons
  apply thn (hf.run pins s2 σ H2 _ I2 q2)
  rintro fv s3 ⟨z, H3, I3, rz, k, r, ey, ⟨es, n, uu, hl, hk, hsm, hns, hsome, hnone⟩, q3⟩
  apply Calls.spliced_nil
  subst ey
  obtain ⟨t, rfl⟩ := ry
  have mp := PySem.W.mapOf_K (prog := X.prog) (w := X.w) I3.kIn hl hk
  refine call_meetsIn PySem.F.slot_dict_get mp.typeIs PySem.F.entry_dict_get (PySem.F.args_dict_get_3 _ _ _) (meets_dict_get_default (strKind X.prog X.w) a (strKind_is X.prog X.w k t) hsm fv) ⟨_, mp, ?_⟩
  refine ⟨_, H3, I3.tok _, ?_, q3⟩
  have ef := PySem.W.find_K hl hns
  rw [ef]
  cases r with
  | some v =>
    obtain ⟨y, e1, e2⟩ := hsome v rfl
    rw [e1]
    exact e2
  | none =>
    rw [hnone rfl]
    exact rz
end
end L2
namespace L2
open PySem
section
variable {X : Cx} {body : List Stmt} {f0 : Stmt} {fs : List Stmt} {h0 : ExceptHandler} {hs : List ExceptHandler} {pos : Pos} {tb tf : TS}
/-- try .. except .. finally, where nothing is raised -/
def tTryFin0 (tb tf : TS) : TS := fun D σ H => tb { nx := fun σ1 H1 => tf { nx := D.nx, rt := fun _ _ => False } σ1 H1, rt := fun _ _ => False } σ H
theorem ps_tryFin0 (hb : PSs X.nox body tb) (hf : PSs X.nox (f0 :: fs) tf) : PS X (.Try body (h0 :: hs) [] (f0 :: fs) pos) (tTryFin0 tb tf) := by
  constructor
  intro pins s σ H D I h
  apply wpAny_Try_except_finally
  apply wpAny_mono (hb.run pins s σ H _ (I.wish _) h) _ fun _ _ z => z.elim
  intro f s1 q
  match f, q with
  | .next, ⟨σ1, H1, I1, q1⟩ =>
    apply wpAny_execs_nil
    apply wpAny_mono (hf.run pins s1 σ1 H1 _ I1 q1) _ fun _ _ z => z.elim
    intro g s2 q2
    match g, q2 with
    | .next, ⟨σ2, H2, I2, q3⟩ => exact ⟨σ2, H2, I2.unwish, q3⟩
    | .brk, ⟨_, _, _, z⟩ => exact z.elim
    | .cont, ⟨_, _, _, z⟩ => exact z.elim
    | .ret _, ⟨_, _, _, _, _, z⟩ => exact z.elim
  | .brk, ⟨_, _, _, z⟩ => exact z.elim
  | .cont, ⟨_, _, _, z⟩ => exact z.elim
  | .ret _, ⟨_, _, _, _, _, z⟩ => exact z.elim
end
end L2
namespace Sm
open PySem L2
open PyProof.Rows (envOfC)
variable [LT] [WB]
/-- a method with one keyword-only parameter (behind the others), True if it is left out -/
def CalMK (P : Program) (w : World) (K : PySem.W.Frag) (mg : Str → Option Value) (base : Heap) (C m : Str) (k np : Nat) (kn : Str) (Fs : FnS) : Prop :=
  ∃ (fd : FuncData) (ps : List Str), ps.length = np + 1 ∧ FOk P w K mg base k (He.fAd K (C, some m)) fd ps Fs ∧ (∃ ds, Vals [V.bl true] ds ∧ Binds K fd ps ds) ∧ KBn K fd ps np [kn] (fun us ws => us ++ ws) (fun vs zs => vs ++ zs)
/-- o.m(..), the keyword-only parameter left out -/
def eMethD (C m : Str) (np : Nat) (F : FnS) (fo : EF) (fa : AF) : EF := fun e M => (fo e M).bind fun x M1 => match insG C x M1 with
  | some fs => if fs.lookup m = none then (fa e M1).bind fun l M2 => if (x :: l).length = np then F ((x :: l) ++ [.bl true]) M2 else .bad else .bad
  | none => .bad
/-- o.m(.., k = v) -/
def eMethK (C m : Str) (np : Nat) (F : FnS) (fo : EF) (fa : AF) (fk : EF) : EF := fun e M => (fo e M).bind fun x M1 => match insG C x M1 with
  | some fs => if fs.lookup m = none then (fa e M1).bind fun l M2 => (fk e M2).bind fun z M3 => if (x :: l).length = np then F ((x :: l) ++ [z]) M3 else .bad else .bad
  | none => .bad
section
variable {P : Program} {w : World} {K : PySem.W.Frag} {mg : Str → Option Value} {base : Heap} {C m qual kn : Str} {params : Arguments} {body : List Stmt} {scope : Scope} {fd : FuncData}
theorem calMK_of {N ps : List Str} {k np : Nat} {fb : SF} (F : FunD K m qual params body scope [] [(kn, .bl true)] (He.fAd K (C, some m)) fd) (S : FnScope N ps scope) (hl : ps.length = np + 1)
    (h1 : ∀ (D : Addr) (doc pm : Value) (an : Option Addr) (cdv ct : Value) (us ks : List Value), us.length = np → ks.length = 1 → KwChain D ([kn].zip ks) (bindArgs (PySem.W.fnOf m qual params body scope .none (.ref D) doc pm an cdv ct) ⟨us, []⟩) (ps.zip (us ++ ks)))
    (h2 : ∀ (kV doc pm : Value) (an : Option Addr) (cdv ct : Value) (us : List Value) (w : Value), us.length = np → bindArgs (PySem.W.fnOf m qual params body scope .none kV doc pm an cdv ct) ⟨us, [(kn, w)]⟩ = pure (ps.zip (us ++ [w])))
    (hb : ∀ (cdv : Value) (A : Around) (outer : List Env) (s : Shared) (H : Hp) (E : XK), Room k (A.deeper (envOfC qual scope s.heap.objs.size (He.fAd K (C, some m)) cdv)) →
      SSs (cxOf (L2.CX P w) P w K mg base N qual scope (He.fAd K (C, some m)) cdv A outer s H E) (fun c d _ H => E c d H) body fb) : CalMK P w K mg base C m (k + 1) np kn (fnS ps.length N.length fb) :=
  ⟨fd, ps, hl, fok_of F S hb, F.binds0 np (by simp) hl.symm h1, kbn_one F np kn h2⟩
end
section
variable {X : Cx} {W : WX} {C f m x kn : Str} {fs : List Str} {o e e1 : Expr} {es : List Expr} {fo fv fk : EF} {fa : AF} {pos pos' apos tpos p kpos : Pos} {k np : Nat} {Fs : FnS}
theorem se_methD (CM : CalMK X.prog X.w X.K X.mg X.base C m k np kn Fs) (c : ClsC X.K C fs) (hm : Meth X.K (He.ga X.K C) m (He.fAd X.K (C, some m))) (hr : Room k X.A) (tk : Takes X W) (ho : SE X W o fo) (ha : SA X W (e :: es) fa) {pl : Sem Bool}
    (hst : starEach (e :: es) X.env = (false, eval e X.env) :: starEach es X.env := by rfl) (hpl : (backTo pos (starEach es X.env)).any (·.1) = false := by rfl)
    (ht : eval (.Call (.Attribute o m apos) (e :: es) [] pos) X.env = (do
      let ov ← eval o X.env
      standAt apos.atName
      let (f, first) ← holding [ov] (getMethod ov m pl)
      callWith pos f first (backTo pos (starEach (e :: es) X.env)) (backToKw pos (keywordEach [] X.env))) := by rfl) :
    SE X W (.Call (.Attribute o m apos) (e :: es) [] pos) (eMethD C m np Fs fo fa) := by
  obtain ⟨fd, ps, hl, F, ⟨ds, hd, hb⟩, _⟩ := CM
  exact ⟨(pe_methED ho.pe c.c hm F hr hb hd (passAt tk) ha.pa hst hpl ht).imp fun σ H Q ⟨ρ, e, M, R, S, p⟩ => ⟨ρ, e, M, R, S, (Po.bind p).imp fun v H1 ⟨ρ1, M1, x, E1, R1, r1, p1⟩ => by
    cases hi : insG C x M1 with
    | none => rw [hi] at p1; exact p1.elim
    | some gs =>
      rw [hi] at p1
      simp only at p1
      obtain ⟨n, a, dx, ws, ex, hn, ev, ha, hH, hr⟩ := insG_ok R1 r1 hi
      split at p1
      · rename_i hlk
        refine ⟨a, dx, ws, ev, hH, (hr.look (f := m)).1 hlk, ρ1, e, M1, R1, S.mono E1, (Po.bind (R := RVsr X.K) p1).imp fun vs H2 ⟨ρ2, M2, l, E2, R2, r2, p2⟩ => ?_⟩
        split at p2
        · rename_i hll
          refine ⟨ρ2, M2, (x :: l) ++ [.bl true], R2, RVs.append ⟨v, vs, rfl, RV.mono E2 _ _ r1, r2⟩ (show RVs X.K ρ2 H2 [Val.bl true] [V.bl true] from ⟨.bl true, [], rfl, rfl, rfl⟩), ?_, p2.toE⟩
          rw [List.length_append, hll, hl]
          rfl
        · exact p2.elim
      · exact p1.elim⟩⟩
theorem sk_one (he : SE X W e1 fk) : PK X [⟨some kn, e1, kpos⟩] (fun σ H Q => tE X.K W fk σ H fun z H1 => Q [z] H1) := pk_cons he.pe pk_nil
theorem se_methK (CM : CalMK X.prog X.w X.K X.mg X.base C m k np kn Fs) (c : ClsC X.K C fs) (hm : Meth X.K (He.ga X.K C) m (He.fAd X.K (C, some m))) (hr : Room k X.A) (tk : Takes X W) (ho : SE X W o fo) (ha : SA X W (e :: es) fa) (hk : SE X W e1 fk) {pl : Sem Bool}
    (hall : (backToKw pos (keywordEach [⟨some kn, e1, kpos⟩] X.env)).all (·.1.isSome) = true := by rfl) (hks : (backToKw pos (keywordEach [⟨some kn, e1, kpos⟩] X.env)).filterMap (·.1) = [kn] := by rfl)
    (hst : starEach (e :: es) X.env = (false, eval e X.env) :: starEach es X.env := by rfl)
    (hpl : ((backTo pos (starEach (e :: es) X.env)).any (·.1) || (backToKw pos (keywordEach [⟨some kn, e1, kpos⟩] X.env)).any (·.1.isNone)) = false := by rfl)
    (ht : eval (.Call (.Attribute o m apos) (e :: es) [⟨some kn, e1, kpos⟩] pos) X.env = (do
      let ov ← eval o X.env
      standAt apos.atName
      let (f, first) ← holding [ov] (getMethod ov m pl)
      callWith pos f first (backTo pos (starEach (e :: es) X.env)) (backToKw pos (keywordEach [⟨some kn, e1, kpos⟩] X.env))) := by rfl) :
    SE X W (.Call (.Attribute o m apos) (e :: es) [⟨some kn, e1, kpos⟩] pos) (eMethK C m np Fs fo fa fk) := by
  obtain ⟨fd, ps, hl, F, _, hb⟩ := CM
  exact ⟨(pe_methEK ho.pe c.c hm F hr hb (passAt tk) ha.pa (sk_one hk) hall hks hst hpl ht).imp fun σ H Q ⟨ρ, e, M, R, S, p⟩ => ⟨ρ, e, M, R, S, (Po.bind p).imp fun v H1 ⟨ρ1, M1, x, E1, R1, r1, p1⟩ => by
    cases hi : insG C x M1 with
    | none => rw [hi] at p1; exact p1.elim
    | some gs =>
      rw [hi] at p1
      simp only at p1
      obtain ⟨n, a, dx, ws, ex, hn, ev, ha, hH, hr⟩ := insG_ok R1 r1 hi
      split at p1
      · rename_i hlk
        refine ⟨a, dx, ws, ev, hH, (hr.look (f := m)).1 hlk, ρ1, e, M1, R1, S.mono E1, (Po.bind (R := RVsr X.K) p1).imp fun vs H2 ⟨ρ2, M2, l, E2, R2, r2, p2⟩ => ?_⟩
        refine ⟨ρ2, e, M2, R2, (S.mono E1).mono E2, (Po.bind (R := RVr X.K) p2).imp fun z H3 ⟨ρ3, M3, y, E3, R3, r3, p3⟩ => ?_⟩
        split at p3
        · rename_i hll
          refine ⟨?_, rfl, ρ3, M3, (x :: l) ++ [y], R3, RVs.append (RVs.mono E3 _ _ ⟨v, vs, rfl, RV.mono E2 _ _ r1, r2⟩) ⟨z, [], rfl, r3, rfl⟩, ?_, p3.toE⟩
          · rw [← hll, List.length_cons, List.length_cons, r2.length]
          · rw [List.length_append, hll, hl]
            rfl
        · exact p3.elim
      · exact p1.elim⟩⟩
end
/-! d.get(k, x); d a dict of the written part, texts to ints -/
def wEnt (e : DictEntry) : Option (Str × Int) := match e.key, e.val with
  | .str x _, .int i _ => some (x, i)
  | _, _ => none
def wtabB (K : PySem.W.Frag) (x : Str) (tb : List (Str × Int)) : Bool := match K.lookup (He.ga K x) with
  | some ⟨_, _, .dict es _, _⟩ => decide (es.toList.map wEnt = tb.map some)
  | _ => false
theorem went_find {k : Str} : ∀ {l : List DictEntry} {tb : List (Str × Int)}, l.map wEnt = tb.map some → (match l.find? (·.key.isStr k) with
    | some e => ∃ i t, tb.lookup k = some i ∧ e.val = .int i t
    | none => tb.lookup k = none) ∧ l.any (·.refKey) = false
  | [], [], _ => ⟨rfl, rfl⟩
  | [], _ :: _, h => by cases h
  | _ :: _, [], h => by cases h
  | e :: l, (x, i) :: tb, h => by
    have h1 : wEnt e = some (x, i) := (List.cons.inj h).1
    have ih := went_find (k := k) (List.cons.inj h).2
    obtain ⟨hash, key, val⟩ := e
    unfold wEnt at h1
    split at h1
    · rename_i y t j u ek ev
      cases h1
      simp only at ek ev
      subst ek ev
      refine ⟨?_, ?_⟩
      · unfold List.find? List.lookup
        have ek : Value.isStr (Value.str x t) k = (k == x) := by
          unfold Value.isStr
          exact Bool.beq_comm
        simp only [ek]
        cases hk : k == x with
        | true => exact ⟨i, _, rfl, rfl⟩
        | false => exact ih.1
      · rw [List.any_cons, ih.2]
        rfl
    · cases h1
theorem wtab_in {K : PySem.W.Frag} {x : Str} {tb : List (Str × Int)} (h : wtabB K x tb = true) (k : Str) : ∃ u, PySem.W.nsIn K (He.ga K x) k = some u ∧ (∀ i, tb.lookup k = some i → ∃ t, u = some (.int i t)) ∧ (tb.lookup k = none → u = none) := by
  unfold wtabB at h
  split at h
  · rename_i oc od es n sl hl
    obtain ⟨h1, h2⟩ := went_find (k := k) (of_decide_eq_true h)
    unfold PySem.W.nsIn
    rw [hl]
    simp only
    revert h1
    cases hf : es.toList.find? (·.key.isStr k) with
    | some e =>
      intro ⟨i, t, e1, e2⟩
      exact ⟨_, rfl, fun j ej => by rw [e1] at ej; cases ej; exact ⟨t, by rw [e2]⟩, fun z => by rw [e1] at z; cases z⟩
    | none =>
      intro e1
      refine ⟨none, by rw [h2]; rfl, fun j ej => ?_, fun _ => rfl⟩
      rw [show tb.lookup k = none from e1] at ej; cases ej
  · cases h
/-- a module-level dict of texts and ints -/
structure WTab (K : PySem.W.Frag) (w : World) (mg : Str → Option Value) (x : Str) (tb : List (Str × Int)) : Prop where
  at_ : mg x = some (.ref (He.ga K x))
  lit : ∃ es n, KDict K w (He.ga K x) es n
  has : wtabB K x tb = true
theorem WTab.dct {K : PySem.W.Frag} {w : World} {mg : Str → Option Value} {x : Str} {tb : List (Str × Int)} (T : WTab K w mg x tb) (k : Str) : WDct K w (He.ga K x) k ((tb.lookup k).map V.int) := by
  obtain ⟨es, n, d⟩ := T.lit
  obtain ⟨u, h1, h2, h3⟩ := wtab_in T.has k
  refine ⟨es, n, u, d.at_, d.lit, d.low, h1, fun v e => ?_, fun e => ?_⟩
  · cases hl : tb.lookup k with
    | none => rw [hl] at e; cases e
    | some i =>
      rw [hl] at e
      cases e
      obtain ⟨t, e⟩ := h2 i hl
      exact ⟨_, e, t, rfl⟩
  · cases hl : tb.lookup k with
    | none => exact h3 hl
    | some i => rw [hl] at e; cases e
def eWGet (tb : List (Str × Int)) (fk fd : EF) : EF := fun e M => (fk e M).bind fun y M1 => (fd e M1).bind fun z M2 => match y with
  | .str k => .ok (match tb.lookup k with
    | some i => .int i
    | none => z) M2
  | _ => .bad
section
variable {X : Cx} {W : WX} {x : Str} {tb : List (Str × Int)} {e f : Expr} {fe ff : EF} {p apos cpos : Pos}
theorem se_wget (T : WTab X.K X.w X.mg x tb) (he : SE X W e fe) (hf : SE X W f ff) (hg : Gl X x := by rfl) (hd : (x == ("__debug__" : Str)) = false := by decide)
    (hbase : attributeBase (.Name x p) "get" X.env (eval (.Name x p) X.env) = eval (.Name x p) X.env := by rfl)
    (hfew : ((backTo cpos (starEach [e, f] X.env)).all (fun x => !x.1) && (backToKw cpos (keywordEach [] X.env)).all (fun x => x.1.isSome)
      && decide (([e, f] : List Expr).length + ([] : List Keyword).length + (if ([] : List Keyword).isEmpty then 0 else 1) < 30)) = true := by rfl)
    (hline : (apos.endLine == cpos.line) = true := by rfl) (htr : backTo cpos (starEach [e, f] X.env) = [(false, eval e X.env), (false, eval f X.env)] := by rfl) :
    SE X W (.Call (.Attribute (.Name x p) "get" apos) [e, f] [] cpos) (eWGet tb fe ff) := by
  refine ⟨(pe_wget2 (pe_glob (v := .ref (He.ga X.K x)) hg T.at_ rfl hd) he.pe hf.pe ⟨hbase, hfew, hline, htr⟩).imp fun σ H Q ⟨ρ, e, M, R, S, p⟩ => ?_⟩
  obtain ⟨es, n, d⟩ := T.lit
  refine ⟨_, rfl, ⟨es, n, d.at_, d.lit⟩, ρ, e, M, R, S, (Po.bind p).imp fun v H1 ⟨ρ1, M1, y, E1, R1, r1, p1⟩ => ?_⟩
  refine ⟨ρ1, e, M1, R1, S.mono E1, (Po.bind p1).imp fun u H2 ⟨ρ2, M2, z, E2, R2, r2, p2⟩ => ?_⟩
  cases y with
  | str k =>
    cases (show v = .str k from r1)
    refine ⟨k, _, rfl, T.dct k, ?_⟩
    cases hl : tb.lookup k with
    | none =>
      simp only [hl] at p2
      exact p2.val R2 r2
    | some i =>
      simp only [hl] at p2
      exact p2.val R2 rfl
  | _ => exact p2.elim
end
/-! try .. except .. finally, nothing raised -/
def sTryFin0 (fb ff : SF) : SF := fun e M => match fb e M with
  | .nx e1 M1 => (match ff e1 M1 with
    | .nx e2 M2 => .nx e2 M2
    | _ => .bad)
  | _ => .bad
theorem ss_tryFin0 {X : Cx} {W : WX} {body : List Stmt} {f0 : Stmt} {fs : List Stmt} {h0 : ExceptHandler} {hs : List ExceptHandler} {pos : Pos} {fb ff : SF} (hb : SSs X.nox noW body fb) (hf : SSs X.nox noW (f0 :: fs) ff) : SS X W (.Try body (h0 :: hs) [] (f0 :: fs) pos) (sTryFin0 fb ff) :=
  ⟨(ps_tryFin0 hb.pss hf.pss).imp fun D σ H ⟨ρ, e, M, R, S, p⟩ => ⟨ρ, e, M, R, S, by
    unfold sTryFin0 at p
    cases h : fb e M with
    | nx e1 M1 =>
      rw [h] at p
      simp only at p
      cases h2 : ff e1 M1 with
      | nx e2 M2 =>
        rw [h2] at p
        intro ρ1 H1 σ1 E1 R1 S1
        refine ⟨ρ1, e1, M1, R1, S1, ?_⟩
        rw [h2]
        exact fun ρ2 H2 σ2 E2 R2 S2 => p ρ2 H2 σ2 (E1.trans E2) R2 S2
      | _ => rw [h2] at p; exact p.elim
    | _ => rw [h] at p; exact p.elim⟩⟩
end Sm

namespace L2
open PySem PySem.Spec PyProof.Rows
/-! comprehensions whose element may raise (by a call) -/
/-- the exception is in the air: no frame holds it -/
def Fl (u : Value) (h : Heap) : Prop := ∃ a oe vs T oT ts, u = .ref a ∧ h.get? a = some oe ∧ oe.data = .fields vs ∧ vs[1]? = some (.ref T) ∧ h.get? T = some oT ∧ oT.data = .fields ts ∧ ts[3]? = some .none
theorem fl_of {B h : Heap} {l : List Env} {a : Addr} {Z : Obj → Prop} (f : HandSPX.FlyingZ B l a Z h) : Fl (.ref a) h := by
  obtain ⟨_, _, _, oe, vs, T, oT, ts, he, _, hd, h1, _, _, hT, hdT, h3⟩ := f
  exact ⟨a, oe, vs, T, oT, ts, rfl, he, hd, h1, hT, hdT, h3⟩
theorem sky_fly {B h : Heap} {l : List Env} {a L : Addr} {Z : Obj → Prop} (x : Sky B l a Z L h) (f : Fl (.ref a) h) : HandSPX.FlyingZ B l a Z h := by
  obtain ⟨a', oe, vs, T, oT, ts, ea, he, hd, h1, hT, hdT, h3⟩ := f
  cases ea
  rcases x with ⟨_, _, _, oe', vs', he', _, hd', h1'⟩ | x | ⟨_, _, _, oe', vs', T', oT', ts', he', _, hd', h1', _, _, hT', hdT', h3'⟩
  · rw [he] at he'; cases he'
    rw [hd] at hd'; cases hd'
    rw [h1] at h1'; cases h1'
  · exact x
  · rw [he] at he'; cases he'
    rw [hd] at hd'; cases hd'
    rw [h1] at h1'; cases h1'
    rw [hT] at hT'; cases hT'
    rw [hdT] at hdT'; cases hdT'
    rw [h3] at h3'; cases h3'
theorem hide_none {h : Heap} {C : Addr} : (PySem.W.hideAll h [C]).get? C = none := by
  cases e : h.get? C with
  | none =>
    cases q : (PySem.W.hideAll h [C]).get? C with
    | none => rfl
    | some o => rw [PySem.W.of_hideAll _ q] at e; cases e
  | some o => exact PySem.W.hideAll_none _ (List.mem_singleton.mpr rfl)
theorem fly_less {B h : Heap} {l : List Env} {a C : Addr} {Z : Obj → Prop} (f : HandSPX.FlyingZ B l a Z h) : HandSPX.FlyingZ (PySem.W.hideAll B [C]) l a Z h := by
  have nn : ∀ b, B.get? b = none → (PySem.W.hideAll B [C]).get? b = none := fun b hb => by
    cases q : (PySem.W.hideAll B [C]).get? b with
    | none => rfl
    | some o => rw [PySem.W.of_hideAll _ q] at hb; cases hb
  obtain ⟨f1, f2, f3, oe, vs, T, oT, ts, he, hz, hd, h1, hnT, hTe, hT, hdT, h3⟩ := f
  refine ⟨fun b o e => f1 b o (PySem.W.of_hideAll _ e), nn _ f2, funFrames_none f3 fun L hL => nn _ ?_, oe, vs, T, oT, ts, he, hz, hd, h1, nn _ hnT, hTe, hT, hdT, h3⟩
  exact (f3.mem hL).1
/-- what was told of the exception stays, where one object alone is another one -/
theorem held_but {B h h' : Heap} {l : List Env} {a L C : Addr} {Z : Obj → Prop} {m m' : Str → Option Value} (x : HandSPX.HeldZ B l a Z L h) (hB : B.get? C = none) (hn : h.Ns C m) (hn' : h'.Ns C m') (sb : Heap.SameBut C h h') : HandSPX.HeldZ B l a Z L h' := by
  obtain ⟨f1, f2, f3, oe, vs, T, oT, ts, he, hz, hd, h1, hnT, hTe, hT, hdT, h3⟩ := x
  obtain ⟨oC, es, ep, hoC, hdC, _⟩ := hn
  have ne : ∀ {b o}, h.get? b = some o → (∃ vs, o.data = .fields vs) → b ≠ C := fun {b o} e ⟨ws, hw⟩ z => by
    subst z
    rw [hoC] at e; cases e
    rw [hdC] at hw; cases hw
  exact ⟨fun b o e => (sb.2 b fun z => by rw [z, hB] at e; cases e).trans (f1 b o e), f2, Heap.FunFrames.sameBut sb hn' f3, oe, vs, T, oT, ts, (sb.2 a (ne he ⟨_, hd⟩)).trans he, hz, hd, h1, hnT, hTe, (sb.2 T (ne hT ⟨_, hdT⟩)).trans hT, hdT, h3⟩
section
variable {X : Cx} {pins : List (Addr × Obj)} {σ : St} {scope : Scope} {s0 : Shared} {H0 : Hp} {ce : Env} {fp : List Addr} {W : WX}
/-- what the block lets out -/
def XB (X : Cx) (s0 : Shared) (H0 : Hp) (scope : Scope) (ce : Env) (fp : List Addr) (W : WX) (u : Value) (s' : Shared) : Prop := XE (X.blk s0 H0 scope ce fp) W u s' ∧ Fl u s'.heap
theorem know_out (O : Inv X pins σ H0 s0) (far : ∀ b ∈ fp, FpOk X pins H0 b) (hl : ce.locals = s0.heap.objs.size) (hcf : ce.frame = X.env.frame) (hs : X.stack = X.env :: X.outer) (hf : X.env.frame = some X.env.locals) (tk : Takes X W) {u : Value} {s' : Shared}
    (x : XB X s0 H0 scope ce fp (fun c d _ H => W c d σ H) u s') {Qf : Value → Shared → Prop} {acc : Value} {use : Option (Value → Sem Unit)} :
    notedBy (model X.prog X.w) X.A ce (fun e s'' => compEnds (model X.prog X.w) X.A X.xe use Qf acc ce (.error e) s'') u s' := by
  obtain ⟨⟨a, B, sI, ps, σ', H, cls, d, rfl, I, nb, up, sky, na, os, ag, w⟩, f⟩ := x
  have fl : HandSPX.FlyingZ (PySem.W.hideAll B [ce.locals]) (X.env :: X.outer) a (Zc cls d) s'.heap := by
    have z := fly_less (C := ce.locals) (sky_fly sky f)
    rw [← hs]; exact z
  have hfr : X.A.frames = some (X.env :: X.outer) := by rw [O.ok.frames, hs]
  have Id : Inv (X.blk s0 H0 scope ce fp) [] σ' H sI := Inv.unpinned (pins := []) I
  obtain ⟨J, fo, m, hm⟩ := know_back (σ := σ) O far hl Id
  rw [← hl] at fo hm
  have hBC : (PySem.W.hideAll B [ce.locals]).get? ce.locals = none := hide_none
  show wpAny (model X.prog X.w) X.A (noteFrame (.ref a) ce) _ _ s'
  rw [noteFrame_env _ hcf]
  apply HandSPX.looks_onZ Zc.steady hfr hf fl
  intro h1 held1 up1
  have n1 : h1.Ns ce.locals m := Heap.Ns.upToSlots (Heap.Ns.upToSlots hm fun b o e nf => up b o e nf) fun b o e nf => up1 b o e nf
  have goal : CompFails (model X.prog X.w) X.A X.xe ce (.ref a) { s' with heap := h1 } := by
    refine ⟨m, n1, ?_⟩
    intro h2 m2 n2 sb
    have held2 := held_but held1 hBC n1 n2 sb
    obtain ⟨_, _, _, oe, vs, T, oT, ts, he, _, hd, hv1, _, _, _, _, _⟩ := id held2
    unfold PySem.passOn
    apply wpAny_bind
    apply wpAny_field he hd hv1
    rw [if_neg (show ¬ ((Value.ref T == Value.none) = true) from by simp)]
    rw [hcf, hf]
    have fin : wpAny (model X.prog X.w) X.A (setFlight (.ref a) (some X.env.locals)) (fun _ s4 => wpAny (model X.prog X.w) X.A (throw (.ref a) : Sem Value) (fun _ _ => False) X.xe s4) X.xe { s' with heap := h2 } := by
      apply HandSPX.setFlight_onZ held2
      intro h3 held3 up3
      apply wpAny_throw
      refine tk _ _ ⟨a, PySem.W.hideAll B [ce.locals], { sI with heap := PySem.W.hideAll sI.heap [ce.locals], toks := sI.toks }, pins, σ, H, cls, d, rfl, ?_, ?_, ?_, .inr (.inr ?_), na, os, ag, w⟩
      · obtain ⟨q0, q1, _, q3, q4, q5⟩ := fo
        exact J.turned (fun b o hb e => PySem.W.hideAll_get _ e (by simpa using hb)) q0 q1 q3 q4 q5
      · intro b o e hb
        have hbC : b ≠ ce.locals := fun z => by rw [z, hide_none] at e; cases e
        exact PySem.W.hideAll_get _ (nb b o (PySem.W.of_hideAll _ e) hb) (by simpa using hbC)
      · intro b o e nf
        have hbC : b ≠ ce.locals := fun z => by rw [z, hide_none] at e; cases e
        obtain ⟨sl1, e1⟩ := up b o (PySem.W.of_hideAll _ e) nf
        obtain ⟨sl2, e2⟩ := up1 b _ e1 nf
        have e3 := (sb.2 b hbC).trans e2
        obtain ⟨sl4, e4⟩ := up3 b _ e3 nf
        exact ⟨sl4, e4⟩
      · rw [hs]; exact held3
    first
      | exact wpAny_bind (wpAny_pure (wpAny_bind fin))
      | exact wpAny_bind fin
  cases use <;> exact goal
end
end L2
namespace L2
open PySem PySem.Spec PyProof.Rows
section
variable {X : Cx} {pins : List (Addr × Obj)} {σ : St} {elt tg iter : Expr} {ifs : List Expr} {scope : Scope} {own : List (Str × Nat)} {pos : Pos} {g : TG} {tt : TT} {te : TE} {s0 : Shared} {H0 : Hp} {ce : Env} {fp : List Addr} {it D : Addr} {tn : Nat → Heap → Prop} {J : It} {Q : VK} {w : Nat → Nat → Hp → Prop} {W : WX} {use : Option (Value → Sem Unit)}
theorem know_loopX (O : Inv X pins σ H0 s0) (T : Turn X.prog X.w X.K tg J fp it tn) (far : ∀ b ∈ fp, FpOk X pins H0 b) (hl : ce.locals = s0.heap.objs.size) (hcf : ce.frame = X.env.frame) (hs : X.stack = X.env :: X.outer) (hf : X.env.frame = some X.env.locals) (tk : Takes X W) (hc : X.calm = true)
    (pg : PG (X.blk s0 H0 scope ce fp) tg g) (pt : PTs (X.blk s0 H0 scope ce fp) ifs tt) (pe : PE ((X.blk s0 H0 scope ce fp).wish (XB X s0 H0 scope ce fp (fun c d _ H => W c d σ H))) elt te) (kt : KTurn J D g tt te (own.map (·.2)) σ Q w) {Qf : Value → Shared → Prop}
    (fin : ∀ H s m, Inv X pins σ H s → FpOk X pins H s0.heap.objs.size → s.heap.Ns s0.heap.objs.size m → Q (.ref D) H → compEnds (model X.prog X.w) X.A X.xe use Qf (.ref D) ce (.ok .next) s)
    {s4 : Shared} {m0 : Nat} (B4 : Inv (X.blk s0 H0 scope ce fp) [] (wipe σ (own.map (·.2))) H0 s4) (t4 : tn 0 s4.heap) (w4 : w 0 m0 H0) :
    codeAny (model X.prog X.w) X.A (.compLoop (.ListComp elt [⟨tg, iter, ifs, 0⟩] scope pos) 0 (.ref it) (.ref D) ce) (compEnds (model X.prog X.w) X.A X.xe use Qf (.ref D) ce) s4 := by
  have start : ∃ k H, Inv (X.blk s0 H0 scope ce fp) [] (wipe σ (own.map (·.2))) H s4 ∧ tn k s4.heap ∧ (∀ b ∈ fp, H b = none) ∧ w k m0 H := ⟨0, H0, B4, t4, fun b hb => (far b hb).1, w4⟩
  apply compLoop_any (fun m s => ∃ k H, Inv (X.blk s0 H0 scope ce fp) [] (wipe σ (own.map (·.2))) H s ∧ tn k s.heap ∧ (∀ b ∈ fp, H b = none) ∧ w k m H) _ m0 start
  intro m s ⟨k, H, B, tkk, hn, wk⟩
  cases kt k m H wk with
  | inl done =>
    apply thnF (T.done (X.blk s0 H0 scope ce fp) rfl rfl rfl hc k [] s _ H (fun _ _ => False) B (know_far B hn) tkk done.1)
    intro r s' ⟨er, B'⟩
    rw [er]
    obtain ⟨h1, h2, m', h3⟩ := know_back O far hl B'
    exact fin H s' m' h1 h2 h3 done.2
  | inr more =>
    obtain ⟨go, nx, hnx, body⟩ := more
    apply thnF (T.item (X.blk s0 H0 scope ce fp) rfl rfl rfl hc k [] s _ H (fun _ _ => False) B (know_far B hn) tkk go)
    intro r s1 ⟨u, er, rest⟩
    rw [er]
    apply thnF rest
    intro _ s2 ⟨x, H2, B2, rx, yl, t2, hn2⟩
    have P2 := B2.pinned (know_far B2 hn2) (T.obj _ _ t2)
    apply thnF (pg.run _ s2 _ H2 x u _ P2 rx (body x H2 yl))
    intro _ s3 ⟨σ3, H3, P3, same, r3⟩
    have close : ∀ {s' : Shared} {H' : Hp}, Inv (X.blk s0 H0 scope ce fp) ([] ++ pinsAt fp s2.heap) σ3 H' s' → nx H' →
        ∃ m', m' < m ∧ ∃ k H, Inv (X.blk s0 H0 scope ce fp) [] (wipe σ (own.map (·.2))) H s' ∧ tn k s'.heap ∧ (∀ b ∈ fp, H b = none) ∧ w k m' H := by
      intro s' H' P n
      obtain ⟨m', lt, wn⟩ := hnx H' n
      have stay : ∀ b ∈ fp, ∀ o, s2.heap.get? b = some o → s'.heap.get? b = some o ∧ H' b = none := by
        intro b hb o e
        obtain ⟨z1, z2, _⟩ := P.pin (b, o) (by simpa using mem_pinsAt hb e)
        exact ⟨z1, z2⟩
      have len : (wipe σ (own.map (·.2))).length = σ3.length := by rw [← same, wipe_length]
      have low : ∀ (i : Nat) (v : V), (wipe σ (own.map (·.2)))[i]? = some (some v) → σ3[i]? = some (some v) := by
        intro i v e
        rw [← same] at e
        exact (wipe_some e).1
      refine ⟨m', lt, k + 1, H', (P.unpinned (pins := [])).weak len low, ?_, ?_, wn⟩
      · exact T.keep _ _ _ t2 fun b hb o e => (stay b hb o e).1
      · intro b hb
        obtain ⟨o, e, _⟩ := T.obj _ _ t2 b hb
        exact (stay b hb o e).2
    apply thnF (pt.run _ s3 σ3 H3 _ P3 r3)
    intro b s4 ⟨H4, P4, r4⟩
    by_cases hb : b = true
    · subst hb
      simp only [if_true] at r4 ⊢
      apply wpAny_mono (pe.run _ s4 σ3 H4 _ (P4.wish _) r4)
      · intro z s5 ⟨y, H5, P5, ry, acc, hD, hz, n⟩
        exact app_ok (X := X.blk s0 H0 scope ce fp) P5.unwish hD hz ry fun s6 P6 => close P6 n
      · intro u s5 xx
        exact know_out O far hl hcf hs hf tk xx
    · simp only [if_neg hb] at r4 ⊢
      exact close P4 r4
end
section
variable {X : Cx} {elt tg iter : Expr} {ifs : List Expr} {scope : Scope} {own : List (Str × Nat)} {pos : Pos} {wi : TI} {g : TG} {tt : TT} {te : St → TE} {W : WX}
theorem comp_coreX {use : Option (Value → Sem Unit)} {Qf : Value → Shared → Prop} {Q : VK} {pins : List (Addr × Obj)} {σ : St} {H : Hp} {s : Shared} {p' : Pos} (hc : X.calm = true) (hN : X.N.Nodup) (hsk : X.stack = X.env :: X.outer) (hf : X.env.frame = some X.env.locals) (tk : Takes X W) (I : Inv X pins σ H s) (hi : PI X tg iter wi) (ok : BlkOk X.N X.env.scope scope own)
    (hg : ∀ (s : Shared) (H : Hp) (C : Addr) (cl : List (Str × Addr)) (fp : List Addr), PG (X.blk s H scope (compEnvC scope cl C X.env) fp) tg g)
    (ht : ∀ (s : Shared) (H : Hp) (C : Addr) (cl : List (Str × Addr)) (fp : List Addr), PTs (X.blk s H scope (compEnvC scope cl C X.env) fp) ifs tt)
    (he : ∀ (σ : St) (s : Shared) (H : Hp) (C : Addr) (cl : List (Str × Addr)) (fp : List Addr), PE ((X.blk s H scope (compEnvC scope cl C X.env) fp).wish (XB X s H scope (compEnvC scope cl C X.env) fp (fun c d _ H => W c d σ H))) elt (te σ)) (hs : ∀ x, foldedSetIterable iter X.env x = pure x)
    (hq : tLc wi g tt (te σ) (own.map (·.2)) σ H Q)
    (fin : ∀ (D C : Addr) (ce : Env) (s' : Shared) (m : Str → Option Value) (H' : Hp), ce.locals = C → Inv X pins σ H' s' → Q (.ref D) H' → s'.heap.Ns C m → FpOk X pins H' C → compEnds (model X.prog X.w) X.A X.xe use Qf (.ref D) ce (.ok .next) s') :
    wpAny (model X.prog X.w) X.A (comprehension (.ListComp elt [⟨tg, iter, ifs, 0⟩] scope pos) scope X.env p' (newList []) false (eval iter X.env) use) Qf X.xe s := by
  have caps : ∀ y ∈ scope.names, y.2 = .free → ∃ c, X.env.cells.lookup y.1 = some c := by
    intro y hy e
    cases ok.free y hy e with
    | inl k => exact I.ok.has _ (Or.inl k)
    | inr k => exact I.ok.has _ (Or.inr k)
  apply comprehension_at (use := use) rfl hs (closure_ok caps) ok.kind (fun y hy e => e ▸ ok.uniq y hy)
  apply thn (hi.run pins s σ H _ I hq)
  intro xv s1 a1
  apply thn a1
  rintro iv s2 ⟨it, fp, tn, J, H2, rfl, I2, T, t2, far2, rd⟩
  obtain ⟨w, ⟨m0, w0⟩, kt⟩ := rd s2.heap.objs.size (I2.hok.fresh (Nat.le_refl _))
  refine wpAny_newObj_type (newEnv_comp ?_) (by show 0 ≤ sizeLine; decide)
  have I3 := know_new I2
  have far : ∀ b ∈ fp, FpOk X pins (upd H2 s2.heap.objs.size (.lst [])) b ∧ b < (s2.heap.push { cls := .type "list", data := .seq ([] : List Value).toArray }).objs.size := by
    intro b hb
    obtain ⟨o, e, _⟩ := T.obj _ _ t2 b hb
    have lt := Heap.lt_size e
    obtain ⟨f0, fr⟩ := far2 b hb
    rw [Heap.size_push]
    exact ⟨⟨(upd_ne (Nat.ne_of_lt lt)).trans f0, fr⟩, Nat.lt_succ_of_lt lt⟩
  have B4 := block_start I3 ok hN far
  have t4 : tn 0 (pushCells ((s2.heap.push { cls := .type "list", data := .seq ([] : List Value).toArray }).push { cls := .type "dict", data := .dict #[] }) scope.names) :=
    T.keep _ _ _ t2 fun b _ o e => pushCells_keeps _ _ _ _ (Heap.get?_push_of_some _ (Heap.get?_push_of_some _ e))
  have loop := know_loopX (ce := compEnvC scope (cellsFrom ((s2.heap.push { cls := .type "list", data := .seq ([] : List Value).toArray }).objs.size + 1) scope.names (cloFrom X.env.cells scope.names [])) (s2.heap.push { cls := .type "list", data := .seq ([] : List Value).toArray }).objs.size X.env) (iter := iter) (pos := pos) (Qf := Qf) (use := use) I3 T (fun b hb => (far b hb).1) rfl rfl hsk hf tk hc (hg _ _ _ _ _) (ht _ _ _ _ _) (he σ _ _ _ _ _) kt (fun H' s' m I' f hm q => fin _ _ _ s' m H' rfl I' q hm f) B4 t4 w0
  exact codeAny_compStart_list loop (T.self X.A 0 _ _ _ t4 loop)
theorem pe_lcX (hc : X.calm = true) (hN : X.N.Nodup) (hsk : X.stack = X.env :: X.outer) (hf : X.env.frame = some X.env.locals) (tk : Takes X W) (hi : PI X tg iter wi) (ok : BlkOk X.N X.env.scope scope own)
    (hg : ∀ (s : Shared) (H : Hp) (C : Addr) (cl : List (Str × Addr)) (fp : List Addr), PG (X.blk s H scope (compEnvC scope cl C X.env) fp) tg g)
    (ht : ∀ (s : Shared) (H : Hp) (C : Addr) (cl : List (Str × Addr)) (fp : List Addr), PTs (X.blk s H scope (compEnvC scope cl C X.env) fp) ifs tt)
    (he : ∀ (σ : St) (s : Shared) (H : Hp) (C : Addr) (cl : List (Str × Addr)) (fp : List Addr), PE ((X.blk s H scope (compEnvC scope cl C X.env) fp).wish (XB X s H scope (compEnvC scope cl C X.env) fp (fun c d _ H => W c d σ H))) elt (te σ)) (hs : ∀ x, foldedSetIterable iter X.env x = pure x := by intro _; rfl) :
    PE X (.ListComp elt [⟨tg, iter, ifs, 0⟩] scope pos) (fun σ H Q => tLc wi g tt (te σ) (own.map (·.2)) σ H Q) := by
  constructor
  intro pins s σ H Q I hq
  rw [eval_ListComp]
  apply comp_coreX hc hN hsk hf tk I hi ok hg ht he hs hq
  intro D C ce s' m H' ec I' q hm f
  refine ⟨m, ec ▸ hm, fun h3 sb => ⟨.ref D, H', ?_, rfl, q⟩⟩
  obtain ⟨f0, f1, _, f3, f4, f5⟩ := f
  rw [ec] at sb
  exact I'.turned (t' := s'.toks) (fun b o hb e => (sb.2 b hb).trans e) f0 f1 f3 f4 f5
/-- y = [..] -/
theorem ps_setLcX {i : Nat} {y : Str} {py spos : Pos} (hc : X.calm = true) (hN : X.N.Nodup) (hy : X.N[i]? = some y) (hyl : X.env.scope.names.lookup y = some .local) (hsk : X.stack = X.env :: X.outer) (hf : X.env.frame = some X.env.locals) (tk : Takes X W)
    (hsw : swapsWith (.ListComp elt [⟨tg, iter, ifs, 0⟩] scope pos) (some (.Name y py)) spos.line X.env = pure true) (hi : PI X tg iter wi) (ok : BlkOk X.N X.env.scope scope own)
    (hg : ∀ (s : Shared) (H : Hp) (C : Addr) (cl : List (Str × Addr)) (fp : List Addr), PG (X.blk s H scope (compEnvC scope cl C X.env) fp) tg g)
    (ht : ∀ (s : Shared) (H : Hp) (C : Addr) (cl : List (Str × Addr)) (fp : List Addr), PTs (X.blk s H scope (compEnvC scope cl C X.env) fp) ifs tt)
    (he : ∀ (σ : St) (s : Shared) (H : Hp) (C : Addr) (cl : List (Str × Addr)) (fp : List Addr), PE ((X.blk s H scope (compEnvC scope cl C X.env) fp).wish (XB X s H scope (compEnvC scope cl C X.env) fp (fun c d _ H => W c d σ H))) elt (te σ)) (hs : ∀ x, foldedSetIterable iter X.env x = pure x := by intro _; rfl) :
    PS X (.Assign [.Name y py] (.ListComp elt [⟨tg, iter, ifs, 0⟩] scope pos) spos) (tAsg (fun σ H Q => tLc wi g tt (te σ) (own.map (·.2)) σ H Q) (gName i)) := by
  constructor
  intro pins s σ H D I hq
  rw [exec_Assign_Name_used _ _ _ _ hsw]
  apply wpAny_bind
  apply wpAny_standAt
  apply wpAny_bind
  have core : wpAny (model X.prog X.w) X.A (comprehension (.ListComp elt [⟨tg, iter, ifs, 0⟩] scope pos) scope X.env (firstIterPos [⟨tg, iter, ifs, 0⟩] pos) (newList []) false (eval iter X.env) (some (assign (.Name y py) X.env))) (fun _ s' => SP X pins D .next s') X.xe s := by
    apply comp_coreX (Q := fun x H1 => gName i x σ H1 D.nx) (use := some (assign (.Name y py) X.env)) hc hN hsk hf tk I hi ok hg ht he hs hq
    intro L C ce s' m H' ec I' q hm f
    show wpAny _ _ (assign (.Name y py) X.env (.ref L)) _ _ _
    apply wpAny_assign_Name
    refine store_ok2 (v := V.ref L) I' hN hy (.inl hyl) rfl (fun s2 I2 ⟨a, sb, ha⟩ => ?_) (.inr hyl)
    obtain ⟨f0, f1, f2, f3, f4, f5⟩ := f
    have haC : C ≠ a := by
      cases ha with
      | inl z => rw [z]; exact f1
      | inr z => exact fun e => f4 y a z e.symm
    refine ⟨m, by rw [ec]; exact hm.sameBut sb haC, fun h3 sb3 => ?_⟩
    rw [ec] at sb3
    exact ⟨_, H', I2.turned (t' := s2.toks) (fun b o hb e => (sb3.2 b hb).trans e) f0 f1 f3 f4 f5, q⟩
  show wpAny _ X.A (do let _ ← comprehension (.ListComp elt [⟨tg, iter, ifs, 0⟩] scope pos) scope X.env (firstIterPos [⟨tg, iter, ifs, 0⟩] pos) (newList []) false (eval iter X.env) (some (assign (.Name y py) X.env))) _ _ s
  apply wpAny_bind
  apply thn core
  intro _ s' q
  exact wpAny_pure (wpAny_pure q)
end
end L2
namespace Sm
open PySem L2 PySem.Spec PyProof.Rows
/-- the turns of a comprehension whose element may raise -/
def lcX (nxt : Nat → Mem → Option (Option Val)) (g : Tg) (t : TF) (el : EF) (D : Nat) (e : Sl) : Nat → Nat → Mem → Out Val
  | 0, _, _ => .bad
  | m + 1, i, M => match nxt i M with
    | none => .bad
    | some none => .ok (.loc D) M
    | some (some x) => match g.put x e with
      | none => .bad
      | some e1 => match t e1 M with
        | .ok b M1 => if b = true then (match el e1 M1 with
          | .ok y M2 => (match M2[D]? with
            | some (.lst acc) => if acc.length < sizeLine then lcX nxt g t el D e m (i + 1) (M2.set D (.lst (acc ++ [y]))) else .bad
            | _ => .bad)
          | .ex x M2 => .ex x M2
          | .bad => .bad) else lcX nxt g t el D e m (i + 1) M1
        | _ => .bad
def eLcX (f : IF) (g : Tg) (t : TF) (el : EF) (vs : List Nat) : EF := fun e M => (f e M).bind fun it M1 => lcX it.nxt g t el M1.length (wipeS e vs) it.fuel 0 (M1 ++ [.lst []])
/-- what a block wishes of exceptions, the def's slots at hand -/
abbrev wB (W : WX) (σ0 : L2.St) : WX := fun c d _ H => W c d σ0 H
section
variable [LT] [WB] {X : Cx} {W : WX} {pos : Pos} {tg iter elt : Expr} {ifs : List Expr} {scope : Scope} {own : List (Str × Nat)} {f : IF} {g : Tg} {t : TF} {el : EF}
theorem lcx_ok (hv : ∀ i ∈ g.vs, i ∈ own.map (·.2)) {σ : L2.St} {H : Hp} {Q : VK} (h : tE X.K W (eLcX f g t el (own.map (·.2))) σ H Q) : tLc (tIt X.K W f) (g.g X.K) (tT X.K noW t) (tE X.K (wB W σ) el) (own.map (·.2)) σ H Q := by
  obtain ⟨ρ, e, M, R, S, p⟩ := h
  refine ⟨ρ, e, M, R, S, (Po.bind (R := Ritr X.K) p).imp fun J H1 ⟨ρ1, M1, it, E1, R1, sim, p1⟩ D hD => ?_⟩
  have EA := Ext.alloc (o := .lst []) ρ1 hD
  have hn : (ρ1 ++ [D])[M1.length]? = some D := by rw [← R1.len, List.getElem?_append_right (Nat.le_refl _)]; simp
  refine ⟨fun i m H' => ∃ ρ' M', Ext ρ1 H1 ρ' H' ∧ Rel X.K ρ' M' H' ∧ ρ'[M1.length]? = some D ∧ Po (RVr X.K) X.K ρ' H' σ W Q (lcX it.nxt g t el M1.length (wipeS e (own.map (·.2))) m i M'),
    ⟨it.fuel, ρ1 ++ [D], _, EA, R1.alloc (c := .lst []) hD ⟨[], upd_same, rfl⟩, hn, p1.mono EA⟩, fun i m H' ⟨ρ', M', E', R', hn', p'⟩ => ?_⟩
  cases m with
  | zero => exact p'.elim
  | succ m =>
    unfold lcX at p'
    cases hx : it.nxt i M' with
    | none => rw [hx] at p'; exact p'.elim
    | some o => cases o with
      | none =>
        rw [hx] at p'
        exact .inl ⟨(sim i ρ' M' H' E' R').1 hx, p' ρ' H' _ (Ext.refl _ _) R' ⟨D, rfl, hn'⟩⟩
      | some x =>
        rw [hx] at p'
        simp only at p'
        obtain ⟨g1, g2⟩ := (sim i ρ' M' H' E' R').2 x hx
        refine .inr ⟨g1, _, fun H2 h => ⟨m, Nat.lt_succ_self m, h⟩, fun v H2 hy => ?_⟩
        obtain ⟨E2, R2, r2⟩ := g2 v H2 hy
        cases hp : g.put x (wipeS e (own.map (·.2))) with
        | none => rw [hp] at p'; exact p'.elim
        | some e1 =>
          rw [hp] at p'
          simp only at p'
          have S2 : SlR X.K ρ' H2 (wipeS e (own.map (·.2))) (L2.wipe σ (own.map (·.2))) := (S.wipe _).mono (E1.trans (E'.trans E2))
          refine Tg.ok hv r2 S2 hp fun σ' S' w => ⟨?_, ρ', e1, M', R2, S', ?_⟩
          · rw [w]
            apply List.ext_getElem?
            intro j
            rw [wipe_get, wipe_get]
            by_cases hj : j ∈ own.map (·.2)
            · rw [if_pos hj, if_pos hj]; cases σ[j]? <;> rfl
            · rw [if_neg hj, if_neg hj]
          · cases ht : t e1 M' with
            | bad => rw [ht] at p'; exact p'.elim
            | ex _ _ => rw [ht] at p'; exact p'.elim
            | ok b M3 =>
              rw [ht] at p'
              simp only at p'
              intro ρ3 H3 b' E3 R3 eb
              cases (show b = b' from eb)
              by_cases hb : b = true
              · rw [if_pos hb] at p' ⊢
                refine ⟨ρ3, e1, M3, R3, S'.mono E3, ?_⟩
                cases hl : el e1 M3 with
                | bad => rw [hl] at p'; exact p'.elim
                | ex y M4 =>
                  rw [hl] at p'
                  exact fun ρ4 H4 cls d E4 R4 x4 => p' ρ4 H4 cls d (E2.trans (E3.trans E4)) R4 x4
                | ok y M4 =>
                  rw [hl] at p'
                  simp only at p'
                  intro ρ4 H4 u E4 R4 r4
                  cases hm : M4[M1.length]? with
                  | none => rw [hm] at p'; exact p'.elim
                  | some c => cases c with
                    | lst acc =>
                      rw [hm] at p'
                      simp only at p'
                      have hn4 := E4.get (E3.get hn')
                      obtain ⟨vs, h3, h4⟩ := R4.at_ _ _ _ hm hn4
                      by_cases hz : acc.length < sizeLine
                      · rw [if_pos hz] at p'
                        refine ⟨vs, h3, by rw [h4.length]; exact hz, ?_⟩
                        have hmu : Mt (H4 D) := by rw [h3]; trivial
                        have E5 := Ext.write (o := .lst (vs ++ [u])) ρ4 (List.mem_of_getElem? hn4) hmu
                        obtain ⟨R5, _⟩ := R4.write (c := .lst (acc ++ [y])) hn4 ⟨_, upd_same, RVs.mono E5 _ _ (h4.snoc r4)⟩
                        exact ⟨ρ4, _, E'.trans (E2.trans (E3.trans (E4.trans E5))), R5, hn4, p'.mono (E2.trans (E3.trans (E4.trans E5)))⟩
                      · rw [if_neg hz] at p'; exact p'.elim
                    | _ => rw [hm] at p'; exact p'.elim
              · rw [if_neg hb] at p' ⊢
                exact ⟨ρ3, M3, E'.trans (E2.trans E3), R3, E3.get hn', p'.mono (E2.trans E3)⟩
theorem se_lcX (hc : X.calm = true) (hN : X.N.Nodup) (tk : Takes X W) (hi : SI X W tg iter f) (ok : BlkOk X.N X.env.scope scope own) (hv : ∀ i ∈ g.vs, i ∈ own.map (·.2))
    (hg : ∀ (s : Shared) (H : Hp) (C : Addr) (cl : List (Str × Addr)) (fp : List Addr), SLT (X.blk s H scope (compEnvC scope cl C X.env) fp) tg g) (ht : ∀ (s : Shared) (H : Hp) (C : Addr) (cl : List (Str × Addr)) (fp : List Addr), STs (X.blk s H scope (compEnvC scope cl C X.env) fp) ifs t)
    (he : ∀ (σ : L2.St) (s : Shared) (H : Hp) (C : Addr) (cl : List (Str × Addr)) (fp : List Addr), SE ((X.blk s H scope (compEnvC scope cl C X.env) fp).wish (XB X s H scope (compEnvC scope cl C X.env) fp (wB W σ))) (wB W σ) elt el) (hsk : X.stack = X.env :: X.outer := by rfl) (hf : X.env.frame = some X.env.locals := by rfl) (hs : ∀ x, foldedSetIterable iter X.env x = pure x := by intro _; rfl) :
    SE X W (.ListComp elt [⟨tg, iter, ifs, 0⟩] scope pos) (eLcX f g t el (own.map (·.2))) :=
  ⟨(pe_lcX (te := fun σ => tE X.K (wB W σ) el) hc hN hsk hf tk hi.pi ok (fun s H C cl fp => (hg s H C cl fp).pg) (fun s H C cl fp => (ht s H C cl fp).pts) (fun σ s H C cl fp => (he σ s H C cl fp).pe) hs).imp fun σ H Q h => lcx_ok hv h⟩
theorem ss_setLcX {i : Nat} {y : Str} {py spos : Pos} (hc : X.calm = true) (hN : X.N.Nodup) (tk : Takes X W) (hsw : swapsWith (.ListComp elt [⟨tg, iter, ifs, 0⟩] scope pos) (some (.Name y py)) spos.line X.env = pure true) (hi : SI X W tg iter f) (ok : BlkOk X.N X.env.scope scope own) (hv : ∀ i ∈ g.vs, i ∈ own.map (·.2))
    (hg : ∀ (s : Shared) (H : Hp) (C : Addr) (cl : List (Str × Addr)) (fp : List Addr), SLT (X.blk s H scope (compEnvC scope cl C X.env) fp) tg g) (ht : ∀ (s : Shared) (H : Hp) (C : Addr) (cl : List (Str × Addr)) (fp : List Addr), STs (X.blk s H scope (compEnvC scope cl C X.env) fp) ifs t)
    (he : ∀ (σ : L2.St) (s : Shared) (H : Hp) (C : Addr) (cl : List (Str × Addr)) (fp : List Addr), SE ((X.blk s H scope (compEnvC scope cl C X.env) fp).wish (XB X s H scope (compEnvC scope cl C X.env) fp (wB W σ))) (wB W σ) elt el) (hy : X.N[i]? = some y := by rfl) (hyl : X.env.scope.names.lookup y = some .local := by rfl) (hsk : X.stack = X.env :: X.outer := by rfl) (hf : X.env.frame = some X.env.locals := by rfl) (hs : ∀ x, foldedSetIterable iter X.env x = pure x := by intro _; rfl) :
    SS X W (.Assign [.Name y py] (.ListComp elt [⟨tg, iter, ifs, 0⟩] scope pos) spos) (sAsg (eLcX f g t el (own.map (·.2))) (gNm i)) :=
  ⟨(ps_setLcX (i := i) (wi := tIt X.K W f) (g := g.g X.K) (tt := tT X.K noW t) (te := fun σ => tE X.K (wB W σ) el) hc hN hy hyl hsk hf tk hsw hi.pi ok (fun s H C cl fp => (hg s H C cl fp).pg) (fun s H C cl fp => (ht s H C cl fp).pts) (fun σ s H C cl fp => (he σ s H C cl fp).pe) hs).imp fun D σ H ⟨ρ, e, M, R, S, p⟩ =>
    (show tLc (tIt X.K W f) (g.g X.K) (tT X.K noW t) (tE X.K (wB W σ) el) (own.map (·.2)) σ H (fun x H1 => gName i x σ H1 D.nx) from
      lcx_ok (W := W) hv ⟨ρ, e, M, R, S, (PoS.ofE (R := RVr X.K) S p).imp fun v H1 ⟨ρ1, M1, x, E1, R1, r1, p1⟩ => p1 ρ1 H1 _ (Ext.refl _ _) R1 ((S.mono E1).set i r1)⟩)⟩
end
section
variable [LT] [WB] {X : Cx} {W : WX} {k np : Nat} {Fs : FnS} {x : Str} {p pos : Pos} {a : Expr} {es : List Expr} {fa : AF} {s0 : Shared} {H0 : Hp} {scope : Scope} {ce : Env} {fp : List Addr}
/-- a call in the block -/
theorem se_callX (C : Cal X.prog X.w X.K X.mg X.base x k np Fs) (hr : Room k X.A) (ha : SA ((X.blk s0 H0 scope ce fp).wish (XB X s0 H0 scope ce fp W)) W (a :: es) fa)
    (hg : Gl ((X.blk s0 H0 scope ce fp).wish (XB X s0 H0 scope ce fp W)) x := by rfl) (hdb : (x == ("__debug__" : Str)) = false := by decide) (he : starEach (a :: es) ce = (false, eval a ce) :: starEach es ce := by rfl) (hpl : (backTo pos (starEach es ce)).any (·.1) = false := by rfl) :
    SE ((X.blk s0 H0 scope ce fp).wish (XB X s0 H0 scope ce fp W)) W (.Call (.Name x p) (a :: es) [] pos) (eFn np Fs fa) := by
  obtain ⟨f, fd, ps, rfl, F, hm, hk, hb⟩ := C
  have hx : ∀ σ, PassesAt (L2.CX X.prog X.w) ((X.blk s0 H0 scope ce fp).wish (XB X s0 H0 scope ce fp W)) σ (WE W σ) := fun σ pins H s e s' I c => by
    refine ⟨XE.of_call I.unwish (fun _ _ _ h => h) c, ?_⟩
    obtain ⟨a, B, H', cls, d, rfl, fl, _⟩ := c
    exact fl_of fl
  exact ⟨(pe_callS (X := (X.blk s0 H0 scope ce fp).wish (XB X s0 H0 scope ce fp W)) F hr hg hm hk hb hx ha.pa hdb he hpl).imp fun σ H Q ⟨ρ, e, M, R, S, p⟩ => ⟨ρ, e, M, R, S, (Po.bind (R := RVsr X.K) p).imp fun vs H1 ⟨ρ1, M1, l, E1, R1, r1, p1⟩ => by
    by_cases hl : l.length = ps.length
    · rw [if_pos hl] at p1
      refine ⟨ρ1, M1, l, R1, r1, hl, ?_⟩
      cases hF : Fs l M1 with
      | ok v M2 => rw [hF] at p1; exact p1
      | ex y M2 => rw [hF] at p1; exact p1
      | bad => rw [hF] at p1; exact p1.elim
    · rw [if_neg hl] at p1; exact p1.elim⟩⟩
end
end Sm


namespace Lw
open PySem L2 Sm
open PyProof.Rows (envOfC)
def topS (i : Nat) : Stmt := PySem.Challenge.pw_streetrounds_k15_any_text_read.main.body.getD i (.Pass ⟨0, 0, 0, 0⟩)
def dd__law_row : He.DefD := ⟨("_law_row", none), "_law_row", "_law_row", defArgs (topS 29), defBody (topS 29), defScope (topS 29), [], []⟩
def dd__law_taken : He.DefD := ⟨("_law_taken", none), "_law_taken", "_law_taken", defArgs (topS 30), defBody (topS 30), defScope (topS 30), [], []⟩
def dd__law_street : He.DefD := ⟨("_law_street", none), "_law_street", "_law_street", defArgs (topS 31), defBody (topS 31), defScope (topS 31), [], []⟩
def dd__law_town : He.DefD := ⟨("_law_town", none), "_law_town", "_law_town", defArgs (topS 32), defBody (topS 32), defScope (topS 32), [], []⟩
def dd_is_number : He.DefD := ⟨("is_number", none), "is_number", "is_number", defArgs (topS 17), defBody (topS 17), defScope (topS 17), [], []⟩
def dd_is_street : He.DefD := ⟨("is_street", none), "is_street", "is_street", defArgs (topS 18), defBody (topS 18), defScope (topS 18), [], []⟩
def dd_need_town : He.DefD := ⟨("need_town", none), "need_town", "need_town", defArgs (topS 19), defBody (topS 19), defScope (topS 19), [], []⟩
def dd_written : He.DefD := ⟨("written", none), "written", "written", defArgs (topS 25), defBody (topS 25), defScope (topS 25), [], []⟩
def dd__law_spoilt : He.DefD := ⟨("_law_spoilt", none), "_law_spoilt", "_law_spoilt", defArgs (topS 33), defBody (topS 33), defScope (topS 33), [], []⟩
def dd_number_of : He.DefD := ⟨("number_of", none), "number_of", "number_of", defArgs (topS 26), defBody (topS 26), defScope (topS 26), [], []⟩
def dd_read : He.DefD := ⟨("read", none), "read", "read", defArgs (topS 27), defBody (topS 27), defScope (topS 27), [], []⟩
def dd__law_word : He.DefD := ⟨("_law_word", none), "_law_word", "_law_word", defArgs (topS 36), defBody (topS 36), defScope (topS 36), [], []⟩
def dd__law_number : He.DefD := ⟨("_law_number", none), "_law_number", "_law_number", defArgs (topS 34), defBody (topS 34), defScope (topS 34), [], []⟩
def dd__law_read : He.DefD := ⟨("_law_read", none), "_law_read", "_law_read", defArgs (topS 35), defBody (topS 35), defScope (topS 35), [], []⟩
def dd__law_alike : He.DefD := ⟨("_law_alike", none), "_law_alike", "_law_alike", defArgs (topS 37), defBody (topS 37), defScope (topS 37), [], []⟩
def dd_law : He.DefD := ⟨("law", none), "law", "law", defArgs (topS 38), defBody (topS 38), defScope (topS 38), [], []⟩
def di_BadText : He.DefD := ⟨("BadText", some "__init__"), "__init__", "BadText.__init__", defArgs (clsSt (topS 12) 0), defBody (clsSt (topS 12) 0), defScope (clsSt (topS 12) 0), [], []⟩
def di_BadTown : He.DefD := ⟨("BadTown", some "__init__"), "__init__", "BadTown.__init__", defArgs (clsSt (topS 2) 0), defBody (clsSt (topS 2) 0), defScope (clsSt (topS 2) 0), [], []⟩
def fnD : List He.DefD := [dd__law_row, dd__law_taken, dd__law_street, dd__law_town, dd_is_number, dd_is_street, dd_need_town, dd_written, dd__law_spoilt, dd_number_of, dd_read, dd__law_word, dd__law_number, dd__law_read, dd__law_alike, dd_law, di_BadText, di_BadTown]
def faD : List He.Fa := [.glo "_law_row", .glo "_law_taken", .glo "_law_street", .glo "_law_town", .glo "is_number", .glo "is_street", .glo "need_town", .glo "written", .glo "_law_spoilt", .glo "number_of", .glo "read", .glo "_law_word", .glo "_law_number", .glo "_law_read", .glo "_law_alike", .glo "law", .free "ValueError", .free "any", .free "bool", .free "enumerate", .free "int", .free "isinstance", .free "len", .free "list", .free "range", .free "str", .free "tuple", .str "FIGURES" "0123456789", .int "MOST_CORNERS" 9, .int "MOST_FIGURES" 2, .int "MOST_LONG" 99, .int "MOST_STREETS" 16, .str "TOWN" "town", .glo "BadDeed", .glo "BadText", .glo "BadTimes", .glo "BadTown", .glo "Halted", .glo "NoCorner", .glo "NoRound", .glo "NoStreet", .glo "NotOneWay", .glo "StreetError", .glo "TooMany", .glo "Uneven"]
def exL : List (PySem.W.Frag → Bool) := [fun K => gtupB K "SIGNS" ["=", ">"], fun K => xbaB K "StreetError", fun K => xinB K "BadText" ["row"], fun K => xinB K "BadTown" ["number"], fun K => isTB K [("BadTown", false), ("NoCorner", false), ("NoStreet", false), ("NoRound", false), ("TooMany", false), ("BadTimes", false), ("Uneven", false), ("NotOneWay", false), ("BadDeed", true), ("Halted", false), ("BadText", false)] (.ref (He.ga K "BadDeed")), fun K => isTB K [("BadTown", false), ("NoCorner", false), ("NoStreet", false), ("NoRound", false), ("TooMany", false), ("BadTimes", false), ("Uneven", false), ("NotOneWay", false), ("BadDeed", false), ("Halted", false), ("BadText", true)] (.ref (He.ga K "BadText")), fun K => isTB K [("BadTown", false), ("NoCorner", false), ("NoStreet", false), ("NoRound", false), ("TooMany", false), ("BadTimes", true), ("Uneven", false), ("NotOneWay", false), ("BadDeed", false), ("Halted", false), ("BadText", false)] (.ref (He.ga K "BadTimes")), fun K => isTB K [("BadTown", true), ("NoCorner", false), ("NoStreet", false), ("NoRound", false), ("TooMany", false), ("BadTimes", false), ("Uneven", false), ("NotOneWay", false), ("BadDeed", false), ("Halted", false), ("BadText", false)] (.ref (He.ga K "BadTown")), fun K => isTB K [("BadTown", false), ("NoCorner", false), ("NoStreet", false), ("NoRound", false), ("TooMany", false), ("BadTimes", false), ("Uneven", false), ("NotOneWay", false), ("BadDeed", false), ("Halted", true), ("BadText", false)] (.ref (He.ga K "Halted")), fun K => isTB K [("BadTown", false), ("NoCorner", true), ("NoStreet", false), ("NoRound", false), ("TooMany", false), ("BadTimes", false), ("Uneven", false), ("NotOneWay", false), ("BadDeed", false), ("Halted", false), ("BadText", false)] (.ref (He.ga K "NoCorner")), fun K => isTB K [("BadTown", false), ("NoCorner", false), ("NoStreet", false), ("NoRound", true), ("TooMany", false), ("BadTimes", false), ("Uneven", false), ("NotOneWay", false), ("BadDeed", false), ("Halted", false), ("BadText", false)] (.ref (He.ga K "NoRound")), fun K => isTB K [("BadTown", false), ("NoCorner", false), ("NoStreet", true), ("NoRound", false), ("TooMany", false), ("BadTimes", false), ("Uneven", false), ("NotOneWay", false), ("BadDeed", false), ("Halted", false), ("BadText", false)] (.ref (He.ga K "NoStreet")), fun K => isTB K [("BadTown", false), ("NoCorner", false), ("NoStreet", false), ("NoRound", false), ("TooMany", false), ("BadTimes", false), ("Uneven", false), ("NotOneWay", true), ("BadDeed", false), ("Halted", false), ("BadText", false)] (.ref (He.ga K "NotOneWay")), fun K => isTB K [("BadTown", false), ("NoCorner", false), ("NoStreet", false), ("NoRound", false), ("TooMany", true), ("BadTimes", false), ("Uneven", false), ("NotOneWay", false), ("BadDeed", false), ("Halted", false), ("BadText", false)] (.ref (He.ga K "TooMany")), fun K => isTB K [("BadTown", false), ("NoCorner", false), ("NoStreet", false), ("NoRound", false), ("TooMany", false), ("BadTimes", false), ("Uneven", true), ("NotOneWay", false), ("BadDeed", false), ("Halted", false), ("BadText", false)] (.ref (He.ga K "Uneven")), fun K => isTB K [("BadTown", true), ("NoCorner", true), ("NoStreet", true), ("NoRound", true), ("TooMany", true), ("BadTimes", true), ("Uneven", true), ("NotOneWay", true), ("BadDeed", true), ("Halted", true), ("BadText", true)] (.type "ValueError"), fun K => exmTB K ["BadTown", "NoCorner", "NoStreet", "NoRound", "TooMany", "BadTimes", "Uneven", "NotOneWay", "BadDeed", "Halted", "BadText"] (.ref (He.ga K "StreetError")), fun K => fldTB K ["Uneven"] "corner", fun K => fldTB K ["Halted"] "done", fun K => fldTB K ["BadTown", "BadTimes", "NotOneWay", "BadDeed", "Halted"] "number", fun K => fldTB K ["BadText"] "row"]
def exD (K : PySem.W.Frag) : Bool := exL.all fun f => f K
def tsD : List He.Tab := []
def tfD : List He.Defn := [("law", none)]
abbrev RL : PySem.W.OpenRow := PySem.W.OpenLaw.row PySem.Challenge.rw_streetrounds_k15_any_text_read
abbrev hkL : PySem.W.Hook := He.hookY 4 [cStatics] faD fnD tsD tfD exD
def obL (s : PySem.W.SharedT) : He.AlX := He.obsY 4 [cStatics] faD fnD tsD tfD exD (HandSHeadRun.getT s)
theorem obL_eq (s : PySem.W.SharedT) : obL s = hkL.obs s.abs := He.obsY_eq (HandSHeadRun.getT_eq s)
def namesL : List PySem.Str := (["StreetError", "BadTown", "NoCorner", "NoStreet", "NoRound", "TooMany", "BadTimes", "Uneven", "NotOneWay", "BadDeed", "Halted", "BadText", "MOST_CORNERS", "MOST_STREETS", "MOST_LONG", "is_number", "is_street", "need_town", "TOWN", "SIGNS"] : List PySem.Str) ++ (["FIGURES", "MOST_FIGURES", "written", "number_of", "read", "_law_row", "_law_taken", "_law_street", "_law_town", "_law_spoilt", "_law_number", "_law_read", "_law_word", "_law_alike"] : List PySem.Str)
set_option maxHeartbeats 0 in
theorem runL (w : World) : HandSHeadRun.RunEq RL (PySem.W.view RL.prog [38]) hkL obL 30000 namesL w := by
  intro os
  kernel_rfl
end Lw

namespace Lw
open PySem L2 Sm
@[irreducible] def F__law_row : FnS := fnS 1 3 (sSeq (sAsg (eC (.int 7)) (gNm 1)) (sSeq (sFor (iSq (eVar 0)) (gNm 2) (sAsg (eOp2 modV (eOp2 addV (eOp2 addV (eOp2 mulV (eVar 1) (eC (.int 48271))) (eVar 2)) (eC (.int 11))) (eC (.int 2147483647))) (gNm 1))) (sRet (eLst (aCons (eVar 0) (aCons (eC (.int 0)) (aCons (eC (.int 0)) (aCons (eVar 1) aNil))))))))
@[irreducible] def F__law_taken : FnS := fnS 2 4 (sSeq (sIf (tCmp2 (cmpV fun i j => decide (j < i)) (eOp2 ixV (eVar 0) (eC (.int 2))) (eC (.int 0))) (sSeq (sAsg (eOp2 modV (eOp2 ixV (eVar 0) (eC (.int 2))) (eVar 1)) (gNm 2)) (sSeq (sAsg (eOp2 divV (eOp2 ixV (eVar 0) (eC (.int 2))) (eVar 1)) (gSb (eVar 0) (eC (.int 2)))) (sRet (eVar 2)))) sNil) (sSeq (sIf (tCmp2 (cmpV fun i j => decide (i < j)) (eOp2 ixV (eVar 0) (eC (.int 1))) (eCall lenV (aCons (eOp2 ixV (eVar 0) (eC (.int 0))) aNil))) (sSeq (sAsg (eOp2 ixV (eOp2 ixV (eVar 0) (eC (.int 0))) (eOp2 ixV (eVar 0) (eC (.int 1)))) (gNm 3)) (sSeq (sAsg (eOp2 addV (eOp2 ixV (eVar 0) (eC (.int 1))) (eC (.int 1))) (gSb (eVar 0) (eC (.int 1)))) (sSeq (sIf (tCmp2 (cmpV fun i j => decide (j ≤ i)) (eVar 3) (eOp2 powV (eC (.int 10)) (eC (.int 18)))) (sAsg (eOp2 divV (eVar 3) (eVar 1)) (gSb (eVar 0) (eC (.int 2)))) sNil) (sRet (eOp2 modV (eVar 3) (eVar 1)))))) sNil) (sSeq (sAsg (eOp2 modV (eOp2 addV (eOp2 mulV (eOp2 ixV (eVar 0) (eC (.int 3))) (eC (.int 48271))) (eC (.int 12345))) (eC (.int 2147483647))) (gSb (eVar 0) (eC (.int 3)))) (sRet (eOp2 modV (eOp2 divV (eOp2 ixV (eVar 0) (eC (.int 3))) (eC (.int 1009))) (eVar 1))))))
@[irreducible] def F__law_street : FnS := fnS 3 6 (sSeq (sAsg (eFn 2 F__law_taken (aCons (eVar 0) (aCons (eVar 1) aNil))) (gNm 3)) (sSeq (sAsg (eOp2 modV (eOp2 addV (eOp2 addV (eVar 3) (eC (.int 1))) (eFn 2 F__law_taken (aCons (eVar 0) (aCons (eOp2 subV (eVar 1) (eC (.int 1))) aNil)))) (eVar 1)) (gNm 4)) (sSeq (sAsg (eIf (tCmp2 eqV (eVar 2) (eC (.int 2))) (eFn 2 F__law_taken (aCons (eVar 0) (aCons (eC (.int 2)) aNil))) (eVar 2)) (gNm 5)) (sRet (eTup (aCons (eVar 3) (aCons (eVar 4) (aCons (eOp2 addV (eC (.int 1)) (eFn 2 F__law_taken (aCons (eVar 0) (aCons (eOp2 ixV (eLst (aCons (eC (.int 3)) (aCons (eC (.int 9)) (aCons (eC (.int 99)) aNil)))) (eFn 2 F__law_taken (aCons (eVar 0) (aCons (eC (.int 3)) aNil)))) aNil)))) (aCons (eVar 5) aNil)))))))))
@[irreducible] def F__law_town : FnS := fnS 4 7 (sSeq (sAsg (eOp2 addV (eC (.int 1)) (eFn 2 F__law_taken (aCons (eVar 0) (aCons (eVar 1) aNil)))) (gNm 4)) (sSeq (sIf (tCmp2 eqV (eVar 4) (eC (.int 1))) (sRet (eTup (aCons (eC (.int 1)) (aCons (eTup aNil) aNil)))) sNil) (sRet (eTup (aCons (eVar 4) (aCons (eCall tupleV (aCons (eLc (iR1 (eFn 2 F__law_taken (aCons (eVar 0) (aCons (eOp2 addV (eVar 2) (eC (.int 1))) aNil)))) (.one 6) tTrue (eFn 3 F__law_street (aCons (eVar 0) (aCons (eVar 4) (aCons (eVar 3) aNil)))) [5, 6]) aNil)) aNil))))))
@[irreducible] def F_is_number : FnS := fnS 3 3 (sRet (eAnd (eIsi [.int] (eVar 0)) (eAnd (eNot (eIsi [.bool] (eVar 0))) (eChain (cmpV fun i j => decide (i ≤ j)) (cmpV fun i j => decide (i ≤ j)) (eVar 1) (eVar 0) (eVar 2)))))
@[irreducible] def F_is_street : FnS := fnS 2 2 (sSeq (sIf (tOrF (tNotF (tTru (eIsi [.tuple] (eVar 0)))) (tOrF (tCmp2 neV (eCall lenV (aCons (eVar 0) aNil)) (eC (.int 4))) (tNotF (tTru (eFn 3 F_is_number (aCons (eOp2 ixV (eVar 0) (eC (.int 0))) (aCons (eC (.int 0)) (aCons (eOp2 subV (eVar 1) (eC (.int 1))) aNil)))))))) (sRet (eC (.bl false))) sNil) (sSeq (sIf (tOrF (tNotF (tTru (eFn 3 F_is_number (aCons (eOp2 ixV (eVar 0) (eC (.int 1))) (aCons (eC (.int 0)) (aCons (eOp2 subV (eVar 1) (eC (.int 1))) aNil)))))) (tCmp2 eqV (eOp2 ixV (eVar 0) (eC (.int 0))) (eOp2 ixV (eVar 0) (eC (.int 1))))) (sRet (eC (.bl false))) sNil) (sRet (eAnd (eFn 3 F_is_number (aCons (eOp2 ixV (eVar 0) (eC (.int 2))) (aCons (eC (.int 1)) (aCons (eC (.int 99)) aNil)))) (eFn 3 F_is_number (aCons (eOp2 ixV (eVar 0) (eC (.int 3))) (aCons (eC (.int 0)) (aCons (eC (.int 1)) aNil))))))))
@[irreducible] def F_need_town : FnS := fnS 1 3 (sSeq (sIf (tOrF (tNotF (tTru (eIsi [.tuple] (eVar 0)))) (tOrF (tCmp2 neV (eCall lenV (aCons (eVar 0) aNil)) (eC (.int 2))) (tNotF (tTru (eFn 3 F_is_number (aCons (eOp2 ixV (eVar 0) (eC (.int 0))) (aCons (eC (.int 1)) (aCons (eC (.int 9)) aNil)))))))) (sRaiseN "BadTown" ["number"] (aCons (eOp1 negV (eC (.int 1))) aNil)) sNil) (sSeq (sIf (tNotF (tTru (eIsi [.tuple] (eOp2 ixV (eVar 0) (eC (.int 1)))))) (sRaiseN "BadTown" ["number"] (aCons (eC (.int 0)) aNil)) sNil) (sFor (iEn (eOp2 ixV (eVar 0) (eC (.int 1)))) (gTp 2 (gsCons (gNm 1) (gsCons (gNm 2) gsNil))) (sIf (tOrF (tCmp2 eqV (eVar 1) (eC (.int 16))) (tNotF (tTru (eFn 2 F_is_street (aCons (eVar 2) (aCons (eOp2 ixV (eVar 0) (eC (.int 0))) aNil)))))) (sRaiseN "BadTown" ["number"] (aCons (eVar 1) aNil)) sNil))))
def b_written_0 : SF := (sExpr (eMt "list" appendV (eVar 1) (aCons (eMt "str" joinV (eC (.str " ")) (aCons (eLst (aCons (eCall strV (aCons (eVar 2) aNil)) (aCons (eOp1 (ixV (.tup ((["=", ">"] : List Str).map .str))) (eVar 5)) (aCons (eCall strV (aCons (eVar 3) aNil)) (aCons (eCall strV (aCons (eVar 4) aNil)) aNil))))) aNil)) aNil)))
@[simp] theorem b_written_0_ap (e : Sl) (M : Mem) : b_written_0 e M = (sExpr (eMt "list" appendV (eVar 1) (aCons (eMt "str" joinV (eC (.str " ")) (aCons (eLst (aCons (eCall strV (aCons (eVar 2) aNil)) (aCons (eOp1 (ixV (.tup ((["=", ">"] : List Str).map .str))) (eVar 5)) (aCons (eCall strV (aCons (eVar 3) aNil)) (aCons (eCall strV (aCons (eVar 4) aNil)) aNil))))) aNil)) aNil))) e M := rfl
def t_written_1 : SF := (sSeq (sFor (iSq (eOp2 ixV (eVar 0) (eC (.int 1)))) (gTp 4 (gsCons (gNm 2) (gsCons (gNm 3) (gsCons (gNm 4) (gsCons (gNm 5) gsNil))))) b_written_0) (sRet (eMt "str" joinV (eC (.str "\n")) (aCons (eVar 1) aNil))))
@[simp] theorem t_written_1_ap (e : Sl) (M : Mem) : t_written_1 e M = (sSeq (sFor (iSq (eOp2 ixV (eVar 0) (eC (.int 1)))) (gTp 4 (gsCons (gNm 2) (gsCons (gNm 3) (gsCons (gNm 4) (gsCons (gNm 5) gsNil))))) b_written_0) (sRet (eMt "str" joinV (eC (.str "\n")) (aCons (eVar 1) aNil)))) e M := rfl
def t_written_2 : SF := (sSeq (sAsg (eLst (aCons (eOp2 addV (eOp2 addV (eC (.str "town")) (eC (.str " "))) (eCall strV (aCons (eOp2 ixV (eVar 0) (eC (.int 0))) aNil))) aNil)) (gNm 1)) t_written_1)
@[simp] theorem t_written_2_ap (e : Sl) (M : Mem) : t_written_2 e M = (sSeq (sAsg (eLst (aCons (eOp2 addV (eOp2 addV (eC (.str "town")) (eC (.str " "))) (eCall strV (aCons (eOp2 ixV (eVar 0) (eC (.int 0))) aNil))) aNil)) (gNm 1)) t_written_1) e M := rfl
@[irreducible] def F_written : FnS := fnS 1 6 (sSeq (sExpr (eFn 1 F_need_town (aCons (eVar 0) aNil))) t_written_2)
def b__law_spoilt_0 : SF := (sSeq (sAsg (eLst (aCons (eOp2 addV (eSl (eVar 1) oNone (oSome (eVar 4))) (eSl (eVar 1) (oSome (eOp2 addV (eVar 4) (eC (.int 1)))) oNone)) (aCons (eOp2 addV (eSl (eVar 1) (oSome (eVar 4)) oNone) (eSl (eVar 1) oNone (oSome (eVar 4)))) (aCons (eOp2 addV (eSl (eVar 1) oNone (oSome (eOp2 addV (eVar 4) (eC (.int 1))))) (eSl (eVar 1) (oSome (eVar 4)) oNone)) aNil)))) (gNm 7)) (sAsg (eOp2 ixV (eVar 7) (eFn 2 F__law_taken (aCons (eVar 0) (aCons (eC (.int 3)) aNil)))) (gNm 1)))
@[simp] theorem b__law_spoilt_0_ap (e : Sl) (M : Mem) : b__law_spoilt_0 e M = (sSeq (sAsg (eLst (aCons (eOp2 addV (eSl (eVar 1) oNone (oSome (eVar 4))) (eSl (eVar 1) (oSome (eOp2 addV (eVar 4) (eC (.int 1)))) oNone)) (aCons (eOp2 addV (eSl (eVar 1) (oSome (eVar 4)) oNone) (eSl (eVar 1) oNone (oSome (eVar 4)))) (aCons (eOp2 addV (eSl (eVar 1) oNone (oSome (eOp2 addV (eVar 4) (eC (.int 1))))) (eSl (eVar 1) (oSome (eVar 4)) oNone)) aNil)))) (gNm 7)) (sAsg (eOp2 ixV (eVar 7) (eFn 2 F__law_taken (aCons (eVar 0) (aCons (eC (.int 3)) aNil)))) (gNm 1))) e M := rfl
def t__law_spoilt_1 : SF := (sSeq (sAsg (eOp2 addV (eOp2 addV (eSl (eOp2 ixV (eVar 1) (eVar 4)) oNone (oSome (eVar 8))) (eOp2 mulV (eLst (aCons (eVar 6) aNil)) (eOp2 divV (eVar 5) (eC (.int 5))))) (eVar 9)) (gNm 10)) (sAsg (eOp2 addV (eOp2 addV (eSl (eVar 1) oNone (oSome (eVar 4))) (eLst (aCons (eVar 10) aNil))) (eSl (eVar 1) (oSome (eOp2 addV (eVar 4) (eC (.int 1)))) oNone)) (gNm 1)))
@[simp] theorem t__law_spoilt_1_ap (e : Sl) (M : Mem) : t__law_spoilt_1 e M = (sSeq (sAsg (eOp2 addV (eOp2 addV (eSl (eOp2 ixV (eVar 1) (eVar 4)) oNone (oSome (eVar 8))) (eOp2 mulV (eLst (aCons (eVar 6) aNil)) (eOp2 divV (eVar 5) (eC (.int 5))))) (eVar 9)) (gNm 10)) (sAsg (eOp2 addV (eOp2 addV (eSl (eVar 1) oNone (oSome (eVar 4))) (eLst (aCons (eVar 10) aNil))) (eSl (eVar 1) (oSome (eOp2 addV (eVar 4) (eC (.int 1)))) oNone)) (gNm 1))) e M := rfl
def t__law_spoilt_2 : SF := (sSeq (sAsg (eSl (eOp2 ixV (eVar 1) (eVar 4)) (oSome (eOp2 addV (eVar 8) (eOp2 modV (eVar 5) (eC (.int 2))))) oNone) (gNm 9)) t__law_spoilt_1)
@[simp] theorem t__law_spoilt_2_ap (e : Sl) (M : Mem) : t__law_spoilt_2 e M = (sSeq (sAsg (eSl (eOp2 ixV (eVar 1) (eVar 4)) (oSome (eOp2 addV (eVar 8) (eOp2 modV (eVar 5) (eC (.int 2))))) oNone) (gNm 9)) t__law_spoilt_1) e M := rfl
def b__law_spoilt_3 : SF := (sSeq (sAsg (eFn 2 F__law_taken (aCons (eVar 0) (aCons (eOp2 addV (eCall lenV (aCons (eOp2 ixV (eVar 1) (eVar 4)) aNil)) (eC (.int 1))) aNil))) (gNm 8)) t__law_spoilt_2)
@[simp] theorem b__law_spoilt_3_ap (e : Sl) (M : Mem) : b__law_spoilt_3 e M = (sSeq (sAsg (eFn 2 F__law_taken (aCons (eVar 0) (aCons (eOp2 addV (eCall lenV (aCons (eOp2 ixV (eVar 1) (eVar 4)) aNil)) (eC (.int 1))) aNil))) (gNm 8)) t__law_spoilt_2) e M := rfl
def t__law_spoilt_4 : SF := (sSeq (sPar [5, 6] (aCons (eFn 2 F__law_taken (aCons (eVar 0) (aCons (eC (.int 9)) aNil))) (aCons (eOp2 ixV (eVar 2) (eFn 2 F__law_taken (aCons (eVar 0) (aCons (eC (.int 14)) aNil)))) aNil))) (sIf (tOrF (tCmp2 eqV (eVar 1) (eLst aNil)) (tCmp2 eqV (eVar 5) (eC (.int 0)))) (sAsg (eOp2 addV (eOp2 addV (eSl (eVar 1) oNone (oSome (eVar 4))) (eLst (aCons (eLst (aCons (eVar 6) aNil)) aNil))) (eSl (eVar 1) (oSome (eVar 4)) oNone)) (gNm 1)) (sIf (tCmp2 eqV (eVar 5) (eC (.int 1))) b__law_spoilt_0 (sIf (tCmp2 eqV (eVar 5) (eC (.int 2))) (sAsg (eOp2 addV (eOp2 addV (eSl (eVar 1) oNone (oSome (eVar 4))) (eRev (eSl (eVar 1) (oSome (eVar 4)) (oSome (eOp2 addV (eVar 4) (eC (.int 2))))))) (eSl (eVar 1) (oSome (eOp2 addV (eVar 4) (eC (.int 2)))) oNone)) (gNm 1)) b__law_spoilt_3))))
@[simp] theorem t__law_spoilt_4_ap (e : Sl) (M : Mem) : t__law_spoilt_4 e M = (sSeq (sPar [5, 6] (aCons (eFn 2 F__law_taken (aCons (eVar 0) (aCons (eC (.int 9)) aNil))) (aCons (eOp2 ixV (eVar 2) (eFn 2 F__law_taken (aCons (eVar 0) (aCons (eC (.int 14)) aNil)))) aNil))) (sIf (tOrF (tCmp2 eqV (eVar 1) (eLst aNil)) (tCmp2 eqV (eVar 5) (eC (.int 0)))) (sAsg (eOp2 addV (eOp2 addV (eSl (eVar 1) oNone (oSome (eVar 4))) (eLst (aCons (eLst (aCons (eVar 6) aNil)) aNil))) (eSl (eVar 1) (oSome (eVar 4)) oNone)) (gNm 1)) (sIf (tCmp2 eqV (eVar 5) (eC (.int 1))) b__law_spoilt_0 (sIf (tCmp2 eqV (eVar 5) (eC (.int 2))) (sAsg (eOp2 addV (eOp2 addV (eSl (eVar 1) oNone (oSome (eVar 4))) (eRev (eSl (eVar 1) (oSome (eVar 4)) (oSome (eOp2 addV (eVar 4) (eC (.int 2))))))) (eSl (eVar 1) (oSome (eOp2 addV (eVar 4) (eC (.int 2)))) oNone)) (gNm 1)) b__law_spoilt_3)))) e M := rfl
def b__law_spoilt_5 : SF := (sSeq (sAsg (eIf (tCmp2 neV (eVar 1) (eLst aNil)) (eFn 2 F__law_taken (aCons (eVar 0) (aCons (eCall lenV (aCons (eVar 1) aNil)) aNil))) (eC (.int 0))) (gNm 4)) t__law_spoilt_4)
@[simp] theorem b__law_spoilt_5_ap (e : Sl) (M : Mem) : b__law_spoilt_5 e M = (sSeq (sAsg (eIf (tCmp2 neV (eVar 1) (eLst aNil)) (eFn 2 F__law_taken (aCons (eVar 0) (aCons (eCall lenV (aCons (eVar 1) aNil)) aNil))) (eC (.int 0))) (gNm 4)) t__law_spoilt_4) e M := rfl
def t__law_spoilt_6 : SF := (sSeq (sFor (iR1 (eFn 2 F__law_taken (aCons (eVar 0) (aCons (eC (.int 4)) aNil)))) (gNm 3) b__law_spoilt_5) (sRet (eMt "str" joinV (eC (.str "\n")) (aCons (eLc (iSq (eVar 1)) (.one 12) tTrue (eMt "str" joinV (eC (.str " ")) (aCons (eVar 12) aNil)) [11, 12]) aNil))))
@[simp] theorem t__law_spoilt_6_ap (e : Sl) (M : Mem) : t__law_spoilt_6 e M = (sSeq (sFor (iR1 (eFn 2 F__law_taken (aCons (eVar 0) (aCons (eC (.int 4)) aNil)))) (gNm 3) b__law_spoilt_5) (sRet (eMt "str" joinV (eC (.str "\n")) (aCons (eLc (iSq (eVar 1)) (.one 12) tTrue (eMt "str" joinV (eC (.str " ")) (aCons (eVar 12) aNil)) [11, 12]) aNil)))) e M := rfl
@[irreducible] def F__law_spoilt : FnS := fnS 2 13 (sSeq (sAsg (eLst (aCons (eC (.str "5")) (aCons (eC (.str "0")) (aCons (eC (.str "00")) (aCons (eC (.str "05")) (aCons (eC (.str "9")) (aCons (eC (.str "99")) (aCons (eC (.str "100")) (aCons (eC (.str "")) (aCons (eC (.str "=")) (aCons (eC (.str ">")) (aCons (eC (.str "<")) (aCons (eC (.str "town")) (aCons (eC (.str "-1")) (aCons (eC (.str "==")) aNil))))))))))))))) (gNm 2)) t__law_spoilt_6)
def t_number_of_0 : SF := (sSeq (sIf (tAndF (tCmp2 eqV (eOp2 ixV (eVar 0) (eC (.int 0))) (eC (.str "0"))) (tCmp2 neV (eVar 0) (eC (.str "0")))) (sRaiseN "BadText" ["row"] (aCons (eVar 1) aNil)) sNil) (sRet (eCall intSV (aCons (eVar 0) aNil))))
@[simp] theorem t_number_of_0_ap (e : Sl) (M : Mem) : t_number_of_0 e M = (sSeq (sIf (tAndF (tCmp2 eqV (eOp2 ixV (eVar 0) (eC (.int 0))) (eC (.str "0"))) (tCmp2 neV (eVar 0) (eC (.str "0")))) (sRaiseN "BadText" ["row"] (aCons (eVar 1) aNil)) sNil) (sRet (eCall intSV (aCons (eVar 0) aNil)))) e M := rfl
@[irreducible] def F_number_of : FnS := fnS 2 4 (sSeq (sIf (tOrF (tNotF (tOfE (eChain (cmpV fun i j => decide (i ≤ j)) (cmpV fun i j => decide (i ≤ j)) (eC (.int 1)) (eCall lenV (aCons (eVar 0) aNil)) (eC (.int 2))))) (tTru (eCall anyV (aCons (eLc (iSq (eVar 0)) (.one 3) tTrue (eOp2 notInV (eVar 3) (eC (.str "0123456789"))) [2, 3]) aNil)))) (sRaiseN "BadText" ["row"] (aCons (eVar 1) aNil)) sNil) t_number_of_0)
def b_read_0 : SF := (sSeq (sIf (tOrF (tCmp2 neV (eOp2 ixV (eVar 5) (eC (.int 0))) (eC (.str "town"))) (tCmp2 neV (eCall lenV (aCons (eVar 5) aNil)) (eC (.int 2)))) (sRaiseN "BadText" ["row"] (aCons (eC (.int 0)) aNil)) sNil) (sAsg (eFn 2 F_number_of (aCons (eOp2 ixV (eVar 5) (eC (.int 1))) (aCons (eC (.int 0)) aNil))) (gNm 1)))
@[simp] theorem b_read_0_ap (e : Sl) (M : Mem) : b_read_0 e M = (sSeq (sIf (tOrF (tCmp2 neV (eOp2 ixV (eVar 5) (eC (.int 0))) (eC (.str "town"))) (tCmp2 neV (eCall lenV (aCons (eVar 5) aNil)) (eC (.int 2)))) (sRaiseN "BadText" ["row"] (aCons (eC (.int 0)) aNil)) sNil) (sAsg (eFn 2 F_number_of (aCons (eOp2 ixV (eVar 5) (eC (.int 1))) (aCons (eC (.int 0)) aNil))) (gNm 1))) e M := rfl
def b_read_1 : SF := (sSeq (sAsg (eLcX (iSq (eTup (aCons (eOp2 ixV (eVar 5) (eC (.int 0))) (aCons (eOp2 ixV (eVar 5) (eC (.int 2))) (aCons (eOp2 ixV (eVar 5) (eC (.int 3))) aNil))))) (.one 8) tTrue (eFn 2 F_number_of (aCons (eVar 8) (aCons (eVar 3) aNil))) [7, 8]) (gNm 6)) (sAsg (eOp2 addV (eVar 2) (eTup (aCons (eOp2 addV (eCall tupleV (aCons (eVar 6) aNil)) (eTup (aCons (eSgIx ["=", ">"] (eOp2 ixV (eVar 5) (eC (.int 1)))) aNil))) aNil))) (gNm 2)))
@[simp] theorem b_read_1_ap (e : Sl) (M : Mem) : b_read_1 e M = (sSeq (sAsg (eLcX (iSq (eTup (aCons (eOp2 ixV (eVar 5) (eC (.int 0))) (aCons (eOp2 ixV (eVar 5) (eC (.int 2))) (aCons (eOp2 ixV (eVar 5) (eC (.int 3))) aNil))))) (.one 8) tTrue (eFn 2 F_number_of (aCons (eVar 8) (aCons (eVar 3) aNil))) [7, 8]) (gNm 6)) (sAsg (eOp2 addV (eVar 2) (eTup (aCons (eOp2 addV (eCall tupleV (aCons (eVar 6) aNil)) (eTup (aCons (eSgIx ["=", ">"] (eOp2 ixV (eVar 5) (eC (.int 1)))) aNil))) aNil))) (gNm 2))) e M := rfl
def b_read_2 : SF := (sSeq (sAsg (eMt "str" splitV (eVar 4) (aCons (eC (.str " ")) aNil)) (gNm 5)) (sIf (tCmp2 eqV (eVar 3) (eC (.int 0))) b_read_0 (sIf (tOrF (tCmp2 neV (eCall lenV (aCons (eVar 5) aNil)) (eC (.int 4))) (tOfE (eOp1 (inG true ["=", ">"]) (eOp2 ixV (eVar 5) (eC (.int 1)))))) (sRaiseN "BadText" ["row"] (aCons (eVar 3) aNil)) b_read_1)))
@[simp] theorem b_read_2_ap (e : Sl) (M : Mem) : b_read_2 e M = (sSeq (sAsg (eMt "str" splitV (eVar 4) (aCons (eC (.str " ")) aNil)) (gNm 5)) (sIf (tCmp2 eqV (eVar 3) (eC (.int 0))) b_read_0 (sIf (tOrF (tCmp2 neV (eCall lenV (aCons (eVar 5) aNil)) (eC (.int 4))) (tOfE (eOp1 (inG true ["=", ">"]) (eOp2 ixV (eVar 5) (eC (.int 1)))))) (sRaiseN "BadText" ["row"] (aCons (eVar 3) aNil)) b_read_1))) e M := rfl
def t_read_3 : SF := (sSeq (sExpr (eFn 1 F_need_town (aCons (eTup (aCons (eVar 1) (aCons (eVar 2) aNil))) aNil))) (sRet (eTup (aCons (eVar 1) (aCons (eVar 2) aNil)))))
@[simp] theorem t_read_3_ap (e : Sl) (M : Mem) : t_read_3 e M = (sSeq (sExpr (eFn 1 F_need_town (aCons (eTup (aCons (eVar 1) (aCons (eVar 2) aNil))) aNil))) (sRet (eTup (aCons (eVar 1) (aCons (eVar 2) aNil))))) e M := rfl
def t_read_4 : SF := (sSeq (sFor (iEn (eMt "str" splitV (eVar 0) (aCons (eC (.str "\n")) aNil))) (gTp 2 (gsCons (gNm 3) (gsCons (gNm 4) gsNil))) b_read_2) t_read_3)
@[simp] theorem t_read_4_ap (e : Sl) (M : Mem) : t_read_4 e M = (sSeq (sFor (iEn (eMt "str" splitV (eVar 0) (aCons (eC (.str "\n")) aNil))) (gTp 2 (gsCons (gNm 3) (gsCons (gNm 4) gsNil))) b_read_2) t_read_3) e M := rfl
@[irreducible] def F_read : FnS := fnS 1 9 (sSeq (sAsg (eTup (aCons (eC (.int 0)) (aCons (eTup aNil) aNil))) (gTp 2 (gsCons (gNm 1) (gsCons (gNm 2) gsNil)))) t_read_4)
def t__law_word_0 : SF := (sSeq (sIf (tCmp2 eqV (eVar 5) (eC (.str "text"))) (sRet (eTup (aCons (eVar 5) (aCons (eXf ["BadText"] "row" (eVar 2)) aNil)))) sNil) (sRet (eIf (tCmp2 inV (eVar 5) (eSl (eVar 4) oNone (oSome (eC (.int 4))))) (eTup (aCons (eVar 5) (aCons (eXf ["BadTown", "BadTimes", "NotOneWay", "BadDeed", "Halted"] "number" (eVar 2)) aNil))) (eTup (aCons (eVar 5) (aCons (eC .non) aNil))))))
@[simp] theorem t__law_word_0_ap (e : Sl) (M : Mem) : t__law_word_0 e M = (sSeq (sIf (tCmp2 eqV (eVar 5) (eC (.str "text"))) (sRet (eTup (aCons (eVar 5) (aCons (eXf ["BadText"] "row" (eVar 2)) aNil)))) sNil) (sRet (eIf (tCmp2 inV (eVar 5) (eSl (eVar 4) oNone (oSome (eC (.int 4))))) (eTup (aCons (eVar 5) (aCons (eXf ["BadTown", "BadTimes", "NotOneWay", "BadDeed", "Halted"] "number" (eVar 2)) aNil))) (eTup (aCons (eVar 5) (aCons (eC .non) aNil)))))) e M := rfl
def t__law_word_1 : SF := (sSeq (sIf (tCmp2 eqV (eVar 5) (eC (.str "uneven"))) (sRet (eTup (aCons (eVar 5) (aCons (eXf ["Uneven"] "corner" (eVar 2)) aNil)))) sNil) t__law_word_0)
@[simp] theorem t__law_word_1_ap (e : Sl) (M : Mem) : t__law_word_1 e M = (sSeq (sIf (tCmp2 eqV (eVar 5) (eC (.str "uneven"))) (sRet (eTup (aCons (eVar 5) (aCons (eXf ["Uneven"] "corner" (eVar 2)) aNil)))) sNil) t__law_word_0) e M := rfl
def t__law_word_2 : SF := (sSeq (sIf (tCmp2 eqV (eVar 5) (eC (.str "halted"))) (sRet (eTup (aCons (eVar 5) (aCons (eTup (aCons (eXf ["BadTown", "BadTimes", "NotOneWay", "BadDeed", "Halted"] "number" (eVar 2)) (aCons (eXf ["Halted"] "done" (eVar 2)) aNil))) aNil)))) sNil) t__law_word_1)
@[simp] theorem t__law_word_2_ap (e : Sl) (M : Mem) : t__law_word_2 e M = (sSeq (sIf (tCmp2 eqV (eVar 5) (eC (.str "halted"))) (sRet (eTup (aCons (eVar 5) (aCons (eTup (aCons (eXf ["BadTown", "BadTimes", "NotOneWay", "BadDeed", "Halted"] "number" (eVar 2)) (aCons (eXf ["Halted"] "done" (eVar 2)) aNil))) aNil)))) sNil) t__law_word_1) e M := rfl
def t__law_word_3 : SF := (sSeq (sAsg (eOp2 ixV (eVar 4) (eMt "list" indexV (eVar 3) (aCons (eC (.bl true)) aNil))) (gNm 5)) t__law_word_2)
@[simp] theorem t__law_word_3_ap (e : Sl) (M : Mem) : t__law_word_3 e M = (sSeq (sAsg (eOp2 ixV (eVar 4) (eMt "list" indexV (eVar 3) (aCons (eC (.bl true)) aNil))) (gNm 5)) t__law_word_2) e M := rfl
def t__law_word_4 : SF := (sSeq (sIf (tOrF (tCmp2 neV (eMt "list" countV (eVar 3) (aCons (eC (.bl true)) aNil)) (eC (.int 1))) (tNotF (tTru (eIsE [("BadTown", true), ("NoCorner", true), ("NoStreet", true), ("NoRound", true), ("TooMany", true), ("BadTimes", true), ("Uneven", true), ("NotOneWay", true), ("BadDeed", true), ("Halted", true), ("BadText", true)] (eVar 2))))) (sRet (eTup (aCons (eC (.str "other")) (aCons (eC .non) aNil)))) sNil) t__law_word_3)
@[simp] theorem t__law_word_4_ap (e : Sl) (M : Mem) : t__law_word_4 e M = (sSeq (sIf (tOrF (tCmp2 neV (eMt "list" countV (eVar 3) (aCons (eC (.bl true)) aNil)) (eC (.int 1))) (tNotF (tTru (eIsE [("BadTown", true), ("NoCorner", true), ("NoStreet", true), ("NoRound", true), ("TooMany", true), ("BadTimes", true), ("Uneven", true), ("NotOneWay", true), ("BadDeed", true), ("Halted", true), ("BadText", true)] (eVar 2))))) (sRet (eTup (aCons (eC (.str "other")) (aCons (eC .non) aNil)))) sNil) t__law_word_3) e M := rfl
def t__law_word_5 : SF := (sSeq (sAsg (eLst (aCons (eC (.str "town")) (aCons (eC (.str "times")) (aCons (eC (.str "twoway")) (aCons (eC (.str "deed")) (aCons (eC (.str "halted")) (aCons (eC (.str "uneven")) (aCons (eC (.str "text")) (aCons (eC (.str "corner")) (aCons (eC (.str "street")) (aCons (eC (.str "round")) (aCons (eC (.str "many")) aNil)))))))))))) (gNm 4)) t__law_word_4)
@[simp] theorem t__law_word_5_ap (e : Sl) (M : Mem) : t__law_word_5 e M = (sSeq (sAsg (eLst (aCons (eC (.str "town")) (aCons (eC (.str "times")) (aCons (eC (.str "twoway")) (aCons (eC (.str "deed")) (aCons (eC (.str "halted")) (aCons (eC (.str "uneven")) (aCons (eC (.str "text")) (aCons (eC (.str "corner")) (aCons (eC (.str "street")) (aCons (eC (.str "round")) (aCons (eC (.str "many")) aNil)))))))))))) (gNm 4)) t__law_word_4) e M := rfl
def t__law_word_6 : SF := (sSeq (sAsg (eOp2 addV (eVar 3) (eLst (aCons (eIsE [("BadTown", false), ("NoCorner", false), ("NoStreet", true), ("NoRound", false), ("TooMany", false), ("BadTimes", false), ("Uneven", false), ("NotOneWay", false), ("BadDeed", false), ("Halted", false), ("BadText", false)] (eVar 2)) (aCons (eIsE [("BadTown", false), ("NoCorner", false), ("NoStreet", false), ("NoRound", true), ("TooMany", false), ("BadTimes", false), ("Uneven", false), ("NotOneWay", false), ("BadDeed", false), ("Halted", false), ("BadText", false)] (eVar 2)) (aCons (eIsE [("BadTown", false), ("NoCorner", false), ("NoStreet", false), ("NoRound", false), ("TooMany", true), ("BadTimes", false), ("Uneven", false), ("NotOneWay", false), ("BadDeed", false), ("Halted", false), ("BadText", false)] (eVar 2)) aNil))))) (gNm 3)) t__law_word_5)
@[simp] theorem t__law_word_6_ap (e : Sl) (M : Mem) : t__law_word_6 e M = (sSeq (sAsg (eOp2 addV (eVar 3) (eLst (aCons (eIsE [("BadTown", false), ("NoCorner", false), ("NoStreet", true), ("NoRound", false), ("TooMany", false), ("BadTimes", false), ("Uneven", false), ("NotOneWay", false), ("BadDeed", false), ("Halted", false), ("BadText", false)] (eVar 2)) (aCons (eIsE [("BadTown", false), ("NoCorner", false), ("NoStreet", false), ("NoRound", true), ("TooMany", false), ("BadTimes", false), ("Uneven", false), ("NotOneWay", false), ("BadDeed", false), ("Halted", false), ("BadText", false)] (eVar 2)) (aCons (eIsE [("BadTown", false), ("NoCorner", false), ("NoStreet", false), ("NoRound", false), ("TooMany", true), ("BadTimes", false), ("Uneven", false), ("NotOneWay", false), ("BadDeed", false), ("Halted", false), ("BadText", false)] (eVar 2)) aNil))))) (gNm 3)) t__law_word_5) e M := rfl
def t__law_word_7 : SF := (sSeq (sAsg (eOp2 addV (eVar 3) (eLst (aCons (eIsE [("BadTown", false), ("NoCorner", false), ("NoStreet", false), ("NoRound", false), ("TooMany", false), ("BadTimes", false), ("Uneven", false), ("NotOneWay", false), ("BadDeed", false), ("Halted", true), ("BadText", false)] (eVar 2)) (aCons (eIsE [("BadTown", false), ("NoCorner", false), ("NoStreet", false), ("NoRound", false), ("TooMany", false), ("BadTimes", false), ("Uneven", true), ("NotOneWay", false), ("BadDeed", false), ("Halted", false), ("BadText", false)] (eVar 2)) (aCons (eIsE [("BadTown", false), ("NoCorner", false), ("NoStreet", false), ("NoRound", false), ("TooMany", false), ("BadTimes", false), ("Uneven", false), ("NotOneWay", false), ("BadDeed", false), ("Halted", false), ("BadText", true)] (eVar 2)) (aCons (eIsE [("BadTown", false), ("NoCorner", true), ("NoStreet", false), ("NoRound", false), ("TooMany", false), ("BadTimes", false), ("Uneven", false), ("NotOneWay", false), ("BadDeed", false), ("Halted", false), ("BadText", false)] (eVar 2)) aNil)))))) (gNm 3)) t__law_word_6)
@[simp] theorem t__law_word_7_ap (e : Sl) (M : Mem) : t__law_word_7 e M = (sSeq (sAsg (eOp2 addV (eVar 3) (eLst (aCons (eIsE [("BadTown", false), ("NoCorner", false), ("NoStreet", false), ("NoRound", false), ("TooMany", false), ("BadTimes", false), ("Uneven", false), ("NotOneWay", false), ("BadDeed", false), ("Halted", true), ("BadText", false)] (eVar 2)) (aCons (eIsE [("BadTown", false), ("NoCorner", false), ("NoStreet", false), ("NoRound", false), ("TooMany", false), ("BadTimes", false), ("Uneven", true), ("NotOneWay", false), ("BadDeed", false), ("Halted", false), ("BadText", false)] (eVar 2)) (aCons (eIsE [("BadTown", false), ("NoCorner", false), ("NoStreet", false), ("NoRound", false), ("TooMany", false), ("BadTimes", false), ("Uneven", false), ("NotOneWay", false), ("BadDeed", false), ("Halted", false), ("BadText", true)] (eVar 2)) (aCons (eIsE [("BadTown", false), ("NoCorner", true), ("NoStreet", false), ("NoRound", false), ("TooMany", false), ("BadTimes", false), ("Uneven", false), ("NotOneWay", false), ("BadDeed", false), ("Halted", false), ("BadText", false)] (eVar 2)) aNil)))))) (gNm 3)) t__law_word_6) e M := rfl
@[irreducible] def Fw__law_word (n0 : Nat) (oc : Mem → Out Val) : SF := (sSeq (sAsg (eLst aNil) (gNm 1)) (sSeq (sTry ["BadTown", "NoCorner", "NoStreet", "NoRound", "TooMany", "BadTimes", "Uneven", "NotOneWay", "BadDeed", "Halted", "BadText"] (sExpr (eMt "list" appendV (eVar 1) (aCons (eWork n0 oc) aNil))) 2 (sSeq (sAsg (eLst (aCons (eIsE [("BadTown", true), ("NoCorner", false), ("NoStreet", false), ("NoRound", false), ("TooMany", false), ("BadTimes", false), ("Uneven", false), ("NotOneWay", false), ("BadDeed", false), ("Halted", false), ("BadText", false)] (eVar 2)) (aCons (eIsE [("BadTown", false), ("NoCorner", false), ("NoStreet", false), ("NoRound", false), ("TooMany", false), ("BadTimes", true), ("Uneven", false), ("NotOneWay", false), ("BadDeed", false), ("Halted", false), ("BadText", false)] (eVar 2)) (aCons (eIsE [("BadTown", false), ("NoCorner", false), ("NoStreet", false), ("NoRound", false), ("TooMany", false), ("BadTimes", false), ("Uneven", false), ("NotOneWay", true), ("BadDeed", false), ("Halted", false), ("BadText", false)] (eVar 2)) (aCons (eIsE [("BadTown", false), ("NoCorner", false), ("NoStreet", false), ("NoRound", false), ("TooMany", false), ("BadTimes", false), ("Uneven", false), ("NotOneWay", false), ("BadDeed", true), ("Halted", false), ("BadText", false)] (eVar 2)) aNil))))) (gNm 3)) t__law_word_7)) (sRet (eTup (aCons (eC (.str "")) (aCons (eOp2 ixV (eVar 1) (eC (.int 0))) aNil))))))
@[irreducible] def F__law_number : FnS := fnS 1 3 (sSeq (sIf (tOrF (tNotF (tOfE (eChain (cmpV fun i j => decide (i ≤ j)) (cmpV fun i j => decide (i ≤ j)) (eC (.int 1)) (eCall lenV (aCons (eVar 0) aNil)) (eC (.int 2))))) (tCmp2 neV (eLc (iSq (eVar 0)) (.one 2) (tCmp2 notInV (eVar 2) (eC (.str "0123456789"))) (eVar 2) [1, 2]) (eLst aNil))) (sRet (eC .non)) sNil) (sRet (eIf (tAndF (tCmp2 eqV (eOp2 ixV (eVar 0) (eC (.int 0))) (eC (.str "0"))) (tCmp2 neV (eVar 0) (eC (.str "0")))) (eC .non) (eCall intSV (aCons (eVar 0) aNil)))))
def t__law_read_0 : SF := (sSeq (sIf (tAndF (tCmp2 (cmpV fun i j => decide (j < i)) (eVar 4) (eC (.int 0))) (tOrF (tCmp2 neV (eCall lenV (aCons (eVar 5) aNil)) (eC (.int 4))) (tCmp2 notInTV (eVar 6) (eTup (aCons (eLst (aCons (eC (.str "=")) aNil)) (aCons (eLst (aCons (eC (.str ">")) aNil)) aNil)))))) (sRet (eTup (aCons (eC (.str "text")) (aCons (eVar 4) aNil)))) sNil) (sIf (tCmp2 eqV (eVar 4) (eC (.int 0))) (sAsg (eOp2 ixV (eVar 7) (eC (.int 0))) (gNm 1)) (sAsg (eOp2 addV (eVar 2) (eTup (aCons (eOp2 addV (eCall tupleV (aCons (eVar 7) aNil)) (eTup (aCons (eCall intSV (aCons (eOp2 eqV (eVar 6) (eLst (aCons (eC (.str ">")) aNil))) aNil)) aNil))) aNil))) (gNm 2))))
@[simp] theorem t__law_read_0_ap (e : Sl) (M : Mem) : t__law_read_0 e M = (sSeq (sIf (tAndF (tCmp2 (cmpV fun i j => decide (j < i)) (eVar 4) (eC (.int 0))) (tOrF (tCmp2 neV (eCall lenV (aCons (eVar 5) aNil)) (eC (.int 4))) (tCmp2 notInTV (eVar 6) (eTup (aCons (eLst (aCons (eC (.str "=")) aNil)) (aCons (eLst (aCons (eC (.str ">")) aNil)) aNil)))))) (sRet (eTup (aCons (eC (.str "text")) (aCons (eVar 4) aNil)))) sNil) (sIf (tCmp2 eqV (eVar 4) (eC (.int 0))) (sAsg (eOp2 ixV (eVar 7) (eC (.int 0))) (gNm 1)) (sAsg (eOp2 addV (eVar 2) (eTup (aCons (eOp2 addV (eCall tupleV (aCons (eVar 7) aNil)) (eTup (aCons (eCall intSV (aCons (eOp2 eqV (eVar 6) (eLst (aCons (eC (.str ">")) aNil))) aNil)) aNil))) aNil))) (gNm 2)))) e M := rfl
def t__law_read_1 : SF := (sSeq (sIf (tOrF (tCmp2 inV (eC .non) (eVar 7)) (tAndF (tCmp2 eqV (eVar 4) (eC (.int 0))) (tOrF (tCmp2 neV (eOp2 ixV (eVar 5) (eC (.int 0))) (eC (.str "town"))) (tCmp2 neV (eCall lenV (aCons (eVar 5) aNil)) (eC (.int 2)))))) (sRet (eTup (aCons (eC (.str "text")) (aCons (eVar 4) aNil)))) sNil) t__law_read_0)
@[simp] theorem t__law_read_1_ap (e : Sl) (M : Mem) : t__law_read_1 e M = (sSeq (sIf (tOrF (tCmp2 inV (eC .non) (eVar 7)) (tAndF (tCmp2 eqV (eVar 4) (eC (.int 0))) (tOrF (tCmp2 neV (eOp2 ixV (eVar 5) (eC (.int 0))) (eC (.str "town"))) (tCmp2 neV (eCall lenV (aCons (eVar 5) aNil)) (eC (.int 2)))))) (sRet (eTup (aCons (eC (.str "text")) (aCons (eVar 4) aNil)))) sNil) t__law_read_0) e M := rfl
def t__law_read_2 : SF := (sSeq (sAsg (eLc (iSq (eOp2 addV (eIf (tCmp2 (cmpV fun i j => decide (j < i)) (eVar 4) (eC (.int 0))) (eSl (eVar 5) oNone (oSome (eC (.int 1)))) (eSl (eVar 5) (oSome (eC (.int 1))) (oSome (eC (.int 2))))) (eSl (eVar 5) (oSome (eC (.int 2))) oNone))) (.one 9) tTrue (eFn 1 F__law_number (aCons (eVar 9) aNil)) [8, 9]) (gNm 7)) t__law_read_1)
@[simp] theorem t__law_read_2_ap (e : Sl) (M : Mem) : t__law_read_2 e M = (sSeq (sAsg (eLc (iSq (eOp2 addV (eIf (tCmp2 (cmpV fun i j => decide (j < i)) (eVar 4) (eC (.int 0))) (eSl (eVar 5) oNone (oSome (eC (.int 1)))) (eSl (eVar 5) (oSome (eC (.int 1))) (oSome (eC (.int 2))))) (eSl (eVar 5) (oSome (eC (.int 2))) oNone))) (.one 9) tTrue (eFn 1 F__law_number (aCons (eVar 9) aNil)) [8, 9]) (gNm 7)) t__law_read_1) e M := rfl
def t__law_read_3 : SF := (sSeq (sAsg (eSl (eVar 5) (oSome (eC (.int 1))) (oSome (eC (.int 2)))) (gNm 6)) t__law_read_2)
@[simp] theorem t__law_read_3_ap (e : Sl) (M : Mem) : t__law_read_3 e M = (sSeq (sAsg (eSl (eVar 5) (oSome (eC (.int 1))) (oSome (eC (.int 2)))) (gNm 6)) t__law_read_2) e M := rfl
def b__law_read_4 : SF := (sSeq (sAsg (eMt "str" splitV (eOp2 ixV (eVar 3) (eVar 4)) (aCons (eC (.str " ")) aNil)) (gNm 5)) t__law_read_3)
@[simp] theorem b__law_read_4_ap (e : Sl) (M : Mem) : b__law_read_4 e M = (sSeq (sAsg (eMt "str" splitV (eOp2 ixV (eVar 3) (eVar 4)) (aCons (eC (.str " ")) aNil)) (gNm 5)) t__law_read_3) e M := rfl
def t__law_read_5 : SF := (sSeq (sFor (iR1 (eCall lenV (aCons (eVar 3) aNil))) (gNm 4) b__law_read_4) (sRet (eTup (aCons (eC (.str "")) (aCons (eTup (aCons (eVar 1) (aCons (eVar 2) aNil))) aNil)))))
@[simp] theorem t__law_read_5_ap (e : Sl) (M : Mem) : t__law_read_5 e M = (sSeq (sFor (iR1 (eCall lenV (aCons (eVar 3) aNil))) (gNm 4) b__law_read_4) (sRet (eTup (aCons (eC (.str "")) (aCons (eTup (aCons (eVar 1) (aCons (eVar 2) aNil))) aNil))))) e M := rfl
def t__law_read_6 : SF := (sSeq (sAsg (eMt "str" splitV (eVar 0) (aCons (eC (.str "\n")) aNil)) (gNm 3)) t__law_read_5)
@[simp] theorem t__law_read_6_ap (e : Sl) (M : Mem) : t__law_read_6 e M = (sSeq (sAsg (eMt "str" splitV (eVar 0) (aCons (eC (.str "\n")) aNil)) (gNm 3)) t__law_read_5) e M := rfl
@[irreducible] def F__law_read : FnS := fnS 1 10 (sSeq (sAsg (eTup (aCons (eC (.int 0)) (aCons (eTup aNil) aNil))) (gTp 2 (gsCons (gNm 1) (gsCons (gNm 2) gsNil)))) t__law_read_6)
def F__law_alike : Nat → FnS
  | 0 => fun _ _ => .bad
  | m + 1 => fnS 2 5 (sSeq (sIf (tTru (eIsi [.tuple, .list] (eVar 1))) (sSeq (sIf (tOrF (tCmp2 neV (eIsi [.tuple] (eVar 0)) (eIsi [.tuple] (eVar 1))) (tNotF (tTru (eIsi [.tuple, .list] (eVar 0))))) (sRet (eC (.bl false))) sNil) (sSeq (sIf (tCmp2 neV (eCall lenV (aCons (eVar 0) aNil)) (eCall lenV (aCons (eVar 1) aNil))) (sRet (eC (.bl false))) sNil) (sRet (eOp2 eqV (eLc (iR1 (eCall lenV (aCons (eVar 1) aNil))) (.one 4) (tNotF (tTru (eFn 2 (F__law_alike m) (aCons (eOp2 ixV (eVar 0) (eVar 4)) (aCons (eOp2 ixV (eVar 1) (eVar 4)) aNil))))) (eVar 4) [3, 4]) (eLst aNil))))) sNil) (sSeq (sIf (tOrF (tCmp2 isN (eVar 1) (eC .non)) (tCmp2 isN (eVar 0) (eC .non))) (sRet (eAnd (eOp2 isN (eVar 1) (eC .non)) (eOp2 isN (eVar 0) (eC .non)))) sNil) (sSeq (sAsg (eOp2 eqV (eIsi [.str] (eVar 1)) (eIsi [.str] (eVar 0))) (gNm 2)) (sRet (eAnd (eVar 2) (eAnd (eOp2 eqV (eIsi [.bool] (eVar 1)) (eIsi [.bool] (eVar 0))) (eOp2 eqV (eVar 0) (eVar 1))))))))
def t_law_0 : SF := (sSeq (sPar [3, 4] (aCons (eFn 1 F__law_read (aCons (eVar 6) aNil)) (aCons (eWord 6 Fw__law_word (eFn 1 F_read (aCons (eVar 6) aNil))) aNil))) (sIf (tCmp2 eqV (eOp2 ixV (eVar 3) (eC (.int 0))) (eC (.str "text"))) (sIf (tNotF (tTru (eFn 2 (F__law_alike 6) (aCons (eVar 4) (aCons (eVar 3) aNil))))) (sRet (eC (.bl false))) sNil) (sIf (tOrF (tCmp2 notInV (eOp2 ixV (eVar 4) (eC (.int 0))) (eTup (aCons (eC (.str "")) (aCons (eC (.str "town")) aNil)))) (tAndF (tCmp2 eqV (eOp2 ixV (eVar 4) (eC (.int 0))) (eC (.str ""))) (tNotF (tTru (eFn 2 (F__law_alike 6) (aCons (eOp2 ixV (eVar 4) (eC (.int 1))) (aCons (eOp2 ixV (eVar 3) (eC (.int 1))) aNil))))))) (sRet (eC (.bl false))) sNil)))
@[simp] theorem t_law_0_ap (e : Sl) (M : Mem) : t_law_0 e M = (sSeq (sPar [3, 4] (aCons (eFn 1 F__law_read (aCons (eVar 6) aNil)) (aCons (eWord 6 Fw__law_word (eFn 1 F_read (aCons (eVar 6) aNil))) aNil))) (sIf (tCmp2 eqV (eOp2 ixV (eVar 3) (eC (.int 0))) (eC (.str "text"))) (sIf (tNotF (tTru (eFn 2 (F__law_alike 6) (aCons (eVar 4) (aCons (eVar 3) aNil))))) (sRet (eC (.bl false))) sNil) (sIf (tOrF (tCmp2 notInV (eOp2 ixV (eVar 4) (eC (.int 0))) (eTup (aCons (eC (.str "")) (aCons (eC (.str "town")) aNil)))) (tAndF (tCmp2 eqV (eOp2 ixV (eVar 4) (eC (.int 0))) (eC (.str ""))) (tNotF (tTru (eFn 2 (F__law_alike 6) (aCons (eOp2 ixV (eVar 4) (eC (.int 1))) (aCons (eOp2 ixV (eVar 3) (eC (.int 1))) aNil))))))) (sRet (eC (.bl false))) sNil))) e M := rfl
def t_law_1 : SF := (sSeq (sAsg (eFn 2 F__law_spoilt (aCons (eVar 1) (aCons (eLc (iSq (eMt "str" splitV (eVar 6) (aCons (eC (.str "\n")) aNil))) (.one 8) tTrue (eMt "str" splitV (eVar 8) (aCons (eC (.str " ")) aNil)) [7, 8]) aNil))) (gNm 6)) t_law_0)
@[simp] theorem t_law_1_ap (e : Sl) (M : Mem) : t_law_1 e M = (sSeq (sAsg (eFn 2 F__law_spoilt (aCons (eVar 1) (aCons (eLc (iSq (eMt "str" splitV (eVar 6) (aCons (eC (.str "\n")) aNil))) (.one 8) tTrue (eMt "str" splitV (eVar 8) (aCons (eC (.str " ")) aNil)) [7, 8]) aNil))) (gNm 6)) t_law_0) e M := rfl
def b_law_2 : SF := (sSeq (sAsg (eFn 1 F_written (aCons (eFn 4 F__law_town (aCons (eVar 1) (aCons (eC (.int 5)) (aCons (eC (.int 5)) (aCons (eC (.int 2)) aNil))))) aNil)) (gNm 6)) t_law_1)
@[simp] theorem b_law_2_ap (e : Sl) (M : Mem) : b_law_2 e M = (sSeq (sAsg (eFn 1 F_written (aCons (eFn 4 F__law_town (aCons (eVar 1) (aCons (eC (.int 5)) (aCons (eC (.int 5)) (aCons (eC (.int 2)) aNil))))) aNil)) (gNm 6)) t_law_1) e M := rfl
def t_law_3 : SF := (sSeq (sIf (tCmp2 neV (eWord 6 Fw__law_word (eFn 1 F_read (aCons (eVar 5) aNil))) (eTup (aCons (eC (.str "town")) (aCons (eC (.int 16)) aNil)))) (sRet (eC (.bl false))) sNil) (sRet (eOp2 eqV (eWord 6 Fw__law_word (eFn 1 F_read (aCons (eC (.str "")) aNil))) (eTup (aCons (eC (.str "text")) (aCons (eC (.int 0)) aNil))))))
@[simp] theorem t_law_3_ap (e : Sl) (M : Mem) : t_law_3 e M = (sSeq (sIf (tCmp2 neV (eWord 6 Fw__law_word (eFn 1 F_read (aCons (eVar 5) aNil))) (eTup (aCons (eC (.str "town")) (aCons (eC (.int 16)) aNil)))) (sRet (eC (.bl false))) sNil) (sRet (eOp2 eqV (eWord 6 Fw__law_word (eFn 1 F_read (aCons (eC (.str "")) aNil))) (eTup (aCons (eC (.str "text")) (aCons (eC (.int 0)) aNil)))))) e M := rfl
def t_law_4 : SF := (sSeq (sAsg (eOp2 addV (eC (.str "town 2")) (eOp2 mulSV (eC (.str "\n0 = 1 5")) (eOp2 addV (eC (.int 17)) (eFn 2 F__law_taken (aCons (eVar 1) (aCons (eC (.int 9)) aNil)))))) (gNm 5)) t_law_3)
@[simp] theorem t_law_4_ap (e : Sl) (M : Mem) : t_law_4 e M = (sSeq (sAsg (eOp2 addV (eC (.str "town 2")) (eOp2 mulSV (eC (.str "\n0 = 1 5")) (eOp2 addV (eC (.int 17)) (eFn 2 F__law_taken (aCons (eVar 1) (aCons (eC (.int 9)) aNil)))))) (gNm 5)) t_law_3) e M := rfl
def t_law_5 : SF := (sSeq (sFor (iR1 (eC (.int 6))) (gNm 2) b_law_2) t_law_4)
@[simp] theorem t_law_5_ap (e : Sl) (M : Mem) : t_law_5 e M = (sSeq (sFor (iR1 (eC (.int 6))) (gNm 2) b_law_2) t_law_4) e M := rfl
@[irreducible] def F_law : FnS := fnS 1 9 (sSeq (sAsg (eFn 1 F__law_row (aCons (eVar 0) aNil)) (gNm 1)) t_law_5)
end Lw

namespace Lw
open PySem L2 Sm
open PyProof.Rows (envOfC)
structure Tx (K : PySem.W.Frag) (mg : Str → Option Value) : Prop where
  m__law_row : mg "_law_row" = some (.ref (He.fAd K ("_law_row", none)))
  m__law_taken : mg "_law_taken" = some (.ref (He.fAd K ("_law_taken", none)))
  m__law_street : mg "_law_street" = some (.ref (He.fAd K ("_law_street", none)))
  m__law_town : mg "_law_town" = some (.ref (He.fAd K ("_law_town", none)))
  m_is_number : mg "is_number" = some (.ref (He.fAd K ("is_number", none)))
  m_is_street : mg "is_street" = some (.ref (He.fAd K ("is_street", none)))
  m_need_town : mg "need_town" = some (.ref (He.fAd K ("need_town", none)))
  m_written : mg "written" = some (.ref (He.fAd K ("written", none)))
  m__law_spoilt : mg "_law_spoilt" = some (.ref (He.fAd K ("_law_spoilt", none)))
  m_number_of : mg "number_of" = some (.ref (He.fAd K ("number_of", none)))
  m_read : mg "read" = some (.ref (He.fAd K ("read", none)))
  m__law_word : mg "_law_word" = some (.ref (He.fAd K ("_law_word", none)))
  m__law_number : mg "_law_number" = some (.ref (He.fAd K ("_law_number", none)))
  m__law_read : mg "_law_read" = some (.ref (He.fAd K ("_law_read", none)))
  m__law_alike : mg "_law_alike" = some (.ref (He.fAd K ("_law_alike", none)))
  m_law : mg "law" = some (.ref (He.fAd K ("law", none)))
  d__law_row : ∃ fd, FunD K "_law_row" "_law_row" (defArgs (topS 29)) (defBody (topS 29)) (defScope (topS 29)) [] [] (He.fAd K ("_law_row", none)) fd
  d__law_taken : ∃ fd, FunD K "_law_taken" "_law_taken" (defArgs (topS 30)) (defBody (topS 30)) (defScope (topS 30)) [] [] (He.fAd K ("_law_taken", none)) fd
  d__law_street : ∃ fd, FunD K "_law_street" "_law_street" (defArgs (topS 31)) (defBody (topS 31)) (defScope (topS 31)) [] [] (He.fAd K ("_law_street", none)) fd
  d__law_town : ∃ fd, FunD K "_law_town" "_law_town" (defArgs (topS 32)) (defBody (topS 32)) (defScope (topS 32)) [] [] (He.fAd K ("_law_town", none)) fd
  d_is_number : ∃ fd, FunD K "is_number" "is_number" (defArgs (topS 17)) (defBody (topS 17)) (defScope (topS 17)) [] [] (He.fAd K ("is_number", none)) fd
  d_is_street : ∃ fd, FunD K "is_street" "is_street" (defArgs (topS 18)) (defBody (topS 18)) (defScope (topS 18)) [] [] (He.fAd K ("is_street", none)) fd
  d_need_town : ∃ fd, FunD K "need_town" "need_town" (defArgs (topS 19)) (defBody (topS 19)) (defScope (topS 19)) [] [] (He.fAd K ("need_town", none)) fd
  d_written : ∃ fd, FunD K "written" "written" (defArgs (topS 25)) (defBody (topS 25)) (defScope (topS 25)) [] [] (He.fAd K ("written", none)) fd
  d__law_spoilt : ∃ fd, FunD K "_law_spoilt" "_law_spoilt" (defArgs (topS 33)) (defBody (topS 33)) (defScope (topS 33)) [] [] (He.fAd K ("_law_spoilt", none)) fd
  d_number_of : ∃ fd, FunD K "number_of" "number_of" (defArgs (topS 26)) (defBody (topS 26)) (defScope (topS 26)) [] [] (He.fAd K ("number_of", none)) fd
  d_read : ∃ fd, FunD K "read" "read" (defArgs (topS 27)) (defBody (topS 27)) (defScope (topS 27)) [] [] (He.fAd K ("read", none)) fd
  d__law_word : ∃ fd, FunD K "_law_word" "_law_word" (defArgs (topS 36)) (defBody (topS 36)) (defScope (topS 36)) [] [] (He.fAd K ("_law_word", none)) fd
  d__law_number : ∃ fd, FunD K "_law_number" "_law_number" (defArgs (topS 34)) (defBody (topS 34)) (defScope (topS 34)) [] [] (He.fAd K ("_law_number", none)) fd
  d__law_read : ∃ fd, FunD K "_law_read" "_law_read" (defArgs (topS 35)) (defBody (topS 35)) (defScope (topS 35)) [] [] (He.fAd K ("_law_read", none)) fd
  d__law_alike : ∃ fd, FunD K "_law_alike" "_law_alike" (defArgs (topS 37)) (defBody (topS 37)) (defScope (topS 37)) [] [] (He.fAd K ("_law_alike", none)) fd
  d_law : ∃ fd, FunD K "law" "law" (defArgs (topS 38)) (defBody (topS 38)) (defScope (topS 38)) [] [] (He.fAd K ("law", none)) fd
  b_ValueError : mg "ValueError" = none
  b_any : mg "any" = none
  b_bool : mg "bool" = none
  b_enumerate : mg "enumerate" = none
  b_int : mg "int" = none
  b_isinstance : mg "isinstance" = none
  b_len : mg "len" = none
  b_list : mg "list" = none
  b_range : mg "range" = none
  b_str : mg "str" = none
  b_tuple : mg "tuple" = none
  g_FIGURES : ∃ t, mg "FIGURES" = some (.str "0123456789" t)
  g_MOST_CORNERS : ∃ t, mg "MOST_CORNERS" = some (.int 9 t)
  g_MOST_FIGURES : ∃ t, mg "MOST_FIGURES" = some (.int 2 t)
  g_MOST_LONG : ∃ t, mg "MOST_LONG" = some (.int 99 t)
  g_MOST_STREETS : ∃ t, mg "MOST_STREETS" = some (.int 16 t)
  g_TOWN : ∃ t, mg "TOWN" = some (.str "town" t)
  t_SIGNS : GTup K mg "SIGNS" ["=", ">"]
  m_BadDeed : mg "BadDeed" = some (.ref (He.ga K "BadDeed"))
  m_BadText : mg "BadText" = some (.ref (He.ga K "BadText"))
  m_BadTimes : mg "BadTimes" = some (.ref (He.ga K "BadTimes"))
  m_BadTown : mg "BadTown" = some (.ref (He.ga K "BadTown"))
  m_Halted : mg "Halted" = some (.ref (He.ga K "Halted"))
  m_NoCorner : mg "NoCorner" = some (.ref (He.ga K "NoCorner"))
  m_NoRound : mg "NoRound" = some (.ref (He.ga K "NoRound"))
  m_NoStreet : mg "NoStreet" = some (.ref (He.ga K "NoStreet"))
  m_NotOneWay : mg "NotOneWay" = some (.ref (He.ga K "NotOneWay"))
  m_StreetError : mg "StreetError" = some (.ref (He.ga K "StreetError"))
  m_TooMany : mg "TooMany" = some (.ref (He.ga K "TooMany"))
  m_Uneven : mg "Uneven" = some (.ref (He.ga K "Uneven"))
  e_StreetError : XbaC K "StreetError"
  x_BadText : XinC K "BadText" ["row"]
  i_BadText : ∃ fd, FunD K "__init__" "BadText.__init__" (defArgs (clsSt (topS 12) 0)) (defBody (clsSt (topS 12) 0)) (defScope (clsSt (topS 12) 0)) [] [] (He.fAd K ("BadText", some "__init__")) fd
  x_BadTown : XinC K "BadTown" ["number"]
  i_BadTown : ∃ fd, FunD K "__init__" "BadTown.__init__" (defArgs (clsSt (topS 2) 0)) (defBody (clsSt (topS 2) 0)) (defScope (clsSt (topS 2) 0)) [] [] (He.fAd K ("BadTown", some "__init__")) fd
  k_BadDeed : IsT K [("BadTown", false), ("NoCorner", false), ("NoStreet", false), ("NoRound", false), ("TooMany", false), ("BadTimes", false), ("Uneven", false), ("NotOneWay", false), ("BadDeed", true), ("Halted", false), ("BadText", false)] (.ref (He.ga K "BadDeed"))
  k_BadText : IsT K [("BadTown", false), ("NoCorner", false), ("NoStreet", false), ("NoRound", false), ("TooMany", false), ("BadTimes", false), ("Uneven", false), ("NotOneWay", false), ("BadDeed", false), ("Halted", false), ("BadText", true)] (.ref (He.ga K "BadText"))
  k_BadTimes : IsT K [("BadTown", false), ("NoCorner", false), ("NoStreet", false), ("NoRound", false), ("TooMany", false), ("BadTimes", true), ("Uneven", false), ("NotOneWay", false), ("BadDeed", false), ("Halted", false), ("BadText", false)] (.ref (He.ga K "BadTimes"))
  k_BadTown : IsT K [("BadTown", true), ("NoCorner", false), ("NoStreet", false), ("NoRound", false), ("TooMany", false), ("BadTimes", false), ("Uneven", false), ("NotOneWay", false), ("BadDeed", false), ("Halted", false), ("BadText", false)] (.ref (He.ga K "BadTown"))
  k_Halted : IsT K [("BadTown", false), ("NoCorner", false), ("NoStreet", false), ("NoRound", false), ("TooMany", false), ("BadTimes", false), ("Uneven", false), ("NotOneWay", false), ("BadDeed", false), ("Halted", true), ("BadText", false)] (.ref (He.ga K "Halted"))
  k_NoCorner : IsT K [("BadTown", false), ("NoCorner", true), ("NoStreet", false), ("NoRound", false), ("TooMany", false), ("BadTimes", false), ("Uneven", false), ("NotOneWay", false), ("BadDeed", false), ("Halted", false), ("BadText", false)] (.ref (He.ga K "NoCorner"))
  k_NoRound : IsT K [("BadTown", false), ("NoCorner", false), ("NoStreet", false), ("NoRound", true), ("TooMany", false), ("BadTimes", false), ("Uneven", false), ("NotOneWay", false), ("BadDeed", false), ("Halted", false), ("BadText", false)] (.ref (He.ga K "NoRound"))
  k_NoStreet : IsT K [("BadTown", false), ("NoCorner", false), ("NoStreet", true), ("NoRound", false), ("TooMany", false), ("BadTimes", false), ("Uneven", false), ("NotOneWay", false), ("BadDeed", false), ("Halted", false), ("BadText", false)] (.ref (He.ga K "NoStreet"))
  k_NotOneWay : IsT K [("BadTown", false), ("NoCorner", false), ("NoStreet", false), ("NoRound", false), ("TooMany", false), ("BadTimes", false), ("Uneven", false), ("NotOneWay", true), ("BadDeed", false), ("Halted", false), ("BadText", false)] (.ref (He.ga K "NotOneWay"))
  k_TooMany : IsT K [("BadTown", false), ("NoCorner", false), ("NoStreet", false), ("NoRound", false), ("TooMany", true), ("BadTimes", false), ("Uneven", false), ("NotOneWay", false), ("BadDeed", false), ("Halted", false), ("BadText", false)] (.ref (He.ga K "TooMany"))
  k_Uneven : IsT K [("BadTown", false), ("NoCorner", false), ("NoStreet", false), ("NoRound", false), ("TooMany", false), ("BadTimes", false), ("Uneven", true), ("NotOneWay", false), ("BadDeed", false), ("Halted", false), ("BadText", false)] (.ref (He.ga K "Uneven"))
  k_ValueError : IsT K [("BadTown", true), ("NoCorner", true), ("NoStreet", true), ("NoRound", true), ("TooMany", true), ("BadTimes", true), ("Uneven", true), ("NotOneWay", true), ("BadDeed", true), ("Halted", true), ("BadText", true)] (.type "ValueError")
  x_exm : ExmT K ["BadTown", "NoCorner", "NoStreet", "NoRound", "TooMany", "BadTimes", "Uneven", "NotOneWay", "BadDeed", "Halted", "BadText"] (.ref (He.ga K "StreetError"))
  f_corner : FldT K ["Uneven"] "corner"
  f_done : FldT K ["Halted"] "done"
  f_number : FldT K ["BadTown", "BadTimes", "NotOneWay", "BadDeed", "Halted"] "number"
  f_row : FldT K ["BadText"] "row"
section
variable [LT] [WB] {P : Program} {w : World} {K : PySem.W.Frag} {mg : Str → Option Value} {base : Heap}
theorem mk_BadText (T : Tx K mg) : MkX P w K mg base "BadText" ["row"] := by
  obtain ⟨fd, F⟩ := T.i_BadText
  exact ⟨T.x_BadText, T.m_BadText, fd, .inl ⟨_, _, rfl, init1_ok F ⟨rfl, rfl, rfl, by decide +kernel, rfl, by decide +kernel, by decide +kernel⟩ T.m_StreetError T.e_StreetError T.x_BadText.o (T.x_BadText.n _ (by simp)) (by decide +kernel), F.bindsN (ps := ["self", "row"]) (fun _ _ _ _ _ _ us hl => match us, hl with | [_, _], _ => rfl)⟩⟩
theorem mk_BadTown (T : Tx K mg) : MkX P w K mg base "BadTown" ["number"] := by
  obtain ⟨fd, F⟩ := T.i_BadTown
  exact ⟨T.x_BadTown, T.m_BadTown, fd, .inl ⟨_, _, rfl, init1_ok F ⟨rfl, rfl, rfl, by decide +kernel, rfl, by decide +kernel, by decide +kernel⟩ T.m_StreetError T.e_StreetError T.x_BadTown.o (T.x_BadTown.n _ (by simp)) (by decide +kernel), F.bindsN (ps := ["self", "number"]) (fun _ _ _ _ _ _ us hl => match us, hl with | [_, _], _ => rfl)⟩⟩
abbrev s__law_row : Stmt := topS 29
abbrev N__law_row : List Str := ["_law_script", "_law_mixed", "_law_cell"]
theorem sc__law_row : FnScope N__law_row ["_law_script"] (defScope s__law_row) := ⟨rfl, rfl, rfl, by decide +kernel, rfl, by decide +kernel, by decide +kernel⟩
theorem c__law_row (T : Tx K mg)  : Cal P w K mg base "_law_row" 1 1 F__law_row := by
  obtain ⟨fd, F⟩ := T.d__law_row
  unfold F__law_row
  refine cal_of F T.m__law_row sc__law_row (ps := ["_law_script"]) (k := 0) (fun _ _ _ _ _ _ us hl => match us, hl with | [_], _ => rfl) (fun cdv A outer s H E hr => ?_)
  exact (ss_cons (ss_asg se_int (sg_name (i := 1) sc__law_row.nd))
 (ss_cons (ss_for (passes_of rfl) rfl (si_seq (se_var (i := 0))) (sg_name (i := 2) sc__law_row.nd) (ss_one (ss_asg (se_bin op_mod os_mod (se_bin op_addA os_add (se_bin op_addA os_add (se_bin op_mulA os_mul (se_var (i := 1)) se_int) (se_var (i := 2))) se_int) se_int) (sg_name (i := 1) sc__law_row.nd))))
 (ss_one (ss_ret (se_lst (sa_cons (se_var (i := 0)) (sa_cons se_int (sa_cons se_int (sa_cons (se_var (i := 1)) sa_nil)))))))))
abbrev s__law_taken : Stmt := topS 30
abbrev N__law_taken : List Str := ["_law_row_here", "_law_many", "_law_found", "_law_cell"]
theorem sc__law_taken : FnScope N__law_taken ["_law_row_here", "_law_many"] (defScope s__law_taken) := ⟨rfl, rfl, rfl, by decide +kernel, rfl, by decide +kernel, by decide +kernel⟩
theorem c__law_taken (T : Tx K mg)  : Cal P w K mg base "_law_taken" 1 2 F__law_taken := by
  obtain ⟨fd, F⟩ := T.d__law_taken
  unfold F__law_taken
  refine cal_of F T.m__law_taken sc__law_taken (ps := ["_law_row_here", "_law_many"]) (k := 0) (fun _ _ _ _ _ _ us hl => match us, hl with | [_, _], _ => rfl) (fun cdv A outer s H E hr => ?_)
  exact (ss_cons (ss_if (st_cmp op_gt os_cmp (se_ix ix_seq os_ix (se_var (i := 0)) se_int) se_int (nomark _)) (ss_cons (ss_asg (se_bin op_mod os_mod (se_ix ix_seq os_ix (se_var (i := 0)) se_int) (se_var (i := 1))) (sg_name (i := 2) sc__law_taken.nd))
 (ss_cons (ss_asg (se_bin op_fdiv os_div (se_ix ix_seq os_ix (se_var (i := 0)) se_int) (se_var (i := 1))) (sg_sub (se_var (i := 0)) se_int))
 (ss_one (ss_ret (se_var (i := 2)))))) ss_nil)
 (ss_cons (ss_if (st_cmp op_lt os_cmp (se_ix ix_seq os_ix (se_var (i := 0)) se_int) (se_callB cr_len cs_len T.b_len (by decide +kernel) (sa_cons (se_ix ix_seq os_ix (se_var (i := 0)) se_int) sa_nil)) (nomark _)) (ss_cons (ss_asg (se_ix ix_seq os_ix (se_ix ix_seq os_ix (se_var (i := 0)) se_int) (se_ix ix_seq os_ix (se_var (i := 0)) se_int)) (sg_name (i := 3) sc__law_taken.nd))
 (ss_cons (ss_asg (se_bin op_addA os_add (se_ix ix_seq os_ix (se_var (i := 0)) se_int) se_int) (sg_sub (se_var (i := 0)) se_int))
 (ss_cons (ss_if (st_cmp op_ge os_cmp (se_var (i := 3)) (se_bin op_pow os_pow se_int se_int) (nomark _)) (ss_one (ss_asg (se_bin op_fdiv os_div (se_var (i := 3)) (se_var (i := 1))) (sg_sub (se_var (i := 0)) se_int))) ss_nil)
 (ss_one (ss_ret (se_bin op_mod os_mod (se_var (i := 3)) (se_var (i := 1)))))))) ss_nil)
 (ss_cons (ss_asg (se_bin op_mod os_mod (se_bin op_addA os_add (se_bin op_mulA os_mul (se_ix ix_seq os_ix (se_var (i := 0)) se_int) se_int) se_int) se_int) (sg_sub (se_var (i := 0)) se_int))
 (ss_one (ss_ret (se_bin op_mod os_mod (se_bin op_fdiv os_div (se_ix ix_seq os_ix (se_var (i := 0)) se_int) se_int) (se_var (i := 1))))))))
abbrev s__law_street : Stmt := topS 31
abbrev N__law_street : List Str := ["_law_row_here", "_law_corners", "_law_kind", "_law_first", "_law_second", "_law_one_way"]
theorem sc__law_street : FnScope N__law_street ["_law_row_here", "_law_corners", "_law_kind"] (defScope s__law_street) := ⟨rfl, rfl, rfl, by decide +kernel, rfl, by decide +kernel, by decide +kernel⟩
theorem c__law_street (T : Tx K mg) (C__law_taken : Cal P w K mg base "_law_taken" 1 2 F__law_taken) : Cal P w K mg base "_law_street" 2 3 F__law_street := by
  obtain ⟨fd, F⟩ := T.d__law_street
  unfold F__law_street
  refine cal_of F T.m__law_street sc__law_street (ps := ["_law_row_here", "_law_corners", "_law_kind"]) (k := 1) (fun _ _ _ _ _ _ us hl => match us, hl with | [_, _, _], _ => rfl) (fun cdv A outer s H E hr => ?_)
  exact (ss_cons (ss_asg (se_callC C__law_taken (hr.mono (by decide)) (takes_of rfl rfl rfl rfl) (sa_cons (se_var (i := 0)) (sa_cons (se_var (i := 1)) sa_nil))) (sg_name (i := 3) sc__law_street.nd))
 (ss_cons (ss_asg (se_bin op_mod os_mod (se_bin op_addA os_add (se_bin op_addA os_add (se_var (i := 3)) se_int) (se_callC C__law_taken (hr.mono (by decide)) (takes_of rfl rfl rfl rfl) (sa_cons (se_var (i := 0)) (sa_cons (se_bin op_sub os_sub (se_var (i := 1)) se_int) sa_nil)))) (se_var (i := 1))) (sg_name (i := 4) sc__law_street.nd))
 (ss_cons (ss_asg (se_ifExp (st_cmp (op_eqA hr.units) os_eq (se_var (i := 2)) se_int (nomark _)) (se_callC C__law_taken (hr.mono (by decide)) (takes_of rfl rfl rfl rfl) (sa_cons (se_var (i := 0)) (sa_cons se_int sa_nil))) (se_var (i := 2))) (sg_name (i := 5) sc__law_street.nd))
 (ss_one (ss_ret (se_tup (sa_cons (se_var (i := 3)) (sa_cons (se_var (i := 4)) (sa_cons (se_bin op_addA os_add se_int (se_callC C__law_taken (hr.mono (by decide)) (takes_of rfl rfl rfl rfl) (sa_cons (se_var (i := 0)) (sa_cons (se_ix ix_seq os_ix (se_lst (sa_cons se_int (sa_cons se_int (sa_cons se_int sa_nil)))) (se_callC C__law_taken (hr.mono (by decide)) (takes_of rfl rfl rfl rfl) (sa_cons (se_var (i := 0)) (sa_cons se_int sa_nil)))) sa_nil)))) (sa_cons (se_var (i := 5)) sa_nil))))))))))
abbrev s__law_town : Stmt := topS 32
abbrev N__law_town : List Str := ["_law_row_here", "_law_corners", "_law_streets", "_law_kind", "_law_many", ".0", "_law_k"]
theorem sc__law_town : FnScope N__law_town ["_law_row_here", "_law_corners", "_law_streets", "_law_kind"] (defScope s__law_town) := ⟨rfl, rfl, rfl, by decide +kernel, rfl, by decide +kernel, by decide +kernel⟩
theorem c__law_town (T : Tx K mg) (C__law_taken : Cal P w K mg base "_law_taken" 1 2 F__law_taken) (C__law_street : Cal P w K mg base "_law_street" 2 3 F__law_street) : Cal P w K mg base "_law_town" 3 4 F__law_town := by
  obtain ⟨fd, F⟩ := T.d__law_town
  unfold F__law_town
  refine cal_of F T.m__law_town sc__law_town (ps := ["_law_row_here", "_law_corners", "_law_streets", "_law_kind"]) (k := 2) (fun _ _ _ _ _ _ us hl => match us, hl with | [_, _, _, _], _ => rfl) (fun cdv A outer s H E hr => ?_)
  exact (ss_cons (ss_asg (se_bin op_addA os_add se_int (se_callC C__law_taken (hr.mono (by decide)) (takes_of rfl rfl rfl rfl) (sa_cons (se_var (i := 0)) (sa_cons (se_var (i := 1)) sa_nil)))) (sg_name (i := 4) sc__law_town.nd))
 (ss_cons (ss_if (st_cmp (op_eqA hr.units) os_eq (se_var (i := 4)) se_int (nomark _)) (ss_one (ss_ret (se_tup (sa_cons se_int (sa_cons (se_tup sa_nil) sa_nil))))) ss_nil)
 (ss_one (ss_ret (se_tup (sa_cons (se_var (i := 4)) (sa_cons (se_callTy call_tuple_of cs_tuple T.b_tuple (by decide +kernel) (sa_cons (se_lc (own := [(".0", 5), ("_law_k", 6)]) (g := (.one 6)) rfl sc__law_town.nd (si_r1 (se_callC C__law_taken (hr.mono (by decide)) (takes_of rfl rfl rfl rfl) (sa_cons (se_var (i := 0)) (sa_cons (se_bin op_addA os_add (se_var (i := 2)) se_int) sa_nil))) T.b_range) (blkOk_by (own := [(".0", 5), ("_law_k", 6)]) (N := N__law_town) (by kernel_rfl)) (by decide) (fun _ _ _ _ _ => (sl_one (i := 6) sc__law_town.nd)) (fun _ _ _ _ _ => sts_nil) (fun _ _ _ _ _ => (se_callC C__law_street (hr.mono (by decide)) takes0 (sa_cons (se_var (i := 0)) (sa_cons (se_var (i := 4)) (sa_cons (se_var (i := 3)) sa_nil)))))) sa_nil)) sa_nil)))))))
abbrev s_is_number : Stmt := topS 17
abbrev N_is_number : List Str := ["part", "low", "high"]
theorem sc_is_number : FnScope N_is_number ["part", "low", "high"] (defScope s_is_number) := ⟨rfl, rfl, rfl, by decide +kernel, rfl, by decide +kernel, by decide +kernel⟩
theorem c_is_number (T : Tx K mg)  : Cal P w K mg base "is_number" 1 3 F_is_number := by
  obtain ⟨fd, F⟩ := T.d_is_number
  unfold F_is_number
  refine cal_of F T.m_is_number sc_is_number (ps := ["part", "low", "high"]) (k := 0) (fun _ _ _ _ _ _ us hl => match us, hl with | [_, _, _], _ => rfl) (fun cdv A outer s H E hr => ?_)
  exact (ss_one (ss_ret (se_and (se_isi .int (se_var (i := 0)) T.b_isinstance T.b_int (by decide +kernel)) (se_and (se_not (se_isi .bool (se_var (i := 0)) T.b_isinstance T.b_bool (by decide +kernel))) (se_one (se_chain op_le op_le os_cmp os_cmp (se_var (i := 1)) (se_var (i := 0)) (se_var (i := 2))))))))
abbrev s_is_street : Stmt := topS 18
abbrev N_is_street : List Str := ["part", "corners"]
theorem sc_is_street : FnScope N_is_street ["part", "corners"] (defScope s_is_street) := ⟨rfl, rfl, rfl, by decide +kernel, rfl, by decide +kernel, by decide +kernel⟩
theorem c_is_street (T : Tx K mg) (C_is_number : Cal P w K mg base "is_number" 1 3 F_is_number) : Cal P w K mg base "is_street" 2 2 F_is_street := by
  obtain ⟨fd, F⟩ := T.d_is_street
  unfold F_is_street
  refine cal_of F T.m_is_street sc_is_street (ps := ["part", "corners"]) (k := 1) (fun _ _ _ _ _ _ us hl => match us, hl with | [_, _], _ => rfl) (fun cdv A outer s H E hr => ?_)
  exact (ss_cons (ss_if (st_w (sw_or (st_not (st_tru (se_isi .tuple (se_var (i := 0)) T.b_isinstance T.b_tuple (by decide +kernel)))) (sw_or (st_cmp (op_neA hr.units) os_ne (se_callB cr_len cs_len T.b_len (by decide +kernel) (sa_cons (se_var (i := 0)) sa_nil)) se_int (nomark _)) (sw_or1 (st_not (st_tru (se_callC C_is_number (hr.mono (by decide)) (takes_of rfl rfl rfl rfl) (sa_cons (se_ix ix_seq os_ix (se_var (i := 0)) se_int) (sa_cons se_int (sa_cons (se_bin op_sub os_sub (se_var (i := 1)) se_int) sa_nil)))))))))) (ss_one (ss_ret se_bl)) ss_nil)
 (ss_cons (ss_if (st_w (sw_or (st_not (st_tru (se_callC C_is_number (hr.mono (by decide)) (takes_of rfl rfl rfl rfl) (sa_cons (se_ix ix_seq os_ix (se_var (i := 0)) se_int) (sa_cons se_int (sa_cons (se_bin op_sub os_sub (se_var (i := 1)) se_int) sa_nil)))))) (sw_or1 (st_cmp (op_eqA hr.units) os_eq (se_ix ix_seq os_ix (se_var (i := 0)) se_int) (se_ix ix_seq os_ix (se_var (i := 0)) se_int) (nomark _))))) (ss_one (ss_ret se_bl)) ss_nil)
 (ss_one (ss_ret (se_and (se_callC C_is_number (hr.mono (by decide)) (takes_of rfl rfl rfl rfl) (sa_cons (se_ix ix_seq os_ix (se_var (i := 0)) se_int) (sa_cons se_int (sa_cons (se_gint T.g_MOST_LONG) sa_nil)))) (se_one (se_callC C_is_number (hr.mono (by decide)) (takes_of rfl rfl rfl rfl) (sa_cons (se_ix ix_seq os_ix (se_var (i := 0)) se_int) (sa_cons se_int (sa_cons se_int sa_nil))))))))))
abbrev s_need_town : Stmt := topS 19
abbrev N_need_town : List Str := ["town", "number", "street"]
theorem sc_need_town : FnScope N_need_town ["town"] (defScope s_need_town) := ⟨rfl, rfl, rfl, by decide +kernel, rfl, by decide +kernel, by decide +kernel⟩
theorem c_need_town (T : Tx K mg) (C_is_number : Cal P w K mg base "is_number" 1 3 F_is_number) (C_is_street : Cal P w K mg base "is_street" 2 2 F_is_street) : Cal P w K mg base "need_town" 3 1 F_need_town := by
  obtain ⟨fd, F⟩ := T.d_need_town
  unfold F_need_town
  refine cal_of F T.m_need_town sc_need_town (ps := ["town"]) (k := 2) (fun _ _ _ _ _ _ us hl => match us, hl with | [_], _ => rfl) (fun cdv A outer s H E hr => ?_)
  exact (ss_cons (ss_if (st_w (sw_or (st_not (st_tru (se_isi .tuple (se_var (i := 0)) T.b_isinstance T.b_tuple (by decide +kernel)))) (sw_or (st_cmp (op_neA hr.units) os_ne (se_callB cr_len cs_len T.b_len (by decide +kernel) (sa_cons (se_var (i := 0)) sa_nil)) se_int (nomark _)) (sw_or1 (st_not (st_tru (se_callC C_is_number (hr.mono (by decide)) (takes_of rfl rfl rfl rfl) (sa_cons (se_ix ix_seq os_ix (se_var (i := 0)) se_int) (sa_cons se_int (sa_cons (se_gint T.g_MOST_CORNERS) sa_nil)))))))))) (ss_one (ss_raiseN (mk_BadTown T) (hr.mono (by decide)) (takes_of rfl rfl rfl rfl) (sa_cons (se_un un_neg us_neg se_int) sa_nil))) ss_nil)
 (ss_cons (ss_if (st_not (st_tru (se_isi .tuple (se_ix ix_seq os_ix (se_var (i := 0)) se_int) T.b_isinstance T.b_tuple (by decide +kernel)))) (ss_one (ss_raiseN (mk_BadTown T) (hr.mono (by decide)) (takes_of rfl rfl rfl rfl) (sa_cons se_int sa_nil))) ss_nil)
 (ss_one (ss_for (passes_of rfl) rfl (si_enum (se_ix ix_seq os_ix (se_var (i := 0)) se_int) T.b_enumerate) (sg_tup rfl (sgs_cons (sg_name (i := 1) sc_need_town.nd) (sgs_cons (sg_name (i := 2) sc_need_town.nd) sgs_nil))) (ss_one (ss_if (st_w (sw_or (st_cmp (op_eqA hr.units) os_eq (se_var (i := 1)) (se_gint T.g_MOST_STREETS) (nomark _)) (sw_or1 (st_not (st_tru (se_callC C_is_street (hr.mono (by decide)) (takes_of rfl rfl rfl rfl) (sa_cons (se_var (i := 2)) (sa_cons (se_ix ix_seq os_ix (se_var (i := 0)) se_int) sa_nil)))))))) (ss_one (ss_raiseN (mk_BadTown T) (hr.mono (by decide)) (takes_of rfl rfl rfl rfl) (sa_cons (se_var (i := 1)) sa_nil))) ss_nil))))))
abbrev s_written : Stmt := topS 25
abbrev N_written : List Str := ["town", "rows", "first", "second", "long", "is_one_way"]
theorem sc_written : FnScope N_written ["town"] (defScope s_written) := ⟨rfl, rfl, rfl, by decide +kernel, rfl, by decide +kernel, by decide +kernel⟩
theorem c_written (T : Tx K mg) (C_need_town : Cal P w K mg base "need_town" 3 1 F_need_town) : Cal P w K mg base "written" 4 1 F_written := by
  obtain ⟨fd, F⟩ := T.d_written
  unfold F_written
  refine cal_of F T.m_written sc_written (ps := ["town"]) (k := 3) (fun _ _ _ _ _ _ us hl => match us, hl with | [_], _ => rfl) (fun cdv A outer s H E hr => ?_)
  exact (ss_cons (ss_expr (se_callC C_need_town (hr.mono (by decide)) (takes_of rfl rfl rfl rfl) (sa_cons (se_var (i := 0)) sa_nil)))
 (ss_cons (ss_asg (se_lst (sa_cons (se_bin op_addA os_add (se_bin op_addA os_add (se_gstr T.g_TOWN) se_str) (se_callTy call_str_int cs_str T.b_str (by decide +kernel) (sa_cons (se_ix ix_seq os_ix (se_var (i := 0)) se_int) sa_nil))) sa_nil)) (sg_name (i := 1) sc_written.nd))
 (ss_cons (ss_for (passes_of rfl) rfl (si_seq (se_ix ix_seq os_ix (se_var (i := 0)) se_int)) (sg_tup rfl (sgs_cons (sg_name (i := 2) sc_written.nd) (sgs_cons (sg_name (i := 3) sc_written.nd) (sgs_cons (sg_name (i := 4) sc_written.nd) (sgs_cons (sg_name (i := 5) sc_written.nd) sgs_nil))))) (ss_one (ss_expr (se_mt PySem.F.plainAttrs_list PySem.F.slot_list_append PySem.F.type_list_append mt_append ms_append (se_var (i := 1)) (sa_cons (se_mt PySem.F.plainAttrs_str PySem.F.slot_str_join PySem.F.type_str_join mt_join' ms_join se_str (sa_cons (se_lst (sa_cons (se_callTy call_str_int cs_str T.b_str (by decide +kernel) (sa_cons (se_var (i := 2)) sa_nil)) (sa_cons (se_gtIx (x := "SIGNS") (ys := ["=", ">"]) T.t_SIGNS (se_var (i := 5))) (sa_cons (se_callTy call_str_int cs_str T.b_str (by decide +kernel) (sa_cons (se_var (i := 3)) sa_nil)) (sa_cons (se_callTy call_str_int cs_str T.b_str (by decide +kernel) (sa_cons (se_var (i := 4)) sa_nil)) sa_nil))))) sa_nil)) sa_nil)))))
 (ss_one (ss_ret (se_mt PySem.F.plainAttrs_str PySem.F.slot_str_join PySem.F.type_str_join mt_join' ms_join se_str (sa_cons (se_var (i := 1)) sa_nil)))))))
abbrev s__law_spoilt : Stmt := topS 33
abbrev N__law_spoilt : List Str := ["_law_row_here", "_law_rows", "_law_words", "_law_turn", "_law_k", "_law_mode", "_law_word_here", "_law_some", "_law_at", "_law_rest", "_law_told", ".0", "_law_line"]
theorem sc__law_spoilt : FnScope N__law_spoilt ["_law_row_here", "_law_rows"] (defScope s__law_spoilt) := ⟨rfl, rfl, rfl, by decide +kernel, rfl, by decide +kernel, by decide +kernel⟩
theorem c__law_spoilt (T : Tx K mg) (C__law_taken : Cal P w K mg base "_law_taken" 1 2 F__law_taken) : Cal P w K mg base "_law_spoilt" 2 2 F__law_spoilt := by
  obtain ⟨fd, F⟩ := T.d__law_spoilt
  unfold F__law_spoilt
  refine cal_of F T.m__law_spoilt sc__law_spoilt (ps := ["_law_row_here", "_law_rows"]) (k := 1) (fun _ _ _ _ _ _ us hl => match us, hl with | [_, _], _ => rfl) (fun cdv A outer s H E hr => ?_)
  exact (ss_cons (ss_asg (se_lst (sa_cons se_str (sa_cons se_str (sa_cons se_str (sa_cons se_str (sa_cons se_str (sa_cons se_str (sa_cons se_str (sa_cons se_str (sa_cons se_str (sa_cons se_str (sa_cons se_str (sa_cons se_str (sa_cons se_str (sa_cons se_str sa_nil))))))))))))))) (sg_name (i := 2) sc__law_spoilt.nd))
 (ss_cons (ss_for (passes_of rfl) rfl (si_r1 (se_callC C__law_taken (hr.mono (by decide)) (takes_of rfl rfl rfl rfl) (sa_cons (se_var (i := 0)) (sa_cons se_int sa_nil))) T.b_range) (sg_name (i := 3) sc__law_spoilt.nd) (ss_cons (ss_asg (se_ifExp (st_cmp (op_neA hr.units) os_ne (se_var (i := 1)) (se_lst sa_nil) (nomark _)) (se_callC C__law_taken (hr.mono (by decide)) (takes_of rfl rfl rfl rfl) (sa_cons (se_var (i := 0)) (sa_cons (se_callB cr_len cs_len T.b_len (by decide +kernel) (sa_cons (se_var (i := 1)) sa_nil)) sa_nil))) se_int) (sg_name (i := 4) sc__law_spoilt.nd))
 (ss_cons (ss_par (i := 5) (j := 6) rfl sc__law_spoilt.nd (sa_cons (se_callC C__law_taken (hr.mono (by decide)) (takes_of rfl rfl rfl rfl) (sa_cons (se_var (i := 0)) (sa_cons se_int sa_nil))) (sa_cons (se_ix ix_seq os_ix (se_var (i := 2)) (se_callC C__law_taken (hr.mono (by decide)) (takes_of rfl rfl rfl rfl) (sa_cons (se_var (i := 0)) (sa_cons se_int sa_nil)))) sa_nil)))
 (ss_one (ss_if (st_w (sw_or (st_cmp (op_eqA hr.units) os_eq (se_var (i := 1)) (se_lst sa_nil) (nomark _)) (sw_or1 (st_cmp (op_eqA hr.units) os_eq (se_var (i := 5)) se_int (nomark _))))) (ss_one (ss_asg (se_bin op_addA os_add (se_bin op_addA os_add (se_slice (se_var (i := 1)) so_none (so_some (se_var (i := 4)))) (se_lst (sa_cons (se_lst (sa_cons (se_var (i := 6)) sa_nil)) sa_nil))) (se_slice (se_var (i := 1)) (so_some (se_var (i := 4))) so_none)) (sg_name (i := 1) sc__law_spoilt.nd))) (ss_one (ss_if (st_cmp (op_eqA hr.units) os_eq (se_var (i := 5)) se_int (nomark _)) (ss_cons (ss_asg (se_lst (sa_cons (se_bin op_addA os_add (se_slice (se_var (i := 1)) so_none (so_some (se_var (i := 4)))) (se_slice (se_var (i := 1)) (so_some (se_bin op_addA os_add (se_var (i := 4)) se_int)) so_none)) (sa_cons (se_bin op_addA os_add (se_slice (se_var (i := 1)) (so_some (se_var (i := 4))) so_none) (se_slice (se_var (i := 1)) so_none (so_some (se_var (i := 4))))) (sa_cons (se_bin op_addA os_add (se_slice (se_var (i := 1)) so_none (so_some (se_bin op_addA os_add (se_var (i := 4)) se_int))) (se_slice (se_var (i := 1)) (so_some (se_var (i := 4))) so_none)) sa_nil)))) (sg_name (i := 7) sc__law_spoilt.nd))
 (ss_one (ss_asg (se_ix ix_seq os_ix (se_var (i := 7)) (se_callC C__law_taken (hr.mono (by decide)) (takes_of rfl rfl rfl rfl) (sa_cons (se_var (i := 0)) (sa_cons se_int sa_nil)))) (sg_name (i := 1) sc__law_spoilt.nd)))) (ss_one (ss_if (st_cmp (op_eqA hr.units) os_eq (se_var (i := 5)) se_int (nomark _)) (ss_one (ss_asg (se_bin op_addA os_add (se_bin op_addA os_add (se_slice (se_var (i := 1)) so_none (so_some (se_var (i := 4)))) (se_rev (se_slice (se_var (i := 1)) (so_some (se_var (i := 4))) (so_some (se_bin op_addA os_add (se_var (i := 4)) se_int))))) (se_slice (se_var (i := 1)) (so_some (se_bin op_addA os_add (se_var (i := 4)) se_int)) so_none)) (sg_name (i := 1) sc__law_spoilt.nd))) (ss_cons (ss_asg (se_callC C__law_taken (hr.mono (by decide)) (takes_of rfl rfl rfl rfl) (sa_cons (se_var (i := 0)) (sa_cons (se_bin op_addA os_add (se_callB cr_len cs_len T.b_len (by decide +kernel) (sa_cons (se_ix ix_seq os_ix (se_var (i := 1)) (se_var (i := 4))) sa_nil)) se_int) sa_nil))) (sg_name (i := 8) sc__law_spoilt.nd))
 (ss_cons (ss_asg (se_slice (se_ix ix_seq os_ix (se_var (i := 1)) (se_var (i := 4))) (so_some (se_bin op_addA os_add (se_var (i := 8)) (se_bin op_mod os_mod (se_var (i := 5)) se_int))) so_none) (sg_name (i := 9) sc__law_spoilt.nd))
 (ss_cons (ss_asg (se_bin op_addA os_add (se_bin op_addA os_add (se_slice (se_ix ix_seq os_ix (se_var (i := 1)) (se_var (i := 4))) so_none (so_some (se_var (i := 8)))) (se_bin op_mulA os_mul (se_lst (sa_cons (se_var (i := 6)) sa_nil)) (se_bin op_fdiv os_div (se_var (i := 5)) se_int))) (se_var (i := 9))) (sg_name (i := 10) sc__law_spoilt.nd))
 (ss_one (ss_asg (se_bin op_addA os_add (se_bin op_addA os_add (se_slice (se_var (i := 1)) so_none (so_some (se_var (i := 4)))) (se_lst (sa_cons (se_var (i := 10)) sa_nil))) (se_slice (se_var (i := 1)) (so_some (se_bin op_addA os_add (se_var (i := 4)) se_int)) so_none)) (sg_name (i := 1) sc__law_spoilt.nd)))))))))))))))
 (ss_one (ss_ret (se_mt PySem.F.plainAttrs_str PySem.F.slot_str_join PySem.F.type_str_join mt_join' ms_join se_str (sa_cons (se_lc (own := [(".0", 11), ("_law_line", 12)]) (g := (.one 12)) rfl sc__law_spoilt.nd (si_seq (se_var (i := 1))) (blkOk_by (own := [(".0", 11), ("_law_line", 12)]) (N := N__law_spoilt) (by kernel_rfl)) (by decide) (fun _ _ _ _ _ => (sl_one (i := 12) sc__law_spoilt.nd)) (fun _ _ _ _ _ => sts_nil) (fun _ _ _ _ _ => (se_mt PySem.F.plainAttrs_str PySem.F.slot_str_join PySem.F.type_str_join mt_join' ms_join se_str (sa_cons (se_var (i := 12)) sa_nil)))) sa_nil))))))
abbrev s_number_of : Stmt := topS 26
abbrev N_number_of : List Str := ["word", "row", ".0", "sign"]
theorem sc_number_of : FnScope N_number_of ["word", "row"] (defScope s_number_of) := ⟨rfl, rfl, rfl, by decide +kernel, rfl, by decide +kernel, by decide +kernel⟩
theorem c_number_of (T : Tx K mg)  : Cal P w K mg base "number_of" 3 2 F_number_of := by
  obtain ⟨fd, F⟩ := T.d_number_of
  unfold F_number_of
  refine cal_of F T.m_number_of sc_number_of (ps := ["word", "row"]) (k := 2) (fun _ _ _ _ _ _ us hl => match us, hl with | [_, _], _ => rfl) (fun cdv A outer s H E hr => ?_)
  exact (ss_cons (ss_if (st_w (sw_or (st_not (st_chain op_le op_le os_cmp os_cmp se_int (se_callB cr_len cs_len T.b_len (by decide +kernel) (sa_cons (se_var (i := 0)) sa_nil)) (se_gint T.g_MOST_FIGURES))) (sw_or1 (st_tru (se_callB (cr_any rfl) cs_any T.b_any (by decide +kernel) (sa_cons (se_lc (own := [(".0", 2), ("sign", 3)]) (g := (.one 3)) rfl sc_number_of.nd (si_seq (se_var (i := 0))) (blkOk_by (own := [(".0", 2), ("sign", 3)]) (N := N_number_of) (by kernel_rfl)) (by decide) (fun _ _ _ _ _ => (sl_one (i := 3) sc_number_of.nd)) (fun _ _ _ _ _ => sts_nil) (fun _ _ _ _ _ => (se_cmp (op_notInA (hr_u65 hr :)) os_notIn (se_var (i := 3)) (se_gstr T.g_FIGURES) (by rfl)))) sa_nil)))))) (ss_one (ss_raiseN (mk_BadText T) (hr.mono (by decide)) (takes_of rfl rfl rfl rfl) (sa_cons (se_var (i := 1)) sa_nil))) ss_nil)
 (ss_cons (ss_if (st_w (sw_and (st_cmp (op_eqA hr.units) os_eq (se_ix ix_seq os_ix (se_var (i := 0)) se_int) se_str (nomark _)) (sw_and1 (st_cmp (op_neA hr.units) os_ne (se_var (i := 0)) se_str (nomark _))))) (ss_one (ss_raiseN (mk_BadText T) (hr.mono (by decide)) (takes_of rfl rfl rfl rfl) (sa_cons (se_var (i := 1)) sa_nil))) ss_nil)
 (ss_one (ss_ret (se_callTy call_int2 cs_int2 T.b_int (by decide +kernel) (sa_cons (se_var (i := 0)) sa_nil))))))
abbrev s_read : Stmt := topS 27
abbrev N_read : List Str := ["text", "corners", "streets", "row", "line", "words", "numbers", ".0", "word"]
theorem sc_read : FnScope N_read ["text"] (defScope s_read) := ⟨rfl, rfl, rfl, by decide +kernel, rfl, by decide +kernel, by decide +kernel⟩
theorem c_read (T : Tx K mg) (C_number_of : Cal P w K mg base "number_of" 3 2 F_number_of) (C_need_town : Cal P w K mg base "need_town" 3 1 F_need_town) : Cal P w K mg base "read" 4 1 F_read := by
  obtain ⟨fd, F⟩ := T.d_read
  unfold F_read
  refine cal_of F T.m_read sc_read (ps := ["text"]) (k := 3) (fun _ _ _ _ _ _ us hl => match us, hl with | [_], _ => rfl) (fun cdv A outer s H E hr => ?_)
  exact (ss_cons (ss_asg (se_tup (sa_cons se_int (sa_cons (se_tup sa_nil) sa_nil))) (sg_tup rfl (sgs_cons (sg_name (i := 1) sc_read.nd) (sgs_cons (sg_name (i := 2) sc_read.nd) sgs_nil))))
 (ss_cons (ss_for (passes_of rfl) rfl (si_enum (se_mt PySem.F.plainAttrs_str PySem.F.slot_str_split PySem.F.type_str_split mt_split' ms_split (se_var (i := 0)) (sa_cons se_str sa_nil)) T.b_enumerate) (sg_tup rfl (sgs_cons (sg_name (i := 3) sc_read.nd) (sgs_cons (sg_name (i := 4) sc_read.nd) sgs_nil))) (ss_cons (ss_asg (se_mt PySem.F.plainAttrs_str PySem.F.slot_str_split PySem.F.type_str_split mt_split' ms_split (se_var (i := 4)) (sa_cons se_str sa_nil)) (sg_name (i := 5) sc_read.nd))
 (ss_one (ss_if (st_cmp (op_eqA hr.units) os_eq (se_var (i := 3)) se_int (nomark _)) (ss_cons (ss_if (st_w (sw_or (st_cmp (op_neA hr.units) os_ne (se_ix ix_seq os_ix (se_var (i := 5)) se_int) (se_gstr T.g_TOWN) (nomark _)) (sw_or1 (st_cmp (op_neA hr.units) os_ne (se_callB cr_len cs_len T.b_len (by decide +kernel) (sa_cons (se_var (i := 5)) sa_nil)) se_int (nomark _))))) (ss_one (ss_raiseN (mk_BadText T) (hr.mono (by decide)) (takes_of rfl rfl rfl rfl) (sa_cons se_int sa_nil))) ss_nil)
 (ss_one (ss_asg (se_callC C_number_of (hr.mono (by decide)) (takes_of rfl rfl rfl rfl) (sa_cons (se_ix ix_seq os_ix (se_var (i := 5)) se_int) (sa_cons se_int sa_nil))) (sg_name (i := 1) sc_read.nd)))) (ss_one (ss_if (st_w (sw_or (st_cmp (op_neA hr.units) os_ne (se_callB cr_len cs_len T.b_len (by decide +kernel) (sa_cons (se_var (i := 5)) sa_nil)) se_int (nomark _)) (sw_or1 (st_gtNot (x := "SIGNS") (ys := ["=", ">"]) T.t_SIGNS (hr_u65 hr :) (se_ix ix_seq os_ix (se_var (i := 5)) se_int))))) (ss_one (ss_raiseN (mk_BadText T) (hr.mono (by decide)) (takes_of rfl rfl rfl rfl) (sa_cons (se_var (i := 3)) sa_nil))) (ss_cons (ss_setLcX (i := 6) (own := [(".0", 7), ("word", 8)]) (g := (.one 8)) rfl sc_read.nd (takes_of rfl rfl rfl rfl) (sw_true rfl rfl rfl (by decide +kernel)) (si_seq (se_tup (sa_cons (se_ix ix_seq os_ix (se_var (i := 5)) se_int) (sa_cons (se_ix ix_seq os_ix (se_var (i := 5)) se_int) (sa_cons (se_ix ix_seq os_ix (se_var (i := 5)) se_int) sa_nil))))) (blkOk_by (own := [(".0", 7), ("word", 8)]) (N := N_read) (by kernel_rfl)) (by decide) (fun _ _ _ _ _ => (sl_one (i := 8) sc_read.nd)) (fun _ _ _ _ _ => sts_nil) (fun _ _ _ _ _ _ => (se_callX C_number_of (hr.mono (by decide)) (sa_cons (se_var (i := 8)) (sa_cons (se_var (i := 3)) sa_nil)))))
 (ss_one (ss_asg (se_bin op_addA os_add (se_var (i := 2)) (se_tup (sa_cons (se_bin op_addA os_add (se_callTy call_tuple_of cs_tuple T.b_tuple (by decide +kernel) (sa_cons (se_var (i := 6)) sa_nil)) (se_tup (sa_cons (se_gtupIx (x := "SIGNS") (ys := ["=", ">"]) T.t_SIGNS (se_ix ix_seq os_ix (se_var (i := 5)) se_int)) sa_nil))) sa_nil))) (sg_name (i := 2) sc_read.nd))))))))))
 (ss_cons (ss_expr (se_callC C_need_town (hr.mono (by decide)) (takes_of rfl rfl rfl rfl) (sa_cons (se_tup (sa_cons (se_var (i := 1)) (sa_cons (se_var (i := 2)) sa_nil))) sa_nil)))
 (ss_one (ss_ret (se_tup (sa_cons (se_var (i := 1)) (sa_cons (se_var (i := 2)) sa_nil))))))))
abbrev s__law_word : Stmt := topS 36
abbrev N__law_word : List Str := ["_law_work", "_law_found", "e", "_law_sorts", "_law_names", "_law_name"]
theorem sc__law_word : FnScope N__law_word ["_law_work"] (defScope s__law_word) := ⟨rfl, rfl, rfl, by decide +kernel, rfl, by decide +kernel, by decide +kernel⟩
theorem c__law_word (T : Tx K mg) (k : Nat) (hk : 1 ≤ k) : Wd P w K mg base "_law_word" k 6 Fw__law_word := by
  obtain ⟨fd, F⟩ := T.d__law_word
  refine wd_of (Fw := Fw__law_word) F T.m__law_word sc__law_word (fun _ _ _ _ _ _ us hl => match us, hl with | [_], _ => rfl) rfl (.inl rfl) (by decide) (by decide) (fun B n0 oc cdv A outer s H hr hwork => ?_)
  unfold Fw__law_word
  exact (ss_cons (ss_asg (se_lst sa_nil) (sg_name (i := 1) sc__law_word.nd))
 (ss_cons (ss_try (i := 2) (cs := ["BadTown", "NoCorner", "NoStreet", "NoRound", "TooMany", "BadTimes", "Uneven", "NotOneWay", "BadDeed", "Halted", "BadText"]) T.x_exm sc__law_word.nd ⟨rfl, by decide, .inl T.m_StreetError⟩ takes0 (fun W pn xe tk po => (ss_one (ss_expr (se_mt PySem.F.plainAttrs_list PySem.F.slot_list_append PySem.F.type_list_append mt_append ms_append (se_var (i := 1)) (sa_cons (hwork _ _ _ _ _ tk) sa_nil))))) (fun a pn => (ss_cons (ss_asg (se_lst (sa_cons (se_isE (tb := [("BadTown", true), ("NoCorner", false), ("NoStreet", false), ("NoRound", false), ("TooMany", false), ("BadTimes", false), ("Uneven", false), ("NotOneWay", false), ("BadDeed", false), ("Halted", false), ("BadText", false)]) (c := .ref (He.ga K "BadTown")) (cv := .ref (He.ga K "BadTown")) (se_var (i := 2)) (pe_glob (v := .ref (He.ga K "BadTown")) rfl T.m_BadTown rfl (by decide)) (fun _ r => r) T.k_BadTown T.b_isinstance) (sa_cons (se_isE (tb := [("BadTown", false), ("NoCorner", false), ("NoStreet", false), ("NoRound", false), ("TooMany", false), ("BadTimes", true), ("Uneven", false), ("NotOneWay", false), ("BadDeed", false), ("Halted", false), ("BadText", false)]) (c := .ref (He.ga K "BadTimes")) (cv := .ref (He.ga K "BadTimes")) (se_var (i := 2)) (pe_glob (v := .ref (He.ga K "BadTimes")) rfl T.m_BadTimes rfl (by decide)) (fun _ r => r) T.k_BadTimes T.b_isinstance) (sa_cons (se_isE (tb := [("BadTown", false), ("NoCorner", false), ("NoStreet", false), ("NoRound", false), ("TooMany", false), ("BadTimes", false), ("Uneven", false), ("NotOneWay", true), ("BadDeed", false), ("Halted", false), ("BadText", false)]) (c := .ref (He.ga K "NotOneWay")) (cv := .ref (He.ga K "NotOneWay")) (se_var (i := 2)) (pe_glob (v := .ref (He.ga K "NotOneWay")) rfl T.m_NotOneWay rfl (by decide)) (fun _ r => r) T.k_NotOneWay T.b_isinstance) (sa_cons (se_isE (tb := [("BadTown", false), ("NoCorner", false), ("NoStreet", false), ("NoRound", false), ("TooMany", false), ("BadTimes", false), ("Uneven", false), ("NotOneWay", false), ("BadDeed", true), ("Halted", false), ("BadText", false)]) (c := .ref (He.ga K "BadDeed")) (cv := .ref (He.ga K "BadDeed")) (se_var (i := 2)) (pe_glob (v := .ref (He.ga K "BadDeed")) rfl T.m_BadDeed rfl (by decide)) (fun _ r => r) T.k_BadDeed T.b_isinstance) sa_nil))))) (sg_name (i := 3) sc__law_word.nd))
 (ss_cons (ss_asg (se_bin op_addA os_add (se_var (i := 3)) (se_lst (sa_cons (se_isE (tb := [("BadTown", false), ("NoCorner", false), ("NoStreet", false), ("NoRound", false), ("TooMany", false), ("BadTimes", false), ("Uneven", false), ("NotOneWay", false), ("BadDeed", false), ("Halted", true), ("BadText", false)]) (c := .ref (He.ga K "Halted")) (cv := .ref (He.ga K "Halted")) (se_var (i := 2)) (pe_glob (v := .ref (He.ga K "Halted")) rfl T.m_Halted rfl (by decide)) (fun _ r => r) T.k_Halted T.b_isinstance) (sa_cons (se_isE (tb := [("BadTown", false), ("NoCorner", false), ("NoStreet", false), ("NoRound", false), ("TooMany", false), ("BadTimes", false), ("Uneven", true), ("NotOneWay", false), ("BadDeed", false), ("Halted", false), ("BadText", false)]) (c := .ref (He.ga K "Uneven")) (cv := .ref (He.ga K "Uneven")) (se_var (i := 2)) (pe_glob (v := .ref (He.ga K "Uneven")) rfl T.m_Uneven rfl (by decide)) (fun _ r => r) T.k_Uneven T.b_isinstance) (sa_cons (se_isE (tb := [("BadTown", false), ("NoCorner", false), ("NoStreet", false), ("NoRound", false), ("TooMany", false), ("BadTimes", false), ("Uneven", false), ("NotOneWay", false), ("BadDeed", false), ("Halted", false), ("BadText", true)]) (c := .ref (He.ga K "BadText")) (cv := .ref (He.ga K "BadText")) (se_var (i := 2)) (pe_glob (v := .ref (He.ga K "BadText")) rfl T.m_BadText rfl (by decide)) (fun _ r => r) T.k_BadText T.b_isinstance) (sa_cons (se_isE (tb := [("BadTown", false), ("NoCorner", true), ("NoStreet", false), ("NoRound", false), ("TooMany", false), ("BadTimes", false), ("Uneven", false), ("NotOneWay", false), ("BadDeed", false), ("Halted", false), ("BadText", false)]) (c := .ref (He.ga K "NoCorner")) (cv := .ref (He.ga K "NoCorner")) (se_var (i := 2)) (pe_glob (v := .ref (He.ga K "NoCorner")) rfl T.m_NoCorner rfl (by decide)) (fun _ r => r) T.k_NoCorner T.b_isinstance) sa_nil)))))) (sg_name (i := 3) sc__law_word.nd))
 (ss_cons (ss_asg (se_bin op_addA os_add (se_var (i := 3)) (se_lst (sa_cons (se_isE (tb := [("BadTown", false), ("NoCorner", false), ("NoStreet", true), ("NoRound", false), ("TooMany", false), ("BadTimes", false), ("Uneven", false), ("NotOneWay", false), ("BadDeed", false), ("Halted", false), ("BadText", false)]) (c := .ref (He.ga K "NoStreet")) (cv := .ref (He.ga K "NoStreet")) (se_var (i := 2)) (pe_glob (v := .ref (He.ga K "NoStreet")) rfl T.m_NoStreet rfl (by decide)) (fun _ r => r) T.k_NoStreet T.b_isinstance) (sa_cons (se_isE (tb := [("BadTown", false), ("NoCorner", false), ("NoStreet", false), ("NoRound", true), ("TooMany", false), ("BadTimes", false), ("Uneven", false), ("NotOneWay", false), ("BadDeed", false), ("Halted", false), ("BadText", false)]) (c := .ref (He.ga K "NoRound")) (cv := .ref (He.ga K "NoRound")) (se_var (i := 2)) (pe_glob (v := .ref (He.ga K "NoRound")) rfl T.m_NoRound rfl (by decide)) (fun _ r => r) T.k_NoRound T.b_isinstance) (sa_cons (se_isE (tb := [("BadTown", false), ("NoCorner", false), ("NoStreet", false), ("NoRound", false), ("TooMany", true), ("BadTimes", false), ("Uneven", false), ("NotOneWay", false), ("BadDeed", false), ("Halted", false), ("BadText", false)]) (c := .ref (He.ga K "TooMany")) (cv := .ref (He.ga K "TooMany")) (se_var (i := 2)) (pe_glob (v := .ref (He.ga K "TooMany")) rfl T.m_TooMany rfl (by decide)) (fun _ r => r) T.k_TooMany T.b_isinstance) sa_nil))))) (sg_name (i := 3) sc__law_word.nd))
 (ss_cons (ss_asg (se_lst (sa_cons se_str (sa_cons se_str (sa_cons se_str (sa_cons se_str (sa_cons se_str (sa_cons se_str (sa_cons se_str (sa_cons se_str (sa_cons se_str (sa_cons se_str (sa_cons se_str sa_nil)))))))))))) (sg_name (i := 4) sc__law_word.nd))
 (ss_cons (ss_if (st_w (sw_or (st_cmp (op_neA hr.units) os_ne (se_mt PySem.F.plainAttrs_list PySem.F.slot_list_count PySem.F.type_list_count mt_countF ms_count (se_var (i := 3)) (sa_cons se_bl sa_nil)) se_int (nomark _)) (sw_or1 (st_not (st_tru (se_isE (tb := [("BadTown", true), ("NoCorner", true), ("NoStreet", true), ("NoRound", true), ("TooMany", true), ("BadTimes", true), ("Uneven", true), ("NotOneWay", true), ("BadDeed", true), ("Halted", true), ("BadText", true)]) (c := .ty "ValueError") (cv := .type "ValueError") (se_var (i := 2)) (pe_bltn (v := .ty "ValueError") (u := .type "ValueError") rfl T.b_ValueError (by decide +kernel) rfl) (fun _ r => r) T.k_ValueError T.b_isinstance)))))) (ss_one (ss_ret (se_tup (sa_cons se_str (sa_cons se_non sa_nil))))) ss_nil)
 (ss_cons (ss_asg (se_ix ix_seq os_ix (se_var (i := 4)) (se_mt PySem.F.plainAttrs_list PySem.F.slot_list_index PySem.F.type_list_index mt_index ms_index (se_var (i := 3)) (sa_cons se_bl sa_nil))) (sg_name (i := 5) sc__law_word.nd))
 (ss_cons (ss_if (st_cmp (op_eqA hr.units) os_eq (se_var (i := 5)) se_str (nomark _)) (ss_one (ss_ret (se_tup (sa_cons (se_var (i := 5)) (sa_cons (se_tup (sa_cons (se_xf (cs := ["BadTown", "BadTimes", "NotOneWay", "BadDeed", "Halted"]) (se_var (i := 2)) T.f_number) (sa_cons (se_xf (cs := ["Halted"]) (se_var (i := 2)) T.f_done) sa_nil))) sa_nil))))) ss_nil)
 (ss_cons (ss_if (st_cmp (op_eqA hr.units) os_eq (se_var (i := 5)) se_str (nomark _)) (ss_one (ss_ret (se_tup (sa_cons (se_var (i := 5)) (sa_cons (se_xf (cs := ["Uneven"]) (se_var (i := 2)) T.f_corner) sa_nil))))) ss_nil)
 (ss_cons (ss_if (st_cmp (op_eqA hr.units) os_eq (se_var (i := 5)) se_str (nomark _)) (ss_one (ss_ret (se_tup (sa_cons (se_var (i := 5)) (sa_cons (se_xf (cs := ["BadText"]) (se_var (i := 2)) T.f_row) sa_nil))))) ss_nil)
 (ss_one (ss_ret (se_ifExp (st_cmp (op_inA (hr_u65 hr :)) os_in (se_var (i := 5)) (se_slice (se_var (i := 4)) so_none (so_some se_int)) (by rfl)) (se_tup (sa_cons (se_var (i := 5)) (sa_cons (se_xf (cs := ["BadTown", "BadTimes", "NotOneWay", "BadDeed", "Halted"]) (se_var (i := 2)) T.f_number) sa_nil))) (se_tup (sa_cons (se_var (i := 5)) (sa_cons se_non sa_nil)))))))))))))))))
 (ss_one (ss_ret (se_tup (sa_cons se_str (sa_cons (se_ix ix_seq os_ix (se_var (i := 1)) se_int) sa_nil)))))))
abbrev s__law_number : Stmt := topS 34
abbrev N__law_number : List Str := ["_law_word_here", ".0", "_law_sign"]
theorem sc__law_number : FnScope N__law_number ["_law_word_here"] (defScope s__law_number) := ⟨rfl, rfl, rfl, by decide +kernel, rfl, by decide +kernel, by decide +kernel⟩
theorem c__law_number (T : Tx K mg)  : Cal P w K mg base "_law_number" 1 1 F__law_number := by
  obtain ⟨fd, F⟩ := T.d__law_number
  unfold F__law_number
  refine cal_of F T.m__law_number sc__law_number (ps := ["_law_word_here"]) (k := 0) (fun _ _ _ _ _ _ us hl => match us, hl with | [_], _ => rfl) (fun cdv A outer s H E hr => ?_)
  exact (ss_cons (ss_if (st_w (sw_or (st_not (st_chain op_le op_le os_cmp os_cmp se_int (se_callB cr_len cs_len T.b_len (by decide +kernel) (sa_cons (se_var (i := 0)) sa_nil)) se_int)) (sw_or1 (st_cmp (op_neA hr.units) os_ne (se_lc (own := [(".0", 1), ("_law_sign", 2)]) (g := (.one 2)) rfl sc__law_number.nd (si_seq (se_var (i := 0))) (blkOk_by (own := [(".0", 1), ("_law_sign", 2)]) (N := N__law_number) (by kernel_rfl)) (by decide) (fun _ _ _ _ _ => (sl_one (i := 2) sc__law_number.nd)) (fun _ _ _ _ _ => (sts_one (st_cmp (op_notInA (hr_u65 hr :)) os_notIn (se_var (i := 2)) se_str (by rfl)))) (fun _ _ _ _ _ => (se_var (i := 2)))) (se_lst sa_nil) (nomark _))))) (ss_one (ss_ret se_non)) ss_nil)
 (ss_one (ss_ret (se_ifExp (st_w (sw_and (st_cmp (op_eqA hr.units) os_eq (se_ix ix_seq os_ix (se_var (i := 0)) se_int) se_str (nomark _)) (sw_and1 (st_cmp (op_neA hr.units) os_ne (se_var (i := 0)) se_str (nomark _))))) se_non (se_callTy call_int2 cs_int2 T.b_int (by decide +kernel) (sa_cons (se_var (i := 0)) sa_nil))))))
abbrev s__law_read : Stmt := topS 35
abbrev N__law_read : List Str := ["_law_text", "_law_corners", "_law_streets", "_law_lines", "_law_k", "_law_words", "_law_sign", "_law_numbers", ".0", "_law_word_here"]
theorem sc__law_read : FnScope N__law_read ["_law_text"] (defScope s__law_read) := ⟨rfl, rfl, rfl, by decide +kernel, rfl, by decide +kernel, by decide +kernel⟩
theorem c__law_read (T : Tx K mg) (C__law_number : Cal P w K mg base "_law_number" 1 1 F__law_number) : Cal P w K mg base "_law_read" 2 1 F__law_read := by
  obtain ⟨fd, F⟩ := T.d__law_read
  unfold F__law_read
  refine cal_of F T.m__law_read sc__law_read (ps := ["_law_text"]) (k := 1) (fun _ _ _ _ _ _ us hl => match us, hl with | [_], _ => rfl) (fun cdv A outer s H E hr => ?_)
  exact (ss_cons (ss_asg (se_tup (sa_cons se_int (sa_cons (se_tup sa_nil) sa_nil))) (sg_tup rfl (sgs_cons (sg_name (i := 1) sc__law_read.nd) (sgs_cons (sg_name (i := 2) sc__law_read.nd) sgs_nil))))
 (ss_cons (ss_asg (se_mt PySem.F.plainAttrs_str PySem.F.slot_str_split PySem.F.type_str_split mt_split' ms_split (se_var (i := 0)) (sa_cons se_str sa_nil)) (sg_name (i := 3) sc__law_read.nd))
 (ss_cons (ss_for (passes_of rfl) rfl (si_r1 (se_callB cr_len cs_len T.b_len (by decide +kernel) (sa_cons (se_var (i := 3)) sa_nil)) T.b_range) (sg_name (i := 4) sc__law_read.nd) (ss_cons (ss_asg (se_mt PySem.F.plainAttrs_str PySem.F.slot_str_split PySem.F.type_str_split mt_split' ms_split (se_ix ix_seq os_ix (se_var (i := 3)) (se_var (i := 4))) (sa_cons se_str sa_nil)) (sg_name (i := 5) sc__law_read.nd))
 (ss_cons (ss_asg (se_slice (se_var (i := 5)) (so_some se_int) (so_some se_int)) (sg_name (i := 6) sc__law_read.nd))
 (ss_cons (ss_setLc (i := 7) (own := [(".0", 8), ("_law_word_here", 9)]) (g := (.one 9)) rfl sc__law_read.nd (sw_true rfl rfl rfl (by decide +kernel)) (si_seq (se_bin op_addA os_add (se_ifExp (st_cmp op_gt os_cmp (se_var (i := 4)) se_int (nomark _)) (se_slice (se_var (i := 5)) so_none (so_some se_int)) (se_slice (se_var (i := 5)) (so_some se_int) (so_some se_int))) (se_slice (se_var (i := 5)) (so_some se_int) so_none))) (blkOk_by (own := [(".0", 8), ("_law_word_here", 9)]) (N := N__law_read) (by kernel_rfl)) (by decide) (fun _ _ _ _ _ => (sl_one (i := 9) sc__law_read.nd)) (fun _ _ _ _ _ => sts_nil) (fun _ _ _ _ _ => (se_callC C__law_number (hr.mono (by decide)) takes0 (sa_cons (se_var (i := 9)) sa_nil))))
 (ss_cons (ss_if (st_w (sw_or (st_cmp (op_inA (hr_u65 hr :)) os_in se_non (se_var (i := 7)) (by rfl)) (sw_or1 (st_w (sw_and (st_cmp (op_eqA hr.units) os_eq (se_var (i := 4)) se_int (nomark _)) (sw_and1 (st_w (sw_or (st_cmp (op_neA hr.units) os_ne (se_ix ix_seq os_ix (se_var (i := 5)) se_int) se_str (nomark _)) (sw_or1 (st_cmp (op_neA hr.units) os_ne (se_callB cr_len cs_len T.b_len (by decide +kernel) (sa_cons (se_var (i := 5)) sa_nil)) se_int (nomark _))))))))))) (ss_one (ss_ret (se_tup (sa_cons se_str (sa_cons (se_var (i := 4)) sa_nil))))) ss_nil)
 (ss_cons (ss_if (st_w (sw_and (st_cmp op_gt os_cmp (se_var (i := 4)) se_int (nomark _)) (sw_and1 (st_w (sw_or (st_cmp (op_neA hr.units) os_ne (se_callB cr_len cs_len T.b_len (by decide +kernel) (sa_cons (se_var (i := 5)) sa_nil)) se_int (nomark _)) (sw_or1 (st_cmp (op_notInT (hr_u65 hr :)) os_notInT (se_var (i := 6)) (se_tup (sa_cons (se_lst (sa_cons se_str sa_nil)) (sa_cons (se_lst (sa_cons se_str sa_nil)) sa_nil))) (by rfl)))))))) (ss_one (ss_ret (se_tup (sa_cons se_str (sa_cons (se_var (i := 4)) sa_nil))))) ss_nil)
 (ss_one (ss_if (st_cmp (op_eqA hr.units) os_eq (se_var (i := 4)) se_int (nomark _)) (ss_one (ss_asg (se_ix ix_seq os_ix (se_var (i := 7)) se_int) (sg_name (i := 1) sc__law_read.nd))) (ss_one (ss_asg (se_bin op_addA os_add (se_var (i := 2)) (se_tup (sa_cons (se_bin op_addA os_add (se_callTy call_tuple_of cs_tuple T.b_tuple (by decide +kernel) (sa_cons (se_var (i := 7)) sa_nil)) (se_tup (sa_cons (se_callTy call_int2 cs_int2 T.b_int (by decide +kernel) (sa_cons (se_cmp (op_eqA hr.units) os_eq (se_var (i := 6)) (se_lst (sa_cons se_str sa_nil)) (nomark _)) sa_nil)) sa_nil))) sa_nil))) (sg_name (i := 2) sc__law_read.nd)))))))))))
 (ss_one (ss_ret (se_tup (sa_cons se_str (sa_cons (se_tup (sa_cons (se_var (i := 1)) (sa_cons (se_var (i := 2)) sa_nil))) sa_nil))))))))
abbrev s__law_alike : Stmt := topS 37
abbrev N__law_alike : List Str := ["_law_found", "_law_due", "_law_same_kind", ".0", "_law_k"]
theorem sc__law_alike : FnScope N__law_alike ["_law_found", "_law_due"] (defScope s__law_alike) := ⟨rfl, rfl, rfl, by decide +kernel, rfl, by decide +kernel, by decide +kernel⟩
theorem c__law_alike_rec (T : Tx K mg)  : ∀ m : Nat, Cal P w K mg base "_law_alike" (1 + m) 2 (F__law_alike m)
  | 0 => cal_bad T.d__law_alike T.m__law_alike (ps := ["_law_found", "_law_due"]) rfl (fun _ _ _ _ _ _ us hl => match us, hl with | [_, _], _ => rfl)
  | m + 1 => by
    have C__law_alike := c__law_alike_rec T  m
    obtain ⟨fd, F⟩ := T.d__law_alike
    refine cal_of F T.m__law_alike sc__law_alike (ps := ["_law_found", "_law_due"]) (k := 1 + m) (fun _ _ _ _ _ _ us hl => match us, hl with | [_, _], _ => rfl) (fun cdv A outer s H E hr => ?_)
    exact (ss_cons (ss_if (st_tru (se_isi2 .tuple .list (se_var (i := 1)) T.b_isinstance T.b_tuple (by decide +kernel) T.b_list (by decide +kernel))) (ss_cons (ss_if (st_w (sw_or (st_cmp (op_neA hr.units) os_ne (se_isi .tuple (se_var (i := 0)) T.b_isinstance T.b_tuple (by decide +kernel)) (se_isi .tuple (se_var (i := 1)) T.b_isinstance T.b_tuple (by decide +kernel)) (nomark _)) (sw_or1 (st_not (st_tru (se_isi2 .tuple .list (se_var (i := 0)) T.b_isinstance T.b_tuple (by decide +kernel) T.b_list (by decide +kernel))))))) (ss_one (ss_ret se_bl)) ss_nil)
 (ss_cons (ss_if (st_cmp (op_neA hr.units) os_ne (se_callB cr_len cs_len T.b_len (by decide +kernel) (sa_cons (se_var (i := 0)) sa_nil)) (se_callB cr_len cs_len T.b_len (by decide +kernel) (sa_cons (se_var (i := 1)) sa_nil)) (nomark _)) (ss_one (ss_ret se_bl)) ss_nil)
 (ss_one (ss_ret (se_cmp (op_eqA hr.units) os_eq (se_lc (own := [(".0", 3), ("_law_k", 4)]) (g := (.one 4)) rfl sc__law_alike.nd (si_r1 (se_callB cr_len cs_len T.b_len (by decide +kernel) (sa_cons (se_var (i := 1)) sa_nil)) T.b_range) (blkOk_by (own := [(".0", 3), ("_law_k", 4)]) (N := N__law_alike) (by kernel_rfl)) (by decide) (fun _ _ _ _ _ => (sl_one (i := 4) sc__law_alike.nd)) (fun _ _ _ _ _ => (sts_one (st_not (st_tru (se_callC C__law_alike (hr.mono (Nat.le_refl _)) takes0 (sa_cons (se_ix ix_seq os_ix (se_var (i := 0)) (se_var (i := 4))) (sa_cons (se_ix ix_seq os_ix (se_var (i := 1)) (se_var (i := 4))) sa_nil))))))) (fun _ _ _ _ _ => (se_var (i := 4)))) (se_lst sa_nil) (nomark _)))))) ss_nil)
 (ss_cons (ss_if (st_w (sw_or (st_cmp op_isN os_isN (se_var (i := 1)) se_non (nomark _)) (sw_or1 (st_cmp op_isN os_isN (se_var (i := 0)) se_non (nomark _))))) (ss_one (ss_ret (se_and (se_cmp op_isN os_isN (se_var (i := 1)) se_non (nomark _)) (se_one (se_cmp op_isN os_isN (se_var (i := 0)) se_non (nomark _)))))) ss_nil)
 (ss_cons (ss_asg (se_cmp (op_eqA hr.units) os_eq (se_isi .str (se_var (i := 1)) T.b_isinstance T.b_str (by decide +kernel)) (se_isi .str (se_var (i := 0)) T.b_isinstance T.b_str (by decide +kernel)) (nomark _)) (sg_name (i := 2) sc__law_alike.nd))
 (ss_one (ss_ret (se_and (se_var (i := 2)) (se_and (se_cmp (op_eqA hr.units) os_eq (se_isi .bool (se_var (i := 1)) T.b_isinstance T.b_bool (by decide +kernel)) (se_isi .bool (se_var (i := 0)) T.b_isinstance T.b_bool (by decide +kernel)) (nomark _)) (se_one (se_cmp (op_eqA hr.units) os_eq (se_var (i := 0)) (se_var (i := 1)) (nomark _))))))))))
theorem c__law_alike (T : Tx K mg)  : Cal P w K mg base "_law_alike" 7 2 (F__law_alike 6) := c__law_alike_rec T  6
abbrev s_law : Stmt := topS 38
abbrev N_law : List Str := ["_law_script", "_law_row_here", "_law_turn", "_law_due", "_law_told", "_law_much", "_law_text", ".0", "_law_line"]
theorem sc_law : FnScope N_law ["_law_script"] (defScope s_law) := ⟨rfl, rfl, rfl, by decide +kernel, rfl, by decide +kernel, by decide +kernel⟩
theorem c_law (T : Tx K mg) (C__law_row : Cal P w K mg base "_law_row" 1 1 F__law_row) (C__law_town : Cal P w K mg base "_law_town" 3 4 F__law_town) (C_written : Cal P w K mg base "written" 4 1 F_written) (C__law_spoilt : Cal P w K mg base "_law_spoilt" 2 2 F__law_spoilt) (C_read : Cal P w K mg base "read" 4 1 F_read) (C__law_word : ∀ k : Nat, 1 ≤ k → Wd P w K mg base "_law_word" k 6 Fw__law_word) (C__law_read : Cal P w K mg base "_law_read" 2 1 F__law_read) (C__law_alike : Cal P w K mg base "_law_alike" 7 2 (F__law_alike 6)) (C__law_taken : Cal P w K mg base "_law_taken" 1 2 F__law_taken) (L_law : LamD K mg base ("law", none) ((("law" : Str) ++ ".<locals>.") ++ "<lambda>")) {fd : FuncData} (F : FunD K "law" "law" (defArgs (topS 38)) (defBody (topS 38)) (defScope (topS 38)) [] [] (He.fAd K ("law", none)) fd) : FOk P w K mg base 8 (He.fAd K ("law", none)) fd ["_law_script"] F_law := by
  unfold F_law
  refine fok_ofC (p := ("law", none)) F sc_law (ps := ["_law_script"]) (k := 7) (fun A outer s H E hr => ?_)
  exact (ss_cons (ss_asg (se_callC C__law_row (hr.mono (by decide)) (takes_of rfl rfl rfl rfl) (sa_cons (se_var (i := 0)) sa_nil)) (sg_name (i := 1) sc_law.nd))
 (ss_cons (ss_for (passes_of rfl) rfl (si_r1 se_int T.b_range) (sg_name (i := 2) sc_law.nd) (ss_cons (ss_asg (se_callC C_written (hr.mono (by decide)) (takes_of rfl rfl rfl rfl) (sa_cons (se_callC C__law_town (hr.mono (by decide)) (takes_of rfl rfl rfl rfl) (sa_cons (se_var (i := 1)) (sa_cons se_int (sa_cons se_int (sa_cons se_int sa_nil))))) sa_nil)) (sg_name (i := 6) sc_law.nd))
 (ss_cons (ss_asg (se_callC C__law_spoilt (hr.mono (by decide)) (takes_of rfl rfl rfl rfl) (sa_cons (se_var (i := 1)) (sa_cons (se_lc (own := [(".0", 7), ("_law_line", 8)]) (g := (.one 8)) rfl sc_law.nd (si_seq (se_mt PySem.F.plainAttrs_str PySem.F.slot_str_split PySem.F.type_str_split mt_split' ms_split (se_var (i := 6)) (sa_cons se_str sa_nil))) (blkOk_by (own := [(".0", 7), ("_law_line", 8)]) (N := N_law) (by kernel_rfl)) (by decide) (fun _ _ _ _ _ => (sl_one (i := 8) sc_law.nd)) (fun _ _ _ _ _ => sts_nil) (fun _ _ _ _ _ => (se_mt PySem.F.plainAttrs_str PySem.F.slot_str_split PySem.F.type_str_split mt_split' ms_split (se_var (i := 8)) (sa_cons se_str sa_nil)))) sa_nil))) (sg_name (i := 6) sc_law.nd))
 (ss_cons (ss_par (i := 3) (j := 4) rfl sc_law.nd (sa_cons (se_callC C__law_read (hr.mono (by decide)) (takes_of rfl rfl rfl rfl) (sa_cons (se_var (i := 6)) sa_nil)) (sa_cons (se_word (k := 5) (k2 := 4) (ds := none) (C__law_word 5 (by decide)) L_law.tb rfl L_law.mem L_law.uniq (hr.mono (by decide)) (takes_of rfl rfl rfl rfl) (lamT_by (by kernel_rfl)) (fun _ _ _ _ _ => rfl) rfl (by decide) (fun A outer s H E f cd hr => (se_callC C_read (hr.mono (by decide)) (takes_of rfl rfl rfl rfl) (sa_cons (se_var (i := 6)) sa_nil)))) sa_nil)))
 (ss_one (ss_if (st_cmp (op_eqA hr.units) os_eq (se_ix ix_seq os_ix (se_var (i := 3)) se_int) se_str (nomark _)) (ss_one (ss_if (st_not (st_tru (se_callC C__law_alike (hr.mono (by decide)) (takes_of rfl rfl rfl rfl) (sa_cons (se_var (i := 4)) (sa_cons (se_var (i := 3)) sa_nil))))) (ss_one (ss_ret se_bl)) ss_nil)) (ss_one (ss_if (st_w (sw_or (st_cmp (op_notInA (hr_u65 hr :)) os_notIn (se_ix ix_seq os_ix (se_var (i := 4)) se_int) (se_tup (sa_cons se_str (sa_cons se_str sa_nil))) (by rfl)) (sw_or1 (st_w (sw_and (st_cmp (op_eqA hr.units) os_eq (se_ix ix_seq os_ix (se_var (i := 4)) se_int) se_str (nomark _)) (sw_and1 (st_not (st_tru (se_callC C__law_alike (hr.mono (by decide)) (takes_of rfl rfl rfl rfl) (sa_cons (se_ix ix_seq os_ix (se_var (i := 4)) se_int) (sa_cons (se_ix ix_seq os_ix (se_var (i := 3)) se_int) sa_nil))))))))))) (ss_one (ss_ret se_bl)) ss_nil))))))))
 (ss_cons (ss_asg (se_bin op_addA os_add se_str (se_bin op_mulS os_mulS se_str (se_bin op_addA os_add se_int (se_callC C__law_taken (hr.mono (by decide)) (takes_of rfl rfl rfl rfl) (sa_cons (se_var (i := 1)) (sa_cons se_int sa_nil)))))) (sg_name (i := 5) sc_law.nd))
 (ss_cons (ss_if (st_cmp (op_neA hr.units) os_ne (se_word (k := 5) (k2 := 4) (ds := none) (C__law_word 5 (by decide)) L_law.tb rfl L_law.mem L_law.uniq (hr.mono (by decide)) (takes_of rfl rfl rfl rfl) (lamT_by (by kernel_rfl)) (fun _ _ _ _ _ => rfl) rfl (by decide) (fun A outer s H E f cd hr => (se_callC C_read (hr.mono (by decide)) (takes_of rfl rfl rfl rfl) (sa_cons (se_var (i := 5)) sa_nil)))) (se_tup (sa_cons se_str (sa_cons se_int sa_nil))) (nomark _)) (ss_one (ss_ret se_bl)) ss_nil)
 (ss_one (ss_ret (se_cmp (op_eqA hr.units) os_eq (se_word (k := 5) (k2 := 4) (ds := none) (C__law_word 5 (by decide)) L_law.tb rfl L_law.mem L_law.uniq (hr.mono (by decide)) (takes_of rfl rfl rfl rfl) (lamT_by (by kernel_rfl)) (fun _ _ _ _ _ => rfl) rfl (by decide) (fun A outer s H E f cd hr => (se_callC C_read (hr.mono (by decide)) (takes_of rfl rfl rfl rfl) (sa_cons se_str sa_nil)))) (se_tup (sa_cons se_str (sa_cons se_int sa_nil))) (nomark _))))))))
end
theorem exAt {K : PySem.W.Frag} (c : exD K = true) (i : Nat) {f : PySem.W.Frag → Bool} (h : exL[i]? = some f := by rfl) : f K = true := List.all_eq_true.mp c f (List.mem_of_getElem? h)
theorem tx {w : World} {K : PySem.W.Frag} {h : Heap} {mg : Str → Option Value} (X : K.In h) (G : h.Ns mainGlobals mg) (cX : He.SaysX faD fnD tsD tfD exD w h K) : Tx K mg where
  m__law_row := He.glo_ok X G (cX.t.d.fact 0 (f := .glo "_law_row") rfl)
  m__law_taken := He.glo_ok X G (cX.t.d.fact 1 (f := .glo "_law_taken") rfl)
  m__law_street := He.glo_ok X G (cX.t.d.fact 2 (f := .glo "_law_street") rfl)
  m__law_town := He.glo_ok X G (cX.t.d.fact 3 (f := .glo "_law_town") rfl)
  m_is_number := He.glo_ok X G (cX.t.d.fact 4 (f := .glo "is_number") rfl)
  m_is_street := He.glo_ok X G (cX.t.d.fact 5 (f := .glo "is_street") rfl)
  m_need_town := He.glo_ok X G (cX.t.d.fact 6 (f := .glo "need_town") rfl)
  m_written := He.glo_ok X G (cX.t.d.fact 7 (f := .glo "written") rfl)
  m__law_spoilt := He.glo_ok X G (cX.t.d.fact 8 (f := .glo "_law_spoilt") rfl)
  m_number_of := He.glo_ok X G (cX.t.d.fact 9 (f := .glo "number_of") rfl)
  m_read := He.glo_ok X G (cX.t.d.fact 10 (f := .glo "read") rfl)
  m__law_word := He.glo_ok X G (cX.t.d.fact 11 (f := .glo "_law_word") rfl)
  m__law_number := He.glo_ok X G (cX.t.d.fact 12 (f := .glo "_law_number") rfl)
  m__law_read := He.glo_ok X G (cX.t.d.fact 13 (f := .glo "_law_read") rfl)
  m__law_alike := He.glo_ok X G (cX.t.d.fact 14 (f := .glo "_law_alike") rfl)
  m_law := He.glo_ok X G (cX.t.d.fact 15 (f := .glo "law") rfl)
  d__law_row := cX.t.d.def_ 0 (d := dd__law_row) rfl
  d__law_taken := cX.t.d.def_ 1 (d := dd__law_taken) rfl
  d__law_street := cX.t.d.def_ 2 (d := dd__law_street) rfl
  d__law_town := cX.t.d.def_ 3 (d := dd__law_town) rfl
  d_is_number := cX.t.d.def_ 4 (d := dd_is_number) rfl
  d_is_street := cX.t.d.def_ 5 (d := dd_is_street) rfl
  d_need_town := cX.t.d.def_ 6 (d := dd_need_town) rfl
  d_written := cX.t.d.def_ 7 (d := dd_written) rfl
  d__law_spoilt := cX.t.d.def_ 8 (d := dd__law_spoilt) rfl
  d_number_of := cX.t.d.def_ 9 (d := dd_number_of) rfl
  d_read := cX.t.d.def_ 10 (d := dd_read) rfl
  d__law_word := cX.t.d.def_ 11 (d := dd__law_word) rfl
  d__law_number := cX.t.d.def_ 12 (d := dd__law_number) rfl
  d__law_read := cX.t.d.def_ 13 (d := dd__law_read) rfl
  d__law_alike := cX.t.d.def_ 14 (d := dd__law_alike) rfl
  d_law := cX.t.d.def_ 15 (d := dd_law) rfl
  b_ValueError := He.free_ok X G (cX.t.d.fact 16 (f := .free "ValueError") rfl)
  b_any := He.free_ok X G (cX.t.d.fact 17 (f := .free "any") rfl)
  b_bool := He.free_ok X G (cX.t.d.fact 18 (f := .free "bool") rfl)
  b_enumerate := He.free_ok X G (cX.t.d.fact 19 (f := .free "enumerate") rfl)
  b_int := He.free_ok X G (cX.t.d.fact 20 (f := .free "int") rfl)
  b_isinstance := He.free_ok X G (cX.t.d.fact 21 (f := .free "isinstance") rfl)
  b_len := He.free_ok X G (cX.t.d.fact 22 (f := .free "len") rfl)
  b_list := He.free_ok X G (cX.t.d.fact 23 (f := .free "list") rfl)
  b_range := He.free_ok X G (cX.t.d.fact 24 (f := .free "range") rfl)
  b_str := He.free_ok X G (cX.t.d.fact 25 (f := .free "str") rfl)
  b_tuple := He.free_ok X G (cX.t.d.fact 26 (f := .free "tuple") rfl)
  g_FIGURES := He.str_ok X G (cX.t.d.fact 27 (f := .str "FIGURES" "0123456789") rfl)
  g_MOST_CORNERS := He.int_ok X G (cX.t.d.fact 28 (f := .int "MOST_CORNERS" 9) rfl)
  g_MOST_FIGURES := He.int_ok X G (cX.t.d.fact 29 (f := .int "MOST_FIGURES" 2) rfl)
  g_MOST_LONG := He.int_ok X G (cX.t.d.fact 30 (f := .int "MOST_LONG" 99) rfl)
  g_MOST_STREETS := He.int_ok X G (cX.t.d.fact 31 (f := .int "MOST_STREETS" 16) rfl)
  g_TOWN := He.str_ok X G (cX.t.d.fact 32 (f := .str "TOWN" "town") rfl)
  t_SIGNS := gtupB_ok X G (exAt cX.more 0)
  m_BadDeed := He.glo_ok X G (cX.t.d.fact 33 (f := .glo "BadDeed") rfl)
  m_BadText := He.glo_ok X G (cX.t.d.fact 34 (f := .glo "BadText") rfl)
  m_BadTimes := He.glo_ok X G (cX.t.d.fact 35 (f := .glo "BadTimes") rfl)
  m_BadTown := He.glo_ok X G (cX.t.d.fact 36 (f := .glo "BadTown") rfl)
  m_Halted := He.glo_ok X G (cX.t.d.fact 37 (f := .glo "Halted") rfl)
  m_NoCorner := He.glo_ok X G (cX.t.d.fact 38 (f := .glo "NoCorner") rfl)
  m_NoRound := He.glo_ok X G (cX.t.d.fact 39 (f := .glo "NoRound") rfl)
  m_NoStreet := He.glo_ok X G (cX.t.d.fact 40 (f := .glo "NoStreet") rfl)
  m_NotOneWay := He.glo_ok X G (cX.t.d.fact 41 (f := .glo "NotOneWay") rfl)
  m_StreetError := He.glo_ok X G (cX.t.d.fact 42 (f := .glo "StreetError") rfl)
  m_TooMany := He.glo_ok X G (cX.t.d.fact 43 (f := .glo "TooMany") rfl)
  m_Uneven := He.glo_ok X G (cX.t.d.fact 44 (f := .glo "Uneven") rfl)
  e_StreetError := xbaB_ok (exAt cX.more 1)
  x_BadText := xinB_ok (exAt cX.more 2)
  i_BadText := cX.t.d.def_ 16 (d := di_BadText) rfl
  x_BadTown := xinB_ok (exAt cX.more 3)
  i_BadTown := cX.t.d.def_ 17 (d := di_BadTown) rfl
  k_BadDeed := isTB_ok (exAt cX.more 4)
  k_BadText := isTB_ok (exAt cX.more 5)
  k_BadTimes := isTB_ok (exAt cX.more 6)
  k_BadTown := isTB_ok (exAt cX.more 7)
  k_Halted := isTB_ok (exAt cX.more 8)
  k_NoCorner := isTB_ok (exAt cX.more 9)
  k_NoRound := isTB_ok (exAt cX.more 10)
  k_NoStreet := isTB_ok (exAt cX.more 11)
  k_NotOneWay := isTB_ok (exAt cX.more 12)
  k_TooMany := isTB_ok (exAt cX.more 13)
  k_Uneven := isTB_ok (exAt cX.more 14)
  k_ValueError := isTB_ok (exAt cX.more 15)
  x_exm := exmTB_ok (exAt cX.more 16)
  f_corner := fldTB_ok (exAt cX.more 17)
  f_done := fldTB_ok (exAt cX.more 18)
  f_number := fldTB_ok (exAt cX.more 19)
  f_row := fldTB_ok (exAt cX.more 20)
def ctL (K : PySem.W.Frag) : List ((Addr × Addr) × Str) := [(He.cT K ("law", none), (("law" : Str) ++ ".<locals>.") ++ "<lambda>")]
theorem allL {K : PySem.W.Frag} {h : Heap} {mg : Str → Option Value} {P : Program} {w : World} {f : Addr} (X : K.In h) (G : h.Ns mainGlobals mg) (hfa : mg ("law" : Str) = some (.ref f)) (c : He.SaysX faD fnD tsD tfD exD w h K) :
    ∃ fd : FuncData, (∀ (s : Shared) (v : Value), BindsTo s fd ⟨[v], []⟩ [("_law_script", v)]) ∧ ∀ base : Heap, K.In base → base.Ns mainGlobals mg → (∀ p ∈ ctL K, LamX.TabB base mg p.1.1 p.1.2) → @FOk (ltOf (ctL K)) (@wbT (ltOf (ctL K))) P w K mg base 8 f fd ["_law_script"] F_law := by
  letI : LT := ltOf (ctL K)
  letI : WB := wbT
  have T := tx X G c
  have e := hfa.symm.trans T.m_law
  cases e
  obtain ⟨fd, F⟩ := T.d_law
  have b := FunD.bindsA (ps := ["_law_script"]) F fun _ _ _ _ _ _ us hl => match us, hl with | [_], _ => rfl
  refine ⟨fd, fun s v => b s [v] rfl, fun base _ _ hTB => ?_⟩
  have L_law : LamD K mg base ("law", none) ((("law" : Str) ++ ".<locals>.") ++ "<lambda>") := ⟨hTB _ (List.mem_of_getElem? (show (ctL K)[0]? = some _ from rfl)), List.mem_of_getElem? (show (ltOf (ctL K)).T[0]? = some _ from rfl), fun z hz hq => by have hz : z ∈ (ctL K).map (fun p => (p.1.2, p.2)) := hz; simp only [ctL, List.map_cons, List.map_nil, List.mem_cons, List.not_mem_nil, or_false] at hz; rw [hz]⟩
  have C__law_row := c__law_row (P := P) (w := w) (base := base) T 
  have C__law_taken := c__law_taken (P := P) (w := w) (base := base) T 
  have C__law_street := c__law_street (P := P) (w := w) (base := base) T C__law_taken
  have C__law_town := c__law_town (P := P) (w := w) (base := base) T C__law_taken C__law_street
  have C_is_number := c_is_number (P := P) (w := w) (base := base) T 
  have C_is_street := c_is_street (P := P) (w := w) (base := base) T C_is_number
  have C_need_town := c_need_town (P := P) (w := w) (base := base) T C_is_number C_is_street
  have C_written := c_written (P := P) (w := w) (base := base) T C_need_town
  have C__law_spoilt := c__law_spoilt (P := P) (w := w) (base := base) T C__law_taken
  have C_number_of := c_number_of (P := P) (w := w) (base := base) T 
  have C_read := c_read (P := P) (w := w) (base := base) T C_number_of C_need_town
  have C__law_word := c__law_word (P := P) (w := w) (base := base) T
  have C__law_number := c__law_number (P := P) (w := w) (base := base) T 
  have C__law_read := c__law_read (P := P) (w := w) (base := base) T C__law_number
  have C__law_alike := c__law_alike (P := P) (w := w) (base := base) T 
  exact c_law T C__law_row C__law_town C_written C__law_spoilt C_read C__law_word C__law_read C__law_alike C__law_taken L_law F
end Lw

namespace Sm
open PySem L2
section
variable {N B C : Sl → Mem → Prop} {R : Val → Mem → Prop} {Es : Ex → Sl → Mem → Prop} {E : Ex → Mem → Prop} {Qv : Val → Mem → Prop} {nxt : Nat → Mem → Option (Option Val)} {g : GF} {body : SF} {e : Sl} {M : Mem}
theorem wp_forG (l : List Val) (I : Nat → Sl → Mem → Prop) (hn : ∀ i e M, I i e M → nxt i M = some l[i]?)
    (hs : ∀ i x e M, l[i]? = some x → I i e M → (g x e M).wp (fun e1 M1 => (body e1 M1).wp (I (i + 1)) R N (I (i + 1)) Es) Es) (hd : ∀ e M, I l.length e M → N e M) :
    ∀ (m i : Nat) (e : Sl) (M : Mem), l.length < m + i → i ≤ l.length → I i e M → (forG nxt g body m i e M).wp N R B C Es
  | 0, i, e, M, h1, h2, _ => absurd h1 (by omega)
  | m + 1, i, e, M, h1, h2, hI => by
    unfold forG
    rw [hn i e M hI]
    cases hx : l[i]? with
    | none =>
      have : l.length ≤ i := List.getElem?_eq_none_iff.mp hx
      have e1 : i = l.length := by omega
      subst e1
      exact hd e M hI
    | some x =>
      have hlt : i < l.length := (List.getElem?_eq_some_iff.mp hx).1
      have := hs i x e M hx hI
      simp only [wp_gtoS]
      cases hg : g x e M with
      | nx e1 M1 =>
        rw [hg] at this
        simp only [wp_gnx] at this ⊢
        cases hb : body e1 M1 with
        | nx e2 M2 => rw [hb] at this; exact wp_forG l I hn hs hd m (i + 1) e2 M2 (by omega) (by omega) this
        | ct e2 M2 => rw [hb] at this; exact wp_forG l I hn hs hd m (i + 1) e2 M2 (by omega) (by omega) this
        | bk e2 M2 => rw [hb] at this; exact this
        | rt x M2 => rw [hb] at this; exact this
        | ex x e2 M2 => rw [hb] at this; exact this
        | bad => rw [hb] at this; exact this
      | ex x e1 M1 => rw [hg] at this; exact this
      | bad => rw [hg] at this; exact this
theorem wp_whG {t : TF} (I : Sl → Mem → Prop) (μ : Sl → Mem → Nat)
    (hs : ∀ e M, I e M → (t e M).wp (fun b M1 => if b = true then (body e M1).wp (fun e2 M2 => I e2 M2 ∧ μ e2 M2 < μ e M) R N (fun e2 M2 => I e2 M2 ∧ μ e2 M2 < μ e M) Es else N e M1) (fun x M => Es x e M)) :
    ∀ (m : Nat) (e : Sl) (M : Mem), μ e M < m → I e M → (whG t body m e M).wp N R B C Es
  | 0, e, M, h1, _ => absurd h1 (by omega)
  | m + 1, e, M, h1, hI => by
    unfold whG
    rw [wp_toS]
    refine Out.wp_mono (hs e M hI) (fun b M1 h => ?_) fun _ _ z => z
    by_cases hb : b = true
    · rw [if_pos hb] at h ⊢
      cases hbd : body e M1 with
      | nx e2 M2 => rw [hbd] at h; exact wp_whG I μ hs m e2 M2 (by have := h.2; omega) h.1
      | ct e2 M2 => rw [hbd] at h; exact wp_whG I μ hs m e2 M2 (by have := h.2; omega) h.1
      | bk e2 M2 => rw [hbd] at h; exact h
      | rt x M2 => rw [hbd] at h; exact h
      | ex x e2 M2 => rw [hbd] at h; exact h
      | bad => rw [hbd] at h; exact h
    · rw [if_neg hb] at h ⊢; exact h
theorem wp_while {n : Nat} {t : TF} (I : Sl → Mem → Prop) (μ : Sl → Mem → Nat) (h0 : I e M) (hm : μ e M < n)
    (hs : ∀ e M, I e M → (t e M).wp (fun b M1 => if b = true then (body e M1).wp (fun e2 M2 => I e2 M2 ∧ μ e2 M2 < μ e M) R N (fun e2 M2 => I e2 M2 ∧ μ e2 M2 < μ e M) Es else N e M1) (fun x M => Es x e M)) : (sWhile n t body e M).wp N R B C Es :=
  wp_whG I μ hs n e M hm h0
/-! what is walked -/
@[simp] theorem wp_sFor (f : IF) : (sFor f g body e M).wp N R B C Es = (f e M).wp (fun it M1 => (forG it.nxt g body it.fuel 0 e M1).wp N R B C Es) (fun x M1 => Es x e M1) := by unfold sFor; rw [wp_toS]
@[simp] theorem wp_iSq {Qi : Itr → Mem → Prop} (f : EF) : (iSq f e M).wp Qi E = (f e M).wp (fun x M1 => ∃ it, itSeq x M1 = some it ∧ Qi it M1) E := by
  unfold iSq iOf; simp only [wp_bind]; congr 1; funext x M1; cases itSeq x M1 <;> simp
@[simp] theorem wp_iEn {Qi : Itr → Mem → Prop} (f : EF) : (iEn f e M).wp Qi E = (f e M).wp (fun x M1 => ∃ it, itEnum x M1 = some it ∧ Qi it M1) E := by
  unfold iEn iOf; simp only [wp_bind]; congr 1; funext x M1; cases itEnum x M1 <;> simp
@[simp] theorem wp_iZp {Qi : Itr → Mem → Prop} (f f2 : EF) : (iZp f f2 e M).wp Qi E = (f e M).wp (fun x M1 => (f2 e M1).wp (fun y M2 => ∃ it, itZip x y M2 = some it ∧ Qi it M2) E) E := by
  unfold iZp; simp only [wp_bind]; congr 1; funext x M1; congr 1; funext y M2; cases itZip x y M2 <;> simp
@[simp] theorem wp_iR1 {Qi : Itr → Mem → Prop} (f : EF) : (iR1 f e M).wp Qi E = (f e M).wp (fun x M1 => ∃ j, x = .int j ∧ (-(2 ^ 62) ≤ j ∧ j < 2 ^ 62) ∧ Qi (itRng 0 j.toNat) M1) E := by
  unfold iR1; simp only [wp_bind]; congr 1; funext x M1; cases x <;> simp [wp_ite]
@[simp] theorem wp_iR2 {Qi : Itr → Mem → Prop} (f f2 : EF) : (iR2 f f2 e M).wp Qi E = (f e M).wp (fun x M1 => (f2 e M1).wp (fun y M2 => ∃ i j, x = .int i ∧ y = .int j ∧ (-(2 ^ 62) ≤ i ∧ i < 2 ^ 62 ∧ -(2 ^ 62) ≤ j ∧ j < 2 ^ 62) ∧ Qi (itRng i (j - i).toNat) M2) E) E := by
  unfold iR2; simp only [wp_bind]; congr 1; funext x M1; congr 1; funext y M2; cases x <;> cases y <;> simp [wp_ite]
theorem lenM_eq (n : Nat) : lenM n M = (getL M n).map List.length := by
  unfold lenM getL
  cases M[n]? with
  | none => rfl
  | some c => cases c <;> rfl
@[simp] theorem itSeq_t (l : List Val) : itSeq (.tup l) M = some (itTup l) := rfl
@[simp] theorem itSeq_f (l : List Int) : itSeq (.frz l) M = some (itFrz l) := rfl
@[simp] theorem itSeq_s (l : Str) : itSeq (.str l) M = some (itStr l) := rfl
theorem itSeq_l {n : Nat} {l : List Val} (h : getL M n = some l) : itSeq (.loc n) M = some (itLst n l.length) := by show (lenM n M).map _ = _; rw [lenM_eq, h]; rfl
@[simp] theorem itEnum_t (l : List Val) : itEnum (.tup l) M = some (itNum (itTup l)) := rfl
theorem itEnum_l {n : Nat} {l : List Val} (h : getL M n = some l) : itEnum (.loc n) M = some (itNum (itLst n l.length)) := by show (lenM n M).map _ = _; rw [lenM_eq, h]; rfl
@[simp] theorem itZip_t (l m : List Val) : itZip (.tup l) (.tup m) M = some (itZ (itTup l) (itTup m)) := rfl
theorem itZip_l {n k : Nat} {l m : List Val} (h : getL M n = some l) (h' : getL M k = some m) : itZip (.loc n) (.loc k) M = some (itZ (itLst n l.length) (itLst k m.length)) := by
  unfold itZip; dsimp only; rw [lenM_eq, lenM_eq, h, h']; rfl
/-- over a tuple -/
theorem wp_for_tup {l : List Val} (I : Nat → Sl → Mem → Prop) (h0 : I 0 e M)
    (hs : ∀ i x e M, l[i]? = some x → I i e M → (g x e M).wp (fun e1 M1 => (body e1 M1).wp (I (i + 1)) R N (I (i + 1)) Es) Es) (hd : ∀ e M, I l.length e M → N e M) : (forG (itTup l).nxt g body (itTup l).fuel 0 e M).wp N R B C Es :=
  wp_forG l I (fun _ _ _ _ => rfl) hs hd _ 0 e M (Nat.lt_succ_self _) (Nat.zero_le _) h0
/-- over a list that stays -/
theorem wp_for_lst {n b : Nat} {l : List Val} (I : Nat → Sl → Mem → Prop) (hb : l.length ≤ b) (hl : ∀ i e M, I i e M → getL M n = some l) (h0 : I 0 e M)
    (hs : ∀ i x e M, l[i]? = some x → I i e M → (g x e M).wp (fun e1 M1 => (body e1 M1).wp (I (i + 1)) R N (I (i + 1)) Es) Es) (hd : ∀ e M, I l.length e M → N e M) : (forG (itLst n b).nxt g body (itLst n b).fuel 0 e M).wp N R B C Es := by
  refine wp_forG l I (fun i e M h => ?_) hs hd _ 0 e M (by show _ < b + 1 + 0; omega) (Nat.zero_le _) h0
  have := getL_ok (hl i e M h)
  show (match M[n]? with | some (.lst l) => some l[i]? | _ => none) = _
  rw [this]
/-- the ints of a range -/
def rngL (lo : Int) (n : Nat) : List Val := (List.range n).map fun i => Val.int (lo + (i : Nat))
theorem rngL_get (lo : Int) (n i : Nat) : (rngL lo n)[i]? = if i < n then some (.int (lo + i)) else none := by
  unfold rngL
  by_cases h : i < n
  · simp [h]
  · simp [h]
@[simp] theorem rngL_length (lo : Int) (n : Nat) : (rngL lo n).length = n := by simp [rngL]
theorem wp_for_rng {lo : Int} {n : Nat} (I : Nat → Sl → Mem → Prop) (h0 : I 0 e M)
    (hs : ∀ i e M, i < n → I i e M → (g (.int (lo + i)) e M).wp (fun e1 M1 => (body e1 M1).wp (I (i + 1)) R N (I (i + 1)) Es) Es) (hd : ∀ e M, I n e M → N e M) : (forG (itRng lo n).nxt g body (itRng lo n).fuel 0 e M).wp N R B C Es := by
  refine wp_forG (rngL lo n) I (fun i e M _ => by rw [rngL_get]; rfl) (fun i x e M hx h => ?_) (fun e M h => hd e M (by simpa using h)) _ 0 e M (by rw [rngL_length]; exact Nat.lt_succ_self _) (Nat.zero_le _) h0
  rw [rngL_get] at hx
  split at hx
  · rename_i hi; cases hx; exact hs i e M hi h
  · cases hx
/-- over a list of the script -/
theorem wp_for_frz {l : List Int} (I : Nat → Sl → Mem → Prop) (h0 : I 0 e M)
    (hs : ∀ i x e M, l[i]? = some x → I i e M → (g (.int x) e M).wp (fun e1 M1 => (body e1 M1).wp (I (i + 1)) R N (I (i + 1)) Es) Es) (hd : ∀ e M, I l.length e M → N e M) : (forG (itFrz l).nxt g body (itFrz l).fuel 0 e M).wp N R B C Es := by
  refine wp_forG (l.map Val.int) I (fun i e M _ => by rw [List.getElem?_map]; rfl) (fun i x e M hx h => ?_) (fun e M h => hd e M (by simpa using h)) _ 0 e M (by rw [List.length_map]; exact Nat.lt_succ_self _) (Nat.zero_le _) h0
  rw [List.getElem?_map] at hx
  cases hi : l[i]? with
  | none => rw [hi] at hx; cases hx
  | some y => rw [hi] at hx; cases hx; exact hs i y e M hi h
/-- items with their numbers -/
def numL (l : List Val) : List Val := l.mapIdx fun i x => .tup [.int (i : Nat), x]
theorem numL_get (l : List Val) (i : Nat) : (numL l)[i]? = l[i]?.map fun x => Val.tup [.int (i : Nat), x] := by unfold numL; rw [List.getElem?_mapIdx]
@[simp] theorem numL_length (l : List Val) : (numL l).length = l.length := by simp [numL]
theorem wp_for_enumT {l : List Val} (I : Nat → Sl → Mem → Prop) (h0 : I 0 e M)
    (hs : ∀ i x e M, l[i]? = some x → I i e M → (g (.tup [.int (i : Nat), x]) e M).wp (fun e1 M1 => (body e1 M1).wp (I (i + 1)) R N (I (i + 1)) Es) Es) (hd : ∀ e M, I l.length e M → N e M) : (forG (itNum (itTup l)).nxt g body (itNum (itTup l)).fuel 0 e M).wp N R B C Es := by
  refine wp_forG (numL l) I (fun i e M _ => by rw [numL_get]; rfl) (fun i x e M hx h => ?_) (fun e M h => hd e M (by simpa using h)) _ 0 e M (by rw [numL_length]; exact Nat.lt_succ_self _) (Nat.zero_le _) h0
  rw [numL_get] at hx
  cases hi : l[i]? with
  | none => rw [hi] at hx; cases hx
  | some y => rw [hi] at hx; cases hx; exact hs i y e M hi h
theorem wp_for_enumL {n b : Nat} {l : List Val} (I : Nat → Sl → Mem → Prop) (hb : l.length ≤ b) (hl : ∀ i e M, I i e M → getL M n = some l) (h0 : I 0 e M)
    (hs : ∀ i x e M, l[i]? = some x → I i e M → (g (.tup [.int (i : Nat), x]) e M).wp (fun e1 M1 => (body e1 M1).wp (I (i + 1)) R N (I (i + 1)) Es) Es) (hd : ∀ e M, I l.length e M → N e M) : (forG (itNum (itLst n b)).nxt g body (itNum (itLst n b)).fuel 0 e M).wp N R B C Es := by
  refine wp_forG (numL l) I (fun i e M h => ?_) (fun i x e M hx h => ?_) (fun e M h => hd e M (by simpa using h)) _ 0 e M (by rw [numL_length]; show _ < b + 1 + 0; omega) (Nat.zero_le _) h0
  · have := getL_ok (hl i e M h)
    show Option.map _ (match M[n]? with | some (.lst l) => some l[i]? | _ => none) = _
    rw [this, numL_get]; rfl
  · rw [numL_get] at hx
    cases hi : l[i]? with
    | none => rw [hi] at hx; cases hx
    | some y => rw [hi] at hx; cases hx; exact hs i y e M hi h
theorem wp_for_zipT {l m : List Val} (hlm : l.length = m.length) (I : Nat → Sl → Mem → Prop) (h0 : I 0 e M)
    (hs : ∀ i x y e M, l[i]? = some x → m[i]? = some y → I i e M → (g (.tup [x, y]) e M).wp (fun e1 M1 => (body e1 M1).wp (I (i + 1)) R N (I (i + 1)) Es) Es) (hd : ∀ e M, I l.length e M → N e M) : (forG (itZ (itTup l) (itTup m)).nxt g body (itZ (itTup l) (itTup m)).fuel 0 e M).wp N R B C Es := by
  refine wp_forG ((l.zip m).map fun p => Val.tup [p.1, p.2]) I (fun i e M _ => ?_) (fun i x e M hx h => ?_) (fun e M h => hd e M (by simpa [hlm] using h)) _ 0 e M (by simp [hlm]; show _ < l.length + 1; omega) (Nat.zero_le _) h0
  · show (match some l[i]?, some m[i]? with
      | some (some x), some (some y) => some (some (Val.tup [x, y]))
      | some none, some _ => some none
      | some _, some none => some none
      | _, _ => none) = _
    by_cases hi : i < l.length
    · have hi' : i < m.length := by omega
      rw [List.getElem?_map, List.getElem?_eq_getElem (l := l.zip m) (by rw [List.length_zip]; omega), List.getElem_zip]
      simp [hi, hi']
    · have hi' : ¬ i < m.length := by omega
      rw [List.getElem?_map, List.getElem?_eq_none (l := l.zip m) (by rw [List.length_zip]; omega)]
      simp [hi, hi']
  · by_cases hi : i < l.length
    · have hi' : i < m.length := by omega
      rw [List.getElem?_map, List.getElem?_eq_getElem (by rw [List.length_zip]; omega), List.getElem_zip] at hx
      cases hx
      exact hs i l[i] m[i] e M (List.getElem?_eq_getElem hi) (List.getElem?_eq_getElem hi') h
    · rw [List.getElem?_map, List.getElem?_eq_none (l := l.zip m) (by rw [List.length_zip]; omega)] at hx
      cases hx
/-! comprehensions -/
@[simp] theorem wp_eLc (f : IF) (g : Tg) (t : TF) (el : EF) (vs : List Nat) : (eLc f g t el vs e M).wp Qv E = (f e M).wp (fun it M1 => (lcG it.nxt g t el M1.length (wipeS e vs) it.fuel 0 (M1 ++ [.lst []])).wp Qv E) E := by unfold eLc; rw [wp_bind]
theorem wp_lcG {g : Tg} {t : TF} {el : EF} {D : Nat} (l : List Val) (I : Nat → Mem → Prop) (hn : ∀ i M, I i M → nxt i M = some l[i]?)
    (hs : ∀ i x M, l[i]? = some x → I i M → ∃ e1, g.put x e = some e1 ∧ (t e1 M).wp (fun b M1 => if b = true then (el e1 M1).wp (fun y M2 => ∃ acc, getL M2 D = some acc ∧ acc.length < sizeLine ∧ I (i + 1) (M2.set D (.lst (acc ++ [y])))) noE else I (i + 1) M1) noE)
    (hd : ∀ M, I l.length M → Qv (.loc D) M) : ∀ (m i : Nat) (M : Mem), l.length < m + i → i ≤ l.length → I i M → (lcG nxt g t el D e m i M).wp Qv E
  | 0, i, M, h1, h2, _ => absurd h1 (by omega)
  | m + 1, i, M, h1, h2, hI => by
    unfold lcG
    rw [hn i M hI]
    cases hx : l[i]? with
    | none =>
      have : l.length ≤ i := List.getElem?_eq_none_iff.mp hx
      have e1 : i = l.length := by omega
      subst e1
      exact hd M hI
    | some x =>
      have hlt : i < l.length := (List.getElem?_eq_some_iff.mp hx).1
      obtain ⟨e1, hp, h⟩ := hs i x M hx hI
      dsimp only
      rw [hp]
      dsimp only
      cases ht : t e1 M with
      | bad => rw [ht] at h; exact h.elim
      | ex _ _ => rw [ht] at h; exact h.elim
      | ok b M1 =>
        rw [ht] at h
        simp only [wp_ok] at h
        dsimp only
        by_cases hb : b = true
        · rw [if_pos hb] at h ⊢
          cases hl : el e1 M1 with
          | bad => rw [hl] at h; exact h.elim
          | ex _ _ => rw [hl] at h; exact h.elim
          | ok y M2 =>
            rw [hl] at h
            simp only [wp_ok] at h
            obtain ⟨acc, ha, hz, hI'⟩ := h
            dsimp only
            rw [getL_ok ha]
            dsimp only
            rw [if_pos hz]
            exact wp_lcG l I hn hs hd m (i + 1) _ (by omega) (by omega) hI'
        · rw [if_neg hb] at h ⊢
          exact wp_lcG l I hn hs hd m (i + 1) _ (by omega) (by omega) h
/-- one whose elements and tests are functions of the item -/
theorem wp_lc_fun {g : Tg} {t : TF} {el : EF} {M1 : Mem} {b : Nat} (l : List Val) (p : Val → Bool) (f : Val → Val) (hb : l.length ≤ b) (hz : l.length ≤ sizeLine) (hn : ∀ (i : Nat) M, M1 <+: M → nxt i M = some l[i]?)
    (hs : ∀ (i : Nat) x M, l[i]? = some x → M1 <+: M → ∃ e1, g.put x e = some e1 ∧ (t e1 M).wp (fun b M' => b = p x ∧ M <+: M' ∧ (p x = true → (el e1 M').wp (fun y M'' => y = f x ∧ M' <+: M'') noE)) noE)
    (hd : ∀ M, M1 <+: M → getL M M1.length = some ((l.filter p).map f) → Qv (.loc M1.length) M) : (lcG nxt g t el M1.length e (b + 1) 0 (M1 ++ [.lst []])).wp Qv E := by
  refine wp_lcG l (fun i M => M1 <+: M ∧ getL M M1.length = some (((l.take i).filter p).map f)) (fun i M h => hn i M h.1) (fun i x M hx h => ?_) (fun M h => ?_) _ 0 _ (by omega) (Nat.zero_le _) ⟨List.prefix_append _ _, by simpa using getL_append_new M1 []⟩
  · obtain ⟨e1, h1, h2⟩ := hs i x M hx h.1
    have hi : i < l.length := (List.getElem?_eq_some_iff.mp hx).1
    have htk : l.take (i + 1) = l.take i ++ [x] := by
      rw [List.take_add_one, hx]; rfl
    refine ⟨e1, h1, Out.wp_mono h2 (fun b M' ⟨hb', hp, hel⟩ => ?_) fun _ _ z => z⟩
    subst hb'
    by_cases hpx : p x = true
    · rw [if_pos hpx]
      refine Out.wp_mono (hel hpx) (fun y M'' ⟨hy, hp2⟩ => ?_) fun _ _ z => z
      subst hy
      have hg := getL_pre (hp.trans hp2) h.2
      refine ⟨_, hg, ?_, pre_set ((h.1.trans hp).trans hp2) (Nat.le_refl _), ?_⟩
      · have h1 : ((l.take i).filter p).length ≤ (l.take i).length := List.length_filter_le _ _
        rw [List.length_map]
        rw [List.length_take] at h1
        omega
      · rw [getL_set hg, htk, List.filter_append, List.map_append]
        simp [hpx]
    · rw [if_neg hpx]
      refine ⟨h.1.trans hp, ?_⟩
      rw [getL_pre hp h.2, htk, List.filter_append, List.map_append]
      simp [hpx]
  · refine hd M h.1 ?_
    rw [h.2, List.take_length]
end
end Sm

namespace Sm
open PySem L2
/-- all but r (and what is new) stands -/
structure Kp (r : Nat) (M M' : Mem) : Prop where
  len : M.length ≤ M'.length
  at_ : ∀ i, i < M.length → i ≠ r → M'[i]? = M[i]?
theorem Kp.refl (r : Nat) (M : Mem) : Kp r M M := ⟨Nat.le_refl _, fun _ _ _ => rfl⟩
theorem Kp.trans {r : Nat} {M M1 M2 : Mem} (a : Kp r M M1) (b : Kp r M1 M2) : Kp r M M2 :=
  ⟨Nat.le_trans a.len b.len, fun i h1 h2 => (b.at_ i (Nat.lt_of_lt_of_le h1 a.len) h2).trans (a.at_ i h1 h2)⟩
theorem Kp.set {r : Nat} {M : Mem} {c : Cell} : Kp r M (M.set r c) := ⟨by simp, fun i h1 h2 => List.getElem?_set_ne (Ne.symm h2)⟩
theorem Kp.pre {r : Nat} {M M' : Mem} (p : M <+: M') : Kp r M M' := ⟨pre_len p, fun i h1 _ => by obtain ⟨t, rfl⟩ := p; rw [List.getElem?_append_left h1]⟩
theorem Kp.app {r : Nat} {M M' : Mem} (a : Kp r M M') (t : List Cell) : Kp r M (M' ++ t) := a.trans (.pre (List.prefix_append _ _))
theorem Kp.getL {r n : Nat} {M M' : Mem} {l : List Val} (k : Kp r M M') (h : getL M n = some l) (hn : n ≠ r) : getL M' n = some l := by
  unfold Sm.getL
  rw [k.at_ n (getL_lt h) hn, getL_ok h]
/-- a write beyond -/
theorem Kp.setN {r n : Nat} {M M' : Mem} {c : Cell} (k : Kp r M M') (h : M.length ≤ n) : Kp r M (M'.set n c) :=
  ⟨by simpa using k.len, fun i h1 h2 => by rw [List.getElem?_set_ne (by omega)]; exact k.at_ i h1 h2⟩
@[simp] theorem setV_get (n : Nat) (k : Int) (x : Val) (M : Mem) : setV (.loc n) (.int k) x M = (getL M n).bind fun l => (ixN l.length k).map fun j => M.set n (.lst (l.set j x)) := by
  unfold setV getL
  dsimp only
  cases M[n]? with
  | none => rfl
  | some c => cases c with
    | lst l => dsimp only; rw [Option.bind_some]; cases ixN l.length k <;> rfl
    | _ => rfl
theorem ixN_nat {n : Nat} {j : Nat} (h : j < n) : ixN n (j : Int) = some j := by
  unfold ixN
  rw [if_pos (by omega), if_pos (by omega)]; simp
theorem ixN_of {n : Nat} {i : Int} (h0 : 0 ≤ i) (h : i < n) : ixN n i = some i.toNat := by
  unfold ixN
  rw [if_pos h0, if_pos h]
@[simp] theorem small64_lit1 : small64 48271 = true := by decide
@[simp] theorem wipeS_nil (e : Sl) : wipeS e [] = e := rfl
@[simp] theorem wipeS_cons (e : Sl) (v : Nat) (vs : List Nat) : wipeS e (v :: vs) = (wipeS e vs).set v none := rfl
@[simp] theorem put_one (i : Nat) (x : Val) (e : Sl) : (Tg.one i).put x e = some (e.set i (some x)) := rfl
@[simp] theorem put_many (is : List Nat) (l : List Val) (e : Sl) : (Tg.many is).put (.tup l) e = if l.length = is.length then some (setAll is l e) else none := rfl
end Sm

namespace Sm
open PySem L2
/-! wp, held shut -/
@[irreducible] def owp {α : Type} (o : Out α) (Q : α → Mem → Prop) (E : Ex → Mem → Prop) : Prop := o.wp Q E
@[irreducible] def swp (o : SO) (N : Sl → Mem → Prop) (R : Val → Mem → Prop) (B C : Sl → Mem → Prop) (E : Ex → Sl → Mem → Prop) : Prop := o.wp N R B C E
@[irreducible] def gwp (o : GO) (N : Sl → Mem → Prop) (E : Ex → Sl → Mem → Prop) : Prop := o.wp N E
theorem owp_eq {α : Type} {o : Out α} {Q : α → Mem → Prop} {E : Ex → Mem → Prop} : owp o Q E = o.wp Q E := by unfold owp; rfl
theorem swp_eq {o : SO} {N : Sl → Mem → Prop} {R : Val → Mem → Prop} {B C : Sl → Mem → Prop} {E : Ex → Sl → Mem → Prop} : swp o N R B C E = o.wp N R B C E := by unfold swp; rfl
theorem gwp_eq {o : GO} {N : Sl → Mem → Prop} {E : Ex → Sl → Mem → Prop} : gwp o N E = o.wp N E := by unfold gwp; rfl
theorem wp_eDc0 (f : IF) (g : Tg) (t : TF) (ek ev : EF) (vs : List Nat) {e : Sl} {M : Mem} {Qv : Val → Mem → Prop} {E : Ex → Mem → Prop} : (eDc f g t ek ev vs e M).wp Qv E = (f e M).wp (fun it M1 => (dcG it.nxt g t ek ev M1.length (wipeS e vs) it.fuel 0 (M1 ++ [.dK []])).wp Qv E) E := by unfold eDc; rw [wp_bind]
namespace Kt
section
variable {α β : Type} {Q : α → Mem → Prop} {Qv : Val → Mem → Prop} {Qb : Bool → Mem → Prop} {Ql : List Val → Mem → Prop} {E : Ex → Mem → Prop} {e : Sl} {M : Mem} {N B C : Sl → Mem → Prop} {R : Val → Mem → Prop} {Es : Ex → Sl → Mem → Prop}
@[simp] theorem owp_ok (a : α) : owp (Out.ok a M) Q E = Q a M := by simp only [owp_eq, swp_eq, gwp_eq, wp_ok]
@[simp] theorem owp_ex (x : Ex) : owp (Out.ex x M : Out α) Q E = E x M := by simp only [owp_eq, swp_eq, gwp_eq, wp_ex]
@[simp] theorem owp_bad : owp (Out.bad : Out α) Q E = False := by simp only [owp_eq, swp_eq, gwp_eq, wp_bad]
@[simp] theorem owp_snx : swp (SO.nx e M) N R B C Es = N e M := by simp only [owp_eq, swp_eq, gwp_eq, wp_snx]
@[simp] theorem owp_srt (x : Val) : swp (SO.rt x M) N R B C Es = R x M := by simp only [owp_eq, swp_eq, gwp_eq, wp_srt]
@[simp] theorem owp_sbk : swp (SO.bk e M) N R B C Es = B e M := by simp only [owp_eq, swp_eq, gwp_eq, wp_sbk]
@[simp] theorem owp_sct : swp (SO.ct e M) N R B C Es = C e M := by simp only [owp_eq, swp_eq, gwp_eq, wp_sct]
@[simp] theorem owp_sex (x : Ex) : swp (SO.ex x e M) N R B C Es = Es x e M := by simp only [owp_eq, swp_eq, gwp_eq, wp_sex]
@[simp] theorem owp_sbad : swp (SO.bad) N R B C Es = False := by simp only [owp_eq, swp_eq, gwp_eq, wp_sbad]
@[simp] theorem owp_eC (x : Val) : owp (eC x e M) Qv E = Qv x M := by simp only [owp_eq, swp_eq, gwp_eq, wp_eC]
@[simp] theorem owp_eVar (i : Nat) : owp (eVar i e M) Qv E = ∃ x, sget e i = some x ∧ Qv x M := by simp only [owp_eq, swp_eq, gwp_eq, wp_eVar]
@[simp] theorem owp_aNil : owp (aNil e M) Ql E = Ql [] M := by simp only [owp_eq, swp_eq, gwp_eq, wp_aNil]
@[simp] theorem owp_tTrue : owp (tTrue e M) Qb E = Qb true M := by simp only [owp_eq, swp_eq, gwp_eq, wp_tTrue]
@[simp] theorem owp_sNil : swp (sNil e M) N R B C Es = N e M := by simp only [owp_eq, swp_eq, gwp_eq, wp_sNil]
@[simp] theorem owp_sRetN : swp (sRetN e M) N R B C Es = R .non M := by simp only [owp_eq, swp_eq, gwp_eq, wp_sRetN]
@[simp] theorem owp_sBrk : swp (sBrk e M) N R B C Es = B e M := by simp only [owp_eq, swp_eq, gwp_eq, wp_sBrk]
@[simp] theorem owp_sCnt : swp (sCnt e M) N R B C Es = C e M := by simp only [owp_eq, swp_eq, gwp_eq, wp_sCnt]
@[simp] theorem owp_sBad : swp (sBad e M) N R B C Es = False := by simp only [owp_eq, swp_eq, gwp_eq, wp_sBad]
@[simp] theorem owp_gnx : gwp (GO.nx e M) N Es = N e M := by simp only [owp_eq, swp_eq, gwp_eq, wp_gnx]
@[simp] theorem owp_gbad : gwp (GO.bad) N Es = False := by simp only [owp_eq, swp_eq, gwp_eq, wp_gbad]
@[simp] theorem owp_gNm (i : Nat) (x : Val) : gwp (gNm i x e M) N Es = N (e.set i (some x)) M := by simp only [owp_eq, swp_eq, gwp_eq, wp_gNm]
@[simp] theorem owp_gTp (n : Nat) (gs : GsF) (l : List Val) : gwp (gTp n gs (.tup l) e M) N Es = (l.length = n ∧ gwp (gs l e M) N Es) := by simp only [owp_eq, swp_eq, gwp_eq, wp_gTp]
@[simp] theorem owp_gsNil : gwp (gsNil [] e M) N Es = N e M := by simp only [owp_eq, swp_eq, gwp_eq, wp_gsNil]
@[simp] theorem owp_add_ii (i j : Int) : owp (addV (.int i) (.int j) M) Qv E = Qv (.int (i + j)) M := by simp only [owp_eq, swp_eq, gwp_eq, wp_add_ii]
@[simp] theorem owp_add_tt (a b : List Val) : owp (addV (.tup a) (.tup b) M) Qv E = (a.length + b.length ≤ sizeLine ∧ Qv (.tup (a ++ b)) M) := by simp only [owp_eq, swp_eq, gwp_eq, wp_add_tt]
@[simp] theorem owp_add_ss (a b : Str) : owp (addV (.str a) (.str b) M) Qv E = (a.length + b.length ≤ sizeLine ∧ Qv (.str (a ++ b)) M) := by simp only [owp_eq, swp_eq, gwp_eq, wp_add_ss]
@[simp] theorem owp_add_ll (m n : Nat) : owp (addV (.loc m) (.loc n) M) Qv E = ∃ a b, getL M m = some a ∧ getL M n = some b ∧ a.length + b.length ≤ sizeLine ∧ Qv (.loc M.length) (M ++ [.lst (a ++ b)]) := by simp only [owp_eq, swp_eq, gwp_eq, wp_add_ll]
@[simp] theorem owp_sub_ii (i j : Int) : owp (subV (.int i) (.int j) M) Qv E = Qv (.int (i - j)) M := by simp only [owp_eq, swp_eq, gwp_eq, wp_sub_ii]
@[simp] theorem owp_mul_ii (i j : Int) : owp (mulV (.int i) (.int j) M) Qv E = ((small64 i || small64 j) = true ∧ Qv (.int (i * j)) M) := by simp only [owp_eq, swp_eq, gwp_eq, wp_mul_ii]
@[simp] theorem owp_mul_li (n : Nat) (k : Int) : owp (mulV (.loc n) (.int k) M) Qv E = ∃ l, getL M n = some l ∧ (-(2 ^ 63) ≤ k ∧ k < 2 ^ 63 ∧ l.length * k.toNat ≤ sizeLine) ∧ Qv (.loc M.length) (M ++ [.lst (List.replicate k.toNat l).flatten]) := by simp only [owp_eq, swp_eq, gwp_eq, wp_mul_li]
@[simp] theorem owp_mul_ti (l : List Val) (k : Int) : owp (mulV (.tup l) (.int k) M) Qv E = ((l ≠ [] ∧ 2 ≤ k ∧ k ≤ 1000 ∧ l.length ≤ 1000) ∧ Qv (.tup (List.replicate k.toNat l).flatten) M) := by simp only [owp_eq, swp_eq, gwp_eq, wp_mul_ti]
@[simp] theorem owp_div_ii (i j : Int) : owp (divV (.int i) (.int j) M) Qv E = ((0 < j ∧ j < 1073741824) ∧ Qv (.int (i / j)) M) := by simp only [owp_eq, swp_eq, gwp_eq, wp_div_ii]
@[simp] theorem owp_mod_ii (i j : Int) : owp (modV (.int i) (.int j) M) Qv E = (0 < j ∧ Qv (.int (i % j)) M) := by simp only [owp_eq, swp_eq, gwp_eq, wp_mod_ii]
@[simp] theorem owp_pow_ii (i j : Int) : owp (powV (.int i) (.int j) M) Qv E = ((0 ≤ j ∧ j ≤ 1000000 ∧ i.natAbs < 2 ^ 64) ∧ Qv (.int (i ^ j.toNat)) M) := by simp only [owp_eq, swp_eq, gwp_eq, wp_pow_ii]
@[simp] theorem owp_cmp_ii (p : Int → Int → Bool) (i j : Int) : owp (cmpV p (.int i) (.int j) M) Qv E = Qv (.bl (p i j)) M := by simp only [owp_eq, swp_eq, gwp_eq, wp_cmp_ii]
@[simp] theorem owp_neg_i (i : Int) : owp (negV (.int i) M) Qv E = Qv (.int (-i)) M := by simp only [owp_eq, swp_eq, gwp_eq, wp_neg_i]
@[simp] theorem owp_isN (x : Val) : owp (isN x .non M) Qv E = Qv (.bl (isNon x)) M := by simp only [owp_eq, swp_eq, gwp_eq, wp_isN]
@[simp] theorem owp_notN (x : Val) : owp (notN x .non M) Qv E = Qv (.bl (!isNon x)) M := by simp only [owp_eq, swp_eq, gwp_eq, wp_notN]
@[simp] theorem owp_eqV (x y : Val) : owp (eqV x y M) Qv E = ∃ b, eqD x y M = some b ∧ Qv (.bl b) M := by simp only [owp_eq, swp_eq, gwp_eq, wp_eqV]
@[simp] theorem owp_neV (x y : Val) : owp (neV x y M) Qv E = ∃ b, eqD x y M = some b ∧ Qv (.bl (!b)) M := by simp only [owp_eq, swp_eq, gwp_eq, wp_neV]
@[simp] theorem owp_inV (x y : Val) : owp (inV x y M) Qv E = ∃ b, inD x y M = some b ∧ Qv (.bl b) M := by simp only [owp_eq, swp_eq, gwp_eq, wp_inV]
@[simp] theorem owp_notInV (x y : Val) : owp (notInV x y M) Qv E = ∃ b, inD x y M = some b ∧ Qv (.bl (!b)) M := by simp only [owp_eq, swp_eq, gwp_eq, wp_notInV]
@[simp] theorem owp_ix_t (l : List Val) (i : Int) : owp (ixV (.tup l) (.int i) M) Qv E = ∃ v, atI l i = some v ∧ Qv v M := by simp only [owp_eq, swp_eq, gwp_eq, wp_ix_t]
@[simp] theorem owp_ix_f (l : List Int) (i : Int) : owp (ixV (.frz l) (.int i) M) Qv E = ∃ v, atI l i = some v ∧ Qv (.int v) M := by simp only [owp_eq, swp_eq, gwp_eq, wp_ix_f]
@[simp] theorem owp_ix_l (n : Nat) (i : Int) : owp (ixV (.loc n) (.int i) M) Qv E = ∃ l, getL M n = some l ∧ ∃ v, atI l i = some v ∧ Qv v M := by simp only [owp_eq, swp_eq, gwp_eq, wp_ix_l]
@[simp] theorem owp_oNone {Qo : Option Int → Mem → Prop} : owp (oNone e M) Qo E = Qo none M := by simp only [owp_eq, swp_eq, gwp_eq, wp_oNone]
@[simp] theorem owp_sl_t (l : List Val) (lo hi : Option Int) : owp (slV (.tup l) lo hi M) Qv E = Qv (.tup (cutL l lo hi)) M := by simp only [owp_eq, swp_eq, gwp_eq, wp_sl_t]
@[simp] theorem owp_sl_l (n : Nat) (lo hi : Option Int) : owp (slV (.loc n) lo hi M) Qv E = ∃ l, getL M n = some l ∧ Qv (.loc M.length) (M ++ [.lst (cutL l lo hi)]) := by simp only [owp_eq, swp_eq, gwp_eq, wp_sl_l]
@[simp] theorem owp_len_t (l : List Val) : owp (lenV [.tup l] M) Qv E = Qv (.int l.length) M := by simp only [owp_eq, swp_eq, gwp_eq, wp_len_t]
@[simp] theorem owp_len_f (l : List Int) : owp (lenV [.frz l] M) Qv E = Qv (.int l.length) M := by simp only [owp_eq, swp_eq, gwp_eq, wp_len_f]
@[simp] theorem owp_len_l (n : Nat) : owp (lenV [.loc n] M) Qv E = ∃ l, getL M n = some l ∧ Qv (.int l.length) M := by simp only [owp_eq, swp_eq, gwp_eq, wp_len_l]
@[simp] theorem owp_tuple_t (l : List Val) : owp (tupleV [.tup l] M) Qv E = Qv (.tup l) M := by simp only [owp_eq, swp_eq, gwp_eq, wp_tuple_t]
@[simp] theorem owp_tuple_l (n : Nat) : owp (tupleV [.loc n] M) Qv E = ∃ l, getL M n = some l ∧ Qv (.tup l) M := by simp only [owp_eq, swp_eq, gwp_eq, wp_tuple_l]
@[simp] theorem owp_list_t (l : List Val) : owp (listV [.tup l] M) Qv E = Qv (.loc M.length) (M ++ [.lst l]) := by simp only [owp_eq, swp_eq, gwp_eq, wp_list_t]
@[simp] theorem owp_list_l (n : Nat) : owp (listV [.loc n] M) Qv E = ∃ l, getL M n = some l ∧ Qv (.loc M.length) (M ++ [.lst l]) := by simp only [owp_eq, swp_eq, gwp_eq, wp_list_l]
@[simp] theorem owp_int_i (i : Int) : owp (intV [.int i] M) Qv E = Qv (.int i) M := by simp only [owp_eq, swp_eq, gwp_eq, wp_int_i]
@[simp] theorem owp_int_b (b : Bool) : owp (intV [.bl b] M) Qv E = Qv (.int (if b then 1 else 0)) M := by simp only [owp_eq, swp_eq, gwp_eq, wp_int_b]
@[simp] theorem owp_abs (i : Int) : owp (absV1 [.int i] M) Qv E = Qv (.int (if i < 0 then -i else i)) M := by simp only [owp_eq, swp_eq, gwp_eq, wp_abs]
@[simp] theorem owp_max2 (i j : Int) : owp (max2V [.int i, .int j] M) Qv E = Qv (.int (if j > i then j else i)) M := by simp only [owp_eq, swp_eq, gwp_eq, wp_max2]
@[simp] theorem owp_min2 (i j : Int) : owp (min2V [.int i, .int j] M) Qv E = Qv (.int (if j < i then j else i)) M := by simp only [owp_eq, swp_eq, gwp_eq, wp_min2]
@[simp] theorem owp_sorted (n : Nat) : owp (sortedV [.loc n] M) Qv E = ∃ l, (getL M n).bind intsOf = some l ∧ l.length < 64 ∧ Qv (.loc M.length) (M ++ [.lst ((sortI l).map .int)]) := by simp only [owp_eq, swp_eq, gwp_eq, wp_sorted]
@[simp] theorem owp_sum (n : Nat) : owp (sumV [.loc n] M) Qv E = ∃ l, (getL M n).bind intsOf = some l ∧ Qv (.int l.sum) M := by simp only [owp_eq, swp_eq, gwp_eq, wp_sum]
@[simp] theorem owp_max (n : Nat) : owp (maxV [.loc n] M) Qv E = ∃ l, (getL M n).bind intsOf = some l ∧ 0 < l.length ∧ Qv (.int (maxL l)) M := by simp only [owp_eq, swp_eq, gwp_eq, wp_max]
@[simp] theorem owp_min (n : Nat) : owp (minV [.loc n] M) Qv E = ∃ l, (getL M n).bind intsOf = some l ∧ 0 < l.length ∧ Qv (.int (minL l)) M := by simp only [owp_eq, swp_eq, gwp_eq, wp_min]
@[simp] theorem owp_any (n : Nat) : owp (anyV [.loc n] M) Qv E = ∃ l, (getL M n).bind boolsOf = some l ∧ Qv (.bl (l.any id)) M := by simp only [owp_eq, swp_eq, gwp_eq, wp_any]
@[simp] theorem owp_all (n : Nat) : owp (allV [.loc n] M) Qv E = ∃ l, (getL M n).bind boolsOf = some l ∧ Qv (.bl (l.all id)) M := by simp only [owp_eq, swp_eq, gwp_eq, wp_all]
@[simp] theorem owp_append (n : Nat) (y : Val) : owp (appendV (.loc n) [y] M) Qv E = ∃ xs, getL M n = some xs ∧ xs.length < sizeLine ∧ Qv .non (M.set n (.lst (xs ++ [y]))) := by simp only [owp_eq, swp_eq, gwp_eq, wp_append]
@[simp] theorem owp_extend (n m : Nat) : owp (extendV (.loc n) [.loc m] M) Qv E = ∃ xs ys, getL M n = some xs ∧ getL M m = some ys ∧ xs.length + ys.length ≤ sizeLine ∧ Qv .non (M.set n (.lst (xs ++ ys))) := by simp only [owp_eq, swp_eq, gwp_eq, wp_extend]
@[simp] theorem owp_pop (n : Nat) : owp (popV (.loc n) [] M) Qv E = ∃ xs, getL M n = some xs ∧ ∃ y, xs[xs.length - 1]? = some y ∧ Qv y (M.set n (.lst xs.dropLast)) := by simp only [owp_eq, swp_eq, gwp_eq, wp_pop]
@[simp] theorem owp_popAt (n : Nat) (i : Int) : owp (popAtV (.loc n) [.int i] M) Qv E = ∃ xs, getL M n = some xs ∧ (-(2 ^ 63) ≤ i ∧ i < 2 ^ 63) ∧ ∃ k, ixN xs.length i = some k ∧ ∃ y, xs[k]? = some y ∧ Qv y (M.set n (.lst (xs.eraseIdx k))) := by simp only [owp_eq, swp_eq, gwp_eq, wp_popAt]
@[simp] theorem owp_ar (h : Int → Int → Int) (i j : Int) : owp (arI h (.int i) (.int j) M) Qv E = Qv (.int (h i j)) M := by simp only [owp_eq, swp_eq, gwp_eq, wp_ar]
end
/-! what follows, without binders: with these open, simp steps at the head alone -/
abbrev PV := Val → Mem → Prop
abbrev PB := Bool → Mem → Prop
abbrev PL := List Val → Mem → Prop
abbrev PS := Sl → Mem → Prop
abbrev PX := Ex → Mem → Prop
abbrev PXs := Ex → Sl → Mem → Prop
abbrev G2 := Val → Val → Mem → Out Val
def kB (g : G2) (x : Val) (Q : PV) (E : PX) : PV := fun y M => owp (g x y M) Q E
def kA (g : G2) (fb : EF) (e : Sl) (Q : PV) (E : PX) : PV := fun x M => owp (fb e M) (kB g x Q E) E
def kU (g : Val → Mem → Out Val) (Q : PV) (E : PX) : PV := fun x M => owp (g x M) Q E
def kD (x : Val) (Q : PL) : PL := fun l M => Q (x :: l) M
def kC (fr : AF) (e : Sl) (Q : PL) (E : PX) : PV := fun x M => owp (fr e M) (kD x Q) E
def kT (Q : PV) : PL := fun l M => l.length ≤ sizeLine ∧ Q (.tup l) M
def kL (Q : PV) : PL := fun l M => l.length ≤ sizeLine ∧ Q (.loc M.length) (M ++ [.lst l])
def kF (F : FnS) (Q : PV) (E : PX) : PL := fun l M => owp (F l M) Q E
def kN (np : Nat) (F : FnS) (Q : PV) (E : PX) : PL := fun l M => l.length = np ∧ owp (F l M) Q E
def kI (fa fb : EF) (e : Sl) (Q : PV) (E : PX) : PB := fun b M => if b = true then owp (fa e M) Q E else owp (fb e M) Q E
def kX (Q : PB) : PV := fun z M => ∃ b, z = .bl b ∧ Q b M
def kTr (Q : PB) : PV := fun z M => ∃ b, truV z M = some b ∧ Q b M
def kNt (Q : PB) : PB := fun b M => Q (!b) M
def kAn (u : TF) (e : Sl) (Q : PB) (E : PX) : PB := fun b M => if b = true then owp (u e M) Q E else Q false M
def kOr (u : TF) (e : Sl) (Q : PB) (E : PX) : PB := fun b M => if b = true then Q true M else owp (u e M) Q E
def kEa (u : EF) (e : Sl) (Q : PV) (E : PX) : PB := fun b M => if b = true then owp (u e M) Q E else Q (.bl false) M
def kEo (u : EF) (e : Sl) (Q : PV) (E : PX) : PB := fun b M => if b = true then Q (.bl true) M else owp (u e M) Q E
def kEn (Q : PV) : PB := fun b M => Q (.bl (!b)) M
def kCd (g' : G2) (y : Val) (fc : EF) (e : Sl) (Q : PV) (E : PX) : PB := fun b M => if b = true then owp (fc e M) (kB g' y Q E) E else Q (.bl false) M
def kCc (g g' : G2) (x : Val) (fc : EF) (e : Sl) (Q : PV) (E : PX) : PV := fun y M => owp (g x y M) (kX (kCd g' y fc e Q E)) E
def kCb (g g' : G2) (fb fc : EF) (e : Sl) (Q : PV) (E : PX) : PV := fun x M => owp (fb e M) (kCc g g' x fc e Q E) E
def kS (g : SF) (N : PS) (R : PV) (B C : PS) (Es : PXs) : PS := fun e M => swp (g e M) N R B C Es
def kEr (Es : PXs) (e : Sl) : PX := fun x M => Es x e M
def kEx (e : Sl) (N : PS) : PV := fun _ M => N e M
def kIf (f g : SF) (e : Sl) (N : PS) (R : PV) (B C : PS) (Es : PXs) : PB := fun b M => if b = true then swp (f e M) N R B C Es else swp (g e M) N R B C Es
def kAs (g : GF) (e : Sl) (N : PS) (Es : PXs) : PV := fun x M => gwp (g x e M) N Es
def kGs (gs : GsF) (l : List Val) (N : PS) (Es : PXs) : PS := fun e M => gwp (gs l e M) N Es
def kSc (o x : Val) (e : Sl) (N : PS) : PV := fun i M => ∃ M3, setV o i x M = some M3 ∧ N e M3
def kSb (fi : EF) (x : Val) (e : Sl) (N : PS) (Es : PXs) : PV := fun o M => owp (fi e M) (kSc o x e N) (kEr Es e)
def kPa (is : List Nat) (e : Sl) (N : PS) : PL := fun l M => l.length = is.length ∧ N (setAll is l e) M
def kAh (i : Nat) (e : Sl) (N : PS) : PV := fun z M => N (e.set i (some z)) M
def kAg (g : G2) (x : Val) (i : Nat) (e : Sl) (N : PS) (Es : PXs) : PV := fun y M => owp (g x y M) (kAh i e N) (kEr Es e)
def kRn (Q : PV) : PS := fun _ M => Q .non M
def kFF : PS := fun _ _ => False
def kE1 (E : PX) : PXs := fun x _ M => E x M
def kFo (g : GF) (body : SF) (e : Sl) (N : PS) (R : PV) (B C : PS) (Es : PXs) : Itr → Mem → Prop := fun it M => swp (forG it.nxt g body it.fuel 0 e M) N R B C Es
def kIs (Q : Itr → Mem → Prop) : PV := fun x M => ∃ it, itSeq x M = some it ∧ Q it M
def kIe (Q : Itr → Mem → Prop) : PV := fun x M => ∃ it, itEnum x M = some it ∧ Q it M
def kIz (x : Val) (Q : Itr → Mem → Prop) : PV := fun y M => ∃ it, itZip x y M = some it ∧ Q it M
def kIy (f : EF) (e : Sl) (Q : Itr → Mem → Prop) (E : PX) : PV := fun x M => owp (f e M) (kIz x Q) E
def kI1 (Q : Itr → Mem → Prop) : PV := fun x M => ∃ j, x = .int j ∧ (-(2 ^ 62) ≤ j ∧ j < 2 ^ 62) ∧ Q (itRng 0 j.toNat) M
def kI3 (x : Val) (Q : Itr → Mem → Prop) : PV := fun y M => ∃ i j, x = .int i ∧ y = .int j ∧ (-(2 ^ 62) ≤ i ∧ i < 2 ^ 62 ∧ -(2 ^ 62) ≤ j ∧ j < 2 ^ 62) ∧ Q (itRng i (j - i).toNat) M
def kI2 (f : EF) (e : Sl) (Q : Itr → Mem → Prop) (E : PX) : PV := fun x M => owp (f e M) (kI3 x Q) E
def kLc (g : Tg) (t : TF) (el : EF) (vs : List Nat) (e : Sl) (Q : PV) (E : PX) : Itr → Mem → Prop := fun it M => owp (lcG it.nxt g t el M.length (wipeS e vs) it.fuel 0 (M ++ [.lst []])) Q E
def kDc (g : Tg) (t : TF) (ek ev : EF) (vs : List Nat) (e : Sl) (Q : PV) (E : PX) : Itr → Mem → Prop := fun it M => owp (dcG it.nxt g t ek ev M.length (wipeS e vs) it.fuel 0 (M ++ [.dK []])) Q E
def kOs (Q : Option Int → Mem → Prop) : PV := fun x M => ∃ i, x = .int i ∧ Q (some i) M
def kSd (x : Val) (lo : Option Int) (Q : PV) (E : PX) : Option Int → Mem → Prop := fun hi M => owp (slV x lo hi M) Q E
def kSe (x : Val) (h : OF) (e : Sl) (Q : PV) (E : PX) : Option Int → Mem → Prop := fun lo M => owp (h e M) (kSd x lo Q E) E
def kSl (l h : OF) (e : Sl) (Q : PV) (E : PX) : PV := fun x M => owp (l e M) (kSe x h e Q E) E
def kR1 (Q : PV) : PV := fun x M => ∃ n, x = .int n ∧ (-(2 ^ 62) ≤ n ∧ n < 2 ^ 62 ∧ n.toNat ≤ 2 ^ 24) ∧ Q (.loc M.length) (M ++ [.lst (rangeL 0 n)])
def kTy (ts : List Bt) (Q : PV) : PV := fun x M => (tyN x M).isSome = true ∧ Q (.bl (ts.any fun t => isT x t)) M
def kMb (x : Val) (g : MtF) (Q : PV) (E : PX) : PL := fun l M => owp (g x l M) Q E
def kMt (T : String) (g : MtF) (fa : AF) (e : Sl) (Q : PV) (E : PX) : PV := fun x M => isTyM T x M = true ∧ owp (fa e M) (kMb x g Q E) E
section
variable {Q : PV} {Qb : PB} {Ql : PL} {E : PX} {e : Sl} {M : Mem} {N B C : PS} {R : PV} {Es : PXs} {x y : Val} {l : List Val} {b : Bool} {g g' : G2} {fa fb fc : EF} {af : AF} {t u : TF} {f h : SF} {Qi : Itr → Mem → Prop} {it : Itr} {Qo : Option Int → Mem → Prop} {lo : Option Int}
@[simp] theorem kB_ap : kB g x Q E y M = owp (g x y M) Q E := by exact id rfl
@[simp] theorem kA_ap : kA g fb e Q E x M = owp (fb e M) (kB g x Q E) E := by exact id rfl
@[simp] theorem kU_ap {g} : kU g Q E x M = owp (g x M) Q E := by exact id rfl
@[simp] theorem kD_ap : kD x Ql l M = Ql (x :: l) M := by exact id rfl
@[simp] theorem kC_ap : kC af e Ql E x M = owp (af e M) (kD x Ql) E := by exact id rfl
@[simp] theorem kT_ap : kT Q l M = (l.length ≤ sizeLine ∧ Q (.tup l) M) := by exact id rfl
@[simp] theorem kL_ap : kL Q l M = (l.length ≤ sizeLine ∧ Q (.loc M.length) (M ++ [.lst l])) := by exact id rfl
@[simp] theorem kF_ap {F} : kF F Q E l M = owp (F l M) Q E := by exact id rfl
@[simp] theorem kN_ap {np F} : kN np F Q E l M = (l.length = np ∧ owp (F l M) Q E) := by exact id rfl
@[simp] theorem kI_ap : kI fa fb e Q E b M = (if b = true then owp (fa e M) Q E else owp (fb e M) Q E) := by exact id rfl
@[simp] theorem kX_ap : kX Qb x M = (∃ b, x = .bl b ∧ Qb b M) := by exact id rfl
@[simp] theorem kTr_ap : kTr Qb x M = (∃ b, truV x M = some b ∧ Qb b M) := by exact id rfl
@[simp] theorem kNt_ap : kNt Qb b M = Qb (!b) M := by exact id rfl
@[simp] theorem kAn_ap : kAn u e Qb E b M = (if b = true then owp (u e M) Qb E else Qb false M) := by exact id rfl
@[simp] theorem kOr_ap : kOr u e Qb E b M = (if b = true then Qb true M else owp (u e M) Qb E) := by exact id rfl
@[simp] theorem kEa_ap : kEa fa e Q E b M = (if b = true then owp (fa e M) Q E else Q (.bl false) M) := by exact id rfl
@[simp] theorem kEo_ap : kEo fa e Q E b M = (if b = true then Q (.bl true) M else owp (fa e M) Q E) := by exact id rfl
@[simp] theorem kEn_ap : kEn Q b M = Q (.bl (!b)) M := by exact id rfl
@[simp] theorem kCd_ap : kCd g' y fc e Q E b M = (if b = true then owp (fc e M) (kB g' y Q E) E else Q (.bl false) M) := by exact id rfl
@[simp] theorem kCc_ap : kCc g g' x fc e Q E y M = owp (g x y M) (kX (kCd g' y fc e Q E)) E := by exact id rfl
@[simp] theorem kCb_ap : kCb g g' fb fc e Q E x M = owp (fb e M) (kCc g g' x fc e Q E) E := by exact id rfl
@[simp] theorem kS_ap : kS f N R B C Es e M = swp (f e M) N R B C Es := by exact id rfl
@[simp] theorem kEr_ap {x} : kEr Es e x M = Es x e M := by exact id rfl
@[simp] theorem kEx_ap : kEx e N x M = N e M := by exact id rfl
@[simp] theorem kIf_ap : kIf f h e N R B C Es b M = (if b = true then swp (f e M) N R B C Es else swp (h e M) N R B C Es) := by exact id rfl
@[simp] theorem kAs_ap {g} : kAs g e N Es x M = gwp (g x e M) N Es := by exact id rfl
@[simp] theorem kGs_ap {gs} : kGs gs l N Es e M = gwp (gs l e M) N Es := by exact id rfl
@[simp] theorem kSc_ap : kSc x y e N i M = (∃ M3, setV x i y M = some M3 ∧ N e M3) := by exact id rfl
@[simp] theorem kSb_ap : kSb fa y e N Es x M = owp (fa e M) (kSc x y e N) (kEr Es e) := by exact id rfl
@[simp] theorem kPa_ap {is} : kPa is e N l M = (l.length = is.length ∧ N (setAll is l e) M) := by exact id rfl
@[simp] theorem kAh_ap {i} : kAh i e N x M = N (e.set i (some x)) M := by exact id rfl
@[simp] theorem kAg_ap {i} : kAg g x i e N Es y M = owp (g x y M) (kAh i e N) (kEr Es e) := by exact id rfl
@[simp] theorem kRn_ap : kRn Q e M = Q .non M := by exact id rfl
@[simp] theorem kFF_ap : kFF e M = False := by exact id rfl
@[simp] theorem kE1_ap {x} : kE1 E x e M = E x M := by exact id rfl
@[simp] theorem kFo_ap {g} : kFo g f e N R B C Es it M = swp (forG it.nxt g f it.fuel 0 e M) N R B C Es := by exact id rfl
@[simp] theorem kIs_ap : kIs Qi x M = (∃ it, itSeq x M = some it ∧ Qi it M) := by exact id rfl
@[simp] theorem kIe_ap : kIe Qi x M = (∃ it, itEnum x M = some it ∧ Qi it M) := by exact id rfl
@[simp] theorem kIz_ap : kIz x Qi y M = (∃ it, itZip x y M = some it ∧ Qi it M) := by exact id rfl
@[simp] theorem kIy_ap : kIy fa e Qi E x M = owp (fa e M) (kIz x Qi) E := by exact id rfl
@[simp] theorem kI1_ap : kI1 Qi x M = (∃ j, x = .int j ∧ (-(2 ^ 62) ≤ j ∧ j < 2 ^ 62) ∧ Qi (itRng 0 j.toNat) M) := by exact id rfl
@[simp] theorem kI3_ap : kI3 x Qi y M = (∃ i j, x = .int i ∧ y = .int j ∧ (-(2 ^ 62) ≤ i ∧ i < 2 ^ 62 ∧ -(2 ^ 62) ≤ j ∧ j < 2 ^ 62) ∧ Qi (itRng i (j - i).toNat) M) := by exact id rfl
@[simp] theorem kI2_ap : kI2 fa e Qi E x M = owp (fa e M) (kI3 x Qi) E := by exact id rfl
@[simp] theorem kLc_ap {g vs} : kLc g t fa vs e Q E it M = owp (lcG it.nxt g t fa M.length (wipeS e vs) it.fuel 0 (M ++ [.lst []])) Q E := by exact id rfl
@[simp] theorem kDc_ap {g vs} : kDc g t fa fb vs e Q E it M = owp (dcG it.nxt g t fa fb M.length (wipeS e vs) it.fuel 0 (M ++ [.dK []])) Q E := by exact id rfl
@[simp] theorem kOs_ap : kOs Qo x M = (∃ i, x = .int i ∧ Qo (some i) M) := by exact id rfl
@[simp] theorem kSd_ap {hi} : kSd x lo Q E hi M = owp (slV x lo hi M) Q E := by exact id rfl
@[simp] theorem kSe_ap {h} : kSe x h e Q E lo M = owp (h e M) (kSd x lo Q E) E := by exact id rfl
@[simp] theorem kSl_ap {l h} : kSl l h e Q E x M = owp (l e M) (kSe x h e Q E) E := by exact id rfl
@[simp] theorem kR1_ap : kR1 Q x M = (∃ n, x = .int n ∧ (-(2 ^ 62) ≤ n ∧ n < 2 ^ 62 ∧ n.toNat ≤ 2 ^ 24) ∧ Q (.loc M.length) (M ++ [.lst (rangeL 0 n)])) := by exact id rfl
@[simp] theorem kTy_ap {ts} : kTy ts Q x M = ((tyN x M).isSome = true ∧ Q (.bl (ts.any fun t => isT x t)) M) := by exact id rfl
@[simp] theorem kMb_ap {g} : kMb x g Q E l M = owp (g x l M) Q E := by exact id rfl
@[simp] theorem kMt_ap {T g} : kMt T g af e Q E x M = (isTyM T x M = true ∧ owp (af e M) (kMb x g Q E) E) := by exact id rfl
@[simp] theorem w_eOp2 : owp (eOp2 g fa fb e M) Q E = owp (fa e M) (kA g fb e Q E) E := by simp only [owp_eq, swp_eq, gwp_eq, wp_eOp2]; (try rfl); (try delta kA); (try delta kB); (try simp only [owp_eq, swp_eq, gwp_eq]); (try rfl)
@[simp] theorem w_eOp1 {g} : owp (eOp1 g fa e M) Q E = owp (fa e M) (kU g Q E) E := by simp only [owp_eq, swp_eq, gwp_eq, wp_eOp1]; (try rfl); (try delta kU); (try simp only [owp_eq, swp_eq, gwp_eq]); (try rfl)
@[simp] theorem w_aCons : owp (aCons fa af e M) Ql E = owp (fa e M) (kC af e Ql E) E := by simp only [owp_eq, swp_eq, gwp_eq, wp_aCons]; (try rfl); (try delta kC); (try delta kD); (try simp only [owp_eq, swp_eq, gwp_eq]); (try rfl)
@[simp] theorem w_eTup : owp (eTup af e M) Q E = owp (af e M) (kT Q) E := by simp only [owp_eq, swp_eq, gwp_eq, wp_eTup]; (try rfl); (try delta kT); (try simp only [owp_eq, swp_eq, gwp_eq]); (try rfl)
@[simp] theorem w_eLst : owp (eLst af e M) Q E = owp (af e M) (kL Q) E := by simp only [owp_eq, swp_eq, gwp_eq, wp_eLst]; (try rfl); (try delta kL); (try simp only [owp_eq, swp_eq, gwp_eq]); (try rfl)
@[simp] theorem w_eCall {F} : owp (eCall F af e M) Q E = owp (af e M) (kF F Q E) E := by simp only [owp_eq, swp_eq, gwp_eq, wp_eCall]; (try rfl); (try delta kF); (try simp only [owp_eq, swp_eq, gwp_eq]); (try rfl)
@[simp] theorem w_eFn {np F} : owp (eFn np F af e M) Q E = owp (af e M) (kN np F Q E) E := by simp only [owp_eq, swp_eq, gwp_eq, wp_eFn]; (try rfl); (try delta kN); (try simp only [owp_eq, swp_eq, gwp_eq]); (try rfl)
@[simp] theorem w_eIf : owp (eIf t fa fb e M) Q E = owp (t e M) (kI fa fb e Q E) E := by simp only [owp_eq, swp_eq, gwp_eq, wp_eIf]; (try rfl); (try delta kI); (try simp only [owp_eq, swp_eq, gwp_eq]); (try rfl)
@[simp] theorem w_tCmp2 : owp (tCmp2 g fa fb e M) Qb E = owp (fa e M) (kA g fb e (kX Qb) E) E := by simp only [owp_eq, swp_eq, gwp_eq, wp_tCmp2]; (try rfl); (try delta kA); (try delta kB); (try delta kX); (try simp only [owp_eq, swp_eq, gwp_eq]); (try rfl)
@[simp] theorem w_tOfE : owp (tOfE fa e M) Qb E = owp (fa e M) (kX Qb) E := by simp only [owp_eq, swp_eq, gwp_eq, wp_tOfE]; (try rfl); (try delta kX); (try simp only [owp_eq, swp_eq, gwp_eq]); (try rfl)
@[simp] theorem w_tTru : owp (tTru fa e M) Qb E = owp (fa e M) (kTr Qb) E := by simp only [owp_eq, swp_eq, gwp_eq, wp_tTru]; (try rfl); (try delta kTr); (try simp only [owp_eq, swp_eq, gwp_eq]); (try rfl)
@[simp] theorem w_tNotF : owp (tNotF t e M) Qb E = owp (t e M) (kNt Qb) E := by simp only [owp_eq, swp_eq, gwp_eq, wp_tNotF]; (try rfl); (try delta kNt); (try simp only [owp_eq, swp_eq, gwp_eq]); (try rfl)
@[simp] theorem w_tAndF : owp (tAndF t u e M) Qb E = owp (t e M) (kAn u e Qb E) E := by simp only [owp_eq, swp_eq, gwp_eq, wp_tAndF]; (try rfl); (try delta kAn); (try simp only [owp_eq, swp_eq, gwp_eq]); (try rfl)
@[simp] theorem w_tOrF : owp (tOrF t u e M) Qb E = owp (t e M) (kOr u e Qb E) E := by simp only [owp_eq, swp_eq, gwp_eq, wp_tOrF]; (try rfl); (try delta kOr); (try simp only [owp_eq, swp_eq, gwp_eq]); (try rfl)
@[simp] theorem w_eAnd : owp (eAnd fa fb e M) Q E = owp (fa e M) (kX (kEa fb e Q E)) E := by simp only [owp_eq, swp_eq, gwp_eq, wp_eAnd]; (try rfl); (try delta kEa); (try delta kX); (try simp only [owp_eq, swp_eq, gwp_eq]); (try rfl)
@[simp] theorem w_eOr : owp (eOr fa fb e M) Q E = owp (fa e M) (kX (kEo fb e Q E)) E := by simp only [owp_eq, swp_eq, gwp_eq, wp_eOr]; (try rfl); (try delta kEo); (try delta kX); (try simp only [owp_eq, swp_eq, gwp_eq]); (try rfl)
@[simp] theorem w_eNot : owp (eNot fa e M) Q E = owp (fa e M) (kX (kEn Q)) E := by simp only [owp_eq, swp_eq, gwp_eq, wp_eNot]; (try rfl); (try delta kEn); (try delta kX); (try simp only [owp_eq, swp_eq, gwp_eq]); (try rfl)
@[simp] theorem w_eChain : owp (eChain g g' fa fb fc e M) Q E = owp (fa e M) (kCb g g' fb fc e Q E) E := by simp only [owp_eq, swp_eq, gwp_eq, wp_eChain]; (try rfl); (try delta kCb); (try delta kCc); (try delta kX); (try delta kCd); (try delta kB); (try simp only [owp_eq, swp_eq, gwp_eq]); (try rfl)
@[simp] theorem w_sSeq : swp (sSeq f h e M) N R B C Es = swp (f e M) (kS h N R B C Es) R B C Es := by simp only [owp_eq, swp_eq, gwp_eq, wp_sSeq]; (try rfl); (try delta kS); (try simp only [owp_eq, swp_eq, gwp_eq]); (try rfl)
@[simp] theorem w_sExpr : swp (sExpr fa e M) N R B C Es = owp (fa e M) (kEx e N) (kEr Es e) := by simp only [owp_eq, swp_eq, gwp_eq, wp_sExpr]; (try rfl); (try delta kEr); (try delta kEx); (try simp only [owp_eq, swp_eq, gwp_eq]); (try rfl)
@[simp] theorem w_sRet : swp (sRet fa e M) N R B C Es = owp (fa e M) R (kEr Es e) := by simp only [owp_eq, swp_eq, gwp_eq, wp_sRet]; (try rfl); (try delta kEr); (try simp only [owp_eq, swp_eq, gwp_eq]); (try rfl)
@[simp] theorem w_sIf : swp (sIf t f h e M) N R B C Es = owp (t e M) (kIf f h e N R B C Es) (kEr Es e) := by simp only [owp_eq, swp_eq, gwp_eq, wp_sIf]; (try rfl); (try delta kEr); (try delta kIf); (try simp only [owp_eq, swp_eq, gwp_eq]); (try rfl)
@[simp] theorem w_sAsg {g} : swp (sAsg fa g e M) N R B C Es = owp (fa e M) (kAs g e N Es) (kEr Es e) := by simp only [owp_eq, swp_eq, gwp_eq, wp_sAsg]; (try rfl); (try delta kAs); (try delta kEr); (try simp only [owp_eq, swp_eq, gwp_eq]); (try rfl)
@[simp] theorem w_gsCons {g gs} : gwp (gsCons g gs (x :: l) e M) N Es = gwp (g x e M) (kGs gs l N Es) Es := by simp only [owp_eq, swp_eq, gwp_eq, wp_gsCons]; (try rfl); (try delta kGs); (try simp only [owp_eq, swp_eq, gwp_eq]); (try rfl)
@[simp] theorem w_gSb : gwp (gSb fa fb x e M) N Es = owp (fa e M) (kSb fb x e N Es) (kEr Es e) := by simp only [owp_eq, swp_eq, gwp_eq, wp_gSb]; (try rfl); (try delta kEr); (try delta kSb); (try delta kSc); (try simp only [owp_eq, swp_eq, gwp_eq]); (try rfl)
@[simp] theorem w_sPar {is} : swp (sPar is af e M) N R B C Es = owp (af e M) (kPa is e N) (kEr Es e) := by simp only [owp_eq, swp_eq, gwp_eq, wp_sPar]; (try rfl); (try delta kEr); (try delta kPa); (try simp only [owp_eq, swp_eq, gwp_eq]); (try rfl)
@[simp] theorem w_sAug {i} : swp (sAug i g fa e M) N R B C Es = ∃ x, sget e i = some x ∧ owp (fa e M) (kAg g x i e N Es) (kEr Es e) := by simp only [owp_eq, swp_eq, gwp_eq, wp_sAug]; (try rfl); (try delta kAg); (try delta kAh); (try delta kEr); (try simp only [owp_eq, swp_eq, gwp_eq]); (try rfl)
@[simp] theorem w_fnS {np n} : owp (fnS np n f l M) Q E = (l.length = np ∧ swp (f (l.map some ++ List.replicate (n - np) none) M) (kRn Q) Q kFF kFF (kE1 E)) := by simp only [owp_eq, swp_eq, gwp_eq, wp_fnS]; (try rfl); (try delta kE1); (try delta kFF); (try delta kRn); (try simp only [owp_eq, swp_eq, gwp_eq]); (try rfl)
@[simp] theorem w_sFor {g} {i : IF} : swp (sFor i g f e M) N R B C Es = owp (i e M) (kFo g f e N R B C Es) (kEr Es e) := by simp only [owp_eq, swp_eq, gwp_eq, wp_sFor]; (try rfl); (try delta kEr); (try delta kFo); (try simp only [owp_eq, swp_eq, gwp_eq]); (try rfl)
@[simp] theorem w_iSq : owp (iSq fa e M) Qi E = owp (fa e M) (kIs Qi) E := by simp only [owp_eq, swp_eq, gwp_eq, wp_iSq]; (try rfl); (try delta kIs); (try simp only [owp_eq, swp_eq, gwp_eq]); (try rfl)
@[simp] theorem w_iEn : owp (iEn fa e M) Qi E = owp (fa e M) (kIe Qi) E := by simp only [owp_eq, swp_eq, gwp_eq, wp_iEn]; (try rfl); (try delta kIe); (try simp only [owp_eq, swp_eq, gwp_eq]); (try rfl)
@[simp] theorem w_iZp : owp (iZp fa fb e M) Qi E = owp (fa e M) (kIy fb e Qi E) E := by simp only [owp_eq, swp_eq, gwp_eq, wp_iZp]; (try rfl); (try delta kIy); (try delta kIz); (try simp only [owp_eq, swp_eq, gwp_eq]); (try rfl)
@[simp] theorem w_iR1 : owp (iR1 fa e M) Qi E = owp (fa e M) (kI1 Qi) E := by simp only [owp_eq, swp_eq, gwp_eq, wp_iR1]; (try rfl); (try delta kI1); (try simp only [owp_eq, swp_eq, gwp_eq]); (try rfl)
@[simp] theorem w_iR2 : owp (iR2 fa fb e M) Qi E = owp (fa e M) (kI2 fb e Qi E) E := by simp only [owp_eq, swp_eq, gwp_eq, wp_iR2]; (try rfl); (try delta kI2); (try delta kI3); (try simp only [owp_eq, swp_eq, gwp_eq]); (try rfl)
@[simp] theorem w_eLc {i : IF} {g vs} : owp (eLc i g t fa vs e M) Q E = owp (i e M) (kLc g t fa vs e Q E) E := by simp only [owp_eq, swp_eq, gwp_eq, wp_eLc]; (try rfl); (try delta kLc); (try simp only [owp_eq, swp_eq, gwp_eq]); (try rfl)
@[simp] theorem w_eDc {i : IF} {g vs} : owp (eDc i g t fa fb vs e M) Q E = owp (i e M) (kDc g t fa fb vs e Q E) E := by simp only [owp_eq, swp_eq, gwp_eq, wp_eDc0]; (try rfl); (try delta kDc); (try simp only [owp_eq, swp_eq, gwp_eq]); (try rfl)
@[simp] theorem w_oSome : owp (oSome fa e M) Qo E = owp (fa e M) (kOs Qo) E := by simp only [owp_eq, swp_eq, gwp_eq, wp_oSome]; (try rfl); (try delta kOs); (try simp only [owp_eq, swp_eq, gwp_eq]); (try rfl)
@[simp] theorem w_eSl {l h} : owp (eSl fa l h e M) Q E = owp (fa e M) (kSl l h e Q E) E := by simp only [owp_eq, swp_eq, gwp_eq, wp_eSl]; (try rfl); (try delta kSl); (try delta kSe); (try delta kSd); (try simp only [owp_eq, swp_eq, gwp_eq]); (try rfl)
@[simp] theorem w_eLr1 : owp (eLr1 fa e M) Q E = owp (fa e M) (kR1 Q) E := by simp only [owp_eq, swp_eq, gwp_eq, wp_eLr1]; (try rfl); (try delta kR1); (try simp only [owp_eq, swp_eq, gwp_eq]); (try rfl)
@[simp] theorem w_eIsi {ts} : owp (eIsi ts fa e M) Q E = owp (fa e M) (kTy ts Q) E := by simp only [owp_eq, swp_eq, gwp_eq, wp_eIsi]; (try rfl); (try delta kTy); (try simp only [owp_eq, swp_eq, gwp_eq]); (try rfl)
@[simp] theorem w_eMt {T g} : owp (eMt T g fa af e M) Q E = owp (fa e M) (kMt T g af e Q E) E := by simp only [owp_eq, swp_eq, gwp_eq, wp_eMt]; (try rfl); (try delta kMt); (try delta kMb); (try simp only [owp_eq, swp_eq, gwp_eq]); (try rfl)
end
end Kt
/-! specs, shut, and their use -/
structure Oq (o : Out Val) (Q : Val → Mem → Prop) : Prop where
  h : owp o Q noE
theorem owp_imp {α : Type} {o : Out α} {Q Q' : α → Mem → Prop} {E E' : Ex → Mem → Prop} (h : owp o Q E) (hq : ∀ a M, Q a M → Q' a M) (he : ∀ x M, E x M → E' x M) : owp o Q' E' := by
  rw [owp_eq] at *; exact Out.wp_mono h hq he
theorem Oq.use {o : Out Val} {Q Q' : Val → Mem → Prop} {E' : Ex → Mem → Prop} (h : Oq o Q) (hq : ∀ a M, Q a M → Q' a M) : owp o Q' E' := owp_imp h.h hq fun _ _ z => z.elim
theorem Oq.imp {o : Out Val} {Q Q' : Val → Mem → Prop} (h : Oq o Q) (hq : ∀ a M, Q a M → Q' a M) : Oq o Q' := ⟨h.use hq⟩
theorem Oq.ofW {o : Out Val} {Q : Val → Mem → Prop} (h : o.wp Q noE) : Oq o Q := ⟨by rw [owp_eq]; exact h⟩
theorem Oq.toW {o : Out Val} {Q : Val → Mem → Prop} (h : Oq o Q) : o.wp Q noE := by rw [← owp_eq]; exact h.h
theorem Oq.get {o : Out Val} {Q : Val → Mem → Prop} (h : Oq o Q) : ∃ a M, o = .ok a M ∧ Q a M := Out.wp_ok h.toW
theorem swp_imp {o : SO} {N N' : Sl → Mem → Prop} {R R' : Val → Mem → Prop} {B B' C C' : Sl → Mem → Prop} {E E' : Ex → Sl → Mem → Prop} (h : swp o N R B C E) (h1 : ∀ e M, N e M → N' e M) (h2 : ∀ x M, R x M → R' x M) (h3 : ∀ e M, B e M → B' e M) (h4 : ∀ e M, C e M → C' e M)
    (h5 : ∀ x e M, E x e M → E' x e M) : swp o N' R' B' C' E' := by
  rw [swp_eq] at *; exact SO.wp_mono h h1 h2 h3 h4 h5
section
variable {N B C : Sl → Mem → Prop} {R : Val → Mem → Prop} {Es : Ex → Sl → Mem → Prop} {E : Ex → Mem → Prop} {Qv : Val → Mem → Prop} {nxt : Nat → Mem → Option (Option Val)} {g : GF} {body : SF} {e : Sl} {M : Mem}
/-! loops -/
theorem o_forG (l : List Val) (I : Nat → Sl → Mem → Prop) (hn : ∀ i e M, I i e M → nxt i M = some l[i]?)
    (hs : ∀ i x e M, l[i]? = some x → I i e M → gwp (g x e M) (fun e1 M1 => swp (body e1 M1) (I (i + 1)) R N (I (i + 1)) Es) Es) (hd : ∀ e M, I l.length e M → N e M)
    (m : Nat) (h1 : l.length < m) (hI : I 0 e M) : swp (forG nxt g body m 0 e M) N R B C Es := by
  rw [swp_eq]
  simp only [gwp_eq, swp_eq] at hs
  exact wp_forG l I hn hs hd m 0 e M (by omega) (Nat.zero_le _) hI
theorem o_while {n : Nat} {t : TF} (I : Sl → Mem → Prop) (μ : Sl → Mem → Nat) (h0 : I e M) (hm : μ e M < n)
    (hs : ∀ e M, I e M → owp (t e M) (fun b M1 => if b = true then swp (body e M1) (fun e2 M2 => I e2 M2 ∧ μ e2 M2 < μ e M) R N (fun e2 M2 => I e2 M2 ∧ μ e2 M2 < μ e M) Es else N e M1) (fun x M => Es x e M)) : swp (sWhile n t body e M) N R B C Es := by
  rw [swp_eq]
  simp only [owp_eq, swp_eq] at hs
  exact wp_while I μ h0 hm hs
theorem o_for_tup {l : List Val} (I : Nat → Sl → Mem → Prop) (h0 : I 0 e M)
    (hs : ∀ i x e M, l[i]? = some x → I i e M → gwp (g x e M) (fun e1 M1 => swp (body e1 M1) (I (i + 1)) R N (I (i + 1)) Es) Es) (hd : ∀ e M, I l.length e M → N e M) : swp (forG (itTup l).nxt g body (itTup l).fuel 0 e M) N R B C Es := by
  rw [swp_eq]; simp only [gwp_eq, swp_eq] at hs; exact wp_for_tup I h0 hs hd
theorem o_for_lst {n b : Nat} {l : List Val} (I : Nat → Sl → Mem → Prop) (hb : l.length ≤ b) (hl : ∀ i e M, I i e M → getL M n = some l) (h0 : I 0 e M)
    (hs : ∀ i x e M, l[i]? = some x → I i e M → gwp (g x e M) (fun e1 M1 => swp (body e1 M1) (I (i + 1)) R N (I (i + 1)) Es) Es) (hd : ∀ e M, I l.length e M → N e M) : swp (forG (itLst n b).nxt g body (itLst n b).fuel 0 e M) N R B C Es := by
  rw [swp_eq]; simp only [gwp_eq, swp_eq] at hs; exact wp_for_lst I hb hl h0 hs hd
theorem o_for_rng {lo : Int} {n : Nat} (I : Nat → Sl → Mem → Prop) (h0 : I 0 e M)
    (hs : ∀ i e M, i < n → I i e M → gwp (g (.int (lo + i)) e M) (fun e1 M1 => swp (body e1 M1) (I (i + 1)) R N (I (i + 1)) Es) Es) (hd : ∀ e M, I n e M → N e M) : swp (forG (itRng lo n).nxt g body (itRng lo n).fuel 0 e M) N R B C Es := by
  rw [swp_eq]; simp only [gwp_eq, swp_eq] at hs; exact wp_for_rng I h0 hs hd
theorem o_for_frz {l : List Int} (I : Nat → Sl → Mem → Prop) (h0 : I 0 e M)
    (hs : ∀ i x e M, l[i]? = some x → I i e M → gwp (g (.int x) e M) (fun e1 M1 => swp (body e1 M1) (I (i + 1)) R N (I (i + 1)) Es) Es) (hd : ∀ e M, I l.length e M → N e M) : swp (forG (itFrz l).nxt g body (itFrz l).fuel 0 e M) N R B C Es := by
  rw [swp_eq]; simp only [gwp_eq, swp_eq] at hs; exact wp_for_frz I h0 hs hd
theorem o_for_enumT {l : List Val} (I : Nat → Sl → Mem → Prop) (h0 : I 0 e M)
    (hs : ∀ i x e M, l[i]? = some x → I i e M → gwp (g (.tup [.int (i : Nat), x]) e M) (fun e1 M1 => swp (body e1 M1) (I (i + 1)) R N (I (i + 1)) Es) Es) (hd : ∀ e M, I l.length e M → N e M) : swp (forG (itNum (itTup l)).nxt g body (itNum (itTup l)).fuel 0 e M) N R B C Es := by
  rw [swp_eq]; simp only [gwp_eq, swp_eq] at hs; exact wp_for_enumT I h0 hs hd
theorem o_for_enumL {n b : Nat} {l : List Val} (I : Nat → Sl → Mem → Prop) (hb : l.length ≤ b) (hl : ∀ i e M, I i e M → getL M n = some l) (h0 : I 0 e M)
    (hs : ∀ i x e M, l[i]? = some x → I i e M → gwp (g (.tup [.int (i : Nat), x]) e M) (fun e1 M1 => swp (body e1 M1) (I (i + 1)) R N (I (i + 1)) Es) Es) (hd : ∀ e M, I l.length e M → N e M) : swp (forG (itNum (itLst n b)).nxt g body (itNum (itLst n b)).fuel 0 e M) N R B C Es := by
  rw [swp_eq]; simp only [gwp_eq, swp_eq] at hs; exact wp_for_enumL I hb hl h0 hs hd
theorem o_for_zipT {l m : List Val} (hlm : l.length = m.length) (I : Nat → Sl → Mem → Prop) (h0 : I 0 e M)
    (hs : ∀ i x y e M, l[i]? = some x → m[i]? = some y → I i e M → gwp (g (.tup [x, y]) e M) (fun e1 M1 => swp (body e1 M1) (I (i + 1)) R N (I (i + 1)) Es) Es) (hd : ∀ e M, I l.length e M → N e M) : swp (forG (itZ (itTup l) (itTup m)).nxt g body (itZ (itTup l) (itTup m)).fuel 0 e M) N R B C Es := by
  rw [swp_eq]; simp only [gwp_eq, swp_eq] at hs; exact wp_for_zipT hlm I h0 hs hd
theorem o_lcG {g : Tg} {t : TF} {el : EF} {D : Nat} (l : List Val) (I : Nat → Mem → Prop) (hn : ∀ i M, I i M → nxt i M = some l[i]?)
    (hs : ∀ i x M, l[i]? = some x → I i M → ∃ e1, g.put x e = some e1 ∧ owp (t e1 M) (fun b M1 => if b = true then owp (el e1 M1) (fun y M2 => ∃ acc, getL M2 D = some acc ∧ acc.length < sizeLine ∧ I (i + 1) (M2.set D (.lst (acc ++ [y])))) noE else I (i + 1) M1) noE)
    (hd : ∀ M, I l.length M → Qv (.loc D) M) (m : Nat) (h1 : l.length < m) (hI : I 0 M) : owp (lcG nxt g t el D e m 0 M) Qv E := by
  rw [owp_eq]
  simp only [owp_eq] at hs
  exact wp_lcG l I hn hs hd m 0 M (by omega) (Nat.zero_le _) hI
/-- one whose elements and tests are functions of the item -/
theorem o_lc_fun {g : Tg} {t : TF} {el : EF} {M1 : Mem} {b : Nat} (l : List Val) (p : Val → Bool) (f : Val → Val) (hb : l.length ≤ b) (hz : l.length ≤ sizeLine) (hn : ∀ (i : Nat) M, M1 <+: M → nxt i M = some l[i]?)
    (hs : ∀ (i : Nat) x M, l[i]? = some x → M1 <+: M → ∃ e1, g.put x e = some e1 ∧ owp (t e1 M) (fun b M' => b = p x ∧ M <+: M' ∧ (p x = true → owp (el e1 M') (fun y M'' => y = f x ∧ M' <+: M'') noE)) noE)
    (hd : ∀ M, M1 <+: M → getL M M1.length = some ((l.filter p).map f) → Qv (.loc M1.length) M) : owp (lcG nxt g t el M1.length e (b + 1) 0 (M1 ++ [.lst []])) Qv E := by
  rw [owp_eq]; simp only [owp_eq] at hs; exact wp_lc_fun l p f hb hz hn hs hd
theorem wp_dcG0 {g : Tg} {t : TF} {ek ev : EF} {D : Nat} (l : List Val) (I : Nat → Mem → Prop) (hn : ∀ i M, I i M → nxt i M = some l[i]?)
    (hs : ∀ i x M, l[i]? = some x → I i M → ∃ e1, g.put x e = some e1 ∧ (t e1 M).wp (fun b M1 => if b = true then (ek e1 M1).wp (fun y M2 => (ev e1 M2).wp (fun z M3 => ∃ k kvs, keyOf y = some k ∧ M3[D]? = some (.dK kvs) ∧ kvs.length < sizeLine ∧ I (i + 1) (M3.set D (.dK (putV kvs k z)))) noE) noE else I (i + 1) M1) noE)
    (hd : ∀ M, I l.length M → Qv (.loc D) M) : ∀ (m i : Nat) (M : Mem), l.length < m + i → i ≤ l.length → I i M → (dcG nxt g t ek ev D e m i M).wp Qv E
  | 0, i, M, h1, h2, _ => absurd h1 (by omega)
  | m + 1, i, M, h1, h2, hI => by
    unfold dcG
    rw [hn i M hI]
    cases hx : l[i]? with
    | none =>
      have : l.length ≤ i := List.getElem?_eq_none_iff.mp hx
      have e1 : i = l.length := by omega
      subst e1
      exact hd M hI
    | some x =>
      have hlt : i < l.length := (List.getElem?_eq_some_iff.mp hx).1
      obtain ⟨e1, hp, h⟩ := hs i x M hx hI
      dsimp only
      rw [hp]
      dsimp only
      cases ht : t e1 M with
      | bad => rw [ht] at h; exact h.elim
      | ex _ _ => rw [ht] at h; exact h.elim
      | ok b M1 =>
        rw [ht] at h
        simp only [wp_ok] at h
        dsimp only
        by_cases hb : b = true
        · rw [if_pos hb] at h ⊢
          cases hk : ek e1 M1 with
          | bad => rw [hk] at h; exact h.elim
          | ex _ _ => rw [hk] at h; exact h.elim
          | ok y M2 =>
            rw [hk] at h
            simp only [wp_ok] at h
            dsimp only
            cases hv : ev e1 M2 with
            | bad => rw [hv] at h; exact h.elim
            | ex _ _ => rw [hv] at h; exact h.elim
            | ok z M3 =>
              rw [hv] at h
              simp only [wp_ok] at h
              obtain ⟨k, kvs, h1', h2', h3', h4'⟩ := h
              dsimp only
              rw [h1']
              dsimp only
              rw [h2']
              dsimp only
              rw [if_pos h3']
              exact wp_dcG0 l I hn hs hd m (i + 1) _ (by omega) (by omega) h4'
        · rw [if_neg hb] at h ⊢
          exact wp_dcG0 l I hn hs hd m (i + 1) _ (by omega) (by omega) h
theorem o_dcG {g : Tg} {t : TF} {ek ev : EF} {D : Nat} (l : List Val) (I : Nat → Mem → Prop) (hn : ∀ i M, I i M → nxt i M = some l[i]?)
    (hs : ∀ i x M, l[i]? = some x → I i M → ∃ e1, g.put x e = some e1 ∧ owp (t e1 M) (fun b M1 => if b = true then owp (ek e1 M1) (fun y M2 => owp (ev e1 M2) (fun z M3 => ∃ k kvs, keyOf y = some k ∧ M3[D]? = some (.dK kvs) ∧ kvs.length < sizeLine ∧ I (i + 1) (M3.set D (.dK (putV kvs k z)))) noE) noE else I (i + 1) M1) noE)
    (hd : ∀ M, I l.length M → Qv (.loc D) M) (m : Nat) (h1 : l.length < m) (hI : I 0 M) : owp (dcG nxt g t ek ev D e m 0 M) Qv E := by
  rw [owp_eq]
  simp only [owp_eq] at hs
  exact wp_dcG0 l I hn hs hd m 0 M (by omega) (Nat.zero_le _) hI
@[simp] theorem o_inKV (x y : Val) : owp (inKV x y M) Qv E = ∃ b, inKD x y M = some b ∧ Qv (.bl b) M := by rw [owp_eq]; unfold inKV; cases inKD x y M <;> simp
@[simp] theorem o_notInKV (x y : Val) : owp (notInKV x y M) Qv E = ∃ b, inKD x y M = some b ∧ Qv (.bl (!b)) M := by rw [owp_eq]; unfold notInKV; cases inKD x y M <;> simp
end
end Sm

namespace Sm
open PySem L2
namespace Kt
def kQ4 (o i : Val) (e : Sl) (N : PS) : PV := fun z M => ∃ M5, setV o i z M = some M5 ∧ N e M5
def kQ3 (g : G2) (x o i : Val) (e : Sl) (N : PS) (Es : PXs) : PV := fun y M => owp (g x y M) (kQ4 o i e N) (kEr Es e)
def kQ2 (g : G2) (o : Val) (f : EF) (e : Sl) (N : PS) (Es : PXs) : PV := fun i M => ∃ x, getLV o i M = some x ∧ owp (f e M) (kQ3 g x o i e N Es) (kEr Es e)
def kQ1 (g : G2) (fi f : EF) (e : Sl) (N : PS) (Es : PXs) : PV := fun o M => owp (fi e M) (kQ2 g o f e N Es) (kEr Es e)
def kLc2 (g : Tg) (t : TF) (f1 : IF) (g1 : Tg) (t1 : TF) (el : EF) (vs vs1 : List Nat) (e : Sl) (Q : PV) (E : PX) : Itr → Mem → Prop := fun it M => owp (lcO it.nxt g t f1 g1 t1 el vs1 M.length (wipeS e vs) it.fuel 0 (M ++ [.lst []])) Q E
section
variable {Q : PV} {E : PX} {e : Sl} {M : Mem} {N B C : PS} {R : PV} {Es : PXs} {o i x y z : Val} {g : G2} {fo fi f : EF}
@[simp] theorem kQ4_ap : kQ4 o i e N z M = (∃ M5, setV o i z M = some M5 ∧ N e M5) := rfl
@[simp] theorem kQ3_ap : kQ3 g x o i e N Es y M = owp (g x y M) (kQ4 o i e N) (kEr Es e) := rfl
@[simp] theorem kQ2_ap : kQ2 g o f e N Es i M = (∃ x, getLV o i M = some x ∧ owp (f e M) (kQ3 g x o i e N Es) (kEr Es e)) := rfl
@[simp] theorem kQ1_ap : kQ1 g fi f e N Es o M = owp (fi e M) (kQ2 g o f e N Es) (kEr Es e) := rfl
@[simp] theorem w_sAugS : swp (sAugS g fo fi f e M) N R B C Es = owp (fo e M) (kQ1 g fi f e N Es) (kEr Es e) := by
  simp only [swp_eq, owp_eq]
  unfold sAugS
  rw [wp_toS]
  congr 1
  funext o M1
  show _ = kQ1 g fi f e N Es o M1
  rw [kQ1_ap, owp_eq, wp_toS]
  congr 1
  funext i M2
  rw [kQ2_ap]
  cases getLV o i M2 with
  | none => simp
  | some x =>
    simp only [Option.some.injEq, exists_eq_left']
    rw [owp_eq, wp_toS]
    congr 1
    funext y M3
    rw [kQ3_ap, owp_eq, wp_toS]
    congr 1
    funext z M4
    rw [kQ4_ap]
    cases setV o i z M4 <;> simp
@[simp] theorem getLV_l (n : Nat) (k : Int) (M : Mem) : getLV (.loc n) (.int k) M = (getL M n).bind fun l => atI l k := rfl
@[simp] theorem kLc2_ap {g t f1 g1 t1} {el : EF} {vs vs1} {it : Itr} : kLc2 g t f1 g1 t1 el vs vs1 e Q E it M = owp (lcO it.nxt g t f1 g1 t1 el vs1 M.length (wipeS e vs) it.fuel 0 (M ++ [.lst []])) Q E := rfl
@[simp] theorem w_eLc2 {ff : IF} {g t f1 g1 t1} {el : EF} {vs vs1} : owp (eLc2 ff g t f1 g1 t1 el vs vs1 e M) Q E = owp (ff e M) (kLc2 g t f1 g1 t1 el vs vs1 e Q E) E := by
  simp only [owp_eq]
  unfold eLc2
  rw [wp_bind]
  congr 1
  funext it M1
  rw [kLc2_ap, owp_eq]
end
end Kt
section
variable {E : Ex → Mem → Prop} {Qv : Val → Mem → Prop} {nxt : Nat → Mem → Option (Option Val)} {e : Sl} {M : Mem}
theorem wp_lcI {g : Tg} {t : TF} {el : EF} {D : Nat} (l : List Val) (I : Nat → Mem → Prop) (hn : ∀ i M, I i M → nxt i M = some l[i]?)
    (hs : ∀ i x M, l[i]? = some x → I i M → ∃ e1, g.put x e = some e1 ∧ owp (t e1 M) (fun b M1 => if b = true then owp (el e1 M1) (fun y M2 => ∃ acc, getL M2 D = some acc ∧ acc.length < sizeLine ∧ I (i + 1) (M2.set D (.lst (acc ++ [y])))) noE else I (i + 1) M1) noE) :
    ∀ (m i : Nat) (M : Mem), l.length < m + i → i ≤ l.length → I i M → ∃ M', lcI nxt g t el D e m i M = some M' ∧ I l.length M'
  | 0, i, M, h1, h2, _ => absurd h1 (by omega)
  | m + 1, i, M, h1, h2, hI => by
    unfold lcI
    rw [hn i M hI]
    cases hx : l[i]? with
    | none =>
      have : l.length ≤ i := List.getElem?_eq_none_iff.mp hx
      have e1 : i = l.length := by omega
      subst e1
      exact ⟨M, rfl, hI⟩
    | some x =>
      have hlt : i < l.length := (List.getElem?_eq_some_iff.mp hx).1
      obtain ⟨e1, hp, h⟩ := hs i x M hx hI
      rw [owp_eq] at h
      dsimp only
      rw [hp]
      dsimp only
      cases ht : t e1 M with
      | bad => rw [ht] at h; exact h.elim
      | ex _ _ => rw [ht] at h; exact h.elim
      | ok b M1 =>
        rw [ht] at h
        simp only [wp_ok] at h
        dsimp only
        by_cases hb : b = true
        · rw [if_pos hb] at h ⊢
          rw [owp_eq] at h
          cases hl : el e1 M1 with
          | bad => rw [hl] at h; exact h.elim
          | ex _ _ => rw [hl] at h; exact h.elim
          | ok y M2 =>
            rw [hl] at h
            simp only [wp_ok] at h
            obtain ⟨acc, ha, hz, hI'⟩ := h
            dsimp only
            rw [ha]
            dsimp only
            rw [if_pos hz]
            exact wp_lcI l I hn hs m (i + 1) _ (by omega) (by omega) hI'
        · rw [if_neg hb] at h ⊢
          exact wp_lcI l I hn hs m (i + 1) _ (by omega) (by omega) h
theorem o_lcO {g : Tg} {t : TF} {f1 : IF} {g1 : Tg} {t1 : TF} {el : EF} {vs1 : List Nat} {D : Nat} (l : List Val) (I : Nat → Mem → Prop) (hn : ∀ i M, I i M → nxt i M = some l[i]?)
    (hs : ∀ i x M, l[i]? = some x → I i M → ∃ e1, g.put x e = some e1 ∧ owp (t e1 M) (fun b M1 => if b = true then owp (f1 e1 M1) (fun it M2 => ∃ M3, lcI it.nxt g1 t1 el D (wipeS e1 vs1) it.fuel 0 M2 = some M3 ∧ I (i + 1) M3) noE else I (i + 1) M1) noE)
    (hd : ∀ M, I l.length M → Qv (.loc D) M) : ∀ (m i : Nat) (M : Mem), l.length < m + i → i ≤ l.length → I i M → owp (lcO nxt g t f1 g1 t1 el vs1 D e m i M) Qv E
  | 0, i, M, h1, h2, _ => absurd h1 (by omega)
  | m + 1, i, M, h1, h2, hI => by
    unfold lcO
    rw [hn i M hI]
    cases hx : l[i]? with
    | none =>
      have : l.length ≤ i := List.getElem?_eq_none_iff.mp hx
      have e1 : i = l.length := by omega
      subst e1
      rw [owp_eq]
      exact hd M hI
    | some x =>
      have hlt : i < l.length := (List.getElem?_eq_some_iff.mp hx).1
      obtain ⟨e1, hp, h⟩ := hs i x M hx hI
      rw [owp_eq] at h
      dsimp only
      rw [hp]
      dsimp only
      cases ht : t e1 M with
      | bad => rw [ht] at h; exact h.elim
      | ex _ _ => rw [ht] at h; exact h.elim
      | ok b M1 =>
        rw [ht] at h
        simp only [wp_ok] at h
        dsimp only
        by_cases hb : b = true
        · rw [if_pos hb] at h ⊢
          rw [owp_eq] at h
          cases hl : f1 e1 M1 with
          | bad => rw [hl] at h; exact h.elim
          | ex _ _ => rw [hl] at h; exact h.elim
          | ok it M2 =>
            rw [hl] at h
            simp only [wp_ok] at h
            obtain ⟨M3, ha, hI'⟩ := h
            dsimp only
            rw [ha]
            exact o_lcO l I hn hs hd m (i + 1) _ (by omega) (by omega) hI'
        · rw [if_neg hb] at h ⊢
          exact o_lcO l I hn hs hd m (i + 1) _ (by omega) (by omega) h
end
section
variable {Q : Val → Mem → Prop} {E : Ex → Mem → Prop} {M : Mem}
@[simp] theorem owp_maxQ_l (n : Nat) : owp (maxQ [.loc n] M) Q E = owp (maxV [.loc n] M) Q E := by exact id rfl
@[simp] theorem owp_minQ_l (n : Nat) : owp (minQ [.loc n] M) Q E = owp (minV [.loc n] M) Q E := by exact id rfl
@[simp] theorem owp_maxQ_t (l : List Val) : owp (maxQ [.tup l] M) Q E = ∃ ns, intsOf l = some ns ∧ 0 < ns.length ∧ Q (.int (maxL ns)) M := by
  unfold maxQ
  dsimp only
  cases intsOf l with
  | none => rw [owp_eq]; simp
  | some ns => dsimp only; by_cases h : 0 < ns.length <;> rw [owp_eq] <;> simp [h]
@[simp] theorem owp_minQ_t (l : List Val) : owp (minQ [.tup l] M) Q E = ∃ ns, intsOf l = some ns ∧ 0 < ns.length ∧ Q (.int (minL ns)) M := by
  unfold minQ
  dsimp only
  cases intsOf l with
  | none => rw [owp_eq]; simp
  | some ns => dsimp only; by_cases h : 0 < ns.length <;> rw [owp_eq] <;> simp [h]
end
end Sm

namespace Sm
open PySem L2
open Kt
namespace Kt
def kRz (C : Str) (ns : List Str) (e : Sl) (Es : PXs) : PL := fun l M => ∃ is, intsOf l = some is ∧ is.length = ns.length ∧ is.all smI = true ∧ Es ⟨C, (ns.zip is).reverse⟩ e M
def kEz2 (x : Val) (Q : Itr → Mem → Prop) : PV := fun y M => ∃ it, itEnZ x y = some it ∧ Q it M
def kEz1 (f : EF) (e : Sl) (Q : Itr → Mem → Prop) (E : PX) : PV := fun x M => owp (f e M) (kEz2 x Q) E
end Kt
section
variable {e : Sl} {M : Mem} {N B C : Sl → Mem → Prop} {R : Val → Mem → Prop} {Es : Ex → Sl → Mem → Prop} {Qv : Val → Mem → Prop} {E : Ex → Mem → Prop} {Qi : Itr → Mem → Prop}
@[simp] theorem kRz_ap {K : Str} {ns : List Str} {l : List Val} : Kt.kRz K ns e Es l M = ∃ is, intsOf l = some is ∧ is.length = ns.length ∧ is.all smI = true ∧ Es ⟨K, (ns.zip is).reverse⟩ e M := by exact id rfl
@[simp] theorem kEz2_ap {x y : Val} : Kt.kEz2 x Qi y M = ∃ it, itEnZ x y = some it ∧ Qi it M := by exact id rfl
@[simp] theorem kEz1_ap {f : EF} {x : Val} : Kt.kEz1 f e Qi E x M = owp (f e M) (Kt.kEz2 x Qi) E := by exact id rfl
@[simp] theorem w_sRaise0 (K : Str) : swp (sRaise0 K e M) N R B C Es = Es ⟨K, []⟩ e M := by rw [swp_eq]; rfl
@[simp] theorem w_sRaiseN (K : Str) (ns : List Str) (fa : AF) : swp (sRaiseN K ns fa e M) N R B C Es = owp (fa e M) (Kt.kRz K ns e Es) (Kt.kEr Es e) := by
  rw [swp_eq, owp_eq]
  unfold sRaiseN
  cases h : fa e M with
  | ok l M1 =>
    show SO.wp (match intsOf l with
      | some is => if is.length = ns.length ∧ is.all smI = true then .ex ⟨K, (ns.zip is).reverse⟩ e M1 else .bad
      | none => .bad) N R B C Es = Kt.kRz K ns e Es l M1
    rw [kRz_ap]
    cases hi : intsOf l with
    | none => simp [SO.wp]
    | some is =>
      by_cases hc : is.length = ns.length ∧ is.all smI = true
      · simp only [if_pos hc]
        refine propext ⟨fun z => ⟨is, rfl, hc.1, hc.2, z⟩, fun ⟨js, e1, _, _, z⟩ => ?_⟩
        cases e1; exact z
      · simp only [if_neg hc]
        refine propext ⟨fun z => z.elim, fun ⟨js, e1, h1, h2, _⟩ => ?_⟩
        cases e1; exact absurd ⟨h1, h2⟩ hc
  | ex x M1 => rfl
  | bad => rfl
@[simp] theorem w_iEnZ (fa fb : EF) : owp (iEnZ fa fb e M) Qi E = owp (fa e M) (Kt.kEz1 fb e Qi E) E := by
  rw [owp_eq, owp_eq]
  unfold iEnZ
  cases h : fa e M with
  | ok x M1 =>
    show ((fb e M1).bind fun y M2 => match itEnZ x y with
      | some it => Out.ok it M2
      | none => .bad).wp Qi E = Kt.kEz1 fb e Qi E x M1
    rw [kEz1_ap, owp_eq]
    cases h2 : fb e M1 with
    | ok y M2 =>
      show (match itEnZ x y with
        | some it => Out.ok it M2
        | none => .bad).wp Qi E = Kt.kEz2 x Qi y M2
      rw [kEz2_ap]
      cases itEnZ x y <;> simp
    | ex _ _ => rfl
    | bad => rfl
  | ex _ _ => rfl
  | bad => rfl
@[simp] theorem owp_sortedPV_l (n : Nat) : owp (sortedPV [.loc n] M) Qv E = ∃ l ps, getL M n = some l ∧ pairsV l = some ps ∧ Qv (.loc M.length) (M ++ [.lst ((sortP ps).map pairV)]) := by
  rw [owp_eq]
  unfold sortedPV
  cases h : getL M n with
  | none => simp [h, Out.wp]
  | some l => cases h2 : pairsV l <;> simp [h, h2, Out.wp]
@[simp] theorem owp_sortedPV_t (l : List Val) : owp (sortedPV [.tup l] M) Qv E = ∃ ps, pairsV l = some ps ∧ Qv (.loc M.length) (M ++ [.lst ((sortP ps).map pairV)]) := by
  rw [owp_eq]
  unfold sortedPV
  cases h2 : pairsV l <;> simp [h2, Out.wp]
end
/-- what it comes to, exceptions too -/
structure Xq (o : Out Val) (Q : Val → Mem → Prop) (E : Ex → Mem → Prop) : Prop where
  h : owp o Q E
theorem Xq.use {o : Out Val} {Q Q' : Val → Mem → Prop} {E E' : Ex → Mem → Prop} (h : Xq o Q E) (hq : ∀ a M, Q a M → Q' a M) (he : ∀ x M, E x M → E' x M) : owp o Q' E' := owp_imp h.h hq he
theorem Xq.get {o : Out Val} {Q : Val → Mem → Prop} {E : Ex → Mem → Prop} (h : Xq o Q E) : (∃ v M, o = .ok v M ∧ Q v M) ∨ ∃ x M, o = .ex x M ∧ E x M := by
  have h := h.h
  rw [owp_eq] at h
  cases o with
  | ok v M => exact .inl ⟨v, M, rfl, h⟩
  | ex x M => exact .inr ⟨x, M, rfl, h⟩
  | bad => exact h.elim
end Sm
namespace Sm
open PySem L2
open Kt
namespace Kt
def kRv (Q : PV) : PV := fun x M => ∃ n xs, x = .loc n ∧ getL M n = some xs ∧ Q (.loc M.length) (M ++ [.lst xs.reverse])
end Kt
section
variable {e : Sl} {M : Mem} {Qv : Val → Mem → Prop} {E : Ex → Mem → Prop}
@[simp] theorem kRv_ap {x : Val} : Kt.kRv Qv x M = ∃ n xs, x = .loc n ∧ getL M n = some xs ∧ Qv (.loc M.length) (M ++ [.lst xs.reverse]) := by exact id rfl
@[simp] theorem w_eRev (fa : EF) : owp (eRev fa e M) Qv E = owp (fa e M) (Kt.kRv Qv) E := by
  rw [owp_eq, owp_eq]
  unfold eRev
  cases h : fa e M with
  | ok x M1 =>
    show Out.wp (match x with
      | .loc n => (match getL M1 n with
        | some xs => .ok (.loc M1.length) (M1 ++ [.lst xs.reverse])
        | none => .bad)
      | _ => .bad) Qv E = Kt.kRv Qv x M1
    rw [kRv_ap]
    cases x with
    | loc n => cases h2 : getL M1 n <;> simp [Out.wp, h2]
    | _ => simp [Out.wp]
  | ex _ _ => rfl
  | bad => rfl
end
end Sm
namespace Sm
open PySem L2
open Kt
namespace Kt
def kUn (i : Nat) (N : PS) : PS := fun e M => N (e.set i none) M
def kTr2 (cs : List Str) (i : Nat) (fs : SF) (N : PS) (R : PV) (B C : PS) : PXs := fun x e1 M1 => x.cls ∈ cs ∧ swp (fs (e1.set i (some (.exc x.cls x.fs))) M1) (kUn i N) R (kUn i B) (kUn i C) (fun _ _ _ => False)
def kIe2 (tb : List (Str × Bool)) (Q : PV) : PV := fun x M => ∃ C fs b, x = .exc C fs ∧ tb.lookup C = some b ∧ Q (.bl b) M
def kXf (cs : List Str) (n : Str) (Q : PV) : PV := fun x M => ∃ C fs i, x = .exc C fs ∧ C ∈ cs ∧ fs.lookup n = some i ∧ Q (.int i) M
end Kt
section
variable {e : Sl} {M : Mem} {N B C : Sl → Mem → Prop} {R : Val → Mem → Prop} {Es : Ex → Sl → Mem → Prop} {Qv : Val → Mem → Prop} {E : Ex → Mem → Prop}
@[simp] theorem kUn_ap {i : Nat} : Kt.kUn i N e M = N (e.set i none) M := by exact id rfl
@[simp] theorem kTr2_ap {cs : List Str} {i : Nat} {fs : SF} {x : Ex} : Kt.kTr2 cs i fs N R B C x e M = (x.cls ∈ cs ∧ swp (fs (e.set i (some (.exc x.cls x.fs))) M) (Kt.kUn i N) R (Kt.kUn i B) (Kt.kUn i C) (fun _ _ _ => False)) := by exact id rfl
@[simp] theorem kIe2_ap {tb : List (Str × Bool)} {x : Val} : Kt.kIe2 tb Qv x M = ∃ C fs b, x = .exc C fs ∧ tb.lookup C = some b ∧ Qv (.bl b) M := by exact id rfl
@[simp] theorem kXf_ap {cs : List Str} {n : Str} {x : Val} : Kt.kXf cs n Qv x M = ∃ C fs i, x = .exc C fs ∧ C ∈ cs ∧ fs.lookup n = some i ∧ Qv (.int i) M := by exact id rfl
@[simp] theorem w_sTry (cs : List Str) (fb : SF) (i : Nat) (fs : SF) : swp (sTry cs fb i fs e M) N R B C Es = swp (fb e M) N R B C (Kt.kTr2 cs i fs N R B C) := by
  rw [swp_eq, swp_eq]
  unfold sTry
  cases h : fb e M with
  | ex x e1 M1 =>
    show SO.wp (if x.cls ∈ cs then (fs (e1.set i (some (.exc x.cls x.fs))) M1).unslot i else .bad) N R B C Es = Kt.kTr2 cs i fs N R B C x e1 M1
    rw [kTr2_ap, swp_eq]
    by_cases hc : x.cls ∈ cs
    · rw [if_pos hc]
      simp only [hc, true_and]
      cases fs (e1.set i (some (.exc x.cls x.fs))) M1 <;> rfl
    · rw [if_neg hc]
      simp only [hc, false_and]
      rfl
  | nx _ _ => rfl
  | rt _ _ => rfl
  | bk _ _ => rfl
  | ct _ _ => rfl
  | bad => rfl
@[simp] theorem w_eWork (n0 : Nat) (oc : Mem → Out Val) (r : Sl) : owp (eWork n0 oc (some (.loc n0) :: r) M) Qv E = owp (oc M) Qv E := by
  have q : eWork n0 oc (some (.loc n0) :: r) M = oc M := by show (if n0 = n0 then oc M else .bad) = _; rw [if_pos rfl]
  rw [q]
@[simp] theorem w_eIsE (tb : List (Str × Bool)) (f : EF) : owp (eIsE tb f e M) Qv E = owp (f e M) (Kt.kIe2 tb Qv) E := by
  rw [owp_eq, owp_eq]
  unfold eIsE
  cases h : f e M with
  | ok x M1 =>
    show Out.wp (match x with
      | .exc C _ => (match tb.lookup C with
        | some b => .ok (.bl b) M1
        | none => .bad)
      | _ => .bad) Qv E = Kt.kIe2 tb Qv x M1
    rw [kIe2_ap]
    cases x with
    | exc C fs =>
      cases h2 : tb.lookup C with
      | none => simp [Out.wp, h2]
      | some b =>
        simp only [h2]
        refine propext ⟨fun z => ⟨C, fs, b, rfl, h2, z⟩, fun ⟨_, _, b', e1, e2, z⟩ => ?_⟩
        cases e1
        rw [h2] at e2
        cases e2
        exact z
    | _ => simp [Out.wp]
  | ex _ _ => rfl
  | bad => rfl
@[simp] theorem w_eXf (cs : List Str) (n : Str) (f : EF) : owp (eXf cs n f e M) Qv E = owp (f e M) (Kt.kXf cs n Qv) E := by
  rw [owp_eq, owp_eq]
  unfold eXf
  cases h : f e M with
  | ok x M1 =>
    show Out.wp (match x with
      | .exc C fs => if C ∈ cs then (match fs.lookup n with
        | some i => .ok (.int i) M1
        | none => .bad) else .bad
      | _ => .bad) Qv E = Kt.kXf cs n Qv x M1
    rw [kXf_ap]
    cases x with
    | exc C fs =>
      by_cases hc : C ∈ cs
      · simp only [if_pos hc]
        cases h2 : fs.lookup n with
        | none => simp [Out.wp, h2]
        | some i =>
          simp only [h2]
          refine propext ⟨fun z => ⟨C, fs, i, rfl, hc, h2, z⟩, fun ⟨_, _, i', e1, _, e2, z⟩ => ?_⟩
          cases e1
          rw [h2] at e2
          cases e2
          exact z
      · simp only [if_neg hc]
        simp [Out.wp, hc]
    | _ => simp [Out.wp]
  | ex _ _ => rfl
  | bad => rfl
@[simp] theorem owp_count (n : Nat) (y : Val) : owp (countV (.loc n) [y] M) Qv E = ∃ xs, getL M n = some xs ∧ (flat y && xs.all flat) = true ∧ Qv (.int (xs.countP (fun z => eqF z y) : Nat)) M := by
  rw [owp_eq]
  unfold countV
  cases h : getL M n with
  | none => simp [h, Out.wp]
  | some xs =>
    by_cases hc : (flat y && xs.all flat) = true
    · simp only [h, if_pos hc]; simp [Out.wp, hc]
      intro _
      rw [Bool.and_eq_true] at hc
      simpa using hc
    · simp only [h, if_neg hc]
      refine propext ⟨fun z => z.elim, fun ⟨xs', e1, e2, _⟩ => ?_⟩
      cases e1
      exact absurd e2 hc
@[simp] theorem owp_index (n : Nat) (y : Val) : owp (indexV (.loc n) [y] M) Qv E = ∃ xs j, getL M n = some xs ∧ (flat y && xs.all flat) = true ∧ xs.findIdx? (fun z => eqF z y) = some j ∧ Qv (.int (j : Nat)) M := by
  rw [owp_eq]
  unfold indexV
  cases h : getL M n with
  | none => simp [h, Out.wp]
  | some xs =>
    by_cases hc : (flat y && xs.all flat) = true
    · simp only [h, if_pos hc]
      cases h2 : xs.findIdx? (fun z => eqF z y) with
      | none => simp [Out.wp, h2]
      | some j =>
        refine propext ⟨fun z => ⟨xs, j, rfl, hc, h2, z⟩, fun ⟨xs', j', e1, _, e3, z⟩ => ?_⟩
        cases e1
        rw [h2] at e3
        cases e3
        exact z
    · simp only [h, if_neg hc]
      refine propext ⟨fun z => z.elim, fun ⟨xs', j', e1, e2, _⟩ => ?_⟩
      cases e1
      exact absurd e2 hc
end
end Sm

namespace Sm
open PySem L2
open Kt
section
variable {e : Sl} {M : Mem} {N B C : Sl → Mem → Prop} {R : Val → Mem → Prop} {Es : Ex → Sl → Mem → Prop} {Qv : Val → Mem → Prop} {E : Ex → Mem → Prop} {Qi : Itr → Mem → Prop}
@[simp] theorem w_sWks (k i : Nat) (T : Nat → SF) : swp (sWks k (gNm i) T e M) N R B C Es = swp (T M.length (e.set i (some (.loc (M.length + k)))) (M ++ List.replicate k .fn ++ [.lst (locsF k M.length)])) N R B C Es := by exact id rfl
@[simp] theorem w_eLcB (f : IF) (g : Tg) (t : Sl → TF) (el : Sl → EF) (vs : List Nat) : owp (eLcB f g t el vs e M) Qv E = owp (eLc f g (t e) (el e) vs e M) Qv E := by exact id rfl
@[simp] theorem owp_stepV (n : Nat) (i : Int) : owp (stepV (.loc n) (.int i) M) Qv E = ∃ xs, getL M n = some xs ∧ (i = 1 ∧ Qv (.loc M.length) (M ++ [.lst xs]) ∨ i = -1 ∧ Qv (.loc M.length) (M ++ [.lst xs.reverse])) := by
  rw [owp_eq]
  unfold stepV
  cases h : getL M n with
  | none => simp [h, Out.wp]
  | some xs =>
    by_cases h1 : i = 1
    · subst h1; simp [h, Out.wp]
    · by_cases h2 : i = -1
      · subst h2; simp [h, Out.wp]
      · simp [h, h1, h2, Out.wp]
end
end Sm

namespace Sm
open PySem L2
open Kt
namespace Kt
def kFd (D f : Str) (Q : PV) : PV := fun x M => ∃ fs v, insG D x M = some fs ∧ fs.lookup f = some v ∧ Q v M
def kPf2 (D f : Str) (y : Val) (e : Sl) (N : PS) : PV := fun x M => ∃ n fs, x = .loc n ∧ insG D x M = some fs ∧ fs.length < 1000 ∧ N e (M.set n (.ins D (putFV f y fs)))
def kPf1 (D f : Str) (fo : EF) (e : Sl) (N : PS) (Es : PXs) : PV := fun y M => owp (fo e M) (kPf2 D f y e N) (kEr Es e)
def kAf3 (D f : Str) (x : Val) (e : Sl) (N : PS) : PV := fun z M => ∃ n fs, x = .loc n ∧ insG D x M = some fs ∧ fs.length < 1000 ∧ N e (M.set n (.ins D (putFV f z fs)))
def kAf2 (D f : Str) (g : Val → Val → Mem → Out Val) (x v : Val) (e : Sl) (N : PS) (Es : PXs) : PV := fun y M => owp (g v y M) (kAf3 D f x e N) (kEr Es e)
def kAf1 (D f : Str) (g : Val → Val → Mem → Out Val) (fv : EF) (e : Sl) (N : PS) (Es : PXs) : PV := fun x M => ∃ fs v, insG D x M = some fs ∧ fs.lookup f = some v ∧ owp (fv e M) (kAf2 D f g x v e N Es) (kEr Es e)
def kMe2 (np : Nat) (F : FnS) (x : Val) (Q : PV) (E : PX) : PL := fun l M => (x :: l).length = np ∧ owp (F (x :: l) M) Q E
def kMe1 (D m : Str) (np : Nat) (F : FnS) (fa : AF) (e : Sl) (Q : PV) (E : PX) : PV := fun x M => ∃ fs, insG D x M = some fs ∧ fs.lookup m = none ∧ owp (fa e M) (kMe2 np F x Q E) E
def kMk2 (n : Nat) (Q : PV) : PV := fun v M => v = .non ∧ Q (.loc n) M
def kMk1 (D : Str) (np : Nat) (F : FnS) (Q : PV) (E : PX) : PL := fun l M => l.length + 1 = np ∧ owp (F (.loc M.length :: l) (M ++ [.ins D []])) (kMk2 M.length Q) E
def kDi2 (n : Nat) (x : Val) (Q : PV) : PV := fun y M => ∃ k, M[n]? = some (.dT []) ∧ keyT x = some k ∧ Q (.loc n) (M.set n (.dT [(k, y)]))
def kDi1 (n : Nat) (fv : EF) (e : Sl) (Q : PV) (E : PX) : PV := fun x M => owp (fv e M) (kDi2 n x Q) E
def kDp3 (v d : Val) (e : Sl) (N : PS) : PV := fun x M => ∃ n kvs k, dtG d M = some (n, kvs) ∧ keyT x = some k ∧ kvs.length < sizeLine ∧ N e (M.set n (.dT (putV kvs k v)))
def kDp2 (v : Val) (fx : EF) (e : Sl) (N : PS) (Es : PXs) : PV := fun d M => owp (fx e M) (kDp3 v d e N) (kEr Es e)
def kDp1 (fd fx : EF) (e : Sl) (N : PS) (Es : PXs) : PV := fun v M => owp (fd e M) (kDp2 v fx e N Es) (kEr Es e)
end Kt
section
variable {e : Sl} {M : Mem} {N B C : Sl → Mem → Prop} {R : Val → Mem → Prop} {Es : Ex → Sl → Mem → Prop} {Qv : Val → Mem → Prop} {E : Ex → Mem → Prop}
@[simp] theorem kFd_ap {D f : Str} {x : Val} : Kt.kFd D f Qv x M = ∃ fs v, insG D x M = some fs ∧ fs.lookup f = some v ∧ Qv v M := by exact id rfl
@[simp] theorem kPf2_ap {D f : Str} {x y : Val} : Kt.kPf2 D f y e N x M = ∃ n fs, x = .loc n ∧ insG D x M = some fs ∧ fs.length < 1000 ∧ N e (M.set n (.ins D (putFV f y fs))) := by exact id rfl
@[simp] theorem kPf1_ap {D f : Str} {fo : EF} {y : Val} : Kt.kPf1 D f fo e N Es y M = owp (fo e M) (Kt.kPf2 D f y e N) (Kt.kEr Es e) := by exact id rfl
@[simp] theorem kAf3_ap {D f : Str} {x y : Val} : Kt.kAf3 D f x e N y M = ∃ n fs, x = .loc n ∧ insG D x M = some fs ∧ fs.length < 1000 ∧ N e (M.set n (.ins D (putFV f y fs))) := by exact id rfl
@[simp] theorem kAf2_ap {D f : Str} {g : Val → Val → Mem → Out Val} {x v y : Val} : Kt.kAf2 D f g x v e N Es y M = owp (g v y M) (Kt.kAf3 D f x e N) (Kt.kEr Es e) := by exact id rfl
@[simp] theorem kAf1_ap {D f : Str} {g : Val → Val → Mem → Out Val} {fv : EF} {x : Val} : Kt.kAf1 D f g fv e N Es x M = ∃ fs v, insG D x M = some fs ∧ fs.lookup f = some v ∧ owp (fv e M) (Kt.kAf2 D f g x v e N Es) (Kt.kEr Es e) := by exact id rfl
@[simp] theorem kMe2_ap {np : Nat} {F : FnS} {x : Val} {l : List Val} : Kt.kMe2 np F x Qv E l M = ((x :: l).length = np ∧ owp (F (x :: l) M) Qv E) := by exact id rfl
@[simp] theorem kMe1_ap {D m : Str} {np : Nat} {F : FnS} {fa : AF} {x : Val} : Kt.kMe1 D m np F fa e Qv E x M = ∃ fs, insG D x M = some fs ∧ fs.lookup m = none ∧ owp (fa e M) (Kt.kMe2 np F x Qv E) E := by exact id rfl
@[simp] theorem kMk2_ap {n : Nat} {v : Val} : Kt.kMk2 n Qv v M = (v = .non ∧ Qv (.loc n) M) := by exact id rfl
@[simp] theorem kMk1_ap {D : Str} {np : Nat} {F : FnS} {l : List Val} : Kt.kMk1 D np F Qv E l M = (l.length + 1 = np ∧ owp (F (.loc M.length :: l) (M ++ [.ins D []])) (Kt.kMk2 M.length Qv) E) := by exact id rfl
@[simp] theorem kDi2_ap {n : Nat} {x y : Val} : Kt.kDi2 n x Qv y M = ∃ k, M[n]? = some (.dT []) ∧ keyT x = some k ∧ Qv (.loc n) (M.set n (.dT [(k, y)])) := by exact id rfl
@[simp] theorem kDi1_ap {n : Nat} {fv : EF} {x : Val} : Kt.kDi1 n fv e Qv E x M = owp (fv e M) (Kt.kDi2 n x Qv) E := by exact id rfl
@[simp] theorem kDp3_ap {v d x : Val} : Kt.kDp3 v d e N x M = ∃ n kvs k, dtG d M = some (n, kvs) ∧ keyT x = some k ∧ kvs.length < sizeLine ∧ N e (M.set n (.dT (putV kvs k v))) := by exact id rfl
@[simp] theorem kDp2_ap {v d : Val} {fx : EF} : Kt.kDp2 v fx e N Es d M = owp (fx e M) (Kt.kDp3 v d e N) (Kt.kEr Es e) := by exact id rfl
@[simp] theorem kDp1_ap {v : Val} {fd fx : EF} : Kt.kDp1 fd fx e N Es v M = owp (fd e M) (Kt.kDp2 v fx e N Es) (Kt.kEr Es e) := by exact id rfl
@[simp] theorem w_eFld (D f : Str) (fo : EF) : owp (eFld D f fo e M) Qv E = owp (fo e M) (Kt.kFd D f Qv) E := by
  rw [owp_eq, owp_eq]
  unfold eFld
  cases h : fo e M with
  | ok x M1 =>
    show Out.wp (match (insG D x M1).bind fun fs => fs.lookup f with
      | some v => .ok v M1
      | none => .bad) Qv E = Kt.kFd D f Qv x M1
    rw [kFd_ap]
    cases hi : insG D x M1 with
    | none => simp [Out.wp]
    | some fs => cases hl : fs.lookup f <;> simp [Out.wp, hl]
  | ex _ _ => rfl
  | bad => rfl
theorem w_put {D f : Str} {x y : Val} : SO.wp (match x, insG D x M with
    | .loc n, some fs => if fs.length < 1000 then .nx e (M.set n (.ins D (putFV f y fs))) else .bad
    | _, _ => .bad) N R B C Es = ∃ n fs, x = .loc n ∧ insG D x M = some fs ∧ fs.length < 1000 ∧ N e (M.set n (.ins D (putFV f y fs))) := by
  cases x with
  | loc n =>
    cases hi : insG D (.loc n) M with
    | none => simp [SO.wp]
    | some fs => by_cases hc : fs.length < 1000 <;> simp [SO.wp, hc]
  | _ => simp [SO.wp]
@[simp] theorem w_sFldV (D f : Str) (fo fv : EF) : swp (sFldV D f fo fv e M) N R B C Es = owp (fv e M) (Kt.kPf1 D f fo e N Es) (Kt.kEr Es e) := by
  rw [swp_eq, owp_eq]
  unfold sFldV
  cases h : fv e M with
  | ok y M1 =>
    show SO.wp ((fo e M1).toS e fun x M2 => match x, insG D x M2 with
      | .loc n, some fs => if fs.length < 1000 then .nx e (M2.set n (.ins D (putFV f y fs))) else .bad
      | _, _ => .bad) N R B C Es = Kt.kPf1 D f fo e N Es y M1
    rw [kPf1_ap, owp_eq]
    cases h2 : fo e M1 with
    | ok x M2 => exact w_put
    | ex _ _ => rfl
    | bad => rfl
  | ex _ _ => rfl
  | bad => rfl
@[simp] theorem w_sFldAugV (D f : Str) (g : Val → Val → Mem → Out Val) (fo fv : EF) : swp (sFldAugV D f g fo fv e M) N R B C Es = owp (fo e M) (Kt.kAf1 D f g fv e N Es) (Kt.kEr Es e) := by
  rw [swp_eq, owp_eq]
  unfold sFldAugV
  cases h : fo e M with
  | ok x M1 =>
    show SO.wp (match (insG D x M1).bind fun fs => fs.lookup f with
      | some v => (fv e M1).toS e fun y M2 => (g v y M2).toS e fun z M3 => (match (generalizing := false) x, insG D x M3 with
        | .loc n, some fs => if fs.length < 1000 then .nx e (M3.set n (.ins D (putFV f z fs))) else .bad
        | _, _ => .bad)
      | none => .bad) N R B C Es = Kt.kAf1 D f g fv e N Es x M1
    rw [kAf1_ap]
    cases hi : insG D x M1 with
    | none => simp [SO.wp]
    | some fs =>
      cases hl : fs.lookup f with
      | none => simp [SO.wp, hl]
      | some v =>
        simp only [Option.bind_some, hl]
        refine Eq.trans ?_ (propext ⟨fun z => ⟨fs, v, rfl, hl, z⟩, fun ⟨fs', v', e1, e2, z⟩ => by cases e1; rw [hl] at e2; cases e2; exact z⟩)
        rw [owp_eq]
        cases h2 : fv e M1 with
        | ok y M2 =>
          show SO.wp ((g v y M2).toS e fun z M3 => (match (generalizing := false) x, insG D x M3 with
            | .loc n, some fs => if fs.length < 1000 then .nx e (M3.set n (.ins D (putFV f z fs))) else .bad
            | _, _ => .bad)) N R B C Es = Kt.kAf2 D f g x v e N Es y M2
          rw [kAf2_ap, owp_eq]
          cases h3 : g v y M2 with
          | ok z M3 => exact w_put
          | ex _ _ => rfl
          | bad => rfl
        | ex _ _ => rfl
        | bad => rfl
  | ex _ _ => rfl
  | bad => rfl
@[simp] theorem w_eMeth (D m : Str) (np : Nat) (F : FnS) (fo : EF) (fa : AF) : owp (eMeth D m np F fo fa e M) Qv E = owp (fo e M) (Kt.kMe1 D m np F fa e Qv E) E := by
  rw [owp_eq, owp_eq]
  unfold eMeth
  cases h : fo e M with
  | ok x M1 =>
    show Out.wp (match insG D x M1 with
      | some fs => if fs.lookup m = none then (fa e M1).bind fun l M2 => if (x :: l).length = np then F (x :: l) M2 else .bad else .bad
      | none => .bad) Qv E = Kt.kMe1 D m np F fa e Qv E x M1
    rw [kMe1_ap]
    cases hi : insG D x M1 with
    | none => simp [Out.wp]
    | some fs =>
      by_cases hl : fs.lookup m = none
      · simp only [hl, if_true]
        refine Eq.trans ?_ (propext ⟨fun z => ⟨fs, rfl, hl, z⟩, fun ⟨fs', e1, _, z⟩ => by cases e1; exact z⟩)
        rw [owp_eq]
        cases h2 : fa e M1 with
        | ok l M2 =>
          show Out.wp (if (x :: l).length = np then F (x :: l) M2 else .bad) Qv E = Kt.kMe2 np F x Qv E l M2
          rw [kMe2_ap, owp_eq]
          by_cases hc : (x :: l).length = np
          · rw [if_pos hc]; exact propext ⟨fun z => ⟨hc, z⟩, fun z => z.2⟩
          · rw [if_neg hc]; exact propext ⟨fun z => z.elim, fun z => (hc z.1).elim⟩
        | ex _ _ => rfl
        | bad => rfl
      · simp only [if_neg hl]
        exact propext ⟨fun z => z.elim, fun ⟨fs', e1, h2, _⟩ => by cases e1; exact (hl h2).elim⟩
  | ex _ _ => rfl
  | bad => rfl
@[simp] theorem w_eMake (D : Str) (np : Nat) (F : FnS) (fa : AF) : owp (eMake D np F fa e M) Qv E = owp (fa e M) (Kt.kMk1 D np F Qv E) E := by
  rw [owp_eq, owp_eq]
  unfold eMake
  cases h : fa e M with
  | ok l M1 =>
    show Out.wp (if l.length + 1 = np then (F (.loc M1.length :: l) (M1 ++ [.ins D []])).bind fun v M2 => (match v with
      | .non => .ok (.loc M1.length) M2
      | _ => .bad) else .bad) Qv E = Kt.kMk1 D np F Qv E l M1
    rw [kMk1_ap, owp_eq]
    by_cases hc : l.length + 1 = np
    · rw [if_pos hc]
      refine Eq.trans ?_ (propext ⟨fun z => ⟨hc, z⟩, fun z => z.2⟩)
      cases h2 : F (.loc M1.length :: l) (M1 ++ [.ins D []]) with
      | ok v M2 =>
        show Out.wp (match v with
          | .non => .ok (.loc M1.length) M2
          | _ => .bad) Qv E = Kt.kMk2 M1.length Qv v M2
        rw [kMk2_ap]
        cases v <;> simp [Out.wp]
      | ex _ _ => rfl
      | bad => rfl
    · rw [if_neg hc]; exact propext ⟨fun z => z.elim, fun z => (hc z.1).elim⟩
  | ex _ _ => rfl
  | bad => rfl
@[simp] theorem w_eDisp1 (fk fv : EF) : owp (eDisp1 fk fv e M) Qv E = owp (fk e (M ++ [.dT []])) (Kt.kDi1 M.length fv e Qv E) E := by
  rw [owp_eq, owp_eq]
  unfold eDisp1
  cases h : fk e (M ++ [.dT []]) with
  | ok x M1 =>
    show Out.wp ((fv e M1).bind fun y M2 => match M2[M.length]?, keyT x with
      | some (.dT []), some k => .ok (.loc M.length) (M2.set M.length (.dT [(k, y)]))
      | _, _ => .bad) Qv E = Kt.kDi1 M.length fv e Qv E x M1
    rw [kDi1_ap, owp_eq]
    cases h2 : fv e M1 with
    | ok y M2 =>
      show Out.wp (match M2[M.length]?, keyT x with
        | some (.dT []), some k => .ok (.loc M.length) (M2.set M.length (.dT [(k, y)]))
        | _, _ => .bad) Qv E = Kt.kDi2 M.length x Qv y M2
      rw [kDi2_ap]
      split
      · rename_i k h3 h4
        simp [Out.wp, h3, h4]
      · rename_i hno
        refine propext ⟨fun z => z.elim, fun ⟨k, h3, h4, _⟩ => hno k h3 h4⟩
    | ex _ _ => rfl
    | bad => rfl
  | ex _ _ => rfl
  | bad => rfl
@[simp] theorem owp_dgetT (d x : Val) : owp (dgetT d x M) Qv E = ∃ n kvs k v, dtG d M = some (n, kvs) ∧ keyT x = some k ∧ valG kvs k = some v ∧ Qv v M := by
  rw [owp_eq]
  unfold dgetT
  cases h1 : dtG d M with
  | none => simp [Out.wp]
  | some p =>
    obtain ⟨n, kvs⟩ := p
    cases h2 : keyT x with
    | none => simp [Out.wp]
    | some k =>
      cases h3 : valG kvs k with
      | none => simp only [h3]; exact propext ⟨fun z => z.elim, fun ⟨n', kvs', k', v, e1, e2, e3, _⟩ => by cases e1; cases e2; rw [h3] at e3; cases e3⟩
      | some v => simp only [h3]; exact propext ⟨fun z => ⟨n, kvs, k, v, rfl, rfl, h3, z⟩, fun ⟨n', kvs', k', v', e1, e2, e3, z⟩ => by cases e1; cases e2; rw [h3] at e3; cases e3; exact z⟩
@[simp] theorem owp_notInT (d x : Val) : owp (notInT x d M) Qv E = ∃ n kvs k, dtG d M = some (n, kvs) ∧ keyT x = some k ∧ Qv (.bl (!hasK kvs k)) M := by
  rw [owp_eq]
  unfold notInT
  cases h1 : dtG d M with
  | none => simp [Out.wp]
  | some p =>
    obtain ⟨n, kvs⟩ := p
    cases h2 : keyT x with
    | none => simp [Out.wp]
    | some k => exact propext ⟨fun z => ⟨n, kvs, k, rfl, rfl, z⟩, fun ⟨n', kvs', k', e1, e2, z⟩ => by cases e1; cases e2; exact z⟩
@[simp] theorem w_sDputT (fd fx fv : EF) : swp (sDputT fd fx fv e M) N R B C Es = owp (fv e M) (Kt.kDp1 fd fx e N Es) (Kt.kEr Es e) := by
  rw [swp_eq, owp_eq]
  unfold sDputT
  cases h : fv e M with
  | ok v M1 =>
    show SO.wp ((fd e M1).toS e fun d M2 => (fx e M2).toS e fun x M3 => match dtG d M3, keyT x with
      | some (n, kvs), some k => if kvs.length < sizeLine then .nx e (M3.set n (.dT (putV kvs k v))) else .bad
      | _, _ => .bad) N R B C Es = Kt.kDp1 fd fx e N Es v M1
    rw [kDp1_ap, owp_eq]
    cases h2 : fd e M1 with
    | ok d M2 =>
      show SO.wp ((fx e M2).toS e fun x M3 => match dtG d M3, keyT x with
        | some (n, kvs), some k => if kvs.length < sizeLine then .nx e (M3.set n (.dT (putV kvs k v))) else .bad
        | _, _ => .bad) N R B C Es = Kt.kDp2 v fx e N Es d M2
      rw [kDp2_ap, owp_eq]
      cases h3 : fx e M2 with
      | ok x M3 =>
        show SO.wp (match dtG d M3, keyT x with
          | some (n, kvs), some k => if kvs.length < sizeLine then .nx e (M3.set n (.dT (putV kvs k v))) else .bad
          | _, _ => .bad) N R B C Es = Kt.kDp3 v d e N x M3
        rw [kDp3_ap]
        cases h4 : dtG d M3 with
        | none => simp [SO.wp]
        | some p =>
          obtain ⟨n, kvs⟩ := p
          cases h5 : keyT x with
          | none => simp [SO.wp]
          | some k =>
            by_cases hc : kvs.length < sizeLine
            · simp only [if_pos hc]; exact propext ⟨fun z => ⟨n, kvs, k, rfl, rfl, hc, z⟩, fun ⟨n', kvs', k', e1, e2, _, z⟩ => by cases e1; cases e2; exact z⟩
            · simp only [if_neg hc]; exact propext ⟨fun z => z.elim, fun ⟨n', kvs', k', e1, e2, h9, _⟩ => by cases e1; cases e2; exact (hc h9).elim⟩
      | ex _ _ => rfl
      | bad => rfl
    | ex _ _ => rfl
    | bad => rfl
  | ex _ _ => rfl
  | bad => rfl
theorem insG_of {D : Str} {n : Nat} {fs : List (Str × Val)} (h : M[n]? = some (.ins D fs)) : insG D (.loc n) M = some fs := by
  show (match M[n]? with
    | some (.ins D' fs) => if D' = D then some fs else none
    | _ => none) = _
  rw [h]
  exact if_pos rfl
theorem dtG_of {n : Nat} {kvs : List (List Key × Val)} (h : M[n]? = some (.dT kvs)) : dtG (.loc n) M = some (n, kvs) := by
  show (match M[n]? with
    | some (.dT kvs) => some (n, kvs)
    | _ => none) = _
  rw [h]
end
end Sm

namespace Sm
open PySem L2
section
variable {M : Mem} {Qv : Val → Mem → Prop} {E : Ex → Mem → Prop}
@[simp] theorem owp_backV (l : List Val) (i : Int) : owp (backV (.tup l) (.int i) M) Qv E = (i = -1 ∧ Qv (.tup l.reverse) M) := by
  rw [owp_eq]
  unfold backV
  by_cases h : i = -1
  · simp [h, Out.wp]
  · simp [h, Out.wp]
end
end Sm

namespace Sm
open PySem L2
open Kt
namespace Kt
def kMd2 (np : Nat) (F : FnS) (x : Val) (Q : PV) (E : PX) : PL := fun l M => (x :: l).length = np ∧ owp (F ((x :: l) ++ [.bl true]) M) Q E
def kMd1 (D m : Str) (np : Nat) (F : FnS) (fa : AF) (e : Sl) (Q : PV) (E : PX) : PV := fun x M => ∃ fs, insG D x M = some fs ∧ fs.lookup m = none ∧ owp (fa e M) (kMd2 np F x Q E) E
def kMk3 (np : Nat) (F : FnS) (x : Val) (l : List Val) (Q : PV) (E : PX) : PV := fun z M => (x :: l).length = np ∧ owp (F ((x :: l) ++ [z]) M) Q E
def kMkw2 (np : Nat) (F : FnS) (x : Val) (fk : EF) (e : Sl) (Q : PV) (E : PX) : PL := fun l M => owp (fk e M) (kMk3 np F x l Q E) E
def kMkw1 (D m : Str) (np : Nat) (F : FnS) (fa : AF) (fk : EF) (e : Sl) (Q : PV) (E : PX) : PV := fun x M => ∃ fs, insG D x M = some fs ∧ fs.lookup m = none ∧ owp (fa e M) (kMkw2 np F x fk e Q E) E
def kWg2 (tb : List (Str × Int)) (y : Val) (Q : PV) : PV := fun z M => ∃ k, y = .str k ∧ Q (match tb.lookup k with
    | some i => .int i
    | none => z) M
def kWg1 (tb : List (Str × Int)) (fd : EF) (e : Sl) (Q : PV) (E : PX) : PV := fun y M => owp (fd e M) (kWg2 tb y Q) E
def kTf2 (N : PS) : PS := N
def kTf1 (ff : SF) (N : PS) : PS := fun e M => swp (ff e M) (kTf2 N) (fun _ _ => False) (fun _ _ => False) (fun _ _ => False) (fun _ _ _ => False)
end Kt
section
variable {e : Sl} {M : Mem} {N B C : Sl → Mem → Prop} {R : Val → Mem → Prop} {Es : Ex → Sl → Mem → Prop} {Qv : Val → Mem → Prop} {E : Ex → Mem → Prop}
@[simp] theorem kMd2_ap {np : Nat} {F : FnS} {x : Val} {l : List Val} : Kt.kMd2 np F x Qv E l M = ((x :: l).length = np ∧ owp (F ((x :: l) ++ [.bl true]) M) Qv E) := by exact id rfl
@[simp] theorem kMd1_ap {D m : Str} {np : Nat} {F : FnS} {fa : AF} {x : Val} : Kt.kMd1 D m np F fa e Qv E x M = ∃ fs, insG D x M = some fs ∧ fs.lookup m = none ∧ owp (fa e M) (Kt.kMd2 np F x Qv E) E := by exact id rfl
@[simp] theorem kMk3_ap {np : Nat} {F : FnS} {x z : Val} {l : List Val} : Kt.kMk3 np F x l Qv E z M = ((x :: l).length = np ∧ owp (F ((x :: l) ++ [z]) M) Qv E) := by exact id rfl
@[simp] theorem kMkw2_ap {np : Nat} {F : FnS} {x : Val} {fk : EF} {l : List Val} : Kt.kMkw2 np F x fk e Qv E l M = owp (fk e M) (Kt.kMk3 np F x l Qv E) E := by exact id rfl
@[simp] theorem kMkw1_ap {D m : Str} {np : Nat} {F : FnS} {fa : AF} {fk : EF} {x : Val} : Kt.kMkw1 D m np F fa fk e Qv E x M = ∃ fs, insG D x M = some fs ∧ fs.lookup m = none ∧ owp (fa e M) (Kt.kMkw2 np F x fk e Qv E) E := by exact id rfl
@[simp] theorem kWg2_ap {tb : List (Str × Int)} {y z : Val} : Kt.kWg2 tb y Qv z M = ∃ k, y = .str k ∧ Qv (match tb.lookup k with
    | some i => .int i
    | none => z) M := by exact id rfl
@[simp] theorem kWg1_ap {tb : List (Str × Int)} {fd : EF} {y : Val} : Kt.kWg1 tb fd e Qv E y M = owp (fd e M) (Kt.kWg2 tb y Qv) E := by exact id rfl
@[simp] theorem kTf2_ap : Kt.kTf2 N e M = N e M := by exact id rfl
@[simp] theorem kTf1_ap {ff : SF} : Kt.kTf1 ff N e M = swp (ff e M) (Kt.kTf2 N) (fun _ _ => False) (fun _ _ => False) (fun _ _ => False) (fun _ _ _ => False) := by exact id rfl
@[simp] theorem w_eMethD (D m : Str) (np : Nat) (F : FnS) (fo : EF) (fa : AF) : owp (eMethD D m np F fo fa e M) Qv E = owp (fo e M) (Kt.kMd1 D m np F fa e Qv E) E := by
  rw [owp_eq, owp_eq]
  unfold eMethD
  cases h : fo e M with
  | ok x M1 =>
    show Out.wp (match insG D x M1 with
      | some fs => if fs.lookup m = none then (fa e M1).bind fun l M2 => if (x :: l).length = np then F ((x :: l) ++ [.bl true]) M2 else .bad else .bad
      | none => .bad) Qv E = Kt.kMd1 D m np F fa e Qv E x M1
    rw [kMd1_ap]
    cases hi : insG D x M1 with
    | none => simp [Out.wp]
    | some fs =>
      by_cases hl : fs.lookup m = none
      · simp only [hl, if_true]
        refine Eq.trans ?_ (propext ⟨fun z => ⟨fs, rfl, hl, z⟩, fun ⟨fs', e1, _, z⟩ => by cases e1; exact z⟩)
        rw [owp_eq]
        cases h2 : fa e M1 with
        | ok l M2 =>
          show Out.wp (if (x :: l).length = np then F ((x :: l) ++ [.bl true]) M2 else .bad) Qv E = Kt.kMd2 np F x Qv E l M2
          rw [kMd2_ap, owp_eq]
          by_cases hc : (x :: l).length = np
          · rw [if_pos hc]; exact propext ⟨fun z => ⟨hc, z⟩, fun z => z.2⟩
          · rw [if_neg hc]; exact propext ⟨fun z => z.elim, fun z => (hc z.1).elim⟩
        | ex _ _ => rfl
        | bad => rfl
      · simp only [if_neg hl]
        exact propext ⟨fun z => z.elim, fun ⟨fs', e1, h2, _⟩ => by cases e1; exact (hl h2).elim⟩
  | ex _ _ => rfl
  | bad => rfl
@[simp] theorem w_eMethK (D m : Str) (np : Nat) (F : FnS) (fo : EF) (fa : AF) (fk : EF) : owp (eMethK D m np F fo fa fk e M) Qv E = owp (fo e M) (Kt.kMkw1 D m np F fa fk e Qv E) E := by
  rw [owp_eq, owp_eq]
  unfold eMethK
  cases h : fo e M with
  | ok x M1 =>
    show Out.wp (match insG D x M1 with
      | some fs => if fs.lookup m = none then (fa e M1).bind fun l M2 => (fk e M2).bind fun z M3 => if (x :: l).length = np then F ((x :: l) ++ [z]) M3 else .bad else .bad
      | none => .bad) Qv E = Kt.kMkw1 D m np F fa fk e Qv E x M1
    rw [kMkw1_ap]
    cases hi : insG D x M1 with
    | none => simp [Out.wp]
    | some fs =>
      by_cases hl : fs.lookup m = none
      · simp only [hl, if_true]
        refine Eq.trans ?_ (propext ⟨fun z => ⟨fs, rfl, hl, z⟩, fun ⟨fs', e1, _, z⟩ => by cases e1; exact z⟩)
        rw [owp_eq]
        cases h2 : fa e M1 with
        | ok l M2 =>
          show Out.wp ((fk e M2).bind fun z M3 => if (x :: l).length = np then F ((x :: l) ++ [z]) M3 else .bad) Qv E = Kt.kMkw2 np F x fk e Qv E l M2
          rw [kMkw2_ap, owp_eq]
          cases h3 : fk e M2 with
          | ok z M3 =>
            show Out.wp (if (x :: l).length = np then F ((x :: l) ++ [z]) M3 else .bad) Qv E = Kt.kMk3 np F x l Qv E z M3
            rw [kMk3_ap, owp_eq]
            by_cases hc : (x :: l).length = np
            · rw [if_pos hc]; exact propext ⟨fun z => ⟨hc, z⟩, fun z => z.2⟩
            · rw [if_neg hc]; exact propext ⟨fun z => z.elim, fun z => (hc z.1).elim⟩
          | ex _ _ => rfl
          | bad => rfl
        | ex _ _ => rfl
        | bad => rfl
      · simp only [if_neg hl]
        exact propext ⟨fun z => z.elim, fun ⟨fs', e1, h2, _⟩ => by cases e1; exact (hl h2).elim⟩
  | ex _ _ => rfl
  | bad => rfl
@[simp] theorem w_eWGet (tb : List (Str × Int)) (fk fd : EF) : owp (eWGet tb fk fd e M) Qv E = owp (fk e M) (Kt.kWg1 tb fd e Qv E) E := by
  rw [owp_eq, owp_eq]
  unfold eWGet
  cases h : fk e M with
  | ok y M1 =>
    show Out.wp ((fd e M1).bind fun z M2 => match y with
      | .str k => .ok (match tb.lookup k with
        | some i => .int i
        | none => z) M2
      | _ => .bad) Qv E = Kt.kWg1 tb fd e Qv E y M1
    rw [kWg1_ap, owp_eq]
    cases h2 : fd e M1 with
    | ok z M2 =>
      show Out.wp (match y with
        | .str k => .ok (match tb.lookup k with
          | some i => .int i
          | none => z) M2
        | _ => .bad) Qv E = Kt.kWg2 tb y Qv z M2
      rw [kWg2_ap]
      cases y with
      | str k => exact propext ⟨fun q => ⟨k, rfl, q⟩, fun ⟨_, e1, q⟩ => by cases e1; exact q⟩
      | _ => simp [Out.wp]
    | ex _ _ => rfl
    | bad => rfl
  | ex _ _ => rfl
  | bad => rfl
@[simp] theorem w_sTryFin0 (fb ff : SF) : swp (sTryFin0 fb ff e M) N R B C Es = swp (fb e M) (Kt.kTf1 ff N) (fun _ _ => False) (fun _ _ => False) (fun _ _ => False) (fun _ _ _ => False) := by
  rw [swp_eq, swp_eq]
  unfold sTryFin0
  cases h : fb e M with
  | nx e1 M1 =>
    show SO.wp (match ff e1 M1 with
      | .nx e2 M2 => .nx e2 M2
      | _ => .bad) N R B C Es = Kt.kTf1 ff N e1 M1
    rw [kTf1_ap, swp_eq]
    cases ff e1 M1 <;> rfl
  | _ => rfl
end
end Sm

namespace Sm
open PySem L2
open Kt
namespace Kt
def kLcX (g : Tg) (t : TF) (el : EF) (vs : List Nat) (e : Sl) (Q : PV) (E : PX) : Itr → Mem → Prop := fun it M => owp (lcX it.nxt g t el M.length (wipeS e vs) it.fuel 0 (M ++ [.lst []])) Q E
end Kt
section
variable {e : Sl} {M : Mem} {Qv : Val → Mem → Prop} {E : Ex → Mem → Prop} {it : Itr} {nxt : Nat → Mem → Option (Option Val)}
@[simp] theorem kLcX_ap {g : Tg} {t : TF} {el : EF} {vs : List Nat} : Kt.kLcX g t el vs e Qv E it M = owp (lcX it.nxt g t el M.length (wipeS e vs) it.fuel 0 (M ++ [.lst []])) Qv E := by exact id rfl
@[simp] theorem w_eLcX {i : IF} {g : Tg} {t : TF} {el : EF} {vs : List Nat} : owp (eLcX i g t el vs e M) Qv E = owp (i e M) (Kt.kLcX g t el vs e Qv E) E := by
  rw [owp_eq, owp_eq]
  unfold eLcX
  rw [wp_bind]
  congr 1
  funext it M1
  rw [kLcX_ap, owp_eq]
theorem wp_lcX {g : Tg} {t : TF} {el : EF} {D : Nat} (l : List Val) (I : Nat → Mem → Prop) (hn : ∀ i M, I i M → nxt i M = some l[i]?)
    (hs : ∀ i x M, l[i]? = some x → I i M → ∃ e1, g.put x e = some e1 ∧ (t e1 M).wp (fun b M1 => b = true ∧ (el e1 M1).wp (fun y M2 => ∃ acc, getL M2 D = some acc ∧ acc.length < sizeLine ∧ I (i + 1) (M2.set D (.lst (acc ++ [y])))) E) noE)
    (hd : ∀ M, I l.length M → Qv (.loc D) M) : ∀ (m i : Nat) (M : Mem), l.length < m + i → i ≤ l.length → I i M → (lcX nxt g t el D e m i M).wp Qv E
  | 0, i, M, h1, h2, _ => absurd h1 (by omega)
  | m + 1, i, M, h1, h2, hI => by
    unfold lcX
    rw [hn i M hI]
    cases hx : l[i]? with
    | none =>
      have : l.length ≤ i := List.getElem?_eq_none_iff.mp hx
      have e1 : i = l.length := by omega
      subst e1
      exact hd M hI
    | some x =>
      have hlt : i < l.length := (List.getElem?_eq_some_iff.mp hx).1
      obtain ⟨e1, hp, h⟩ := hs i x M hx hI
      dsimp only
      rw [hp]
      dsimp only
      cases ht : t e1 M with
      | bad => rw [ht] at h; exact h.elim
      | ex _ _ => rw [ht] at h; exact h.elim
      | ok b M1 =>
        rw [ht] at h
        simp only [wp_ok] at h
        obtain ⟨hb, h⟩ := h
        dsimp only
        rw [if_pos hb]
        cases hl : el e1 M1 with
        | bad => rw [hl] at h; exact h.elim
        | ex x2 M2 => rw [hl] at h; exact h
        | ok y M2 =>
          rw [hl] at h
          simp only [wp_ok] at h
          obtain ⟨acc, ha, hz, hI'⟩ := h
          dsimp only
          rw [getL_ok ha]
          dsimp only
          rw [if_pos hz]
          exact wp_lcX l I hn hs hd m (i + 1) _ (by omega) (by omega) hI'
theorem o_lcX {g : Tg} {t : TF} {el : EF} {D : Nat} (l : List Val) (I : Nat → Mem → Prop) (hn : ∀ i M, I i M → nxt i M = some l[i]?)
    (hs : ∀ i x M, l[i]? = some x → I i M → ∃ e1, g.put x e = some e1 ∧ owp (t e1 M) (fun b M1 => b = true ∧ owp (el e1 M1) (fun y M2 => ∃ acc, getL M2 D = some acc ∧ acc.length < sizeLine ∧ I (i + 1) (M2.set D (.lst (acc ++ [y])))) E) noE)
    (hd : ∀ M, I l.length M → Qv (.loc D) M) (m : Nat) (h1 : l.length < m) (hI : I 0 M) : owp (lcX nxt g t el D e m 0 M) Qv E := by
  rw [owp_eq]
  simp only [owp_eq] at hs
  exact wp_lcX l I hn hs hd m 0 M (by omega) (Nat.zero_le _) hI
@[simp] theorem owp_inG {neg : Bool} {ys : List Str} {z : Str} : owp (inG neg ys (.str z) M) Qv E = Qv (.bl (if neg = true then !(ys.any fun y => decide (y = z)) else ys.any fun y => decide (y = z))) M := by
  rw [owp_eq]; rfl
end
end Sm

namespace Lw
open PySem L2 Sm
/-! lists by functions -/
def fV (n : Nat) (f : Nat → Val) : List Val := (List.range n).map f
def up {α : Type} (f : Nat → α) (j : Nat) (x : α) : Nat → α := fun i => if i = j then x else f i
@[simp] theorem up_same {α : Type} (f : Nat → α) (j : Nat) (x : α) : up f j x j = x := if_pos rfl
theorem up_ne {α : Type} {f : Nat → α} {j k : Nat} {x : α} (h : k ≠ j) : up f j x k = f k := if_neg h
@[simp] theorem fV_length (n : Nat) (f : Nat → Val) : (fV n f).length = n := by simp [fV]
theorem fV_get {n : Nat} {f : Nat → Val} {j : Nat} (h : j < n) : (fV n f)[j]? = some (f j) := by unfold fV; simp [h]
theorem fV_get_none {n : Nat} {f : Nat → Val} {j : Nat} (h : n ≤ j) : (fV n f)[j]? = none := by unfold fV; simp [h]
theorem fV_at {n : Nat} {f : Nat → Val} {j : Nat} (h : j < n) : atI (fV n f) (j : Int) = some (f j) := atI_nat (fV_get h)
theorem fV_set {n : Nat} {f : Nat → Val} {j : Nat} {x : Val} : (fV n f).set j x = fV n (up f j x) := by
  apply List.ext_getElem?
  intro i
  by_cases hi : i < n
  · rw [fV_get hi]
    by_cases e : i = j
    · subst e; rw [up_same, List.getElem?_set_self (by simpa using hi)]
    · rw [up_ne e, List.getElem?_set_ne (Ne.symm e), fV_get hi]
  · rw [fV_get_none (by omega)]
    rw [List.getElem?_eq_none (by simp; omega)]
theorem fV_congr {n : Nat} {f g : Nat → Val} (h : ∀ i, i < n → f i = g i) : fV n f = fV n g := by
  unfold fV
  exact List.map_congr_left fun i hi => h i (List.mem_range.mp hi)
theorem fV_rep (n : Nat) (x : Val) : (List.replicate n [x]).flatten = fV n fun _ => x := by
  induction n with
  | zero => rfl
  | succ n ih => rw [List.replicate_succ, List.flatten_cons, ih]; simp [fV, List.range_succ_eq_map]
theorem fV_map {α : Type} {f : Nat → α} {g : α → Val} {n : Nat} : ((List.range n).map f).map g = fV n fun i => g (f i) := by
  rw [List.map_map]; rfl
theorem fV_drop1 {n : Nat} {f : Nat → Val} : (fV (n + 1) f).drop 1 = fV n fun i => f (i + 1) := by
  apply List.ext_getElem?
  intro i
  rw [List.getElem?_drop]
  by_cases hi : i < n
  · rw [fV_get hi, Nat.add_comm 1 i, fV_get (by omega)]
  · rw [fV_get_none (by omega), fV_get_none (by omega)]
def iV (f : Nat → Int) : Nat → Val := fun i => .int (f i)
def nV (f : Nat → Nat) : Nat → Val := fun i => .int (f i : Nat)
def oV (f : Nat → Option Int) : Nat → Val := fun i => match f i with
  | some x => .int x
  | none => .non
def bV (f : Nat → Bool) : Nat → Val := fun i => .bl (f i)
theorem iV_up (f : Nat → Int) (j : Nat) (x : Int) : up (iV f) j (.int x) = iV (up f j x) := by funext i; unfold up iV; by_cases h : i = j <;> simp [h]
theorem nV_up (f : Nat → Nat) (j : Nat) (x : Nat) : up (nV f) j (.int (x : Nat)) = nV (up f j x) := by funext i; unfold up nV; by_cases h : i = j <;> simp [h]
theorem oV_up (f : Nat → Option Int) (j : Nat) (x : Int) : up (oV f) j (.int x) = oV (up f j (some x)) := by funext i; unfold up oV; by_cases h : i = j <;> simp [h]
theorem bV_up (f : Nat → Bool) (j : Nat) (x : Bool) : up (bV f) j (.bl x) = bV (up f j x) := by funext i; unfold up bV; by_cases h : i = j <;> simp [h]
theorem set_fV {M : Mem} {d n j : Nat} {f : Nat → Val} {x : Val} (h : getL M d = some (fV n f)) (hj : j < n) : setV (.loc d) (.int (j : Int)) x M = some (M.set d (.lst (fV n (up f j x)))) := by
  rw [setV_get, h]
  simp only [Option.bind_some, fV_length, ixN_nat hj, Option.map_some, fV_set]
@[simp] theorem iV_ap (f : Nat → Int) (j : Nat) : iV f j = .int (f j) := rfl
@[simp] theorem nV_ap (f : Nat → Nat) (j : Nat) : nV f j = .int (f j : Nat) := rfl
@[simp] theorem bV_ap (f : Nat → Bool) (j : Nat) : bV f j = .bl (f j) := rfl

/-! comprehensions whose elements are told by their number -/
theorem fV_snoc {n : Nat} {f : Nat → Val} : fV n f ++ [f n] = fV (n + 1) f := by
  unfold fV; rw [List.range_succ, List.map_append]; rfl
theorem fV_zero {f : Nat → Val} : fV 0 f = [] := rfl
theorem nxt_rng0 {n : Nat} (i : Nat) (M : Mem) : (itRng 0 n).nxt i M = some (fV n (nV id))[i]? := by
  show some (if i < n then some (Val.int (0 + i)) else none) = _
  by_cases h : i < n
  · rw [if_pos h, fV_get h]; simp
  · rw [if_neg h, fV_get_none (by omega)]
section
variable {e : Sl} {Qv : Val → Mem → Prop} {E : Ex → Mem → Prop} {nxt : Nat → Mem → Option (Option Val)}
theorem o_lc_rel {g : Tg} {t : TF} {el : EF} {M1 : Mem} {b : Nat} (l : List Val) (P : Nat → Val → Mem → Prop) (hb : l.length ≤ b) (hz : l.length ≤ sizeLine) (hn : ∀ (i : Nat) M, i ≤ l.length → M1 <+: M → nxt i M = some l[i]?)
    (hm : ∀ i y M M', P i y M → M <+: M' → P i y M') (hst : ∀ i y M acc c, P i y M → getL M M1.length = some acc → P i y (M.set M1.length (.lst c)))
    (hs : ∀ (i : Nat) x M, l[i]? = some x → M1 <+: M → M1.length < M.length → ∃ e1, g.put x e = some e1 ∧ owp (t e1 M) (fun b M' => b = true ∧ M <+: M' ∧ owp (el e1 M') (fun y M'' => M' <+: M'' ∧ P i y M'') noE) noE)
    (hd : ∀ M ys, M1 <+: M → getL M M1.length = some (fV l.length ys) → (∀ i, i < l.length → P i (ys i) M) → Qv (.loc M1.length) M) : owp (lcG nxt g t el M1.length e (b + 1) 0 (M1 ++ [.lst []])) Qv E := by
  refine o_lcG l (fun i M => i ≤ l.length ∧ M1 <+: M ∧ ∃ ys, getL M M1.length = some (fV i ys) ∧ ∀ j, j < i → P j (ys j) M) (fun i M h => hn i M h.1 h.2.1) (fun i x M hx h => ?_) (fun M h => ?_) (b + 1) (by omega) ⟨Nat.zero_le _, List.prefix_append _ _, fun _ => .non, by simpa [fV_zero] using getL_append_new M1 [], fun j hj => absurd hj (by omega)⟩
  · obtain ⟨_, h1, ys, hg, hP⟩ := h
    obtain ⟨e1, hp, ho⟩ := hs i x M hx h1 (getL_lt hg)
    have hi : i < l.length := (List.getElem?_eq_some_iff.mp hx).1
    refine ⟨e1, hp, owp_imp ho (fun b M' ⟨hb', hp', hel⟩ => ?_) fun _ _ z => z⟩
    subst hb'
    rw [if_pos rfl]
    refine owp_imp hel (fun y M'' ⟨hp2, hy⟩ => ?_) fun _ _ z => z
    have hg2 := getL_pre (hp'.trans hp2) hg
    refine ⟨_, hg2, by rw [fV_length]; omega, hi, pre_set ((h1.trans hp').trans hp2) (Nat.le_refl _), up ys i y, ?_, fun j hj => ?_⟩
    · rw [getL_set hg2]
      have : fV i ys = fV i (up ys i y) := fV_congr fun k hk => (up_ne (by omega)).symm
      rw [this, ← fV_snoc, up_same]
    · by_cases e : j = i
      · subst e; rw [up_same]; exact hst _ _ _ _ _ hy hg2
      · rw [up_ne e]; exact hst _ _ _ _ _ (hm _ _ _ _ (hP j (by omega)) (hp'.trans hp2)) hg2
  · obtain ⟨_, h1, ys, hg, hP⟩ := h
    exact hd M ys h1 hg hP
/-- elements that are known -/
theorem o_lc_ix {g : Tg} {t : TF} {el : EF} {M1 : Mem} {b : Nat} (l : List Val) (f : Nat → Val) (hb : l.length ≤ b) (hz : l.length ≤ sizeLine) (hn : ∀ (i : Nat) M, i ≤ l.length → M1 <+: M → nxt i M = some l[i]?)
    (hs : ∀ (i : Nat) x M, l[i]? = some x → M1 <+: M → M1.length < M.length → ∃ e1, g.put x e = some e1 ∧ owp (t e1 M) (fun b M' => b = true ∧ M <+: M' ∧ owp (el e1 M') (fun y M'' => M' <+: M'' ∧ y = f i) noE) noE)
    (hd : ∀ M, M1 <+: M → getL M M1.length = some (fV l.length f) → Qv (.loc M1.length) M) : owp (lcG nxt g t el M1.length e (b + 1) 0 (M1 ++ [.lst []])) Qv E :=
  o_lc_rel l (fun i y _ => y = f i) hb hz hn (fun _ _ _ _ h _ => h) (fun _ _ _ _ _ h _ => h) hs fun M ys h1 h2 h3 => hd M h1 (by rw [h2, fV_congr h3])
end

/-! loops over any source; zips -/
def pairL (l m : List Val) : List Val := (l.zip m).map fun p => Val.tup [p.1, p.2]
theorem pairL_len {l m : List Val} (h : l.length = m.length) : (pairL l m).length = l.length := by simp [pairL, h]
theorem pairL_at {l m : List Val} {i : Nat} {x : Val} (h : (pairL l m)[i]? = some x) : ∃ a b, l[i]? = some a ∧ m[i]? = some b ∧ x = .tup [a, b] := by
  unfold pairL at h
  rw [List.getElem?_map] at h
  cases hz : (l.zip m)[i]? with
  | none => rw [hz] at h; cases h
  | some p =>
    rw [hz] at h
    cases h
    obtain ⟨h1, h2⟩ := List.getElem?_zip_eq_some.mp hz
    exact ⟨_, _, h1, h2, rfl⟩
theorem pairL_get {l m : List Val} (hlm : l.length = m.length) (i : Nat) : (match l[i]?, m[i]? with | some x, some y => some (some (Val.tup [x, y])) | _, _ => some none) = some (pairL l m)[i]? := by
  unfold pairL
  by_cases hi : i < l.length
  · have hi' : i < m.length := by omega
    rw [List.getElem?_map, List.getElem?_eq_getElem (l := l.zip m) (by rw [List.length_zip]; omega), List.getElem_zip]
    simp [hi, hi']
  · have hi' : ¬ i < m.length := by omega
    rw [List.getElem?_map, List.getElem?_eq_none (l := l.zip m) (by rw [List.length_zip]; omega)]
    simp [hi, hi']
theorem itZip_tl {l m : List Val} {k : Nat} {M : Mem} (h : getL M k = some m) : itZip (.tup l) (.loc k) M = some (itZm l k) := by
  have := getL_ok h
  unfold itZip
  dsimp only
  rw [this]
theorem itZm_nxt {l m : List Val} {n i : Nat} {M : Mem} (h : getL M n = some m) (hlm : l.length = m.length) (hi : i ≤ l.length) : (itZm l n).nxt i M = some (pairL l m)[i]? := by
  have := getL_ok h
  unfold itZm
  dsimp only
  rw [this]
  dsimp only
  rw [if_pos ⟨hi, by omega⟩]
  exact pairL_get hlm i
theorem itZl_nxt {l m : List Val} {n k b c i : Nat} {M : Mem} (h : getL M n = some l) (h' : getL M k = some m) (hlm : l.length = m.length) : (itZ (itLst n b) (itLst k c)).nxt i M = some (pairL l m)[i]? := by
  have g1 : (itLst n b).nxt i M = some l[i]? := by have := getL_ok h; show (match M[n]? with | some (.lst l) => some l[i]? | _ => none) = _; rw [this]
  have g2 : (itLst k c).nxt i M = some m[i]? := by have := getL_ok h'; show (match M[k]? with | some (.lst l) => some l[i]? | _ => none) = _; rw [this]
  rw [← pairL_get hlm i]
  unfold itZ
  dsimp only
  rw [g1, g2]
  cases l[i]? <;> cases m[i]? <;> rfl
theorem GO.wp_mono {o : GO} {N N' : Sl → Mem → Prop} {E E' : Ex → Sl → Mem → Prop} (h : o.wp N E) (h1 : ∀ e M, N e M → N' e M) (h2 : ∀ x e M, E x e M → E' x e M) : o.wp N' E' := by
  cases o with
  | nx e M => exact h1 _ _ h
  | ex x e M => exact h2 _ _ _ h
  | bad => exact h.elim
section
variable {e : Sl} {M : Mem} {g : GF} {body : SF} {N B C : Sl → Mem → Prop} {R : Val → Mem → Prop} {Es : Ex → Sl → Mem → Prop} {nxt : Nat → Mem → Option (Option Val)}
theorem o_forG (l : List Val) (I : Nat → Sl → Mem → Prop) {m : Nat} (hm : l.length < m) (h0 : I 0 e M) (hn : ∀ i e M, i ≤ l.length → I i e M → nxt i M = some l[i]?)
    (hs : ∀ i x e M, l[i]? = some x → I i e M → gwp (g x e M) (fun e1 M1 => swp (body e1 M1) (I (i + 1)) R N (I (i + 1)) Es) Es) (hd : ∀ e M, I l.length e M → N e M) : swp (forG nxt g body m 0 e M) N R B C Es := by
  rw [swp_eq]
  simp only [gwp_eq, swp_eq] at hs
  refine wp_forG l (fun i e M => i ≤ l.length ∧ I i e M) (fun i e M h => hn i e M h.1 h.2) (fun i x e M hx h => ?_) (fun e M h => hd e M h.2) m 0 e M (by omega) (Nat.zero_le _) ⟨Nat.zero_le _, h0⟩
  have hi : i < l.length := (List.getElem?_eq_some_iff.mp hx).1
  refine GO.wp_mono (hs i x e M hx h.2) (fun e1 M1 h => ?_) fun _ _ _ z => z
  exact SO.wp_mono h (fun _ _ z => ⟨hi, z⟩) (fun _ _ z => z) (fun _ _ z => z) (fun _ _ z => ⟨hi, z⟩) fun _ _ _ z => z
end

/-! ways between corners -/
structure Arc where
  f : Nat
  s : Nat
  l : Int
/-- a walk: its arcs, one behind the other -/
def Chain : List Arc → Nat → Nat → Prop
  | [], i, j => i = j
  | a :: p, i, j => a.f = i ∧ Chain p a.s j
def plen : List Arc → Int
  | [] => 0
  | a :: p => a.l + plen p
def Wk (A : List Arc) (i j : Nat) (L : Int) : Prop := ∃ p : List Arc, (∀ a ∈ p, a ∈ A) ∧ Chain p i j ∧ plen p = L
theorem Chain.append : ∀ {p q : List Arc} {i j k : Nat}, Chain p i j → Chain q j k → Chain (p ++ q) i k
  | [], _, _, _, _, h, k => by cases (show _ = _ from h); exact k
  | a :: p, _, _, _, _, ⟨h1, h2⟩, k => ⟨h1, Chain.append h2 k⟩
theorem Chain.split : ∀ {p q : List Arc} {i k : Nat}, Chain (p ++ q) i k → ∃ j, Chain p i j ∧ Chain q j k
  | [], _, i, _, h => ⟨i, rfl, h⟩
  | a :: p, _, _, _, ⟨h1, h2⟩ => by
    obtain ⟨j, k1, k2⟩ := Chain.split h2
    exact ⟨j, ⟨h1, k1⟩, k2⟩
theorem plen_append : ∀ p q : List Arc, plen (p ++ q) = plen p + plen q
  | [], q => by simp [plen]
  | a :: p, q => by simp [plen, plen_append p q]; omega
theorem plen_nn {p : List Arc} (h : ∀ a ∈ p, 0 ≤ a.l) : 0 ≤ plen p := by
  induction p with
  | nil => exact Int.le_refl 0
  | cons a p ih =>
    have h1 := h a (by simp)
    have h2 := ih fun b hb => h b (by simp [hb])
    show 0 ≤ a.l + plen p
    omega
theorem Wk.nil {A : List Arc} (i : Nat) : Wk A i i 0 := ⟨[], by simp, rfl, rfl⟩
theorem Wk.one {A : List Arc} {a : Arc} (h : a ∈ A) : Wk A a.f a.s a.l := ⟨[a], by simpa using h, ⟨rfl, rfl⟩, by simp [plen]⟩
theorem Wk.trans {A : List Arc} {i j k : Nat} {L M : Int} : Wk A i j L → Wk A j k M → Wk A i k (L + M)
  | ⟨p, h1, h2, h3⟩, ⟨q, k1, k2, k3⟩ => ⟨p ++ q, fun a ha => (List.mem_append.mp ha).elim (h1 a) (k1 a), h2.append k2, by rw [plen_append, h3, k3]⟩
/-! lengths, none for no way -/
def addO : Option Int → Option Int → Option Int
  | some a, some b => some (a + b)
  | _, _ => none
def leO (a b : Option Int) : Prop := ∀ y, b = some y → ∃ x, a = some x ∧ x ≤ y
def minO : Option Int → Option Int → Option Int
  | none, b => b
  | some a, none => some a
  | some a, some b => if b < a then some b else some a
theorem leO.refl (a : Option Int) : leO a a := fun y h => ⟨y, h, Int.le_refl _⟩
theorem leO.trans {a b c : Option Int} (h : leO a b) (k : leO b c) : leO a c := fun z hz => by
  obtain ⟨y, hy, h1⟩ := k z hz
  obtain ⟨x, hx, h2⟩ := h y hy
  exact ⟨x, hx, Int.le_trans h2 h1⟩
theorem minO_left (a b : Option Int) : leO (minO a b) a := fun y h => by
  subst h
  cases b with
  | none => exact ⟨y, rfl, Int.le_refl _⟩
  | some b => unfold minO; by_cases hb : b < y <;> simp [hb] <;> omega
theorem minO_right (a b : Option Int) : leO (minO a b) b := fun y h => by
  subst h
  cases a with
  | none => exact ⟨y, rfl, Int.le_refl _⟩
  | some a => unfold minO; by_cases hb : y < a <;> simp [hb] <;> omega
theorem minO_or (a b : Option Int) : minO a b = a ∨ minO a b = b := by
  cases a with
  | none => exact .inr rfl
  | some a => cases b with
    | none => exact .inl rfl
    | some b => unfold minO; by_cases hb : b < a <;> simp [hb]
theorem addO_mono {a b c d : Option Int} (h : leO a b) (k : leO c d) : leO (addO a c) (addO b d) := fun y hy => by
  cases b with
  | none => cases hy
  | some b => cases d with
    | none => cases hy
    | some d =>
      cases hy
      obtain ⟨x, hx, h1⟩ := h b rfl
      obtain ⟨z, hz, h2⟩ := k d rfl
      subst hx hz
      exact ⟨x + z, rfl, by omega⟩
abbrev Tb := Nat → Nat → Option Int
/-- the table tells the least lengths -/
def IsDist (A : List Arc) (n : Nat) (T : Tb) : Prop := ∀ i j, i < n → j < n → (∀ x, T i j = some x → Wk A i j x) ∧ ∀ L, Wk A i j L → leO (T i j) (some L)
theorem IsDist.uniq {A : List Arc} {n : Nat} {T U : Tb} (h : IsDist A n T) (k : IsDist A n U) (i j : Nat) (hi : i < n) (hj : j < n) : T i j = U i j := by
  obtain ⟨h1, h2⟩ := h i j hi hj
  obtain ⟨k1, k2⟩ := k i j hi hj
  cases hT : T i j with
  | none =>
    cases hU : U i j with
    | none => rfl
    | some y =>
      obtain ⟨x, hx, _⟩ := h2 y (k1 y hU) y rfl
      rw [hT] at hx; cases hx
  | some x =>
    obtain ⟨y, hy, hle⟩ := k2 x (h1 x hT) x rfl
    rw [hy]
    obtain ⟨x', hx', hle'⟩ := h2 y (k1 y hy) y rfl
    rw [hT] at hx'
    cases hx'
    exact congrArg some (Int.le_antisymm hle' hle)
structure ArcsOk (A : List Arc) (n : Nat) : Prop where
  f : ∀ a ∈ A, a.f < n
  s : ∀ a ∈ A, a.s < n
  l : ∀ a ∈ A, 1 ≤ a.l
  ne : ∀ a ∈ A, a.f ≠ a.s
/-! the table by corners in between -/
/-- what holds when the corners below m have been gone through -/
structure FwI (A : List Arc) (n m : Nat) (T : Tb) : Prop where
  dg : ∀ i, i < n → T i i = some 0
  sd : ∀ i j x, i < n → j < n → T i j = some x → Wk A i j x
  nn : ∀ i j x, i < n → j < n → T i j = some x → 0 ≤ x
  ar : ∀ a ∈ A, leO (T a.f a.s) (some a.l)
  tr : ∀ k, k < m → ∀ i j, i < n → j < n → leO (T i j) (addO (T i k) (T k j))
def fwT (m : Nat) (T : Tb) : Tb := fun i j => minO (T i j) (addO (T i m) (T m j))
theorem leO_nn {a b c : Option Int} (hb : ∀ x, b = some x → 0 ≤ x) (h : leO c a) : leO c (addO a b) := fun y hy => by
  cases a with
  | none => cases hy
  | some a => cases b with
    | none => cases hy
    | some b =>
      cases hy
      obtain ⟨x, hx, h1⟩ := h a rfl
      exact ⟨x, hx, by have := hb b rfl; omega⟩
theorem addO_assoc (a b c : Option Int) : addO (addO a b) c = addO a (addO b c) := by
  cases a <;> cases b <;> cases c <;> simp [addO]; omega
theorem addO_comm (a b : Option Int) : addO a b = addO b a := by
  cases a <;> cases b <;> simp [addO]; omega
theorem fw_row {A : List Arc} {n m : Nat} {T : Tb} (I : FwI A n m T) (hm : m < n) {j : Nat} (hj : j < n) : fwT m T m j = T m j := by
  unfold fwT
  rw [I.dg m hm]
  cases T m j with
  | none => rfl
  | some x => simp [addO, minO]
theorem fw_col {A : List Arc} {n m : Nat} {T : Tb} (I : FwI A n m T) (hm : m < n) {i : Nat} (hi : i < n) : fwT m T i m = T i m := by
  unfold fwT
  rw [I.dg m hm]
  cases T i m with
  | none => rfl
  | some x => simp [addO, minO]
theorem FwI.next {A : List Arc} {n m : Nat} {T : Tb} (I : FwI A n m T) (ok : ArcsOk A n) (hm : m < n) : FwI A n (m + 1) (fwT m T) where
  dg := fun i hi => by
    unfold fwT
    rw [I.dg i hi]
    cases h1 : T i m with
    | none => rfl
    | some x => cases h2 : T m i with
      | none => rfl
      | some y =>
        have := I.nn i m x hi hm h1
        have := I.nn m i y hm hi h2
        simp [addO, minO]; omega
  sd := fun i j x hi hj h => by
    unfold fwT at h
    rcases minO_or (T i j) (addO (T i m) (T m j)) with e | e
    · rw [e] at h; exact I.sd i j x hi hj h
    · rw [e] at h
      cases h1 : T i m with
      | none => rw [h1] at h; cases h
      | some y => cases h2 : T m j with
        | none => rw [h1, h2] at h; cases h
        | some z => rw [h1, h2] at h; cases h; exact (I.sd i m y hi hm h1).trans (I.sd m j z hm hj h2)
  nn := fun i j x hi hj h => by
    unfold fwT at h
    rcases minO_or (T i j) (addO (T i m) (T m j)) with e | e
    · rw [e] at h; exact I.nn i j x hi hj h
    · rw [e] at h
      cases h1 : T i m with
      | none => rw [h1] at h; cases h
      | some y => cases h2 : T m j with
        | none => rw [h1, h2] at h; cases h
        | some z =>
          rw [h1, h2] at h; cases h
          have := I.nn i m y hi hm h1
          have := I.nn m j z hm hj h2
          omega
  ar := fun a ha => (minO_left _ _).trans (I.ar a ha)
  tr := fun k hk i j hi hj => by
    have hnn : ∀ i j, i < n → j < n → ∀ x, T i j = some x → 0 ≤ x := fun i j hi hj x h => I.nn i j x hi hj h
    by_cases e : k = m
    · subst e
      rw [fw_col I hm hi, fw_row I hm hj]
      exact minO_right _ _
    · have hk' : k < m := by omega
      have hkn : k < n := by omega
      have old := I.tr k hk'
      rcases minO_or (T i k) (addO (T i m) (T m k)) with e1 | e1 <;> rcases minO_or (T k j) (addO (T k m) (T m j)) with e2 | e2 <;> (show leO (minO _ _) (addO (minO _ _) (minO _ _))) <;> rw [e1, e2]
      · exact (minO_left _ _).trans (old i j hi hj)
      · rw [← addO_assoc]
        exact (minO_right _ _).trans (addO_mono (old i m hi hm) (leO.refl _))
      · rw [addO_assoc]
        exact (minO_right _ _).trans (addO_mono (leO.refl _) (old m j hm hj))
      · rw [addO_assoc, ← addO_assoc (T m k), addO_comm (addO (T m k) (T k m)), ← addO_assoc]
        refine leO_nn (fun x hx => ?_) (minO_right _ _)
        cases h1 : T m k with
        | none => rw [h1] at hx; cases hx
        | some y => cases h2 : T k m with
          | none => rw [h1, h2] at hx; cases hx
          | some z =>
            rw [h1, h2] at hx; cases hx
            have := hnn m k hm hkn y h1
            have := hnn k m hkn hm z h2
            omega
theorem FwI.dist {A : List Arc} {n : Nat} {T : Tb} (I : FwI A n n T) (ok : ArcsOk A n) : IsDist A n T := fun i j hi hj => by
  refine ⟨fun x h => I.sd i j x hi hj h, ?_⟩
  rintro L ⟨p, h1, h2, rfl⟩
  induction p generalizing i with
  | nil =>
    have e : i = j := h2
    subst e
    rw [I.dg _ hi]
    exact leO.refl _
  | cons a p ih =>
    obtain ⟨e, h2⟩ := h2
    subst e
    have ha := h1 a (by simp)
    have hs := ok.s a ha
    refine (I.tr a.s hs a.f j hi hj).trans ?_
    exact addO_mono (c := T a.s j) (d := some (plen p)) (I.ar a ha) (ih a.s hs (fun b hb => h1 b (by simp [hb])) h2)
/-! the table by going on -/
theorem nodup_len : ∀ (n : Nat) (l : List Nat), l.Nodup → (∀ x ∈ l, x < n) → l.length ≤ n
  | 0, l, _, h => by
    cases l with
    | nil => exact Nat.le_refl _
    | cons x l => exact absurd (h x (by simp)) (by omega)
  | n + 1, l, hn, h => by
    have h1 := nodup_len n (l.erase n) (hn.erase n) fun x hx => by
      have h2 : x ≠ n ∧ x ∈ l := (hn.mem_erase_iff).mp hx
      have := h x h2.2
      omega
    have h2 : l.length ≤ (l.erase n).length + 1 := by
      rw [List.length_erase]
      split <;> omega
    omega
theorem dup_split : ∀ p : List Arc, ¬ (p.map (·.f)).Nodup → ∃ A a B b C, p = A ++ a :: (B ++ b :: C) ∧ a.f = b.f
  | [], h => absurd (by simp) h
  | a :: p, h => by
    by_cases hm : a.f ∈ p.map (·.f)
    · obtain ⟨b, hb, e⟩ := List.mem_map.mp hm
      obtain ⟨B, C, e2⟩ := List.append_of_mem hb
      exact ⟨[], a, B, b, C, by rw [e2]; rfl, e.symm⟩
    · have : ¬ (p.map (·.f)).Nodup := fun k => h (by rw [List.map_cons, List.nodup_cons]; exact ⟨hm, k⟩)
      obtain ⟨A, x, B, b, C, e, e2⟩ := dup_split p this
      exact ⟨a :: A, x, B, b, C, by rw [e]; rfl, e2⟩
/-- a walk of few arcs that is no longer -/
theorem short_walk {A : List Arc} {n : Nat} (ok : ArcsOk A n) : ∀ (m : Nat) (p : List Arc) (i j : Nat), p.length ≤ m → (∀ a ∈ p, a ∈ A) → Chain p i j → ∃ q : List Arc, q.length ≤ n ∧ (∀ a ∈ q, a ∈ A) ∧ Chain q i j ∧ plen q ≤ plen p
  | 0, p, i, j, hl, h1, h2 => ⟨p, by omega, h1, h2, Int.le_refl _⟩
  | m + 1, p, i, j, hl, h1, h2 => by
    by_cases hn : p.length ≤ n
    · exact ⟨p, hn, h1, h2, Int.le_refl _⟩
    · have hd : ¬ (p.map (·.f)).Nodup := fun k => by
        have := nodup_len n _ k fun x hx => by
          obtain ⟨a, ha, e⟩ := List.mem_map.mp hx
          rw [← e]; exact ok.f a (h1 a ha)
        simp at this
        omega
      obtain ⟨P, a, B, b, C, e, e2⟩ := dup_split p hd
      subst e
      obtain ⟨k, c1, c2⟩ := h2.split
      obtain ⟨c3, c4⟩ := c2
      have c5 : Chain (a :: B ++ b :: C) k j := ⟨c3, c4⟩
      obtain ⟨k', d1, d2⟩ := Chain.split c4
      obtain ⟨d3, d4⟩ := d2
      have hC : Chain (P ++ b :: C) i j := c1.append ⟨by rw [← e2]; exact c3, d4⟩
      have hlen : (P ++ b :: C).length ≤ m := by simp at hl ⊢; omega
      have hmem : ∀ x ∈ P ++ b :: C, x ∈ A := fun x hx => h1 x (by
        rcases List.mem_append.mp hx with h | h
        · simp [h]
        · rcases List.mem_cons.mp h with h | h <;> simp [h])
      obtain ⟨q, q1, q2, q3, q4⟩ := short_walk ok m _ i j hlen hmem hC
      refine ⟨q, q1, q2, q3, Int.le_trans q4 ?_⟩
      have hB : 0 ≤ plen (a :: B) := plen_nn fun x hx => by
        have := ok.l x (h1 x (by
          rcases List.mem_cons.mp hx with h | h <;> simp [h]))
        omega
      have e3 : P ++ a :: (B ++ b :: C) = P ++ ((a :: B) ++ b :: C) := rfl
      rw [e3, plen_append, plen_append, plen_append]
      omega
/-- what holds when so many turns have been gone, and of one more the arcs B -/
structure BfI (A : List Arc) (n t : Nat) (B : List Arc) (T : Tb) : Prop where
  dg : ∀ i, i < n → leO (T i i) (some 0)
  sd : ∀ i j x, i < n → j < n → T i j = some x → Wk A i j x
  hp : ∀ (p : List Arc) i j, p.length ≤ t → i < n → (∀ a ∈ p, a ∈ A) → Chain p i j → leO (T i j) (some (plen p))
  nw : ∀ (p : List Arc) i b, p.length ≤ t → i < n → (∀ a ∈ p, a ∈ A) → b ∈ B → Chain p i b.f → leO (T i b.s) (some (plen p + b.l))
theorem BfI.turn {A : List Arc} {n t : Nat} {T : Tb} (I : BfI A n t A T) (ok : ArcsOk A n) : BfI A n (t + 1) [] T where
  dg := I.dg
  sd := I.sd
  hp := fun p i j hl hi h1 h2 => by
    by_cases h : p.length ≤ t
    · exact I.hp p i j h hi h1 h2
    · have hne : p ≠ [] := fun e => by subst e; simp at h
      have e := List.dropLast_concat_getLast hne
      have hb : p.getLast hne ∈ A := h1 _ (List.getLast_mem hne)
      rw [← e] at h2
      obtain ⟨k, c1, c2⟩ := h2.split
      obtain ⟨c3, c4⟩ := c2
      cases (show (p.getLast hne).s = j from c4)
      rw [← c3] at c1
      have := I.nw p.dropLast i _ (by simp; omega) hi (fun a ha => h1 a (List.dropLast_subset p ha)) hb c1
      have e4 : plen p = plen p.dropLast + (p.getLast hne).l := by
        conv => lhs; rw [← e, plen_append]
        simp [plen]
      rw [e4]; exact this
  nw := fun p i b _ _ _ hb _ => by simp at hb
theorem BfI.dist {A : List Arc} {n : Nat} {T : Tb} (I : BfI A n n [] T) (ok : ArcsOk A n) : IsDist A n T := fun i j hi hj => by
  refine ⟨fun x h => I.sd i j x hi hj h, ?_⟩
  rintro L ⟨p, h1, h2, rfl⟩
  obtain ⟨q, q1, q2, q3, q4⟩ := short_walk ok p.length p i j (Nat.le_refl _) h1 h2
  exact (I.hp q i j q1 hi q2 q3).trans fun y hy => by cases hy; exact ⟨_, rfl, q4⟩
/-- one arc for all begins below k -/
def bfT (a : Arc) (k : Nat) (T : Tb) : Tb := fun i j => if i < k ∧ j = a.s then minO (T i j) (addO (T i a.f) (some a.l)) else T i j
theorem bfT_le (a : Arc) (k : Nat) (T : Tb) (i j : Nat) : leO (bfT a k T i j) (T i j) := by
  unfold bfT
  split
  · exact minO_left _ _
  · exact leO.refl _
theorem BfI.arc {A B : List Arc} {n t : Nat} {T : Tb} {a : Arc} (I : BfI A n t B T) (ok : ArcsOk A n) (ha : a ∈ A) : BfI A n t (B ++ [a]) (bfT a n T) where
  dg := fun i hi => (bfT_le a n T i i).trans (I.dg i hi)
  sd := fun i j x hi hj h => by
    unfold bfT at h
    split at h
    · rename_i hc
      rcases minO_or (T i j) (addO (T i a.f) (some a.l)) with e | e
      · rw [e] at h; exact I.sd i j x hi hj h
      · rw [e] at h
        cases h1 : T i a.f with
        | none => rw [h1] at h; cases h
        | some y =>
          rw [h1] at h; cases h
          rw [hc.2]
          exact (I.sd i a.f y hi (ok.f a ha) h1).trans (Wk.one ha)
    · exact I.sd i j x hi hj h
  hp := fun p i j hl hi h1 h2 => (bfT_le a n T i j).trans (I.hp p i j hl hi h1 h2)
  nw := fun p i b hl hi h1 hb h2 => by
    rcases List.mem_append.mp hb with hb | hb
    · exact (bfT_le a n T i b.s).trans (I.nw p i b hl hi h1 hb h2)
    · have e : b = a := by simpa using hb
      subst e
      have := I.hp p i b.f hl hi h1 h2
      unfold bfT
      rw [if_pos ⟨hi, rfl⟩]
      exact (minO_right _ _).trans (addO_mono (c := some b.l) (d := some b.l) this (leO.refl _))

@[simp] theorem intSV_bl (b : Bool) (M : Mem) : intSV [.bl b] M = .ok (.int (if b then 1 else 0)) M := rfl
@[simp] theorem intSV_int (i : Int) (M : Mem) : intSV [.int i] M = .ok (.int i) M := rfl

/-- a row of draws at r -/
structure RowAt (M : Mem) (r : Nat) : Prop where
  ex : ∃ (ns : List Int) (a b c : Int), getL M r = some [.frz ns, .int a, .int b, .int c] ∧ 0 ≤ a ∧ 0 ≤ b ∧ 0 ≤ c
theorem emod_b {x k : Int} (hk : 0 < k) : 0 ≤ x % k ∧ x % k < k := ⟨Int.emod_nonneg _ (by omega), Int.emod_lt_of_pos _ hk⟩
theorem RowAt.mk' {M : Mem} {r : Nat} {l0 : List Val} {ns : List Int} {a b c : Int} (h : getL M r = some l0) (ha : 0 ≤ a) (hb : 0 ≤ b) (hc : 0 ≤ c) : RowAt (M.set r (.lst [.frz ns, .int a, .int b, .int c])) r := ⟨ns, a, b, c, getL_set h, ha, hb, hc⟩
theorem RowAt.kp {M M' : Mem} {r : Nat} (h : RowAt M r) (p : M <+: M') : RowAt M' r := by
  obtain ⟨ns, a, b, c, h, h1⟩ := h
  exact ⟨ns, a, b, c, getL_pre p h, h1⟩
theorem RowAt.lt {M : Mem} {r : Nat} (h : RowAt M r) : r < M.length := by
  obtain ⟨ns, a, b, c, h, h1⟩ := h
  exact getL_lt h
theorem RowAt.setN {M : Mem} {r n : Nat} {c : Cell} (h : RowAt M r) (hn : n ≠ r) : RowAt (M.set n c) r := by
  obtain ⟨ns, a, b, c, h, h1⟩ := h
  exact ⟨ns, a, b, c, by rw [getL_set_ne (Ne.symm hn)]; exact h, h1⟩
theorem row_spec {M : Mem} {ns : List Int} : (F__law_row [.frz ns] M).wp (fun v M' => v = .loc M.length ∧ RowAt M' M.length ∧ M <+: M') noE := by
  unfold F__law_row
  simp
  refine wp_for_frz (fun _ e M' => M' = M ∧ ∃ z i, e = [some (.frz ns), some (.int z), i] ∧ 0 ≤ z) ⟨rfl, _, _, rfl, by decide⟩ (fun i x e M' hx ⟨h1, z, o, h2, h3⟩ => ?_) (fun e M' ⟨h1, z, o, h2, h3⟩ => ?_)
  · subst h1 h2
    simp
    exact Int.emod_nonneg _ (by omega)
  · subst h1 h2
    simp
    exact ⟨ns, 0, 0, z, getL_append_new _ _, by omega, by omega, h3⟩
theorem taken_spec {M : Mem} {r : Nat} {k : Int} (h : RowAt M r) (hk : 0 < k) (hk2 : k < 10000) :
    (F__law_taken [.loc r, .int k] M).wp (fun v M' => ∃ i, v = .int i ∧ 0 ≤ i ∧ i < k ∧ RowAt M' r ∧ Kp r M M' ∧ M'.length = M.length) noE := by
  obtain ⟨ns, a, b, c, h, ha, hb, hc⟩ := h
  unfold F__law_taken
  by_cases hb0 : 0 < b
  · simp [h, hb0, hk, show k < 1073741824 by omega, ixN, emod_b hk, Kp.set]
    exact .mk' h ha (Int.ediv_nonneg hb (by omega)) hc
  · by_cases ha0 : a < ns.length
    · simp [h, hb0, hk, ha0, show k < 1073741824 by omega, ixN, emod_b hk, Kp.set, atI_of ha ha0, getL_set h]
      by_cases hx : (1000000000000000000 : Int) ≤ ns[a.toNat]'(by omega)
      · simp [hx, hk, show k < 1073741824 by omega, ixN, emod_b hk, Kp.set, getL_set h]
        exact .inr (RowAt.mk' h (by omega) (Int.ediv_nonneg (by omega) (by omega)) hc)
      · simp [hx, hk, show k < 1073741824 by omega, ixN, emod_b hk, Kp.set, getL_set h]
        exact ⟨by omega, RowAt.mk' h (by omega) hb hc⟩
    · simp [h, hb0, hk, ha0, show k < 1073741824 by omega, ixN, emod_b hk, Kp.set, getL_set h]
      exact .mk' h ha hb (Int.emod_nonneg _ (by omega))
/-- what is wanted behind a draw -/
theorem taken_k {M : Mem} {r : Nat} {k : Int} {Q : Val → Mem → Prop} {E : Ex → Mem → Prop} (h : RowAt M r) (hk : 0 < k) (hk2 : k < 10000)
    (hq : ∀ i M', 0 ≤ i → i < k → RowAt M' r → Kp r M M' → M'.length = M.length → Q (.int i) M') : (F__law_taken [.loc r, .int k] M).wp Q E :=
  Out.wp_imp (taken_spec h hk hk2) fun v M' ⟨i, e, h1, h2, h3, h4, h5⟩ => by subst e; exact hq i M' h1 h2 h3 h4 h5
structure Street where
  f : Int
  s : Int
  l : Int
  o : Int
def encS (t : Street) : Val := .tup [.int t.f, .int t.s, .int t.l, .int t.o]
structure StreetOk (n : Int) (t : Street) : Prop where
  f0 : 0 ≤ t.f
  f1 : t.f < n
  s0 : 0 ≤ t.s
  s1 : t.s < n
  ne : t.f ≠ t.s
  l0 : 1 ≤ t.l
  l1 : t.l ≤ 99
  o : t.o = 0 ∨ t.o = 1
def encT (n : Int) (ss : List Street) : Val := .tup [.int n, .tup (ss.map encS)]
structure TownOk (n : Int) (ss : List Street) : Prop where
  n0 : 1 ≤ n
  n1 : n ≤ 9
  len : ss.length ≤ 16
  all : ∀ t ∈ ss, StreetOk n t
theorem street_spec {M : Mem} {r : Nat} {n kind : Int} (h : RowAt M r) (hn : 2 ≤ n) (hn2 : n ≤ 9) (hk : 0 ≤ kind) (hk2 : kind ≤ 2) :
    (F__law_street [.loc r, .int n, .int kind] M).wp (fun v M' => ∃ t, v = encS t ∧ StreetOk n t ∧ (kind ≤ 1 → t.o = kind) ∧ RowAt M' r ∧ Kp r M M') noE := by
  unfold F__law_street
  simp [-wp_eIf]
  refine taken_k h (by omega) (by omega) fun f M1 f0 f1 r1 k1 l1 => ?_
  simp [-wp_eIf]
  refine taken_k r1 (by omega) (by omega) fun g M2 g0 g1 r2 k2 l2 => ?_
  simp [-wp_eIf]
  refine ⟨by omega, ?_⟩
  have hs : 0 ≤ (f + 1 + g) % n ∧ (f + 1 + g) % n < n := emod_b (by omega)
  have hne : f ≠ (f + 1 + g) % n := by
    by_cases hw : f + 1 + g < n
    · rw [Int.emod_eq_of_lt (by omega) hw]; omega
    · have e : f + 1 + g = (f + 1 + g - n) + n * 1 := by omega
      rw [e, Int.add_mul_emod_self_left, Int.emod_eq_of_lt (by omega) (by omega)]; omega
  refine Out.wp_mono (Q := fun v M3 => ∃ o, v = .int o ∧ (o = 0 ∨ o = 1) ∧ (kind ≤ 1 → o = kind) ∧ RowAt M3 r ∧ Kp r M M3) (E := noE) ?_ (fun v M3 ⟨o, ev, ho, hok, r3, k3⟩ => ?_) fun _ _ z => z.elim
  · by_cases hk3 : kind = 2
    · subst hk3
      simp
      exact taken_k r2 (by omega) (by omega) fun o M3 o0 o1 r3 k3 l3 => ⟨o, rfl, by omega, r3, k1.trans (k2.trans k3)⟩
    · simp [hk3]
      exact ⟨by omega, r2, k1.trans k2⟩
  · subst ev
    have hne3 : M3.length ≠ r := Nat.ne_of_gt r3.lt
    refine taken_k (r3.kp (List.prefix_append _ _)) (by omega) (by omega) fun i M4 i0 i1 r4 k4 l4 => ?_
    have hg : getL M4 M3.length = some [.int 3, .int 9, .int 99] := k4.getL (getL_append_new _ _) hne3
    have hw : ∃ w : Int, atI [Val.int 3, .int 9, .int 99] i = some (.int w) ∧ 3 ≤ w ∧ w ≤ 99 := by
      have : i = 0 ∨ i = 1 ∨ i = 2 := by omega
      rcases this with rfl | rfl | rfl
      · exact ⟨3, rfl, by omega, by omega⟩
      · exact ⟨9, rfl, by omega, by omega⟩
      · exact ⟨99, rfl, by omega, by omega⟩
    obtain ⟨w, hw, w0, w1⟩ := hw
    simp [hg, hw]
    refine taken_k r4 (by omega) (by omega) fun j M5 j0 j1 r5 k5 l5 => ?_
    simp
    exact ⟨⟨f, (f + 1 + g) % n, 1 + j, o⟩, rfl, ⟨f0, f1, hs.1, hs.2, hne, by show 1 ≤ 1 + j; omega, by show 1 + j ≤ 99; omega, ho⟩, hok, r5, (k3.trans (Kp.pre (List.prefix_append _ _))).trans (k4.trans k5)⟩
theorem town_spec {M : Mem} {r : Nat} {cs sn kind : Int} (h : RowAt M r) (hc : 1 ≤ cs) (hc2 : cs ≤ 9) (hs : 0 ≤ sn) (hs2 : sn ≤ 16) (hk : 0 ≤ kind) (hk2 : kind ≤ 2) :
    (F__law_town [.loc r, .int cs, .int sn, .int kind] M).wp (fun v M' => ∃ n ss, v = encT n ss ∧ TownOk n ss ∧ n ≤ cs ∧ ss.length ≤ sn ∧ (kind ≤ 1 → ∀ t ∈ ss, t.o = kind) ∧ RowAt M' r ∧ Kp r M M') noE := by
  unfold F__law_town
  simp
  refine taken_k h (by omega) (by omega) fun m M1 m0 m1 r1 k1 l1 => ?_
  by_cases hm : m = 0
  · subst hm
    simp
    exact ⟨1, [], rfl, ⟨by omega, by omega, by simp, by simp⟩, by omega, by simpa using hs, by simp, r1, k1⟩
  · simp [show ¬ (1 + m = 1) by omega]
    refine taken_k r1 (by omega) (by omega) fun j M2 j0 j1 r2 k2 l2 => ?_
    simp
    refine ⟨by omega, ?_⟩
    have hne2 : M2.length ≠ r := Nat.ne_of_gt r2.lt
    refine wp_lcG (rngL 0 j.toNat) (fun i M' => RowAt M' r ∧ Kp r M M' ∧ ∃ ss : List Street, getL M' M2.length = some (ss.map encS) ∧ ss.length = i ∧ (∀ t ∈ ss, StreetOk (1 + m) t ∧ (kind ≤ 1 → t.o = kind))) (fun i M' _ => by rw [rngL_get]; rfl) (fun i x M' hx ⟨ra, ka, ss, ga, la, pa⟩ => ?_) (fun M' ⟨ra, ka, ss, ga, la, pa⟩ => ?_) _ 0 _ (by simp [itRng]) (Nat.zero_le _) ⟨r2.kp (List.prefix_append _ _), (k1.trans k2).app _, [], by simpa using getL_append_new M2 [], rfl, by simp⟩
    · rw [rngL_get] at hx
      split at hx
      · rename_i hi
        cases hx
        refine ⟨_, rfl, ?_⟩
        simp
        refine Out.wp_imp (street_spec (n := 1 + m) ra (by omega) (by omega) hk hk2) fun v M3 ⟨t, ev, to, tk, r3, k3⟩ => ?_
        subst ev
        have g3 := k3.getL ga hne2
        refine ⟨ss.map encS, g3, by simp; omega, r3.setN hne2, ?_, ss ++ [t], by rw [getL_set g3]; simp, by simp [la], fun u hu => ?_⟩
        · exact (ka.trans k3).setN (by have := k1.len; have := k2.len; omega)
        · rcases List.mem_append.mp hu with hu | hu
          · exact pa u hu
          · have : u = t := by simpa using hu
            subst this
            exact ⟨to, tk⟩
      · cases hx
    · simp [ga]
      refine ⟨1 + m, ss, rfl, ⟨by omega, by omega, ?_, fun t ht => (pa t ht).1⟩, by omega, ?_, fun hk1 t ht => (pa t ht).2 hk1, ra, ka⟩
      · simp at la; omega
      · simp at la; omega

@[simp] theorem getL_cons0 (l : List Val) (t : Mem) : getL (.lst l :: t) 0 = some l := rfl
@[simp] theorem getL_consS (c : Cell) (t : Mem) (k : Nat) : getL (c :: t) (k + 1) = getL t k := by simp [getL]
theorem getL_appk (M t : Mem) (k : Nat) : getL (M ++ t) (M.length + k) = getL t k := by
  unfold getL; rw [List.getElem?_append_right (by omega)]; simp
theorem getL_app0 (M t : Mem) : getL (M ++ t) M.length = getL t 0 := getL_appk M t 0
@[simp] theorem getL_snoc (M : Mem) (c : Cell) : getL (M ++ [c]) M.length = getL [c] 0 := getL_app0 M [c]
/-! the arcs of a town -/
abbrev ArcK := Arc × Nat × Int
def valA (x : ArcK) : Val := .tup [.int x.1.f, .int x.1.s, .int x.1.l, .tup [.int x.2.1, .int x.2.2]]
def oneA (k : Nat) (t : Street) : List ArcK := (⟨t.f.toNat, t.s.toNat, t.l⟩, k, 0) :: if t.o = 0 then [(⟨t.s.toNat, t.f.toNat, t.l⟩, k, 1)] else []
def arcsN (ss : List Street) : Nat → List ArcK
  | 0 => []
  | i + 1 => arcsN ss i ++ (match ss[i]? with
    | some t => oneA i t
    | none => [])
def arcsK (ss : List Street) : List ArcK := arcsN ss ss.length
def arcsA (ss : List Street) : List Arc := (arcsK ss).map (·.1)
theorem oneA_len (k : Nat) (t : Street) : (oneA k t).length ≤ 2 := by unfold oneA; split <;> simp
theorem arcsN_len (ss : List Street) : ∀ i, (arcsN ss i).length ≤ 2 * i
  | 0 => Nat.le_refl _
  | i + 1 => by
    have := arcsN_len ss i
    unfold arcsN
    rw [List.length_append]
    cases ss[i]? with
    | none => simp; omega
    | some t => have := oneA_len i t; simp only; omega
theorem arcsN_mem {ss : List Street} : ∀ {i : Nat} {x : ArcK}, x ∈ arcsN ss i → ∃ k t, ss[k]? = some t ∧ x ∈ oneA k t
  | 0, _, h => by cases h
  | i + 1, x, h => by
    unfold arcsN at h
    rcases List.mem_append.mp h with h | h
    · exact arcsN_mem h
    · cases ht : ss[i]? with
      | none => rw [ht] at h; cases h
      | some t => rw [ht] at h; exact ⟨i, t, ht, h⟩
theorem arcs_ok {n : Nat} {ss : List Street} (h : TownOk n ss) : ArcsOk (arcsA ss) n := by
  have key : ∀ a ∈ arcsA ss, a.f < n ∧ a.s < n ∧ 1 ≤ a.l ∧ a.f ≠ a.s := fun a ha => by
    obtain ⟨x, hx, rfl⟩ := List.mem_map.mp ha
    obtain ⟨k, t, ht, hx⟩ := arcsN_mem hx
    have ok := h.all t (List.mem_of_getElem? ht)
    have := ok.f0; have := ok.f1; have := ok.s0; have := ok.s1; have := ok.ne; have := ok.l0
    unfold oneA at hx
    split at hx
    · rcases List.mem_cons.mp hx with e | hx
      · subst e; simp only; omega
      · have e := List.mem_singleton.mp hx
        subst e; simp only; omega
    · have e := List.mem_singleton.mp hx
      subst e; simp only; omega
  exact ⟨fun a ha => (key a ha).1, fun a ha => (key a ha).2.1, fun a ha => (key a ha).2.2.1, fun a ha => (key a ha).2.2.2⟩
@[simp] theorem truV_bl (b : Bool) (M : Mem) : truV (.bl b) M = some b := rfl
theorem need_town_k {M : Mem} {n : Int} {ss : List Street} {Q : Val → Mem → Prop} {E : Ex → Mem → Prop} (h : TownOk n ss) (hq : Q .non M) : (F_need_town [encT n ss] M).wp Q E := by
  have h0 := h.n0; have h1 := h.n1; have hl := h.len
  unfold F_need_town encT
  simp [F_is_number, tyN, isT, h0, h1]
  refine wp_for_enumT (fun _ e M' => M' = M ∧ ∃ x y, e = [some (.tup [.int n, .tup (ss.map encS)]), x, y]) ⟨rfl, _, _, rfl⟩ (fun i x e M' hx ⟨hM, a, b, he⟩ => ?_) (fun e M' ⟨hM, a, b, he⟩ => ?_)
  · subst hM he
    rw [List.getElem?_map] at hx
    cases ht : ss[i]? with
    | none => rw [ht] at hx; cases hx
    | some t =>
      rw [ht] at hx
      cases hx
      have hi : i < ss.length := (List.getElem?_eq_some_iff.mp ht).1
      have ok := h.all t (List.mem_of_getElem? ht)
      have := ok.f0; have := ok.f1; have := ok.s0; have := ok.s1; have := ok.ne; have := ok.l0; have := ok.l1
      have ho : 0 ≤ t.o ∧ t.o ≤ 1 := by have := ok.o; omega
      simp [F_is_street, F_is_number, encS, tyN, isT, ok.f0, ok.s0, ok.ne, ok.l0, ok.l1, ho, show ¬ ((i : Int) = 16) by omega, show t.f ≤ n - 1 by omega, show t.s ≤ n - 1 by omega]
  · subst hM he
    exact hq

/-! numbers as texts -/
def numI (i : Int) : Str := ((toString i : String) : Str)
def numZ (n : Nat) : Str := numI (n : Int)
structure NumOk (z : Str) (n : Int) : Prop where
  int : PySem.intText? z = some n
  lo : 1 ≤ z.cps.toList.length
  hi : z.cps.toList.length ≤ 2
  dig : ∀ c ∈ z.cps.toList, 48 ≤ c ∧ c ≤ 57
  zero : z.cps.toList.head? = some 48 → z.cps.toList = [48]
def numOkB (n : Nat) : Bool := decide (PySem.intText? (numZ n) = some (n : Int)) && (decide (1 ≤ (numZ n).cps.toList.length) && (decide ((numZ n).cps.toList.length ≤ 2) && (((numZ n).cps.toList.all fun c => decide (48 ≤ c) && decide (c ≤ 57)) && (!decide ((numZ n).cps.toList.head? = some 48) || decide ((numZ n).cps.toList = [48])))))
theorem numOk_all : (List.range 100).all numOkB = true := by decide +kernel
theorem numOk {n : Nat} (h : n < 100) : NumOk (numZ n) n := by
  have := List.all_eq_true.mp numOk_all n (List.mem_range.mpr h)
  unfold numOkB at this
  simp only [Bool.and_eq_true, decide_eq_true_eq, Bool.or_eq_true, Bool.not_eq_true', decide_eq_false_iff_not, List.all_eq_true] at this
  obtain ⟨h1, h2, h3, h4, h5⟩ := this
  exact ⟨h1, h2, h3, h4, fun e => h5.resolve_left fun z => z e⟩
def figs : List Nat := [48, 49, 50, 51, 52, 53, 54, 55, 56, 57]
theorem figs_eq : (Str.ofString "0123456789").cps.toList = figs := by decide +kernel
theorem in_sign (c : Nat) (z : Str) (M : Mem) : inD (.str ⟨#[c]⟩) (.str z) M = some (decide (c ∈ z.cps.toList)) := by
  show some (!(Builtin.Str.occurrences z ⟨#[c]⟩ 0 z.length 1).isEmpty) = _
  rw [PySem.StrLaws.found_one]
theorem mem_figs {c : Nat} (h : 48 ≤ c ∧ c ≤ 57) : c ∈ figs := by
  have : c = 48 ∨ c = 49 ∨ c = 50 ∨ c = 51 ∨ c = 52 ∨ c = 53 ∨ c = 54 ∨ c = 55 ∨ c = 56 ∨ c = 57 := by omega
  rcases this with e | e | e | e | e | e | e | e | e | e <;> subst e <;> decide
def boolL (l : List Bool) : List Val := l.map .bl
theorem boolsOf_map : ∀ l : List Bool, boolsOf (l.map Val.bl) = some l
  | [] => rfl
  | b :: l => by
    have := boolsOf_map l
    simp [boolsOf] at this ⊢
    exact this
theorem len_z (z : Str) : z.length = z.cps.toList.length := by simp [Str.length]
@[simp] theorem owp_len_s {Qv : Val → Mem → Prop} {E : Ex → Mem → Prop} {M : Mem} (z : Str) : owp (lenV [.str z] M) Qv E = (z.length ≤ sizeLine ∧ Qv (.int z.length) M) := by
  rw [owp_eq]
  unfold lenV
  split <;> simp_all [wp_ite]
@[simp] theorem owp_ix_s {Qv : Val → Mem → Prop} {E : Ex → Mem → Prop} {M : Mem} (z : Str) (i : Int) : owp (ixV (.str z) (.int i) M) Qv E = (z.length ≤ sizeLine ∧ ∃ c, atI z.cps.toList i = some c ∧ Qv (.str ⟨#[c]⟩) M) := by
  rw [owp_eq]
  show (if z.length ≤ sizeLine then (match atI z.cps.toList i with
    | some c => Out.ok (Val.str ⟨#[c]⟩) M
    | none => .bad) else .bad).wp Qv E = _
  rw [wp_ite]
  cases atI z.cps.toList i <;> simp
@[simp] theorem owp_str_i {Qv : Val → Mem → Prop} {E : Ex → Mem → Prop} {M : Mem} (i : Int) : owp (strV [.int i] M) Qv E = (i.natAbs.log2 < 1920 ∧ Qv (.str (numI i)) M) := by
  rw [owp_eq]; unfold strV; simp only [wp_ite, wp_ok]; rfl
@[simp] theorem owp_int_s {Qv : Val → Mem → Prop} {E : Ex → Mem → Prop} {M : Mem} (z : Str) : owp (intSV [.str z] M) Qv E = (∃ n, PySem.intText? z = some n ∧ z.length ≤ 640 ∧ Qv (.int n) M) := by
  rw [owp_eq]
  unfold intSV
  dsimp only
  cases PySem.intText? z <;> simp [wp_ite]
@[simp] theorem owp_join {Qv : Val → Mem → Prop} {E : Ex → Mem → Prop} {M : Mem} (a : Str) (n : Nat) : owp (joinV (.str a) [.loc n] M) Qv E = (∃ ys, (getL M n).bind strsOf = some ys ∧ (ys.map (·.length)).sum + ys.length * a.length ≤ 16777216 ∧ Qv (.str (Txt.join a ys)) M) := by
  rw [owp_eq]
  unfold joinV
  dsimp only
  generalize (getL M n).bind strsOf = o
  cases o <;> simp [wp_ite]
@[simp] theorem owp_split {Qv : Val → Mem → Prop} {E : Ex → Mem → Prop} {M : Mem} (a b : Str) : owp (splitV (.str a) [.str b] M) Qv E = (((b.length == 0) = false ∧ a.length + 2 ≤ sizeLine) ∧ Qv (.loc M.length) (M ++ [Cell.lst ((Txt.split a b).map Val.str)])) := by
  rw [owp_eq]; unfold splitV; simp only [wp_ite, wp_ok]
@[simp] theorem owp_eSgIx {Qv : Val → Mem → Prop} {E : Ex → Mem → Prop} {M : Mem} {e : Sl} (ys : List Str) (f : EF) : owp (eSgIx ys f e M) Qv E = owp (f e M) (fun x M1 => ∃ z j, x = .str z ∧ posOf ys z = some j ∧ Qv (.int (j : Nat)) M1) E := by
  simp only [owp_eq]
  unfold eSgIx
  rw [wp_bind]
  congr 1
  funext x M1
  cases x with
  | str z => cases h : posOf ys z <;> simp [h]
  | _ => simp
@[simp] theorem isTyM_s {M : Mem} (z : Str) : isTyM "str" (.str z) M = true := by simp [isTyM]
theorem strsOf_map : ∀ ys : List Str, strsOf (ys.map Val.str) = some ys
  | [] => rfl
  | y :: ys => by rw [List.map_cons, strsOf, strsOf_map ys]; rfl

/-! split undoes join -/
theorem cut_inj {c : Nat} : ∀ {a b x y : List Nat}, c ∉ a → c ∉ b → a ++ c :: x = b ++ c :: y → a = b ∧ x = y
  | [], [], x, y, _, _, e => by simpa using e
  | [], b0 :: b, x, y, _, hb, e => by
    simp at e
    exact absurd e.1 (fun z => hb (by rw [← z]; simp))
  | a0 :: a, [], x, y, ha, _, e => by
    simp at e
    exact absurd e.1 (fun z => ha (by rw [z]; simp))
  | a0 :: a, b0 :: b, x, y, ha, hb, e => by
    simp at e
    obtain ⟨e0, e1⟩ := e
    obtain ⟨h1, h2⟩ := cut_inj (fun z => ha (List.mem_cons_of_mem _ z)) (fun z => hb (List.mem_cons_of_mem _ z)) e1
    exact ⟨by rw [e0, h1], h2⟩
theorem str_ext {a b : Str} (h : a.cps.toList = b.cps.toList) : a = b := by
  cases a; cases b
  congr 1
  exact Array.toList_inj.mp h
theorem str_app (a b : Str) : (a ++ b).cps.toList = a.cps.toList ++ b.cps.toList := by
  show (a.cps ++ b.cps).toList = _
  simp
theorem join_inj {c : Nat} : ∀ {l m : List Str}, l ≠ [] → m ≠ [] → (∀ p ∈ l, c ∉ p.cps.toList) → (∀ p ∈ m, c ∉ p.cps.toList) → Str.join ⟨#[c]⟩ l = Str.join ⟨#[c]⟩ m → l = m
  | [], _, h, _, _, _, _ => absurd rfl h
  | _ :: _, [], _, h, _, _, _ => absurd rfl h
  | [a], [b], _, _, _, _, e => by rw [show a = b from e]
  | [a], b :: b2 :: r, _, _, ha, _, e => by
    have e' : a = b ++ ⟨#[c]⟩ ++ Str.join ⟨#[c]⟩ (b2 :: r) := e
    refine absurd ?_ (ha a (by simp))
    rw [e', str_app, str_app]
    simp
  | a :: a2 :: r, [b], _, _, _, hb, e => by
    have e' : a ++ ⟨#[c]⟩ ++ Str.join ⟨#[c]⟩ (a2 :: r) = b := e
    refine absurd ?_ (hb b (by simp))
    rw [← e', str_app, str_app]
    simp
  | a :: a2 :: r, b :: b2 :: q, _, _, ha, hb, e => by
    have e' : a ++ ⟨#[c]⟩ ++ Str.join ⟨#[c]⟩ (a2 :: r) = b ++ ⟨#[c]⟩ ++ Str.join ⟨#[c]⟩ (b2 :: q) := e
    have e2 := congrArg (fun z : Str => z.cps.toList) e'
    simp only [str_app, List.append_assoc] at e2
    obtain ⟨h1, h2⟩ := cut_inj (ha a (by simp)) (hb b (by simp)) (by simpa using e2)
    rw [str_ext h1, join_inj (by simp) (by simp) (fun p hp => ha p (List.mem_cons_of_mem _ hp)) (fun p hp => hb p (List.mem_cons_of_mem _ hp)) (str_ext h2)]
theorem join_eq (a : Str) (l : List Str) : Txt.join a l = Str.join a l := PySem.StrLaws.glued_eq_join a l
theorem split_ne (x : Str) (c : Nat) : Txt.split x ⟨#[c]⟩ ≠ [] := by
  unfold Txt.split
  split
  · simp
  · split
    · simp
    · rw [PySem.StrLaws.partsBetween_eq]
      obtain ⟨p, r, e⟩ := PySem.StrLaws.partsFrom_ne x (⟨#[c]⟩ : Str).length 0 (Builtin.Str.occurrences x ⟨#[c]⟩ 0 x.length (x.length + 1))
      rw [e]; simp
theorem split_join {c : Nat} {l : List Str} (hne : l ≠ []) (hf : ∀ p ∈ l, c ∉ p.cps.toList) : Txt.split (Txt.join ⟨#[c]⟩ l) ⟨#[c]⟩ = l := by
  refine join_inj (split_ne _ c) hne (PySem.StrLaws.split_free _ c) hf ?_
  rw [PySem.StrLaws.join_split, join_eq]
theorem join_len (c : Nat) : ∀ l : List Str, (Str.join ⟨#[c]⟩ l).length ≤ (l.map (·.length)).sum + l.length
  | [] => Nat.zero_le _
  | [x] => by show x.length ≤ _; simp
  | x :: y :: r => by
    have ih := join_len c (y :: r)
    show (x ++ ⟨#[c]⟩ ++ Str.join ⟨#[c]⟩ (y :: r)).length ≤ _
    have : (x ++ ⟨#[c]⟩ ++ Str.join ⟨#[c]⟩ (y :: r)).length = x.length + 1 + (Str.join ⟨#[c]⟩ (y :: r)).length := by
      rw [len_z, len_z, len_z, str_app, str_app]; simp; omega
    rw [this]
    simp only [List.map_cons, List.sum_cons, List.length_cons] at ih ⊢
    omega
theorem blank_eq : (Str.ofString " ") = ⟨#[32]⟩ := by decide +kernel
theorem line_eq : (Str.ofString "\n") = ⟨#[10]⟩ := by decide +kernel
def signZ (o : Int) : Str := if o = 0 then Str.ofString "=" else Str.ofString ">"
def wordsZ (t : Street) : List Str := [numI t.f, signZ t.o, numI t.s, numI t.l]
def rowZ (t : Street) : Str := Str.join ⟨#[32]⟩ (wordsZ t)
def headW (n : Int) : List Str := [Str.ofString "town", numI n]
def headZ (n : Int) : Str := Str.join ⟨#[32]⟩ (headW n)
def rowsZ (n : Int) (ss : List Street) : List Str := headZ n :: ss.map rowZ
def textZ (n : Int) (ss : List Street) : Str := Str.join ⟨#[10]⟩ (rowsZ n ss)
theorem numI_ok {i : Int} (h0 : 0 ≤ i) (h : i < 100) : NumOk (numI i) i := by
  obtain ⟨n, rfl⟩ := Int.eq_ofNat_of_zero_le h0
  exact numOk (by omega)
theorem NumOk.free {z : Str} {i : Int} (h : NumOk z i) {c : Nat} (hc : c < 48) : c ∉ z.cps.toList := fun hm => by have := h.dig c hm; omega
theorem sign_free {o : Int} {c : Nat} (hc : c < 48) : c ∉ (signZ o).cps.toList := by
  have e1 : (Str.ofString "=").cps.toList = [61] := by decide +kernel
  have e2 : (Str.ofString ">").cps.toList = [62] := by decide +kernel
  unfold signZ
  split
  · rw [e1]; simp; omega
  · rw [e2]; simp; omega
theorem town_free {c : Nat} (hc : c < 48) : c ∉ (Str.ofString "town").cps.toList := by
  have e1 : (Str.ofString "town").cps.toList = [116, 111, 119, 110] := by decide +kernel
  rw [e1]; simp; omega
structure StreetZ (t : Street) : Prop where
  f : 0 ≤ t.f ∧ t.f < 100
  s : 0 ≤ t.s ∧ t.s < 100
  l : 0 ≤ t.l ∧ t.l < 100
theorem StreetOk.z {n : Int} {t : Street} (hn : n ≤ 9) (h : StreetOk n t) : StreetZ t := ⟨⟨h.f0, by have := h.f1; omega⟩, ⟨h.s0, by have := h.s1; omega⟩, by have := h.l0; omega, by have := h.l1; omega⟩
theorem words_free {t : Street} (h : StreetZ t) {c : Nat} (hc : c < 48) : ∀ p ∈ wordsZ t, c ∉ p.cps.toList := by
  intro p hp
  simp only [wordsZ, List.mem_cons, List.not_mem_nil, or_false] at hp
  rcases hp with e | e | e | e <;> subst e
  · exact (numI_ok h.f.1 h.f.2).free hc
  · exact sign_free hc
  · exact (numI_ok h.s.1 h.s.2).free hc
  · exact (numI_ok h.l.1 h.l.2).free hc
theorem headW_free {n : Int} (h0 : 0 ≤ n) (h : n < 100) {c : Nat} (hc : c < 48) : ∀ p ∈ headW n, c ∉ p.cps.toList := by
  intro p hp
  simp only [headW, List.mem_cons, List.not_mem_nil, or_false] at hp
  rcases hp with e | e <;> subst e
  · exact town_free hc
  · exact (numI_ok h0 h).free hc
theorem join_free {c d : Nat} (hcd : c ≠ d) : ∀ {l : List Str}, (∀ p ∈ l, c ∉ p.cps.toList) → c ∉ (Str.join ⟨#[d]⟩ l).cps.toList
  | [], _ => by simp [Str.join, Str.empty]
  | [x], h => h x (by simp)
  | x :: y :: r, h => by
    show c ∉ (x ++ ⟨#[d]⟩ ++ Str.join ⟨#[d]⟩ (y :: r)).cps.toList
    rw [str_app, str_app]
    have h1 := h x (by simp)
    have h2 := join_free hcd (fun p hp => h p (List.mem_cons_of_mem _ hp) : ∀ p ∈ y :: r, c ∉ p.cps.toList)
    simp only [List.mem_append, List.mem_singleton, not_or]
    exact ⟨⟨h1, hcd⟩, h2⟩
theorem NumOk.len {z : Str} {i : Int} (h : NumOk z i) : z.length ≤ 2 := by rw [len_z]; exact h.hi
theorem rowZ_len {t : Street} (h : StreetZ t) : (rowZ t).length ≤ 20 := by
  have := join_len 32 (wordsZ t)
  have h1 := (numI_ok h.f.1 h.f.2).len
  have h2 := (numI_ok h.s.1 h.s.2).len
  have h3 := (numI_ok h.l.1 h.l.2).len
  have h4 : (signZ t.o).length ≤ 1 := by
    have e1 : (Str.ofString "=").length = 1 := by decide +kernel
    have e2 : (Str.ofString ">").length = 1 := by decide +kernel
    unfold signZ; split <;> omega
  simp [wordsZ] at this
  unfold rowZ
  simp [wordsZ]
  omega
theorem headZ_len {n : Int} (h0 : 0 ≤ n) (h : n < 100) : (headZ n).length ≤ 20 := by
  have := join_len 32 (headW n)
  have h1 := (numI_ok h0 h).len
  have h4 : (Str.ofString "town").length = 4 := by decide +kernel
  simp [headW] at this
  unfold headZ
  simp [headW]
  omega
theorem rowsZ_len {n : Int} {ss : List Street} (h0 : 0 ≤ n) (h : n < 100) (hz : ∀ t ∈ ss, StreetZ t) : ∀ p ∈ rowsZ n ss, p.length ≤ 20 := by
  intro p hp
  rcases List.mem_cons.mp hp with e | hp
  · subst e; exact headZ_len h0 h
  · obtain ⟨t, ht, rfl⟩ := List.mem_map.mp hp
    exact rowZ_len (hz t ht)
theorem sum_le {l : List Nat} {b : Nat} (h : ∀ x ∈ l, x ≤ b) : l.sum ≤ l.length * b := by
  induction l with
  | nil => simp
  | cons x l ih =>
    have h1 := h x (by simp)
    have h2 := ih fun y hy => h y (by simp [hy])
    rw [List.sum_cons, List.length_cons, Nat.succ_mul]
    omega
theorem rowsZ_sum {n : Int} {ss : List Street} (h0 : 0 ≤ n) (h : n < 100) (hz : ∀ t ∈ ss, StreetZ t) (hl : ss.length ≤ 100) : ((rowsZ n ss).map (·.length)).sum ≤ 2020 := by
  have := sum_le (l := (rowsZ n ss).map (·.length)) (b := 20) (fun x hx => by
    obtain ⟨p, hp, rfl⟩ := List.mem_map.mp hx
    exact rowsZ_len h0 h hz p hp)
  have e : ((rowsZ n ss).map (·.length)).length = ss.length + 1 := by simp [rowsZ]
  rw [e] at this
  omega
theorem rowsZ_free {n : Int} {ss : List Street} (h0 : 0 ≤ n) (h : n < 100) (hz : ∀ t ∈ ss, StreetZ t) : ∀ p ∈ rowsZ n ss, 10 ∉ p.cps.toList := by
  intro p hp
  rcases List.mem_cons.mp hp with e | hp
  · subst e; exact join_free (by decide) (headW_free h0 h (by decide))
  · obtain ⟨t, ht, rfl⟩ := List.mem_map.mp hp
    exact join_free (by decide) (words_free (hz t ht) (by decide))
theorem text_split {n : Int} {ss : List Street} (h0 : 0 ≤ n) (h : n < 100) (hz : ∀ t ∈ ss, StreetZ t) : Txt.split (textZ n ss) (Str.ofString "\n") = rowsZ n ss := by
  rw [line_eq]
  have := split_join (c := 10) (l := rowsZ n ss) (by simp [rowsZ]) (rowsZ_free h0 h hz)
  rwa [join_eq] at this
theorem row_split {t : Street} (h : StreetZ t) : Txt.split (rowZ t) (Str.ofString " ") = wordsZ t := by
  rw [blank_eq]
  have := split_join (c := 32) (l := wordsZ t) (by simp [wordsZ]) (words_free h (by decide))
  rwa [join_eq] at this
theorem head_split {n : Int} (h0 : 0 ≤ n) (h : n < 100) : Txt.split (headZ n) (Str.ofString " ") = headW n := by
  rw [blank_eq]
  have := split_join (c := 32) (l := headW n) (by simp [headW]) (headW_free h0 h (by decide))
  rwa [join_eq] at this

/-! numbers in texts, good or not -/
theorem str_of1 {z : Str} {c : Nat} (h : z.cps.toList = [c]) : z = ⟨#[c]⟩ := by
  cases z with
  | mk cps =>
    congr 1
    exact Array.toList_inj.mp h
theorem str_of2 {z : Str} {c d : Nat} (h : z.cps.toList = [c, d]) : z = ⟨#[c, d]⟩ := by
  cases z with
  | mk cps =>
    congr 1
    exact Array.toList_inj.mp h
def digB (z : Str) : Bool := z.cps.toList.all fun c => decide (c ∈ figs)
def hc (z : Str) : Nat := z.cps.toList.headD 0
def zeroB (z : Str) : Bool := decide ((⟨#[hc z]⟩ : Str) = Str.ofString "0") && !decide (z = Str.ofString "0")
def numG (z : Str) : Bool := decide (1 ≤ z.length ∧ z.length ≤ 2) && (digB z && !zeroB z)
def numW (z : Str) : Int := (PySem.intText? z).getD 0
theorem int1 : figs.all (fun c => (PySem.intText? ⟨#[c]⟩).isSome) = true := by decide +kernel
theorem int2 : figs.all (fun c => figs.all fun d => (PySem.intText? ⟨#[c, d]⟩).isSome) = true := by decide +kernel
theorem int_good {z : Str} (h1 : 1 ≤ z.length ∧ z.length ≤ 2) (h2 : digB z = true) : PySem.intText? z = some (numW z) := by
  have hl := len_z z
  have key : (PySem.intText? z).isSome = true := by
    unfold digB at h2
    match hz : z.cps.toList with
    | [] => rw [hz] at hl; simp at hl; omega
    | [c] =>
      rw [hz] at h2
      simp at h2
      rw [str_of1 hz]
      exact List.all_eq_true.mp int1 c h2
    | [c, d] =>
      rw [hz] at h2
      simp at h2
      rw [str_of2 hz]
      exact List.all_eq_true.mp (List.all_eq_true.mp int2 c h2.1) d h2.2
    | _ :: _ :: _ :: _ => rw [hz] at hl; simp at hl; omega
  obtain ⟨n, e⟩ := Option.isSome_iff_exists.mp key
  unfold numW
  rw [e]
  rfl
theorem numG_int {z : Str} (h : numG z = true) : PySem.intText? z = some (numW z) := by
  unfold numG at h
  simp only [Bool.and_eq_true, decide_eq_true_eq] at h
  exact int_good h.1 h.2.1
theorem any_dig (z : Str) : ((z.cps.toList.map fun c => !decide (c ∈ figs)).any id) = !digB z := by
  unfold digB
  induction z.cps.toList with
  | nil => rfl
  | cons c l ih => rw [List.map_cons, List.any_cons, List.all_cons, ih]; simp
theorem head_at {z : Str} (h : 1 ≤ z.length) : atI z.cps.toList 0 = some (hc z) := by
  unfold hc
  have hl := len_z z
  match hz : z.cps.toList with
  | [] => rw [hz] at hl; simp at hl; omega
  | c :: l => exact atI_nat (j := 0) rfl
theorem dig_mem {c : Nat} {M : Mem} : inD (.str ⟨#[c]⟩) (.str (Str.ofString "0123456789")) M = some (decide (c ∈ figs)) := by
  rw [in_sign, figs_eq]
theorem z_sq {z : Str} (hz : z.length ≤ 1000000) : (z.cps.toList.map fun c => Val.str ⟨#[c]⟩).length ≤ sizeLine := by
  have hl := len_z z
  rw [List.length_map]
  show _ ≤ 16777216
  omega
/-- whether a word's signs are figures, as the program asks -/
theorem number_of_spec {M : Mem} {z : Str} {row : Int} (hz : z.length ≤ 1000000) (h0 : 0 ≤ row) (h1 : row ≤ 1000) : Xq (F_number_of [.str z, .int row] M) (fun v M' => numG z = true ∧ v = .int (numW z) ∧ M <+: M') (fun ex M' => numG z = false ∧ ex = ⟨"BadText", [("row", row)]⟩ ∧ M <+: M') := by
  have hl := len_z z
  have sm : smI row = true := by simp [smI]; omega
  constructor
  unfold F_number_of
  simp [-t_number_of_0_ap]
  refine ⟨by omega, ?_⟩
  by_cases c1 : 1 ≤ z.length
  · by_cases c2 : z.length ≤ 2
    · have c3 : (1 : Int) ≤ z.length := by omega
      have c4 : (z.length : Int) ≤ 2 := by omega
      simp [c3, c4, -t_number_of_0_ap]
      refine o_lc_fun (z.cps.toList.map fun c => Val.str ⟨#[c]⟩) (fun _ => true) (fun v => match v with
        | .str w => .bl (!decide (w.cps.toList.headD 0 ∈ figs))
        | _ => .non) (b := z.cps.size) (by simp) (z_sq hz) (fun i M _ => ?_) (fun i x M1 hx hp => ?_) (fun M1 hp hg => ?_)
      · show some (z.cps[i]?.map fun c => Val.str ⟨#[c]⟩) = _
        rw [List.getElem?_map]; simp
      · rw [List.getElem?_map] at hx
        cases hc : z.cps.toList[i]? with
        | none => rw [hc] at hx; cases hx
        | some c =>
          rw [hc] at hx
          cases hx
          refine ⟨_, rfl, ?_⟩
          simp [dig_mem]
      · have hg' : getL M1 M.length = some ((z.cps.toList.map fun c => !decide (c ∈ figs)).map Val.bl) := by
          rw [hg, List.filter_eq_self.mpr (fun _ _ => rfl), List.map_map, List.map_map]; rfl
        have hany := any_dig z
        generalize (z.cps.toList.map fun c => !decide (c ∈ figs)) = bs at hg' hany
        have hmem : true ∈ bs ↔ ¬ digB z = true := by
          have h3 := hany
          rw [Bool.eq_iff_iff] at h3
          simpa using h3
        by_cases hd : digB z = true
        · have hint := int_good ⟨c1, c2⟩ hd
          have hat := head_at c1
          have hl16 : z.length ≤ 16777216 := by omega
          have hl6 : z.length ≤ 640 := by omega
          have g0 : numG z = !zeroB z := by unfold numG; simp [hd, c1, c2]
          by_cases hz0 : (⟨#[hc z]⟩ : Str) = Str.ofString "0"
          · by_cases hz1 : z = Str.ofString "0"
            · have g1 : numG z = true := by rw [g0]; unfold zeroB; simp [hz1]
              simp [hg', boolsOf_map, hmem, hd, hat, hint, hz0, g1, hl16, hl6, -List.map_map]
              exact ⟨hz1, hp⟩
            · have g1 : numG z = false := by rw [g0]; unfold zeroB; simp [hz0, hz1]
              simp [hg', boolsOf_map, hmem, hd, hat, hint, hz0, hz1, g1, hl16, -List.map_map]
              exact ⟨[row], rfl, rfl, by simp [sm], rfl, hp⟩
          · have g1 : numG z = true := by rw [g0]; unfold zeroB; simp [hz0]
            simp [hg', boolsOf_map, hmem, hd, hat, hint, hz0, g1, hl16, hl6, -List.map_map]
            exact hp
        · have g1 : numG z = false := by unfold numG; simp [hd]
          simp [hg', boolsOf_map, hmem, hd, g1, -t_number_of_0_ap, -List.map_map]
          exact ⟨[row], rfl, rfl, by simp [sm], rfl, hp⟩
    · have g1 : numG z = false := by unfold numG; simp [c2]
      have c4 : ¬ (z.length : Int) ≤ 2 := by omega
      have c3 : (1 : Int) ≤ z.length := by omega
      simp [c3, c4, g1, -t_number_of_0_ap]
      exact ⟨[row], rfl, rfl, by simp [sm], rfl⟩
  · have g1 : numG z = false := by unfold numG; simp [c1]
    have c3 : ¬ (1 : Int) ≤ z.length := by omega
    simp [c3, g1, -t_number_of_0_ap]
    exact ⟨[row], rfl, rfl, by simp [sm], rfl⟩

/-! plain data: values without places -/
mutual
def dV : Val → PyData
  | .non => .none
  | .bl b => .bool b
  | .int i => .int i
  | .str s => .str s
  | .tup l => .tuple (dVs l)
  | .frz _ => .none
  | .loc _ => .none
  | .exc _ _ => .none
def dVs : List Val → List PyData
  | [] => []
  | x :: l => dV x :: dVs l
end
mutual
/-- plain, at most k deep; b: truths too -/
def pln (b : Bool) : Nat → Val → Bool
  | _, .non => true
  | _, .bl _ => b
  | _, .int _ => true
  | _, .str s => PyData.strOk s
  | 0, .tup _ => false
  | k + 1, .tup l => plns b k l
  | _, .frz _ => false
  | _, .loc _ => false
  | _, .exc _ _ => false
def plns (b : Bool) : Nat → List Val → Bool
  | _, [] => true
  | k, x :: l => pln b k x && plns b k l
end
theorem dVs_map : ∀ l : List Val, dVs l = l.map dV
  | [] => rfl
  | x :: l => by rw [dVs, dVs_map l]; rfl
theorem plns_all {b : Bool} {k : Nat} : ∀ {l : List Val}, plns b k l = true ↔ ∀ x ∈ l, pln b k x = true
  | [] => by simp [plns]
  | x :: l => by simp [plns, plns_all (l := l)]
theorem toD_plns {M : Mem} {b : Bool} {k : Nat} (ih : ∀ v, pln b k v = true → toD M (k + 1) v = some (dV v)) : ∀ (l : List Val), plns b k l = true → l.mapM (toD M (k + 1)) = some (dVs l)
  | [], _ => rfl
  | x :: l, h => by
    simp only [plns, Bool.and_eq_true] at h
    rw [List.mapM_cons, ih x h.1, toD_plns ih l h.2]; rfl
theorem toD_pln {M : Mem} {b : Bool} : ∀ (k : Nat) (v : Val), pln b k v = true → toD M (k + 1) v = some (dV v)
  | 0, v, h => by cases v <;> first | rfl | simp [pln] at h
  | k + 1, v, h => by
    cases v with
    | tup l =>
      have h : plns b k l = true := by simpa [pln] using h
      show (l.mapM (toD M (k + 1))).map PyData.tuple = _
      rw [toD_plns (toD_pln k) l h]; rfl
    | non => rfl
    | bl _ => rfl
    | int _ => rfl
    | str _ => rfl
    | frz _ => simp [pln] at h
    | loc _ => simp [pln] at h
    | exc _ _ => simp [pln] at h
theorem toD_plnM {M : Mem} {b : Bool} {k : Nat} {l : List Val} (h : plns b k l = true) : l.mapM (toD M (k + 1)) = some (dVs l) := toD_plns (toD_pln k) l h
theorem pln_le {b : Bool} : ∀ {k m : Nat} {v : Val}, k ≤ m → pln b k v = true → pln b m v = true
  | _, _, .non, _, _ => by simp [pln]
  | _, _, .bl _, _, h => by simpa [pln] using h
  | _, _, .int _, _, _ => by simp [pln]
  | _, _, .str _, _, h => by simpa [pln] using h
  | 0, _, .tup _, _, h => by simp [pln] at h
  | k + 1, 0, .tup _, hl, h => absurd hl (by omega)
  | k + 1, m + 1, .tup l, hl, h => by
    simp only [pln] at h ⊢
    rw [plns_all] at h ⊢
    exact fun x hx => pln_le (by omega) (h x hx)
  | _, _, .frz _, _, h => by simp [pln] at h
  | _, _, .loc _, _, h => by simp [pln] at h
  | _, _, .exc _ _, _, h => by simp [pln] at h
theorem lay_plns {b : Bool} {k : Nat} (ih : ∀ v, pln b k v = true → (dV v).canLay0 = true ∧ (dV v).depth ≤ k) : ∀ l, plns b k l = true → PyData.canLayAll0 (dVs l) = true ∧ PyData.depthAll (dVs l) ≤ k
  | [], _ => ⟨rfl, Nat.zero_le _⟩
  | x :: l, h => by
    simp only [plns, Bool.and_eq_true] at h
    obtain ⟨h1, h2⟩ := ih x h.1
    obtain ⟨h3, h4⟩ := lay_plns ih l h.2
    refine ⟨by simp [dVs, PyData.canLayAll0, h1, h3], ?_⟩
    simp only [dVs, PyData.depthAll]
    omega
theorem lay_pln {b : Bool} : ∀ (k : Nat) (v : Val), pln b k v = true → (dV v).canLay0 = true ∧ (dV v).depth ≤ k
  | k, .non, _ => ⟨rfl, Nat.zero_le _⟩
  | k, .bl _, _ => ⟨rfl, Nat.zero_le _⟩
  | k, .int _, _ => ⟨rfl, Nat.zero_le _⟩
  | k, .str s, h => ⟨by simpa [pln, dV, PyData.canLay0] using h, Nat.zero_le _⟩
  | 0, .tup _, h => by simp [pln] at h
  | k + 1, .tup l, h => by
    have h : plns b k l = true := by simpa [pln] using h
    obtain ⟨h1, h2⟩ := lay_plns (fun v => lay_pln k v) l h
    refine ⟨by simpa [dV, PyData.canLay0] using h1, ?_⟩
    simp only [dV, PyData.depth]
    omega
  | _, .frz _, h => by simp [pln] at h
  | _, .loc _, h => by simp [pln] at h
  | _, .exc _ _, h => by simp [pln] at h
theorem shaped_pln {b : Bool} {k : Nat} {v : Val} (hk : k ≤ 8) (h : pln b k v = true) : SeqAt.shaped (dV v) = true := by
  obtain ⟨h1, h2⟩ := lay_pln k v h
  show ((dV v).canLay0 && decide ((dV v).depth ≤ 64)) = true
  rw [h1]; simp; omega
theorem shaped_plns {b : Bool} {k : Nat} {l : List Val} (hk : k ≤ 8) (h : plns b k l = true) : SeqAt.shaped (.list (dVs l)) = true := by
  obtain ⟨h1, h2⟩ := lay_plns (fun v => lay_pln k v) l h
  show (PyData.canLayAll0 (dVs l) && decide (PyData.depthAll (dVs l) + 1 ≤ 64)) = true
  rw [h1]; simp; omega
theorem eqv_plns {k : Nat} (ih : ∀ v u, pln false k v = true → pln false k u = true → (PyData.eqv (dV v) (dV u) = true ↔ v = u)) : ∀ l m, plns false k l = true → plns false k m = true → (PyData.eqvAll (dVs l) (dVs m) = true ↔ l = m)
  | [], [], _, _ => by simp [dVs, PyData.eqvAll]
  | [], _ :: _, _, _ => by simp [dVs, PyData.eqvAll]
  | _ :: _, [], _, _ => by simp [dVs, PyData.eqvAll]
  | x :: l, y :: m, h, h' => by
    simp only [plns, Bool.and_eq_true] at h h'
    simp only [dVs, PyData.eqvAll, Bool.and_eq_true]
    rw [ih x y h.1 h'.1, eqv_plns ih l m h.2 h'.2]
    simp
theorem eqv_pln : ∀ (k : Nat) (v u : Val), pln false k v = true → pln false k u = true → (PyData.eqv (dV v) (dV u) = true ↔ v = u)
  | 0, v, u, h, h' => by cases v <;> cases u <;> first | (simp [pln] at h; done) | (simp [pln] at h'; done) | (simp [dV, PyData.eqv])
  | k + 1, v, u, h, h' => by
    cases v <;> cases u <;> first | (simp [pln] at h; done) | (simp [pln] at h'; done) | (simp [dV, PyData.eqv]; done) | skip
    rename_i l m
    simp only [pln] at h h'
    simp only [dV, PyData.eqv]
    rw [eqv_plns (fun v u => eqv_pln k v u) l m h h']
    simp
/-- == of plain values -/
theorem eqD_pln {M : Mem} {v u : Val} (hv : pln false 7 v = true) (hu : pln false 7 u = true) : ∃ b, eqD v u M = some b ∧ (b = true ↔ v = u) := by
  have key : (match toD M 8 v, toD M 8 u with
    | some d, some e => if SeqAt.shaped d && SeqAt.shaped e then some (PyData.eqv d e) else none
    | _, _ => none) = some (PyData.eqv (dV v) (dV u)) := by
    rw [toD_pln 7 v hv, toD_pln 7 u hu]
    simp only
    rw [shaped_pln (by omega) hv, shaped_pln (by omega) hu]; rfl
  unfold eqD
  split
  · exact ⟨_, rfl, by simp⟩
  · exact ⟨_, rfl, by simp⟩
  · exact ⟨_, rfl, by simp⟩
  · exact ⟨_, key, eqv_pln 7 v u hv hu⟩
/-- .. of lists of such -/
theorem eqD_plns {M : Mem} {a b : Nat} {l m : List Val} (h : getL M a = some l) (h' : getL M b = some m) (hl : plns false 6 l = true) (hm : plns false 6 m = true) : ∃ c, eqD (.loc a) (.loc b) M = some c ∧ (c = true ↔ l = m) := by
  have e : ∀ (c : Nat) (l : List Val), getL M c = some l → plns false 6 l = true → toD M 8 (.loc c) = some (.list (dVs l)) := fun c l hc hl => by
    show (match getL M c with
      | some l => (l.mapM (toD M 7)).map PyData.list
      | none => none) = _
    rw [hc]
    show (l.mapM (toD M 7)).map PyData.list = _
    rw [toD_plnM hl]; rfl
  refine ⟨PyData.eqvAll (dVs l) (dVs m), ?_, eqv_plns (fun v u => eqv_pln 6 v u) l m hl hm⟩
  show (match toD M 8 (.loc a), toD M 8 (.loc b) with
    | some d, some e => if SeqAt.shaped d && SeqAt.shaped e then some (PyData.eqv d e) else none
    | _, _ => none) = _
  rw [e a l h hl, e b m h' hm]
  show (if (SeqAt.shaped (.list (dVs l)) && SeqAt.shaped (.list (dVs m))) = true then some (PyData.eqvAll (dVs l) (dVs m)) else none) = _
  rw [shaped_plns (by omega) hl, shaped_plns (by omega) hm]; rfl
/-- a list against an empty one -/
theorem eqD_nil {M : Mem} {a b : Nat} {l : List Val} {t : Bool} (h : getL M a = some l) (h' : getL M b = some []) (hl : plns t 6 l = true) : eqD (.loc a) (.loc b) M = some l.isEmpty := by
  have e : ∀ (c : Nat) (l : List Val), getL M c = some l → plns t 6 l = true → toD M 8 (.loc c) = some (.list (dVs l)) := fun c l hc hl => by
    show (match getL M c with
      | some l => (l.mapM (toD M 7)).map PyData.list
      | none => none) = _
    rw [hc]
    show (l.mapM (toD M 7)).map PyData.list = _
    rw [toD_plnM hl]; rfl
  show (match toD M 8 (.loc a), toD M 8 (.loc b) with
    | some d, some e => if SeqAt.shaped d && SeqAt.shaped e then some (PyData.eqv d e) else none
    | _, _ => none) = _
  rw [e a l h hl, e b [] h' rfl]
  show (if (SeqAt.shaped (.list (dVs l)) && SeqAt.shaped (.list (dVs []))) = true then some (PyData.eqvAll (dVs l) (dVs [])) else none) = _
  rw [shaped_plns (by omega) hl, shaped_plns (l := []) (b := t) (k := 6) (by omega) rfl]
  cases l <;> rfl

/-! words -/
structure WOk (w : Str) : Prop where
  len : w.length ≤ 20
  sg : ∀ c ∈ w.cps.toList, 32 < c ∧ c < 128
theorem WOk.ok {w : Str} (h : WOk w) : PyData.strOk w = true := by
  unfold PyData.strOk
  rw [Array.all_eq_true_iff_forall_mem]
  intro c hc
  have := (h.sg c (Array.mem_toList_iff.mpr hc)).2
  simp
  omega
theorem sign_ok {w : Str} (h : WOk w) {c : Nat} (hc : c ∈ w.cps.toList) : PyData.strOk ⟨#[c]⟩ = true := by
  have := (h.sg c hc).2
  simp [PyData.strOk]
  omega
theorem law_number_spec {M : Mem} {z : Str} (hz : WOk z) : Oq (F__law_number [.str z] M) (fun v M' => v = (if numG z = true then .int (numW z) else .non) ∧ M <+: M') := by
  have hl := len_z z
  have h20 := hz.len
  constructor
  unfold F__law_number
  simp
  refine ⟨by omega, ?_⟩
  by_cases c1 : 1 ≤ z.length
  · by_cases c2 : z.length ≤ 2
    · have c3 : (1 : Int) ≤ z.length := by omega
      have c4 : (z.length : Int) ≤ 2 := by omega
      simp [c3, c4]
      refine o_lc_fun (z.cps.toList.map fun c => Val.str ⟨#[c]⟩) (fun v => match v with
        | .str w => !decide (w.cps.toList.headD 0 ∈ figs)
        | _ => false) id (b := z.cps.size) (by simp) (z_sq (by omega)) (fun i M _ => ?_) (fun i x M1 hx hp => ?_) (fun M1 hp hg => ?_)
      · show some (z.cps[i]?.map fun c => Val.str ⟨#[c]⟩) = _
        rw [List.getElem?_map]; simp
      · rw [List.getElem?_map] at hx
        cases hc : z.cps.toList[i]? with
        | none => rw [hc] at hx; cases hx
        | some c =>
          rw [hc] at hx
          cases hx
          refine ⟨_, rfl, ?_⟩
          simp [dig_mem]
      · have hemp : ((((z.cps.toList.map fun c => Val.str ⟨#[c]⟩).filter fun v => match v with
          | .str w => !decide (w.cps.toList.headD 0 ∈ figs)
          | _ => false).map id).isEmpty = digB z) := by
          unfold digB
          rw [List.map_id]
          induction z.cps.toList with
          | nil => rfl
          | cons c l ih =>
            rw [List.map_cons, List.filter_cons, List.all_cons, ← ih]
            by_cases h : c ∈ figs <;> simp [h]
        have hpl : plns false 6 (((z.cps.toList.map fun c => Val.str ⟨#[c]⟩).filter fun v => match v with
          | .str w => !decide (w.cps.toList.headD 0 ∈ figs)
          | _ => false).map id) = true := by
          rw [plns_all, List.map_id]
          intro x hx
          obtain ⟨c, hc, e⟩ := List.mem_map.mp (List.mem_filter.mp hx).1
          subst e
          simp [pln, sign_ok hz hc]
        generalize (((z.cps.toList.map fun c => Val.str ⟨#[c]⟩).filter fun v => match v with
          | .str w => !decide (w.cps.toList.headD 0 ∈ figs)
          | _ => false).map id) = bs at hg hemp hpl
        have e1 := eqD_nil (M := M1 ++ [.lst []]) (a := M.length) (b := M1.length) (getL_pre (List.prefix_append _ _) hg) (getL_append_new M1 []) hpl
        rw [hemp] at e1
        have hp2 : M <+: M1 ++ [Cell.lst []] := hp.trans (List.prefix_append _ _)
        by_cases hd : digB z = true
        · have hint := int_good ⟨c1, c2⟩ hd
          have hat := head_at c1
          have hl16 : z.length ≤ 16777216 := by omega
          have hl6 : z.length ≤ 640 := by omega
          have g0 : numG z = !zeroB z := by unfold numG; simp [hd, c1, c2]
          rw [hd] at e1
          by_cases hz0 : (⟨#[hc z]⟩ : Str) = Str.ofString "0"
          · by_cases hz1 : z = Str.ofString "0"
            · have g1 : numG z = true := by rw [g0]; unfold zeroB; simp [hz1]
              simp [e1, hat, hint, hz0, g1, hl16, hl6]
              first | exact ⟨hz1, hp2⟩ | exact .inr ⟨hz1, hp2⟩
            · have g1 : numG z = false := by rw [g0]; unfold zeroB; simp [hz0, hz1]
              simp [e1, hat, hint, hz0, hz1, g1, hl16]
              exact hp2
          · have g1 : numG z = true := by rw [g0]; unfold zeroB; simp [hz0]
            simp [e1, hat, hint, hz0, g1, hl16, hl6]
            exact hp2
        · have g1 : numG z = false := by unfold numG; simp [hd]
          rw [show digB z = false by simpa using hd] at e1
          simp [e1, g1]
          exact hp2
    · have g1 : numG z = false := by unfold numG; simp [c2]
      have c4 : ¬ (z.length : Int) ≤ 2 := by omega
      have c3 : (1 : Int) ≤ z.length := by omega
      simp [c3, c4, g1]
  · have g1 : numG z = false := by unfold numG; simp [c1]
    have c3 : ¬ (1 : Int) ≤ z.length := by omega
    simp [c3, g1]

/-! texts of rows of words -/
def lineOf (r : List Str) : Str := Str.join ⟨#[32]⟩ r
def txtOf (R : List (List Str)) : Str := Str.join ⟨#[10]⟩ (R.map lineOf)
structure RowsOk (n : Nat) (R : List (List Str)) : Prop where
  len : R.length ≤ n
  row : ∀ r ∈ R, r.length ≤ n ∧ ∀ w ∈ r, WOk w
theorem RowsOk.mono {n m : Nat} {R : List (List Str)} (h : RowsOk n R) (hm : n ≤ m) : RowsOk m R := ⟨by have := h.len; omega, fun r hr => ⟨by have := (h.row r hr).1; omega, (h.row r hr).2⟩⟩
/-- what splitting gives back -/
def nr (r : List Str) : List Str := if r = [] then [Str.ofString ""] else r
def lns (R : List (List Str)) : List (List Str) := if R = [] then [[]] else R
def nrs (R : List (List Str)) : List (List Str) := (lns R).map nr
theorem wok_empty : WOk (Str.ofString "") := ⟨by decide, fun c hc => by cases hc⟩
theorem nr_ne (r : List Str) : nr r ≠ [] := by
  unfold nr
  split
  · simp
  · assumption
theorem nr_ok {n : Nat} (hn : 1 ≤ n) {r : List Str} (h : r.length ≤ n ∧ ∀ w ∈ r, WOk w) : (nr r).length ≤ n ∧ ∀ w ∈ nr r, WOk w := by
  unfold nr
  split
  · exact ⟨by simpa using hn, fun w hw => by rw [List.mem_singleton.mp hw]; exact wok_empty⟩
  · exact h
theorem lns_ok {n : Nat} (hn : 1 ≤ n) {R : List (List Str)} (h : RowsOk n R) : RowsOk n (lns R) := by
  unfold lns
  split
  · exact ⟨by simpa using hn, fun r hr => by rw [List.mem_singleton.mp hr]; exact ⟨by simp, fun w hw => by cases hw⟩⟩
  · exact h
theorem nrs_ok {n : Nat} (hn : 1 ≤ n) {R : List (List Str)} (h : RowsOk n R) : RowsOk n (nrs R) := by
  have h2 := lns_ok hn h
  refine ⟨by unfold nrs; rw [List.length_map]; exact h2.len, fun r hr => ?_⟩
  obtain ⟨q, hq, e⟩ := List.mem_map.mp hr
  rw [← e]
  exact nr_ok hn (h2.row q hq)
theorem nrs_pos (R : List (List Str)) : 1 ≤ (nrs R).length := by
  unfold nrs lns
  rw [List.length_map]
  split
  · simp
  · rename_i h
    exact List.length_pos_iff.mpr h
theorem join_nil (c : Nat) : Str.join ⟨#[c]⟩ [] = Str.ofString "" := rfl
theorem line_split {n : Nat} {r : List Str} (h : r.length ≤ n ∧ ∀ w ∈ r, WOk w) : Txt.split (lineOf r) (Str.ofString " ") = nr r := by
  unfold lineOf nr
  rw [blank_eq]
  by_cases hr : r = []
  · rw [if_pos hr, hr]
    decide +kernel
  · rw [if_neg hr, ← join_eq]
    exact split_join hr fun p hp hc => by have := ((h.2 p hp).sg _ hc).1; omega
theorem line_free {n : Nat} {r : List Str} (h : r.length ≤ n ∧ ∀ w ∈ r, WOk w) : 10 ∉ (lineOf r).cps.toList := join_free (by decide) fun p hp hc => by have := ((h.2 p hp).sg _ hc).1; omega
theorem txt_split {n : Nat} {R : List (List Str)} (h : RowsOk n R) : Txt.split (txtOf R) (Str.ofString "\n") = (lns R).map lineOf := by
  unfold txtOf lns
  rw [line_eq]
  by_cases hr : R = []
  · rw [if_pos hr, hr]
    decide +kernel
  · rw [if_neg hr, ← join_eq]
    refine split_join (by simpa using hr) fun p hp => ?_
    obtain ⟨r, hr, e⟩ := List.mem_map.mp hp
    rw [← e]
    exact line_free (h.row r hr)
theorem line_len {n : Nat} {r : List Str} (h : r.length ≤ n ∧ ∀ w ∈ r, WOk w) : (lineOf r).length ≤ 21 * n := by
  have h1 := join_len 32 r
  have h2 : (r.map (·.length)).sum ≤ (r.map (·.length)).length * 20 := sum_le fun x hx => by
    obtain ⟨w, hw, e⟩ := List.mem_map.mp hx
    rw [← e]; exact (h.2 w hw).len
  rw [List.length_map] at h2
  unfold lineOf
  have := h.1
  omega
theorem txt_len {n : Nat} {R : List (List Str)} (h : RowsOk n R) : (txtOf R).length ≤ n * (21 * n) + n := by
  have h1 := join_len 10 (R.map lineOf)
  have h2 : ((R.map lineOf).map (·.length)).sum ≤ ((R.map lineOf).map (·.length)).length * (21 * n) := sum_le fun x hx => by
    obtain ⟨w, hw, e⟩ := List.mem_map.mp hx
    obtain ⟨r, hr, e2⟩ := List.mem_map.mp hw
    rw [← e, ← e2]; exact line_len (h.row r hr)
  rw [List.length_map, List.length_map] at h2
  rw [List.length_map] at h1
  unfold txtOf
  have := h.len
  have h3 : R.length * (21 * n) ≤ n * (21 * n) := Nat.mul_le_mul_right _ this
  omega
/-! what a row tells -/
def wd (ws : List Str) (i : Nat) : Str := ws.getD i (Str.ofString "")
def okRow (k : Nat) (ws : List Str) : Bool := if k = 0 then decide (wd ws 0 = Str.ofString "town") && (decide (ws.length = 2) && numG (wd ws 1))
  else decide (ws.length = 4) && ((decide (wd ws 1 = Str.ofString "=") || decide (wd ws 1 = Str.ofString ">")) && (numG (wd ws 0) && (numG (wd ws 2) && numG (wd ws 3))))
def strV (ws : List Str) : Val := .tup [.int (numW (wd ws 0)), .int (numW (wd ws 2)), .int (numW (wd ws 3)), .int (if wd ws 1 = Str.ofString ">" then 1 else 0)]
def rowA (Ws : List (List Str)) (k : Nat) : List Str := Ws.getD k []
def cV (Ws : List (List Str)) (i : Nat) : Int := if i = 0 then 0 else numW (wd (rowA Ws 0) 1)
def stV (Ws : List (List Str)) (i : Nat) : List Val := ((Ws.take i).drop 1).map strV
def allOk (Ws : List (List Str)) (i : Nat) : Prop := ∀ j, j < i → okRow j (rowA Ws j) = true
structure FirstBad (Ws : List (List Str)) (k : Nat) : Prop where
  lt : k < Ws.length
  bad : okRow k (rowA Ws k) = false
  ok : allOk Ws k
theorem FirstBad.uniq {Ws : List (List Str)} {k m : Nat} (a : FirstBad Ws k) (b : FirstBad Ws m) : k = m := by
  rcases Nat.lt_trichotomy k m with h | h | h
  · have := b.ok k h; rw [a.bad] at this; cases this
  · exact h
  · have := a.ok m h; rw [b.bad] at this; cases this
theorem FirstBad.not {Ws : List (List Str)} {k : Nat} (a : FirstBad Ws k) (h : allOk Ws Ws.length) : False := by
  have := h k a.lt; rw [a.bad] at this; cases this
theorem stV_next {Ws : List (List Str)} {i : Nat} (h : i < Ws.length) (h0 : i ≠ 0) : stV Ws (i + 1) = stV Ws i ++ [strV (rowA Ws i)] := by
  unfold stV rowA
  rw [List.take_add_one, List.getElem?_eq_getElem h, List.getD_eq_getElem?_getD, List.getElem?_eq_getElem h]
  rw [List.drop_append_of_le_length (by simp; omega)]
  simp
theorem stV_one {Ws : List (List Str)} : stV Ws 1 = [] := by
  unfold stV
  cases Ws <;> simp
theorem stV_len {Ws : List (List Str)} {i : Nat} : (stV Ws i).length ≤ Ws.length := by
  unfold stV
  simp
  omega

/-! towns, good or not -/
def NumV (v : Val) : Prop := (∃ x : Int, v = .int x) ∨ v = .non ∨ v = .bl true
def numIn (lo hi : Int) (v : Val) : Bool := match v with
  | .int x => decide (lo ≤ x ∧ x ≤ hi)
  | _ => false
theorem is_number_g {M : Mem} {v : Val} {lo hi : Int} (h : NumV v) : Oq (F_is_number [v, .int lo, .int hi] M) (fun w M' => w = .bl (numIn lo hi v) ∧ M' = M) := by
  rcases h with ⟨x, e⟩ | e | e
  · subst e
    constructor
    unfold F_is_number
    simp [tyN, isT]
    by_cases h1 : lo ≤ x
    · simp [h1, numIn]
    · simp [h1, numIn]
  all_goals
    subst e
    constructor
    unfold F_is_number
    simp [tyN, isT, numIn]
def eqSN (a b : Val) : Bool := match a, b with
  | .int x, .int y => decide (x = y)
  | _, _ => false
def stB (n : Int) (a b c o : Val) : Bool := numIn 0 (n - 1) a && (numIn 0 (n - 1) b && (!eqSN a b && (numIn 1 99 c && numIn 0 1 o)))
theorem street_four {M : Mem} {n : Int} {a b c o : Val} (ha : NumV a) (hb : NumV b) (hc : NumV c) (ho : NumV o) : Oq (F_is_street [.tup [a, b, c, o], .int n] M) (fun w M' => w = .bl (stB n a b c o) ∧ M' = M) := by
  constructor
  unfold F_is_street
  simp [tyN, isT]
  refine (is_number_g ha).use fun w M1 hv => ?_
  obtain ⟨ew, em⟩ := hv
  subst ew em
  cases h1 : numIn 0 (n - 1) a with
  | false => simp [stB, h1]
  | true =>
    simp
    refine (is_number_g hb).use fun w M1 hv => ?_
    obtain ⟨ew, em⟩ := hv
    subst ew em
    cases h2 : numIn 0 (n - 1) b with
    | false => simp [stB, h2]
    | true =>
      obtain ⟨x, hx⟩ : ∃ x : Int, a = .int x := by
        rcases ha with h | h | h
        · exact h
        · subst h; cases h1
        · subst h; cases h1
      obtain ⟨y, hy⟩ : ∃ y : Int, b = .int y := by
        rcases hb with h | h | h
        · exact h
        · subst h; cases h2
        · subst h; cases h2
      subst hx hy
      by_cases hxy : x = y
      · subst hxy
        simp [stB, eqSN]
      · simp [hxy]
        refine (is_number_g hc).use fun w M1 hv => ?_
        obtain ⟨ew, em⟩ := hv
        subst ew em
        cases h3 : numIn 1 99 c with
        | false => simp [stB, h3]
        | true =>
          simp
          refine (is_number_g ho).use fun w M1 hv => ?_
          obtain ⟨ew, em⟩ := hv
          subst ew em
          simp [stB, h1, h2, h3, eqSN, hxy]
theorem numIn_int {lo hi x : Int} : numIn lo hi (.int x) = decide (lo ≤ x ∧ x ≤ hi) := rfl
def stG (n : Int) (t : Street) : Bool := stB n (.int t.f) (.int t.s) (.int t.l) (.int t.o)
theorem stG_ok {n : Int} {t : Street} (h : StreetOk n t) : stG n t = true := by
  have := h.f0; have := h.f1; have := h.s0; have := h.s1; have := h.ne; have := h.l0; have := h.l1
  have ho : 0 ≤ t.o ∧ t.o ≤ 1 := by have := h.o; omega
  simp [stG, stB, numIn, eqSN, h.ne, h.f0, h.s0, h.l0, h.l1, ho, show t.f ≤ n - 1 by omega, show t.s ≤ n - 1 by omega]
theorem is_street_g {M : Mem} {n : Int} {t : Street} : Oq (F_is_street [encS t, .int n] M) (fun w M' => w = .bl (stG n t) ∧ M' = M) :=
  street_four (M := M) (n := n) (a := .int t.f) (b := .int t.s) (c := .int t.l) (o := .int t.o) (.inl ⟨_, rfl⟩) (.inl ⟨_, rfl⟩) (.inl ⟨_, rfl⟩) (.inl ⟨_, rfl⟩)
def TownEx (c : Int) (ss : List Street) (ex : Ex) : Prop := ∃ i, ex = ⟨"BadTown", [("number", i)]⟩ ∧ (1 ≤ c → c ≤ 9 → (∀ t ∈ ss, StreetOk c t) → i = 16)
theorem need_town_x {M : Mem} {c : Int} {ss : List Street} (hl : ss.length ≤ 1000) : Xq (F_need_town [encT c ss] M) (fun v M' => v = .non ∧ M' = M ∧ ss.length ≤ 16) (fun ex M' => TownEx c ss ex ∧ M' = M) := by
  constructor
  unfold F_need_town encT
  simp [tyN, isT]
  refine (is_number_g (.inl ⟨_, rfl⟩)).use fun w M1 hv => ?_
  obtain ⟨ew, em⟩ := hv
  subst ew em
  rw [numIn_int]
  by_cases hc : 1 ≤ c ∧ c ≤ 9
  · simp [hc]
    refine o_for_enumT (fun i e M' => M' = M1 ∧ i ≤ 16 ∧ ∃ x y, e = [some (.tup [.int c, .tup (ss.map encS)]), x, y]) ⟨rfl, by omega, _, _, rfl⟩ (fun i x e M' hx hI => ?_) (fun e M' hI => ?_)
    · obtain ⟨hM, h16, a, b, he⟩ := hI
      subst hM he
      rw [List.getElem?_map] at hx
      cases ht : ss[i]? with
      | none => rw [ht] at hx; cases hx
      | some t =>
        rw [ht] at hx
        cases hx
        have hi : i < ss.length := (List.getElem?_eq_some_iff.mp ht).1
        have sm : smI (i : Int) = true := by simp [smI]; omega
        by_cases h6 : (i : Int) = 16
        · have sm : smI (16 : Int) = true := by decide
          simp [h6]
          exact ⟨[16], rfl, rfl, by simp [sm], ⟨_, rfl, fun _ _ _ => rfl⟩⟩
        · simp [h6]
          refine is_street_g.use fun w M1 hv => ?_
          obtain ⟨ew, em⟩ := hv
          subst ew em
          cases hs : stG c t with
          | true => simp; omega
          | false =>
            simp
            refine ⟨[(i : Int)], rfl, rfl, by simp [sm], ⟨_, rfl, fun _ _ hall => ?_⟩⟩
            have := stG_ok (hall t (List.mem_of_getElem? ht))
            rw [hs] at this; cases this
    · obtain ⟨hM, h16, a, b, he⟩ := hI
      subst hM
      exact ⟨rfl, rfl, by simpa using h16⟩
  · have sm : smI (-1 : Int) = true := by decide
    simp [hc]
    exact ⟨[-1], rfl, rfl, by simp [sm], ⟨_, rfl, fun h1 h2 _ => absurd ⟨h1, h2⟩ hc⟩⟩

/-! reading, any text -/
def strS (ws : List Str) : Street := ⟨numW (wd ws 0), numW (wd ws 2), numW (wd ws 3), if wd ws 1 = Str.ofString ">" then 1 else 0⟩
def stS (Ws : List (List Str)) (i : Nat) : List Street := ((Ws.take i).drop 1).map strS
theorem stS_one {Ws : List (List Str)} : stS Ws 1 = [] := by
  unfold stS
  cases Ws <;> simp
theorem stS_next {Ws : List (List Str)} {i : Nat} {ws : List Str} (h : Ws[i]? = some ws) (h0 : i ≠ 0) : stS Ws (i + 1) = stS Ws i ++ [strS ws] := by
  have hl := (List.getElem?_eq_some_iff.mp h).1
  unfold stS
  rw [List.take_add_one, h]
  rw [List.drop_append_of_le_length (by simp; omega)]
  simp
theorem stS_len {Ws : List (List Str)} {i : Nat} : (stS Ws i).length ≤ Ws.length := by
  unfold stS
  simp
  omega
theorem rowA_of {Ws : List (List Str)} {i : Nat} {ws : List Str} (h : Ws[i]? = some ws) : rowA Ws i = ws := by
  unfold rowA
  rw [List.getD_eq_getElem?_getD, h]; rfl
abbrev BadT (k : Nat) : Ex := ⟨"BadText", [("row", (k : Int))]⟩
def RdP (Ws : List (List Str)) (M : Mem) (v : Val) (M' : Mem) : Prop := allOk Ws Ws.length ∧ v = encT (cV Ws Ws.length) (stS Ws Ws.length) ∧ (stS Ws Ws.length).length ≤ 16 ∧ M <+: M'
def RdX (Ws : List (List Str)) (M : Mem) (ex : Ex) (M' : Mem) : Prop := ((∃ k, FirstBad Ws k ∧ ex = BadT k) ∨ (allOk Ws Ws.length ∧ TownEx (cV Ws Ws.length) (stS Ws Ws.length) ex)) ∧ M <+: M'
def RxI (Ws : List (List Str)) (z : Val) (d : Nat) (rows : List Val) (M0 : Mem) (i : Nat) (e : Sl) (M : Mem) : Prop :=
  M0 <+: M ∧ getL M d = some rows ∧ allOk Ws i ∧ ∃ a3 a4 a5 a6, e = [some z, some (.int (cV Ws i)), some (.tup ((stS Ws i).map encS)), a3, a4, a5, a6, none, none]
theorem nrs_at {R : List (List Str)} {i : Nat} {x : Val} (hx : (((lns R).map lineOf).map Val.str)[i]? = some x) : ∃ r, (lns R)[i]? = some r ∧ x = .str (lineOf r) ∧ (nrs R)[i]? = some (nr r) := by
  rw [List.getElem?_map, List.getElem?_map] at hx
  cases h : (lns R)[i]? with
  | none => rw [h] at hx; cases hx
  | some r =>
    rw [h] at hx
    cases hx
    exact ⟨r, rfl, rfl, by unfold nrs; rw [List.getElem?_map, h]; rfl⟩
def AllG (l : List Str) : Prop := ∀ w ∈ l, numG w = true
theorem nums_x {M : Mem} {z : Option Val} {k : Nat} {a b c : Str} (ha : WOk a) (hb : WOk b) (hc : WOk c) (hk : k ≤ 1000) {a1 a2 a4 a5 a6 : Option Val} {Q : Val → Mem → Prop} {E : Ex → Mem → Prop}
    (hQ : ∀ M' d, numG a = true → numG b = true → numG c = true → M <+: M' → M.length ≤ d → getL M' d = some [Val.int (numW a), Val.int (numW b), Val.int (numW c)] → Q (.loc d) M')
    (hE : ∀ M', ¬ (numG a = true ∧ numG b = true ∧ numG c = true) → M <+: M' → E (BadT k) M') :
    owp (lcX (itTup [Val.str a, Val.str b, Val.str c]).nxt (.one 8) tTrue (eFn 2 F_number_of (aCons (eVar 8) (aCons (eVar 3) aNil))) M.length [z, a1, a2, some (.int (k : Int)), a4, a5, a6, none, none] (itTup [Val.str a, Val.str b, Val.str c]).fuel 0 (M ++ [.lst []])) Q E := by
  have hnum : ∀ (i : Nat) (x : Val), [Val.str a, Val.str b, Val.str c][i]? = some x → ∃ w, x = Val.str w ∧ WOk w ∧ [a, b, c][i]? = some w := fun i x hx => by
    have hi : i < 3 := (List.getElem?_eq_some_iff.mp hx).1
    have : i = 0 ∨ i = 1 ∨ i = 2 := by omega
    rcases this with e | e | e <;> subst e <;> cases hx
    · exact ⟨_, rfl, ha, rfl⟩
    · exact ⟨_, rfl, hb, rfl⟩
    · exact ⟨_, rfl, hc, rfl⟩
  refine o_lcX [Val.str a, Val.str b, Val.str c] (fun i M' => M <+: M' ∧ AllG ([a, b, c].take i) ∧ getL M' M.length = some ((([a, b, c].take i).map numW).map Val.int)) (fun i M' _ => rfl) (fun i x M' hx hI => ?_) (fun M' hI => ?_) _ (by simp [itTup]) ⟨List.prefix_append _ _, fun w hw => by simp at hw, getL_append_new M []⟩
  · obtain ⟨hp, hall, hg⟩ := hI
    obtain ⟨w, ex, ok, hk2⟩ := hnum i x hx
    subst ex
    refine ⟨_, rfl, ?_⟩
    simp [-List.map_take, -List.map_map]
    have := ok.len
    refine (number_of_spec (row := (k : Int)) (by omega) (by omega) (by omega)).use (fun v M2 hv => ?_) (fun x M2 hv => ?_)
    · obtain ⟨hgw, ev, hp2⟩ := hv
      subst ev
      have hi : i < 3 := (List.getElem?_eq_some_iff.mp hx).1
      refine ⟨_, getL_pre hp2 hg, by simp; omega, pre_set (hp.trans hp2) (Nat.le_refl _), ?_, ?_⟩
      · have e1 : AllG ([a, b, c].take (i + 1)) := by
          rw [List.take_add_one, hk2]
          intro y hy
          rcases List.mem_append.mp hy with hy | hy
          · exact hall y hy
          · have : y = w := by simpa using hy
            rw [this]; exact hgw
        exact e1
      · have e2 : getL (M2.set M.length (.lst ((([a, b, c].take i).map numW).map Val.int ++ [.int (numW w)]))) M.length = some ((([a, b, c].take (i + 1)).map numW).map Val.int) := by
          rw [getL_set (getL_pre hp2 hg), List.take_add_one, hk2]
          simp
        exact e2
    · obtain ⟨hgw, ev, hp2⟩ := hv
      subst ev
      refine hE M2 (fun h3 => ?_) (hp.trans hp2)
      have hm := List.mem_of_getElem? hk2
      simp at hm
      rcases hm with e | e | e <;> subst e <;> simp_all
  · obtain ⟨hp, hall, hg⟩ := hI
    exact hQ M' _ (hall a (by simp)) (hall b (by simp)) (hall c (by simp)) hp (Nat.le_refl _) hg
theorem nr_two {r : List Str} {a : Str} {l : List Str} (h : nr r = a :: l) : True := trivial
theorem cV_one {Ws : List (List Str)} {ws : List Str} (h : Ws[0]? = some ws) {i : Nat} (hi : i ≠ 0) : cV Ws i = numW (wd ws 1) := by
  unfold cV
  rw [if_neg hi, rowA_of h]
theorem cV_next {Ws : List (List Str)} {i : Nat} (hi : i ≠ 0) : cV Ws (i + 1) = cV Ws i := by
  unfold cV
  rw [if_neg hi, if_neg (by omega)]
theorem allOk_next {Ws : List (List Str)} {i : Nat} {ws : List Str} (h : Ws[i]? = some ws) (a : allOk Ws i) (o : okRow i ws = true) : allOk Ws (i + 1) := fun j hj => by
  by_cases e : j = i
  · subst e; rw [rowA_of h]; exact o
  · exact a j (by omega)
theorem firstBad_of {Ws : List (List Str)} {i : Nat} {ws : List Str} (h : Ws[i]? = some ws) (a : allOk Ws i) (o : okRow i ws = false) : FirstBad Ws i := ⟨(List.getElem?_eq_some_iff.mp h).1, by rw [rowA_of h]; exact o, a⟩
theorem sg_any {b : Str} : ([("=" : Str), (">" : Str)].any fun y => decide (y = b)) = (decide (b = Str.ofString "=") || decide (b = Str.ofString ">")) := by
  simp [eq_comm]
theorem sg_pos {b : Str} (h : b = Str.ofString "=" ∨ b = Str.ofString ">") : posOf [("=" : Str), (">" : Str)] b = some (if b = Str.ofString ">" then 1 else 0) := by
  rcases h with e | e <;> subst e <;> decide +kernel
theorem read_x {M : Mem} {R : List (List Str)} (h : RowsOk 200 R) : Xq (F_read [.str (txtOf R)] M) (RdP (nrs R) M) (RdX (nrs R) M) := by
  have hsp := txt_split h
  have hlt : (txtOf R).length + 2 ≤ 16777216 := by have := txt_len h; omega
  have ln : (Str.ofString "\n").length = 1 := by decide +kernel
  have lb : (Str.ofString " ").length = 1 := by decide +kernel
  have hW := nrs_ok (by omega) h
  have hlen : (((lns R).map lineOf).map Val.str).length = (nrs R).length := by simp [nrs]
  have hL := lns_ok (by omega) h
  have hW1 := hW.len
  constructor
  unfold F_read
  simp [ln, hsp, hlt, -b_read_2_ap, -List.map_map]
  rw [itEnum_l (l := ((lns R).map lineOf).map Val.str) (by rw [getL_snoc]; rfl)]
  refine ⟨_, rfl, ?_⟩
  refine o_for_enumL (l := ((lns R).map lineOf).map Val.str) (RxI (nrs R) (.str (txtOf R)) M.length (((lns R).map lineOf).map Val.str) M) (Nat.le_refl _) (fun i e M' hI => hI.2.1) ⟨List.prefix_append _ _, getL_append_new _ _, fun j hj => absurd hj (by omega), _, _, _, _, rfl⟩ (fun i x e M1 hx hI => ?_) (fun e M1 hI => ?_)
  · obtain ⟨hp, hg, hok, a3, a4, a5, a6, he⟩ := hI
    subst he
    obtain ⟨r, hr, ex, hws⟩ := nrs_at hx
    subst ex
    have hrk := hL.row r (List.mem_of_getElem? hr)
    have hsplit := line_split hrk
    have hll : (lineOf r).length + 2 ≤ 16777216 := by have := line_len hrk; omega
    have hwk := (hW.row _ (List.mem_of_getElem? hws)).2
    have hi : i < (nrs R).length := (List.getElem?_eq_some_iff.mp hws).1
    have sm : smI (i : Int) = true := by simp [smI]; omega
    have s0 : smI (0 : Int) = true := by decide
    have hne := nr_ne r
    generalize nr r = ws at hws hsplit hwk hne
    obtain ⟨w0, wr, rfl⟩ : ∃ w0 wr, ws = w0 :: wr := by
      cases ws with
      | nil => exact absurd rfl hne
      | cons a l => exact ⟨a, l, rfl⟩
    by_cases h0 : i = 0
    · subst h0
      by_cases ht : w0 = Str.ofString "town"
      · by_cases h2 : wr.length = 1
        · obtain ⟨w1, rfl⟩ : ∃ w1, wr = [w1] := by
            match wr, h2 with
            | [w1], _ => exact ⟨w1, rfl⟩
          have hw1 := hwk w1 (by simp)
          have := hw1.len
          simp [lb, hsplit, hll, ht, -List.map_map]
          refine (number_of_spec (row := 0) (by omega) (by omega) (by omega)).use (fun v M2 hv => ?_) (fun x M2 hv => ?_)
          · obtain ⟨hgw, ev, hp2⟩ := hv
            subst ev
            have o : okRow 0 [w0, w1] = true := by simp [okRow, wd, ht, hgw]
            simp [-List.map_map]
            refine ⟨(hp.trans (List.prefix_append _ _)).trans hp2, getL_pre hp2 (getL_pre (List.prefix_append _ _) hg), allOk_next hws hok o, some (.int 0), some (.str (lineOf r)), some (.loc M1.length), a6, ?_⟩
            rw [cV_one hws (by omega), stS_one]
            rfl
          · obtain ⟨hgw, ev, hp2⟩ := hv
            subst ev
            have o : okRow 0 [w0, w1] = false := by simp [okRow, wd, ht, hgw]
            exact ⟨.inl ⟨0, firstBad_of hws hok o, rfl⟩, (hp.trans (List.prefix_append _ _)).trans hp2⟩
        · have o : okRow 0 (w0 :: wr) = false := by simp [okRow, wd, ht]; omega
          simp [lb, hsplit, hll, ht, show ¬ (wr.length : Int) + 1 = 2 by omega]
          exact ⟨[0], rfl, rfl, by simp [s0], .inl ⟨0, firstBad_of hws hok o, rfl⟩, hp.trans (List.prefix_append _ _)⟩
      · have o : okRow 0 (w0 :: wr) = false := by simp [okRow, wd, ht]
        simp [lb, hsplit, hll, ht]
        exact ⟨[0], rfl, rfl, by simp [s0], .inl ⟨0, firstBad_of hws hok o, rfl⟩, hp.trans (List.prefix_append _ _)⟩
    · have hne0 : ¬ ((i : Int) = 0) := by omega
      by_cases h4 : wr.length = 3
      · obtain ⟨w1, w2, w3, rfl⟩ : ∃ w1 w2 w3, wr = [w1, w2, w3] := by
          match wr, h4 with
          | [w1, w2, w3], _ => exact ⟨w1, w2, w3, rfl⟩
        have hw0 := hwk w0 (by simp)
        have hw1 := hwk w1 (by simp)
        have hw2 := hwk w2 (by simp)
        have hw3 := hwk w3 (by simp)
        by_cases hs : w1 = Str.ofString "=" ∨ w1 = Str.ofString ">"
        · have hs' : ([("=" : Str), (">" : Str)].any fun y => decide (y = w1)) = true := by rw [sg_any]; simpa using hs
          simp [lb, hsplit, hll, h0, hne0, hs', -b_read_1_ap, -List.any_cons, -List.map_map]
          simp [-List.append_assoc, -List.length_append, -List.map_map]
          refine nums_x hw0 hw2 hw3 (by omega) (fun M2 d g0 g2 g3 hp2 hd gd => ?_) (fun M2 hno hp2 => ?_)
          · have o : okRow i [w0, w1, w2, w3] = true := by simp [okRow, wd, h0, g0, g2, g3, hs]
            have gw : getL M2 M1.length = some [Val.str w0, Val.str w1, Val.str w2, Val.str w3] := getL_pre hp2 (getL_append_new M1 _)
            have hcat : (stS (nrs R) (i + 1)).map encS = (stS (nrs R) i).map encS ++ [encS (strS [w0, w1, w2, w3])] := by
              rw [stS_next hws h0]; simp
            have hsl := stS_len (Ws := nrs R) (i := i)
            simp [gd, gw, sg_pos hs, -List.map_map]
            refine ⟨by omega, (hp.trans (List.prefix_append _ _)).trans hp2, getL_pre hp2 (getL_pre (List.prefix_append _ _) hg), allOk_next hws hok o, some (.int (i : Int)), some (.str (lineOf r)), some (.loc M1.length), some (.loc d), ?_⟩
            rw [cV_next h0, hcat]
            have eo : ((if w1 = Str.ofString ">" then 1 else 0 : Nat) : Int) = (if w1 = Str.ofString ">" then 1 else 0 : Int) := by split <;> rfl
            rw [eo]
            rfl
          · have o : okRow i [w0, w1, w2, w3] = false := by
              cases e : okRow i [w0, w1, w2, w3] with
              | false => rfl
              | true =>
                simp [okRow, wd, h0] at e
                exact absurd ⟨e.2.1, e.2.2.1, e.2.2.2⟩ hno
            exact ⟨.inl ⟨i, firstBad_of hws hok o, rfl⟩, (hp.trans (List.prefix_append _ _)).trans hp2⟩
        · have hs' : ([("=" : Str), (">" : Str)].any fun y => decide (y = w1)) = false := by rw [sg_any]; simpa using hs
          have o : okRow i [w0, w1, w2, w3] = false := by
            have hs2 : ¬ w1 = Str.ofString "=" ∧ ¬ w1 = Str.ofString ">" := by simpa using hs
            simp [okRow, wd, h0, hs2]
          simp [lb, hsplit, hll, h0, hne0, hs', -b_read_1_ap, -List.any_cons, -List.map_map]
          exact ⟨[(i : Int)], rfl, rfl, by simp [sm], .inl ⟨i, firstBad_of hws hok o, rfl⟩, hp.trans (List.prefix_append _ _)⟩
      · have o : okRow i (w0 :: wr) = false := by simp [okRow, h0]; omega
        simp [lb, hsplit, hll, h0, hne0, show ¬ (wr.length : Int) + 1 = 4 by omega, -b_read_1_ap]
        exact ⟨[(i : Int)], rfl, rfl, by simp [sm], .inl ⟨i, firstBad_of hws hok o, rfl⟩, hp.trans (List.prefix_append _ _)⟩
  · obtain ⟨hp, hg, hok, a3, a4, a5, a6, he⟩ := hI
    subst he
    rw [hlen] at *
    have hsl := stS_len (Ws := nrs R) (i := (nrs R).length)
    simp
    refine (need_town_x (c := cV (nrs R) (nrs R).length) (ss := stS (nrs R) (nrs R).length) (by omega)).use (fun v M' hv => ?_) (fun x M' hv => ?_)
    · obtain ⟨ev, em, h16⟩ := hv
      subst ev em
      simp
      exact ⟨hok, rfl, h16, hp⟩
    · obtain ⟨hx, em⟩ := hv
      subst em
      exact ⟨.inr ⟨hok, hx⟩, hp⟩

/-! the law's own reading -/
theorem cutL_to {α : Type} (xs : List α) (k : Nat) : cutL xs none (some (k : Int)) = xs.take k := by
  unfold cutL
  rw [HT.sIx_nat, HT.sIx_none]
  simp [List.take_eq_take_iff]
theorem cutL_from {α : Type} (xs : List α) (k : Nat) : cutL xs (some (k : Int)) none = xs.drop k := by
  unfold cutL
  rw [HT.sIx_nat, HT.sIx_none]
  by_cases h : k ≤ xs.length
  · rw [Nat.min_eq_left h]
    exact List.take_of_length_le (by simp)
  · rw [Nat.min_eq_right (by omega), Nat.sub_self, List.take_zero, List.drop_eq_nil_of_le (by omega)]
theorem cutL_mid {α : Type} (xs : List α) (a b : Nat) (hb : b ≤ xs.length ∨ a ≤ xs.length) (hab : a ≤ b) : cutL xs (some (a : Int)) (some (b : Int)) = (xs.drop a).take (b - a) := by
  unfold cutL
  rw [HT.sIx_nat, HT.sIx_nat, Nat.min_eq_left (show a ≤ xs.length by omega)]
  by_cases h : b ≤ xs.length
  · rw [Nat.min_eq_left h]
  · rw [Nat.min_eq_right (by omega), List.take_of_length_le (by simp), List.take_of_length_le (by simp; omega)]
theorem cut_1 {α : Type} (xs : List α) : cutL xs none (some 1) = xs.take 1 := cutL_to xs 1
theorem cut_2 {α : Type} (xs : List α) : cutL xs (some 2) none = xs.drop 2 := cutL_from xs 2
theorem cut_12 {α : Type} (x : α) (xs : List α) : cutL (x :: xs) (some 1) (some 2) = xs.take 1 := cutL_mid (x :: xs) 1 2 (.inr (by simp)) (by omega)
def LrP (Ws : List (List Str)) (M : Mem) (v : Val) (M' : Mem) : Prop := ((∃ k : Nat, FirstBad Ws k ∧ v = .tup [.str (Str.ofString "text"), .int k]) ∨ (allOk Ws Ws.length ∧ v = .tup [.str (Str.ofString ""), encT (cV Ws Ws.length) (stS Ws Ws.length)])) ∧ M <+: M'
def LxI (Ws : List (List Str)) (z : Val) (d : Nat) (rows : List Val) (M0 : Mem) (i : Nat) (e : Sl) (M : Mem) : Prop :=
  M0 <+: M ∧ getL M d = some rows ∧ allOk Ws i ∧ ∃ a4 a5 a6 a7, e = [some z, some (.int (cV Ws i)), some (.tup ((stS Ws i).map encS)), some (.loc d), a4, a5, a6, a7, none, none]
def lwV (z : Str) : Val := if numG z = true then .int (numW z) else .non
def lwN (v : Val) : Val := match v with
  | .str z => lwV z
  | _ => .non
theorem nxt_lst {n b i : Nat} {l : List Val} {M : Mem} (h : getL M n = some l) : (itLst n b).nxt i M = some l[i]? := by
  have := getL_ok h
  show (match M[n]? with | some (.lst l) => some l[i]? | _ => none) = _
  rw [this]
theorem lwV_flat (z : Str) : flat (lwV z) = true := by unfold lwV; split <;> rfl
/-- the numbers of the words chosen -/
theorem lnums_x (M : Mem) {M0 : Mem} {D d b : Nat} {ch : List Str} (hd : getL M d = some (ch.map Val.str)) (hw : ∀ w ∈ ch, WOk w) (hl : ch.length ≤ 1000) (hb : ch.length ≤ b) (hD : D = M.length) (hM : M0 = M ++ [.lst []]) {a0 a1 a2 a3 a4 a5 a6 a7 : Option Val} {Q : Val → Mem → Prop} {E : Ex → Mem → Prop}
    (hQ : ∀ M', M <+: M' → getL M' M.length = some (ch.map lwV) → Q (.loc M.length) M') :
    owp (lcG (itLst d b).nxt (.one 9) tTrue (eFn 1 F__law_number (aCons (eVar 9) aNil)) D [a0, a1, a2, a3, a4, a5, a6, a7, none, none] (itLst d b).fuel 0 M0) Q E := by
  subst hD hM
  refine o_lc_fun (ch.map Val.str) (fun _ => true) lwN (b := b) (by simpa using hb) (by rw [List.length_map]; show _ ≤ 16777216; omega) (fun i M' hp => ?_) (fun i x M1 hx hp => ?_) (fun M1 hp hg => ?_)
  · exact nxt_lst (getL_pre hp hd)
  · rw [List.getElem?_map] at hx
    cases hc : ch[i]? with
    | none => rw [hc] at hx; cases hx
    | some w =>
      rw [hc] at hx
      cases hx
      refine ⟨_, rfl, ?_⟩
      simp
      refine (law_number_spec (hw w (List.mem_of_getElem? hc))).use fun v M2 hv => ?_
      exact hv
  · refine hQ M1 hp ?_
    rw [hg, List.filter_eq_self.mpr (fun _ _ => rfl), List.map_map]; rfl
theorem none_in : ∀ {ch : List Str}, ((ch.map lwV).any fun z => eqF z Val.non) = !(ch.all numG)
  | [] => rfl
  | w :: l => by
    rw [List.map_cons, List.any_cons, List.all_cons, none_in (ch := l)]
    by_cases h : numG w = true <;> simp [lwV, h, eqF]
theorem inD_non {M : Mem} {d : Nat} {ch : List Str} (h : getL M d = some (ch.map lwV)) : inD .non (.loc d) M = some (!(ch.all numG)) := by
  unfold inD
  simp only [h]
  rw [if_pos (by rw [Bool.and_eq_true]; exact ⟨rfl, by rw [List.all_map]; exact List.all_eq_true.mpr fun w _ => lwV_flat w⟩), none_in]
theorem owp_notInT {M : Mem} {x y : Val} {Q : Val → Mem → Prop} {E : Ex → Mem → Prop} : owp (notInTV x y M) Q E = ∃ b, inTD x y M = some b ∧ Q (.bl (!b)) M := by
  rw [owp_eq]
  unfold notInTV
  cases inTD x y M <;> simp
theorem toD_lst {M : Mem} {k c : Nat} {l : List Val} (hc : getL M c = some l) (hl : plns false 6 l = true) (hk : 7 ≤ k) : toD M (k + 1) (.loc c) = some (.list (dVs l)) := by
  show (match getL M c with
      | some l => (l.mapM (toD M k)).map PyData.list
      | none => none) = _
  rw [hc]
  show (l.mapM (toD M k)).map PyData.list = _
  obtain ⟨j, rfl⟩ : ∃ j, k = j + 7 := ⟨k - 7, by omega⟩
  have : plns false (j + 6) l = true := by
    rw [plns_all] at hl ⊢
    exact fun x hx => pln_le (by omega) (hl x hx)
  rw [toD_plnM this]; rfl
theorem toD_sg {M : Mem} {k c : Nat} {w : Str} (hc : getL M c = some [.str w]) : toD M (k + 2) (.loc c) = some (.list [.str w]) := by
  show (match getL M c with
      | some l => (l.mapM (toD M (k + 1))).map PyData.list
      | none => none) = _
  rw [hc]
  rfl
theorem eqv_sg {a b : Str} : PyData.eqv (.list [.str a]) (.list [.str b]) = decide (a = b) := by
  simp only [PyData.eqv, PyData.eqvAll, Bool.and_true]
  rw [Bool.eq_iff_iff]; simp
theorem sg_inT {M : Mem} {s p q : Nat} {w : Str} (hs : getL M s = some [.str w]) (hp : getL M p = some [.str (Str.ofString "=")]) (hq : getL M q = some [.str (Str.ofString ">")]) (ok : PyData.strOk w = true) :
    inTD (.loc s) (.tup [.loc p, .loc q]) M = some (decide (Str.ofString "=" = w) || decide (Str.ofString ">" = w)) := by
  unfold inTD
  have e1 : toD M 8 (.loc s) = some (.list [.str w]) := toD_sg hs
  have e2 : [Val.loc p, Val.loc q].mapM (toD M 7) = some [.list [.str (Str.ofString "=")], .list [.str (Str.ofString ">")]] := by
    rw [List.mapM_cons, List.mapM_cons, List.mapM_nil, show toD M 7 (.loc p) = _ from toD_sg hp, show toD M 7 (.loc q) = _ from toD_sg hq]; rfl
  simp only [e1, e2]
  have s1 : SeqAt.shaped (.list [.str w]) = true := by
    show ((PyData.list [.str w]).canLay0 && decide ((PyData.list [.str w]).depth ≤ 64)) = true
    simp [PyData.canLay0, PyData.canLayAll0, ok, PyData.depth, PyData.depthAll]
  have s2 : SeqAt.shaped (.list [.list [.str (Str.ofString "=")], .list [.str (Str.ofString ">")]]) = true := by decide +kernel
  have s3 : SeqAt.shaped (.tuple [.list [.str (Str.ofString "=")], .list [.str (Str.ofString ">")]]) = true := by decide +kernel
  rw [s1, s2, s3]
  simp [eqv_sg]
theorem sg_eq {M : Mem} {s q : Nat} {w : Str} (hs : getL M s = some [.str w]) (hq : getL M q = some [.str (Str.ofString ">")]) (ok : PyData.strOk w = true) : eqD (.loc s) (.loc q) M = some (decide (w = Str.ofString ">")) := by
  obtain ⟨c, h1, h2⟩ := eqD_plns hs hq (by simp [plns, pln, ok]) (by decide +kernel)
  rw [h1]
  congr 1
  rw [Bool.eq_iff_iff, h2]
  simp
theorem law_read_x {M : Mem} {R : List (List Str)} (h : RowsOk 200 R) : Oq (F__law_read [.str (txtOf R)] M) (LrP (nrs R) M) := by
  have hsp := txt_split h
  have hlt : (txtOf R).length + 2 ≤ 16777216 := by have := txt_len h; omega
  have ln : (Str.ofString "\n").length = 1 := by decide +kernel
  have lb : (Str.ofString " ").length = 1 := by decide +kernel
  have hW := nrs_ok (by omega) h
  have hlen : (((lns R).map lineOf).map Val.str).length = (nrs R).length := by simp [nrs]
  have hlen2 : (lns R).length = (nrs R).length := by simp [nrs]
  have hL := lns_ok (by omega) h
  have hW1 := hW.len
  constructor
  unfold F__law_read
  simp [ln, hsp, hlt, -b__law_read_4_ap, -List.map_map]
  refine ⟨by omega, ?_⟩
  refine o_for_rng (LxI (nrs R) (.str (txtOf R)) M.length (((lns R).map lineOf).map Val.str) M) ⟨List.prefix_append _ _, getL_append_new _ _, fun j hj => absurd hj (by omega), _, _, _, _, rfl⟩ (fun i e M1 hi hI => ?_) (fun e M1 hI => ?_)
  · obtain ⟨hp, hg, hok, a4, a5, a6, a7, he⟩ := hI
    subst he
    obtain ⟨r, hr⟩ : ∃ r, (lns R)[i]? = some r := ⟨_, List.getElem?_eq_getElem hi⟩
    obtain ⟨r', hr', ex, hws⟩ := nrs_at (R := R) (i := i) (x := .str (lineOf r)) (by rw [List.getElem?_map, List.getElem?_map, hr]; rfl)
    rw [hr] at hr'
    cases hr'
    have hat : atI (((lns R).map lineOf).map Val.str) (i : Int) = some (.str (lineOf r)) := atI_nat (by rw [List.getElem?_map, List.getElem?_map, hr]; rfl)
    have hrk := hL.row r (List.mem_of_getElem? hr)
    have hsplit := line_split hrk
    have hll : (lineOf r).length + 2 ≤ 16777216 := by have := line_len hrk; omega
    have hwk := (hW.row _ (List.mem_of_getElem? hws)).2
    have hwl := (hW.row _ (List.mem_of_getElem? hws)).1
    have hi : i < (nrs R).length := (List.getElem?_eq_some_iff.mp hws).1
    have hne := nr_ne r
    generalize nr r = ws at hws hsplit hwk hne hwl
    obtain ⟨w0, wr, rfl⟩ : ∃ w0 wr, ws = w0 :: wr := by
      cases ws with
      | nil => exact absurd rfl hne
      | cons a l => exact ⟨a, l, rfl⟩
    have hwl2 : wr.length + 1 ≤ 200 := hwl
    by_cases h0 : i = 0
    · subst h0
      have hat : atI (((lns R).map lineOf).map Val.str) 0 = some (.str (lineOf r)) := hat
      simp [lb, hsplit, hll, hat, hg, isTyM, cut_1, cut_2, cut_12, -t__law_read_2_ap, -List.map_map]
      have hp2 : M1 <+: M1 ++ [Cell.lst (Val.str w0 :: List.map Val.str wr), Cell.lst (List.take 1 (List.map Val.str wr))] := List.prefix_append _ _
      have gw : getL (M1 ++ [Cell.lst (Val.str w0 :: List.map Val.str wr), Cell.lst (List.take 1 (List.map Val.str wr))]) M1.length = some ((w0 :: wr).map Val.str) := (getL_app0 _ _).trans rfl
      have gs : getL (M1 ++ [Cell.lst (Val.str w0 :: List.map Val.str wr), Cell.lst (List.take 1 (List.map Val.str wr))]) (M1.length + 1) = some ((wr.take 1).map Val.str) := by rw [getL_appk]; simp [getL, List.map_take]
      have hp := hp.trans hp2
      have hg := getL_pre hp2 hg
      generalize M1 ++ [Cell.lst (Val.str w0 :: List.map Val.str wr), Cell.lst (List.take 1 (List.map Val.str wr))] = M2 at hp2 gw gs hp hg
      simp [gw, cut_1, cut_2, cut_12, -t__law_read_1_ap, -List.map_map]
      refine ⟨_, getL_pre (List.prefix_append _ _) gw, _, (getL_app0 _ _).trans rfl, _, by rw [getL_appk]; rfl, by simp; omega, ?_⟩
      have eq : List.take 1 (wr.map Val.str) ++ List.drop 2 ((w0 :: wr).map Val.str) = wr.map Val.str := by cases wr <;> simp
      rw [eq]
      refine ⟨_, itSeq_l (by rw [getL_appk]; rfl), ?_⟩
      refine lnums_x (M2 ++ [Cell.lst (List.take 1 (List.map Val.str wr)), Cell.lst (List.drop 2 (List.map Val.str (w0 :: wr))), Cell.lst (List.map Val.str wr)]) (ch := wr) ?_ (fun w hw => hwk w (List.mem_cons_of_mem _ hw)) (by omega) ?_ ?_ ?_ fun M3 hp3 g3 => ?_
      · rw [getL_appk]; rfl
      · simp
      · simp
      · simp
      have hp3 : M2 <+: M3 := (List.prefix_append _ _).trans hp3
      have gw3 := getL_pre hp3 gw
      have gs3 := getL_pre hp3 gs
      have hp := hp.trans hp3
      have hg := getL_pre hp3 hg
      have g3 : getL M3 (M2.length + 3) = some (wr.map lwV) := by simpa using g3
      have hbad : okRow 0 (w0 :: wr) = false → LrP (nrs R) M (Val.tup [Val.str (Str.ofString "text"), Val.int 0]) M3 := fun o => ⟨.inl ⟨0, firstBad_of hws hok o, rfl⟩, hp⟩
      have hin := inD_non g3
      simp [g3, hin, gw3, gs3, -t__law_read_0_ap, -List.map_map]
      cases hall : wr.all numG with
      | false =>
        refine .inr ⟨by simpa using hall, hbad ?_⟩
        cases o : okRow 0 (w0 :: wr) with
        | false => rfl
        | true =>
          simp [okRow] at o
          obtain ⟨_, o2, o3⟩ := o
          match wr, o2 with
          | [w1], _ =>
            have : numG w1 = true := o3
            simp [this] at hall
      | true =>
        refine .inl ⟨by simpa using hall, ?_⟩
        by_cases ht : w0 = Str.ofString "town"
        · refine .inr ⟨ht, ?_⟩
          by_cases h2 : wr.length = 1
          · refine .inl ⟨by omega, ?_⟩
            obtain ⟨w1, rfl⟩ : ∃ w1, wr = [w1] := by
              match wr, h2 with
              | [w1], _ => exact ⟨w1, rfl⟩
            have hg1 : numG w1 = true := by simpa using hall
            have o : okRow 0 [w0, w1] = true := by simp [okRow, wd, ht, hg1]
            simp [g3, lwV, hg1, -List.map_map]
            refine ⟨hp, hg, allOk_next hws hok o, some (.int 0), some (.loc M1.length), some (.loc (M1.length + 1)), some (.loc (M2.length + 3)), ?_⟩
            rw [cV_one hws (by omega), stS_one]
            rfl
          · refine .inr ⟨by omega, hbad ?_⟩
            simp [okRow, wd, ht]; omega
        · refine .inl ⟨ht, hbad ?_⟩
          simp [okRow, wd, ht]
    · have hne0 : ¬ ((i : Int) = 0) := by omega
      have hpos : (0 : Int) < i := by omega
      have hpn : 0 < i := by omega
      simp [lb, hsplit, hll, hat, hg, isTyM, cut_1, cut_2, cut_12, -t__law_read_2_ap, -List.map_map]
      have hp2 : M1 <+: M1 ++ [Cell.lst (Val.str w0 :: List.map Val.str wr), Cell.lst (List.take 1 (List.map Val.str wr))] := List.prefix_append _ _
      have gw : getL (M1 ++ [Cell.lst (Val.str w0 :: List.map Val.str wr), Cell.lst (List.take 1 (List.map Val.str wr))]) M1.length = some ((w0 :: wr).map Val.str) := (getL_app0 _ _).trans rfl
      have gs : getL (M1 ++ [Cell.lst (Val.str w0 :: List.map Val.str wr), Cell.lst (List.take 1 (List.map Val.str wr))]) (M1.length + 1) = some ((wr.take 1).map Val.str) := by rw [getL_appk]; simp [getL, List.map_take]
      have hp := hp.trans hp2
      have hg := getL_pre hp2 hg
      generalize M1 ++ [Cell.lst (Val.str w0 :: List.map Val.str wr), Cell.lst (List.take 1 (List.map Val.str wr))] = M2 at hp2 gw gs hp hg
      simp [gw, h0, hpos, hpn, hne0, cut_1, cut_2, cut_12, -t__law_read_1_ap, -List.map_map]
      refine ⟨_, getL_pre (List.prefix_append _ _) gw, _, (getL_app0 _ _).trans rfl, _, by rw [getL_appk]; rfl, by simp; omega, ?_⟩
      have eq : [Val.str w0] ++ List.drop 2 ((w0 :: wr).map Val.str) = (w0 :: wr.drop 1).map Val.str := by cases wr <;> simp
      rw [eq]
      refine ⟨_, itSeq_l (by rw [getL_appk]; rfl), ?_⟩
      refine lnums_x (M2 ++ [Cell.lst [Val.str w0], Cell.lst (List.drop 2 (List.map Val.str (w0 :: wr))), Cell.lst (List.map Val.str (w0 :: wr.drop 1))]) (ch := w0 :: wr.drop 1) ?_ (fun w hw => hwk w ?_) (by simp; omega) ?_ ?_ ?_ fun M3 hp3 g3 => ?_
      · rw [getL_appk]; rfl
      · rcases List.mem_cons.mp hw with e | e
        · rw [e]; simp
        · exact List.mem_cons_of_mem _ (List.mem_of_mem_drop e)
      · simp
      · simp
      · simp
      have hp3 : M2 <+: M3 := (List.prefix_append _ _).trans hp3
      have gw3 := getL_pre hp3 gw
      have gs3 := getL_pre hp3 gs
      have hp := hp.trans hp3
      have hg := getL_pre hp3 hg
      have g3 : getL M3 (M2.length + 3) = some ((w0 :: wr.drop 1).map lwV) := by simpa using g3
      have hbad : ∀ M4, M3 <+: M4 → okRow i (w0 :: wr) = false → LrP (nrs R) M (Val.tup [Val.str (Str.ofString "text"), Val.int i]) M4 := fun M4 hm o => ⟨.inl ⟨i, firstBad_of hws hok o, rfl⟩, hp.trans hm⟩
      have hin := inD_non g3
      simp only [List.all_cons] at hin
      simp [g3, hin, h0, hne0, gw3, gs3, -t__law_read_0_ap, -List.map_map, -List.map_cons]
      by_cases hall : numG w0 = true ∧ ∀ x, x ∈ wr.tail → numG x = true
      · refine .inl ⟨hall, ?_⟩
        by_cases h4 : wr.length = 3
        · obtain ⟨w1, w2, w3, rfl⟩ : ∃ w1 w2 w3, wr = [w1, w2, w3] := by
            match wr, h4 with
            | [w1, w2, w3], _ => exact ⟨w1, w2, w3, rfl⟩
          have hg0 : numG w0 = true := hall.1
          have hg2 : numG w2 = true := hall.2 w2 (by simp)
          have hg3 : numG w3 = true := hall.2 w3 (by simp)
          have ok1 := (hwk w1 (by simp)).ok
          have gs3 : getL M3 (M1.length + 1) = some [.str w1] := gs3
          have hcat : (stS (nrs R) (i + 1)).map encS = (stS (nrs R) i).map encS ++ [encS (strS [w0, w1, w2, w3])] := by
            rw [stS_next hws h0]; simp
          have hsl := stS_len (Ws := nrs R) (i := i)
          have hT := sg_inT (M := M3 ++ [Cell.lst [Val.str (Str.ofString "=")], Cell.lst [Val.str (Str.ofString ">")]]) (s := M1.length + 1) (p := M3.length) (q := M3.length + 1) (getL_pre (List.prefix_append _ _) gs3) ((getL_app0 _ _).trans rfl) (by rw [getL_appk]; rfl) ok1
          have hE := sg_eq (M := M3 ++ [Cell.lst [Val.str (Str.ofString "=")], Cell.lst [Val.str (Str.ofString ">")], Cell.lst [Val.str (Str.ofString ">")]]) (s := M1.length + 1) (q := M3.length + 2) (getL_pre (List.prefix_append _ _) gs3) (by rw [getL_appk]; rfl) ok1
          have g3' : getL M3 (M2.length + 3) = some [.int (numW w0), .int (numW w2), .int (numW w3)] := by rw [g3]; simp [lwV, hg0, hg2, hg3]
          have g5 : getL (M3 ++ [Cell.lst [Val.str (Str.ofString "=")], Cell.lst [Val.str (Str.ofString ">")]]) (M2.length + 3) = some [.int (numW w0), .int (numW w2), .int (numW w3)] := getL_pre (List.prefix_append _ _) g3'
          simp [gw3, hpn, hpos, owp_notInT, -List.map_map]
          simp [hT, hE, g5, h0, -List.map_map]
          by_cases hs : w1 = Str.ofString "=" ∨ w1 = Str.ofString ">"
          · have o : okRow i [w0, w1, w2, w3] = true := by simp [okRow, wd, h0, hg0, hg2, hg3, hs]
            refine .inr ⟨by rcases hs with e | e <;> rw [e] <;> simp, ?_⟩
            have fin : ∀ z : Int, z = (if w1 = Str.ofString ">" then 1 else 0) → LxI (nrs R) (Val.str (txtOf R)) (List.length M) (List.map Val.str (List.map lineOf (lns R))) M (i + 1)
              [some (Val.str (txtOf R)), some (Val.int (cV (nrs R) i)), some (Val.tup (List.map encS (stS (nrs R) i) ++ [Val.tup [Val.int (numW w0), Val.int (numW w2), Val.int (numW w3), Val.int z]])),
                some (Val.loc (List.length M)), some (Val.int ↑i), some (Val.loc (List.length M1)), some (Val.loc (List.length M1 + 1)), some (Val.loc (List.length M2 + 3)), none, none]
              (M3 ++ [Cell.lst [Val.str (Str.ofString "=")], Cell.lst [Val.str (Str.ofString ">")], Cell.lst [Val.str (Str.ofString ">")]]) := fun z hz => by
              subst hz
              refine ⟨hp.trans (List.prefix_append _ _), getL_pre (List.prefix_append _ _) hg, allOk_next hws hok o, some (.int (i : Int)), some (.loc M1.length), some (.loc (M1.length + 1)), some (.loc (M2.length + 3)), ?_⟩
              rw [cV_next h0, hcat]
              rfl
            by_cases hgt : w1 = Str.ofString ">"
            · exact .inr ⟨hgt, by omega, fin 1 (by rw [if_pos hgt])⟩
            · exact .inl ⟨hgt, by omega, fin 0 (by rw [if_neg hgt])⟩
          · have o : okRow i [w0, w1, w2, w3] = false := by
              have hs2 : ¬ w1 = Str.ofString "=" ∧ ¬ w1 = Str.ofString ">" := by simpa using hs
              simp [okRow, wd, h0, hs2]
            have hs2 : ¬ w1 = Str.ofString "=" ∧ ¬ w1 = Str.ofString ">" := by simpa using hs
            refine .inl ⟨⟨fun e => hs2.1 e.symm, fun e => hs2.2 e.symm⟩, hbad _ (List.prefix_append _ _) o⟩
        · have o : okRow i (w0 :: wr) = false := by simp [okRow, h0]; omega
          simp [gw3, hpn, hpos, show ¬ (wr.length : Int) + 1 = 4 by omega, -List.map_map]
          exact hbad M3 (List.prefix_refl _) o
      · refine .inr ⟨?_, hbad M3 (List.prefix_refl _) ?_⟩
        · by_cases hg0 : numG w0 = true
          · right
            have : ¬ ∀ x, x ∈ wr.tail → numG x = true := fun z => hall ⟨hg0, z⟩
            simpa using this
          · left; simpa using hg0
        · cases o : okRow i (w0 :: wr) with
          | false => rfl
          | true =>
            simp [okRow, h0] at o
            obtain ⟨o1, o2, o3, o4, o5⟩ := o
            match wr, o1 with
            | [w1, w2, w3], _ =>
              refine absurd ⟨o3, fun x hx => ?_⟩ hall
              simp at hx
              rcases hx with e | e <;> subst e
              · exact o4
              · exact o5
  · obtain ⟨hp, hg, hok, a4, a5, a6, a7, he⟩ := hI
    subst he
    rw [hlen2] at *
    simp
    exact ⟨.inr ⟨hok, rfl⟩, hp⟩

/-! rows, spoilt -/
def locP (p : Nat × List Str) : Val := .loc p.1
structure PrOk (M : Mem) (r n : Nat) (p : Nat × List Str) : Prop where
  ne : p.1 ≠ r
  at_ : getL M p.1 = some (p.2.map Val.str)
  len : p.2.length ≤ n
  ok : ∀ w ∈ p.2, WOk w
structure RwsA (M : Mem) (r q n : Nat) (ps : List (Nat × List Str)) : Prop where
  ne : q ≠ r
  at_ : getL M q = some (ps.map locP)
  len : ps.length ≤ n
  ok : ∀ p ∈ ps, PrOk M r n p
theorem PrOk.kp {M M' : Mem} {r n : Nat} {p : Nat × List Str} (h : PrOk M r n p) (k : Kp r M M') : PrOk M' r n p := ⟨h.ne, k.getL h.at_ h.ne, h.len, h.ok⟩
theorem PrOk.mono {M : Mem} {r n m : Nat} {p : Nat × List Str} (h : PrOk M r n p) (k : n ≤ m) : PrOk M r m p := ⟨h.ne, h.at_, by have := h.len; omega, h.ok⟩
theorem RwsA.kp {M M' : Mem} {r q n : Nat} {ps : List (Nat × List Str)} (h : RwsA M r q n ps) (k : Kp r M M') : RwsA M' r q n ps := ⟨h.ne, k.getL h.at_ h.ne, h.len, fun p hp => (h.ok p hp).kp k⟩
theorem takenO {M : Mem} {r : Nat} {k : Int} (h : RowAt M r) (hk : 0 < k) (hk2 : k < 10000) :
    Oq (F__law_taken [.loc r, .int k] M) (fun v M' => ∃ i : Nat, v = .int (i : Int) ∧ (i : Int) < k ∧ RowAt M' r ∧ Kp r M M' ∧ M'.length = M.length) := (Oq.ofW (taken_spec h hk hk2)).imp fun v M' ⟨i, e, h0, h1, h2⟩ => ⟨i.toNat, by rw [e, Int.toNat_of_nonneg h0], by omega, h2⟩
theorem rows_str {ps : List (Nat × List Str)} {M : Mem} {r n k : Nat} (h : ∀ p ∈ ps, PrOk M r n p) : (ps.map locP).mapM (toD M (k + 2)) = some (ps.map fun p => .list (dVs (p.2.map Val.str))) := by
  induction ps with
  | nil => rfl
  | cons p ps ih =>
    have hp := h p (by simp)
    have e1 : toD M (k + 2) (locP p) = some (.list (dVs (p.2.map Val.str))) := by
      show (match getL M p.1 with
        | some l => (l.mapM (toD M (k + 1))).map PyData.list
        | none => none) = _
      rw [hp.at_]
      show ((p.2.map Val.str).mapM (toD M (k + 1))).map PyData.list = _
      rw [toD_plnM (b := false)]
      · rfl
      · rw [plns_all]
        intro x hx
        obtain ⟨w, hw, e⟩ := List.mem_map.mp hx
        subst e
        simpa [pln] using (hp.ok w hw).ok
    rw [List.map_cons, List.mapM_cons, e1, ih fun p hp => h p (List.mem_cons_of_mem _ hp)]; rfl
theorem rows_lay {ps : List (Nat × List Str)} {M : Mem} {r n : Nat} (h : ∀ p ∈ ps, PrOk M r n p) : PyData.canLayAll0 (ps.map fun p => .list (dVs (p.2.map Val.str))) = true ∧ PyData.depthAll (ps.map fun p => .list (dVs (p.2.map Val.str))) ≤ 2 := by
  induction ps with
  | nil => exact ⟨rfl, Nat.zero_le _⟩
  | cons p ps ih =>
    have hp := h p (by simp)
    obtain ⟨h1, h2⟩ := ih fun p hp => h p (List.mem_cons_of_mem _ hp)
    have hpl : plns false 1 (p.2.map Val.str) = true := by
      rw [plns_all]
      intro x hx
      obtain ⟨w, hw, e⟩ := List.mem_map.mp hx
      subst e
      simpa [pln] using (hp.ok w hw).ok
    obtain ⟨h3, h4⟩ := lay_plns (fun v => lay_pln 1 v) _ hpl
    refine ⟨by rw [List.map_cons]; simp only [PyData.canLayAll0, PyData.canLay0, h3, h1, Bool.and_true], ?_⟩
    rw [List.map_cons]
    simp only [PyData.depthAll, PyData.depth]
    omega
theorem eqD_rows {M : Mem} {r q n b : Nat} {ps : List (Nat × List Str)} (h : RwsA M r q n ps) (hb : getL M b = some []) : eqD (.loc q) (.loc b) M = some ps.isEmpty := by
  show (match toD M 8 (.loc q), toD M 8 (.loc b) with
    | some d, some e => if SeqAt.shaped d && SeqAt.shaped e then some (PyData.eqv d e) else none
    | _, _ => none) = _
  have e1 : toD M 8 (.loc q) = some (.list (ps.map fun p => .list (dVs (p.2.map Val.str)))) := by
    show (match getL M q with
        | some l => (l.mapM (toD M 7)).map PyData.list
        | none => none) = _
    rw [h.at_]
    show ((ps.map locP).mapM (toD M 7)).map PyData.list = _
    rw [rows_str (k := 5) h.ok]; rfl
  have e2 : toD M 8 (.loc b) = some (.list []) := by
    show (match getL M b with
        | some l => (l.mapM (toD M 7)).map PyData.list
        | none => none) = _
    rw [hb]; rfl
  obtain ⟨h1, h2⟩ := rows_lay h.ok
  have s1 : SeqAt.shaped (.list (ps.map fun p => .list (dVs (p.2.map Val.str)))) = true := by
    show (PyData.canLayAll0 _ && decide (PyData.depthAll _ + 1 ≤ 64)) = true
    rw [h1]; simp; omega
  rw [e1, e2]
  simp only
  rw [s1, show SeqAt.shaped (.list []) = true by decide +kernel]
  cases ps <;> rfl
def spW : List Str := ["5", "0", "00", "05", "9", "99", "100", "", "=", ">", "<", "town", "-1", "=="]
theorem spW_ok : ∀ w ∈ spW, WOk w := by
  have h : spW.all (fun w => decide (w.length ≤ 20) && w.cps.toList.all fun c => decide (32 < c ∧ c < 128)) = true := by decide +kernel
  intro w hw
  have := List.all_eq_true.mp h w hw
  rw [Bool.and_eq_true] at this
  exact ⟨of_decide_eq_true this.1, fun c hc => of_decide_eq_true (List.all_eq_true.mp this.2 c hc)⟩
structure SpI (M0 : Mem) (r n : Nat) (i : Nat) (e : Sl) (M : Mem) : Prop where
  k : Kp r M0 M
  row : RowAt M r
  wl : getL M M0.length = some (spW.map Val.str)
  ex : ∃ q ps a3 a4 a5 a6 a7 a8 a9 a10, RwsA M r q (n + i) ps ∧ e = [some (.loc r), some (.loc q), some (.loc M0.length), a3, a4, a5, a6, a7, a8, a9, a10, none, none]
theorem RwsA.pre {M M' : Mem} {r q n : Nat} {ps : List (Nat × List Str)} (h : RwsA M r q n ps) (k : M <+: M') : RwsA M' r q n ps := h.kp (.pre k)
theorem locs_take {ps : List (Nat × List Str)} (a : Nat) : List.take a (ps.map locP) = (ps.take a).map locP := by simp
theorem locs_drop {ps : List (Nat × List Str)} (a : Nat) : List.drop a (ps.map locP) = (ps.drop a).map locP := by simp
theorem cutL_map {α β : Type} (f : α → β) (l : List α) (lo hi : Option Int) : cutL (l.map f) lo hi = (cutL l lo hi).map f := by
  unfold cutL
  rw [List.length_map, ← List.map_drop, ← List.map_take]
theorem getL_lit0 {l : List Val} {t : Mem} : getL (Cell.lst l :: t) 0 = some l := rfl
theorem getL_litS {c : Cell} {t : Mem} {k : Nat} : getL (c :: t) (k + 1) = getL t k := rfl
theorem cut_a1 {α : Type} (xs : List α) (a : Nat) : cutL xs none (some ((a : Int) + 1)) = xs.take (a + 1) := cutL_to xs (a + 1)
theorem cut_b1 {α : Type} (xs : List α) (a : Nat) : cutL xs (some ((a : Int) + 1)) none = xs.drop (a + 1) := cutL_from xs (a + 1)
theorem cut_b2 {α : Type} (xs : List α) (a : Nat) : cutL xs (some ((a : Int) + 2)) none = xs.drop (a + 2) := cutL_from xs (a + 2)
theorem SpI.mk2 {M0 M2 t : Mem} {r n i j : Nat} {a3 a4 a5 a6 a7 a8 a9 a10 : Option Val} (ps' : List (Nat × List Str)) (k : Kp r M0 M2) (row2 : RowAt M2 r) (hr0 : r < M0.length) (wl2 : getL M2 M0.length = some (spW.map Val.str))
    (gt : getL t j = some (ps'.map locP)) (hlen : ps'.length ≤ n + i + 1) (hok : ∀ p ∈ ps', PrOk (M2 ++ t) r (n + i + 1) p) : SpI M0 r n (i + 1) [some (.loc r), some (.loc (M2.length + j)), some (.loc M0.length), a3, a4, a5, a6, a7, a8, a9, a10, none, none] (M2 ++ t) :=
  have := row2.lt
  ⟨k.app t, row2.kp (List.prefix_append _ _), getL_pre (List.prefix_append _ _) wl2, M2.length + j, ps', a3, a4, a5, a6, a7, a8, a9, a10, ⟨by omega, by rw [getL_appk]; exact gt, hlen, hok⟩, rfl⟩
theorem cut_mem {α : Type} {xs : List α} {lo hi : Option Int} {x : α} (h : x ∈ cutL xs lo hi) : x ∈ xs := List.mem_of_mem_drop (List.mem_of_mem_take h)
theorem cut_len2 {α : Type} {xs : List α} {a : Nat} (h : a ≤ xs.length) : (cutL xs (some (a : Int)) (some ((a : Int) + 2))).length + (xs.length - (a + 2)) = xs.length - a := by
  rw [show ((a : Int) + 2) = ((a + 2 : Nat) : Int) by omega, cutL_mid xs a (a + 2) (.inr h) (by omega)]
  simp
  omega
theorem sp_one {M0 M : Mem} {r n i q a : Nat} {ps : List (Nat × List Str)} {a3 a5 a6 a7 a8 a9 a10 : Option Val} {R : Val → Mem → Prop} {B C : Sl → Mem → Prop} (hr0 : r < M0.length) (k : Kp r M0 M) (row : RowAt M r) (wl : getL M M0.length = some (spW.map Val.str)) (h : RwsA M r q (n + i) ps) (hn : n + i ≤ 195) (hal : a ≤ ps.length) :
    swp (b__law_spoilt_0 [some (.loc r), some (.loc q), some (.loc M0.length), a3, some (.int (a : Int)), a5, a6, a7, a8, a9, a10, none, none] M) (SpI M0 r n (i + 1)) R B C (Kt.kE1 noE) := by
  have hl := h.len
  have gq : ∀ t, getL (M ++ t) q = some (ps.map locP) := fun t => getL_pre (List.prefix_append _ _) h.at_
  have gq0 := h.at_
  simp [gq, gq0, getL_app0, getL_appk, getL_lit0, getL_litS, cutL_map, cutL_to, cutL_from, cut_a1, cut_b1, -List.map_take, -List.map_drop]
  refine ⟨by omega, by omega, by omega, ?_⟩
  generalize ht : [Cell.lst (List.take a (List.map locP ps)), Cell.lst (List.drop (a + 1) (List.map locP ps)),
                    Cell.lst (List.take a (List.map locP ps) ++ List.drop (a + 1) (List.map locP ps)), Cell.lst (List.drop a (List.map locP ps)),
                    Cell.lst (List.take a (List.map locP ps)),
                    Cell.lst (List.drop a (List.map locP ps) ++ List.take a (List.map locP ps)),
                    Cell.lst (List.take (a + 1) (List.map locP ps)), Cell.lst (List.drop a (List.map locP ps)),
                    Cell.lst (List.take (a + 1) (List.map locP ps) ++ List.drop a (List.map locP ps)),
                    Cell.lst [Val.loc (List.length M + 2), Val.loc (List.length M + 5), Val.loc (List.length M + 8)]] = t
  have g2 : getL (M ++ t) (M.length + 2) = some ((ps.take a ++ ps.drop (a + 1)).map locP) := by rw [getL_appk, ← ht]; show some _ = some _; simp
  have g5 : getL (M ++ t) (M.length + 5) = some ((ps.drop a ++ ps.take a).map locP) := by rw [getL_appk, ← ht]; show some _ = some _; simp
  have g8 : getL (M ++ t) (M.length + 8) = some ((ps.take (a + 1) ++ ps.drop a).map locP) := by rw [getL_appk, ← ht]; show some _ = some _; simp
  have g9 : getL (M ++ t) (M.length + 9) = some [Val.loc (List.length M + 2), Val.loc (List.length M + 5), Val.loc (List.length M + 8)] := by rw [getL_appk, ← ht]; rfl
  have hold : ∀ p ∈ ps, PrOk (M ++ t) r (n + i + 1) p := fun p hp => ((h.ok p hp).kp (.pre (List.prefix_append _ _))).mono (by omega)
  have hrl := row.lt
  refine (takenO (row.kp (List.prefix_append M t)) (by decide) (by decide)).use fun v M1 hv => ?_
  obtain ⟨c, ev, hc, row1, k1, l1⟩ := hv
  subst ev
  have fin : ∀ (j : Nat) (ps' : List (Nat × List Str)), getL (M ++ t) (M.length + j) = some (ps'.map locP) → ps'.length ≤ n + i + 1 → (∀ p ∈ ps', p ∈ ps) → SpI M0 r n (i + 1) [some (.loc r), some (.loc (M.length + j)), some (.loc M0.length), a3, some (.int (a : Int)), a5, a6, some (.loc (M.length + 9)), a8, a9, a10, none, none] M1 := fun j ps' gj hlen hsub =>
    ⟨(k.app t).trans k1, row1, k1.getL (getL_pre (List.prefix_append _ _) wl) (by omega), M.length + j, ps', _, _, _, _, _, _, _, _, ⟨by omega, k1.getL gj (by omega), hlen, fun p hp => (hold p (hsub p hp)).kp k1⟩, rfl⟩
  have hmem : ∀ {l m : List (Nat × List Str)}, (∀ p ∈ l, p ∈ ps) → (∀ p ∈ m, p ∈ ps) → ∀ p ∈ l ++ m, p ∈ ps := fun hl hm p hp => (List.mem_append.mp hp).elim (hl p) (hm p)
  have g9' := k1.getL g9 (by omega)
  have hc3 : c = 0 ∨ c = 1 ∨ c = 2 := by omega
  rcases hc3 with e | e | e <;> subst e
  · simp [g9']
    exact fin 2 _ g2 (by simp; omega) (hmem (fun p hp => List.mem_of_mem_take hp) (fun p hp => List.mem_of_mem_drop hp))
  · simp [g9']
    exact fin 5 _ g5 (by simp; omega) (hmem (fun p hp => List.mem_of_mem_drop hp) (fun p hp => List.mem_of_mem_take hp))
  · simp [g9']
    exact fin 8 _ g8 (by simp; omega) (hmem (fun p hp => List.mem_of_mem_take hp) (fun p hp => List.mem_of_mem_drop hp))
theorem sp_more {M0 M : Mem} {r n i q a kd : Nat} {word : Str} {ps : List (Nat × List Str)} {a3 a7 a8 a9 a10 : Option Val} {R : Val → Mem → Prop} {B C : Sl → Mem → Prop} (hr0 : r < M0.length) (k : Kp r M0 M) (row : RowAt M r) (wl : getL M M0.length = some (spW.map Val.str)) (h : RwsA M r q (n + i) ps) (hn : n + i ≤ 195) (hal : a < ps.length) (hw : WOk word) (hk : kd < 9) :
    swp (b__law_spoilt_3 [some (.loc r), some (.loc q), some (.loc M0.length), a3, some (.int (a : Int)), some (.int (kd : Int)), some (.str word), a7, a8, a9, a10, none, none] M) (SpI M0 r n (i + 1)) R B C (Kt.kE1 noE) := by
  have hl := h.len
  have gq : ∀ t, getL (M ++ t) q = some (ps.map locP) := fun t => getL_pre (List.prefix_append _ _) h.at_
  have gq0 := h.at_
  have hat : atI (ps.map locP) (a : Int) = some (.loc ps[a].1) := atI_nat (by rw [List.getElem?_map, List.getElem?_eq_getElem hal]; rfl)
  have hp := h.ok _ (List.getElem_mem hal)
  have gp0 := hp.at_
  simp [gq0, hat, gp0, -t__law_spoilt_2_ap]
  have hpl := hp.len
  generalize ps[a] = p at hat hp gp0 hpl
  refine (takenO row (by omega) (by omega)).use fun v M1 hv => ?_
  obtain ⟨s, ev, hs, row1, k1, l1⟩ := hv
  subst ev
  have h := h.kp k1
  have hp := hp.kp k1
  have wl := k1.getL wl (by omega)
  have k := k.trans k1
  have gq : ∀ t, getL (M1 ++ t) q = some (ps.map locP) := fun t => getL_pre (List.prefix_append _ _) h.at_
  have gq0 := h.at_
  have gp0 := hp.at_
  have gp : ∀ t, getL (M1 ++ t) p.1 = some (p.2.map Val.str) := fun t => getL_pre (List.prefix_append _ _) hp.at_
  obtain ⟨c1, hc1, b1⟩ : ∃ c : Nat, (s : Int) + (kd : Int) % 2 = (c : Int) ∧ s ≤ c := ⟨s + kd % 2, by omega, by omega⟩
  obtain ⟨c2, hc2, b2⟩ : ∃ c : Nat, (kd : Int) / 5 = (c : Int) ∧ c ≤ 1 := ⟨kd / 5, by omega, by omega⟩
  simp [gq0, gq, hat, gp0, gp, getL_app0, getL_appk, getL_lit0, getL_litS, hc1, hc2, cutL_map, cutL_to, cutL_from, cut_a1, cut_b1, -List.map_take, -List.map_drop, -List.map_replicate]
  have hsum : (List.map List.length (List.replicate c2 [Val.str word])).sum = c2 := by
    have : c2 = 0 ∨ c2 = 1 := by omega
    rcases this with e | e <;> subst e <;> rfl
  rw [hsum]
  have hrl := row1.lt
  refine ⟨⟨by omega, by omega⟩, by omega, by omega, by omega, by omega, SpI.mk2 (ps.take a ++ (M1.length + 5, p.2.take s ++ (List.replicate c2 word ++ p.2.drop c1)) :: ps.drop (a + 1)) k row1 hr0 wl ?_ ?_ ?_⟩
  · show some _ = some _
    simp [locP]
  · simp; omega
  · have hold : ∀ t, ∀ p ∈ ps, PrOk (M1 ++ t) r (n + i + 1) p := fun t p hp => ((h.ok p hp).kp (.pre (List.prefix_append _ _))).mono (by omega)
    intro x hx
    rcases List.mem_append.mp hx with hx | hx
    · exact hold _ x (List.mem_of_mem_take hx)
    · rcases List.mem_cons.mp hx with e | hx
      · subst e
        refine ⟨by show M1.length + 5 ≠ r; omega, ?_, ?_, ?_⟩
        · show getL _ (M1.length + 5) = _
          rw [getL_appk]
          show some _ = some _
          simp
        · simp; omega
        · intro w hm
          rcases List.mem_append.mp hm with hm | hm
          · exact hp.ok w (List.mem_of_mem_take hm)
          · rcases List.mem_append.mp hm with hm | hm
            · rw [List.eq_of_mem_replicate hm]; exact hw
            · exact hp.ok w (List.mem_of_mem_drop hm)
      · exact hold _ x (List.mem_of_mem_drop hx)
theorem sp_mid {M0 M : Mem} {r n i q a : Nat} {ps : List (Nat × List Str)} {a3 a5 a6 a7 a8 a9 a10 : Option Val} {R : Val → Mem → Prop} {B C : Sl → Mem → Prop} (hr0 : r < M0.length) (k : Kp r M0 M) (row : RowAt M r) (wl : getL M M0.length = some (spW.map Val.str)) (h : RwsA M r q (n + i) ps) (hn : n + i ≤ 195) (ha : ps ≠ [] → a < ps.length) (ha2 : ps = [] → a = 0) :
    swp (t__law_spoilt_4 [some (.loc r), some (.loc q), some (.loc M0.length), a3, some (.int (a : Int)), a5, a6, a7, a8, a9, a10, none, none] M) (SpI M0 r n (i + 1)) R B C (Kt.kE1 noE) := by
  have hne : M0.length ≠ r := by omega
  have hl := h.len
  simp [-b__law_spoilt_0_ap, -b__law_spoilt_3_ap]
  refine (takenO row (by decide) (by decide)).use fun v M1 hv => ?_
  obtain ⟨kd, ev, hkd, row1, k1, l1⟩ := hv
  subst ev
  simp [-b__law_spoilt_0_ap, -b__law_spoilt_3_ap]
  refine (takenO row1 (by decide) (by decide)).use fun v M2 hv => ?_
  obtain ⟨wi, ev, hwi, row2, k2, l2⟩ := hv
  subst ev
  have k02 : Kp r M M2 := k1.trans k2
  have wl2 := k02.getL wl hne
  have h2 := h.kp k02
  have hwl : wi < spW.length := by have : spW.length = 14 := rfl; omega
  have hat : atI (spW.map Val.str) (wi : Int) = some (.str spW[wi]) := atI_nat (by rw [List.getElem?_map, List.getElem?_eq_getElem hwl]; rfl)
  have hw := spW_ok _ (List.getElem_mem hwl)
  generalize spW[wi] = word at hat hw
  have k := k.trans k02
  clear k1 k2 wl row row1 h k02
  have eq0 := eqD_rows (M := M2 ++ [.lst []]) (b := M2.length) (h2.pre (List.prefix_append _ _)) ((getL_app0 _ _).trans rfl)
  have gq : ∀ t, getL (M2 ++ t) q = some (ps.map locP) := fun t => getL_pre (List.prefix_append _ _) h2.at_
  simp [wl2, hat, eq0, gq, getL_appk, getL_lit0, getL_litS, cutL_map, cutL_to, cutL_from, cut_b2, -b__law_spoilt_0_ap, -b__law_spoilt_3_ap, -List.map_take, -List.map_drop]
  have hal : a ≤ ps.length := by
    by_cases e : ps = []
    · rw [ha2 e]; omega
    · have := ha e; omega
  have hold : ∀ t, ∀ p ∈ ps, PrOk (M2 ++ t) r (n + i + 1) p := fun t p hp => ((h2.ok p hp).kp (.pre (List.prefix_append _ _))).mono (by omega)
  have hrl := row2.lt
  have f0 : min a ps.length ≤ 16777215 ∧ min a ps.length + 1 + (ps.length - a) ≤ 16777216 ∧ SpI M0 r n (i + 1)
      [some (.loc r), some (.loc (M2.length + 6)), some (.loc M0.length), a3, some (.int (a : Int)), some (.int (kd : Int)), some (.str word), a7, a8, a9, a10, none, none]
      (M2 ++ [Cell.lst [], Cell.lst (List.take a (ps.map locP)), Cell.lst [Val.str word], Cell.lst [Val.loc (M2.length + 2)], Cell.lst (List.take a (ps.map locP) ++ [Val.loc (M2.length + 2)]), Cell.lst (List.drop a (ps.map locP)),
        Cell.lst (List.take a (ps.map locP) ++ Val.loc (M2.length + 2) :: List.drop a (ps.map locP))]) := by
    refine ⟨by omega, by omega, SpI.mk2 (ps.take a ++ (M2.length + 2, [word]) :: ps.drop a) k row2 hr0 wl2 ?_ ?_ ?_⟩
    · show some _ = some _
      simp [locP]
    · simp; omega
    · intro p hp
      rcases List.mem_append.mp hp with hp | hp
      · exact hold _ p (List.mem_of_mem_take hp)
      · rcases List.mem_cons.mp hp with e | hp
        · subst e
          exact ⟨by show M2.length + 2 ≠ r; omega, by show getL _ (M2.length + 2) = _; rw [getL_appk]; rfl, by simp, fun w hm => by rw [List.mem_singleton.mp hm]; exact hw⟩
        · exact hold _ p (List.mem_of_mem_drop hp)
  by_cases hps : ps = []
  · exact .inr ⟨hps, f0⟩
  refine .inl ⟨hps, ?_⟩
  by_cases hk0 : kd = 0
  · exact .inr ⟨hk0, f0⟩
  refine .inl ⟨hk0, ?_⟩
  have hM3 : Kp r M0 (M2 ++ [Cell.lst []]) := k.app _
  have row3 : RowAt (M2 ++ [Cell.lst []]) r := row2.kp (List.prefix_append _ _)
  have wl3 : getL (M2 ++ [Cell.lst []]) M0.length = some (spW.map Val.str) := getL_pre (List.prefix_append _ _) wl2
  by_cases hk1 : (kd : Int) = 1
  · exact .inr ⟨hk1, sp_one hr0 hM3 row3 wl3 (h2.pre (List.prefix_append _ _)) hn hal⟩
  refine .inl ⟨hk1, ?_⟩
  by_cases hk2 : (kd : Int) = 2
  · have hcl := cut_len2 hal
    refine .inr ⟨hk2, by omega, by omega, SpI.mk2 (ps.take a ++ ((cutL ps (some (a : Int)) (some ((a : Int) + 2))).reverse ++ ps.drop (a + 2))) k row2 hr0 wl2 ?_ ?_ ?_⟩
    · show some _ = some _
      simp
    · simp; omega
    · intro p hp
      rcases List.mem_append.mp hp with hp | hp
      · exact hold _ p (List.mem_of_mem_take hp)
      · rcases List.mem_append.mp hp with hp | hp
        · exact hold _ p (cut_mem (List.mem_reverse.mp hp))
        · exact hold _ p (List.mem_of_mem_drop hp)
  · exact .inl ⟨hk2, sp_more hr0 hM3 row3 wl3 (h2.pre (List.prefix_append _ _)) hn (ha hps) hw (by omega)⟩
theorem sp_body {M0 M : Mem} {r n i q : Nat} {ps : List (Nat × List Str)} {a3 a4 a5 a6 a7 a8 a9 a10 : Option Val} {R : Val → Mem → Prop} {B C : Sl → Mem → Prop} (hr0 : r < M0.length) (k : Kp r M0 M) (row : RowAt M r) (wl : getL M M0.length = some (spW.map Val.str)) (h : RwsA M r q (n + i) ps) (hn : n + i ≤ 195) :
    swp (b__law_spoilt_5 [some (.loc r), some (.loc q), some (.loc M0.length), a3, a4, a5, a6, a7, a8, a9, a10, none, none] M) (SpI M0 r n (i + 1)) R B C (Kt.kE1 noE) := by
  have hne : M0.length ≠ r := by omega
  have hl := h.len
  have eq0 := eqD_rows (M := M ++ [.lst []]) (b := M.length) (h.kp (.pre (List.prefix_append _ _))) ((getL_app0 _ _).trans rfl)
  have gq : ∀ t, getL (M ++ t) q = some (ps.map locP) := fun t => getL_pre (List.prefix_append _ _) h.at_
  have k1 : Kp r M0 (M ++ [Cell.lst []]) := k.app _
  have row1 : RowAt (M ++ [Cell.lst []]) r := row.kp (List.prefix_append _ _)
  have wl1 : getL (M ++ [Cell.lst []]) M0.length = some (spW.map Val.str) := getL_pre (List.prefix_append _ _) wl
  have h1 := h.pre (List.prefix_append M [Cell.lst []])
  simp [eq0, gq, -t__law_spoilt_4_ap]
  by_cases hps : ps = []
  · exact .inr ⟨hps, sp_mid (a := 0) hr0 k1 row1 wl1 h1 hn (fun e => absurd hps e) (fun _ => rfl)⟩
  · refine .inl ⟨hps, ?_⟩
    have hpos : 0 < ps.length := List.length_pos_iff.mpr hps
    refine (takenO row1 (by omega) (by omega)).use fun v M1 hv => ?_
    obtain ⟨a, ev, ha, row2, k2, l2⟩ := hv
    subst ev
    simp [-t__law_spoilt_4_ap]
    exact sp_mid hr0 (k1.trans k2) row2 (k2.getL wl1 hne) (h1.kp k2) hn (fun _ => by omega) (fun e => absurd e hps)
/-- rows spoilt, and joined -/
theorem spoilt_x {M : Mem} {r q n : Nat} {ps : List (Nat × List Str)} (row : RowAt M r) (h : RwsA M r q n ps) (hn : n ≤ 190) :
    Oq (F__law_spoilt [.loc r, .loc q] M) (fun v M' => ∃ R, v = .str (txtOf R) ∧ RowsOk 200 R ∧ RowAt M' r ∧ Kp r M M') := by
  have hrl := row.lt
  constructor
  unfold F__law_spoilt
  simp [-t__law_spoilt_6_ap]
  rw [t__law_spoilt_6_ap]
  simp [-b__law_spoilt_5_ap]
  refine (takenO (row.kp (List.prefix_append M _)) (by decide) (by decide)).use fun v M1 hv => ?_
  obtain ⟨c, ev, hc, row1, k1, l1⟩ := hv
  subst ev
  simp [-b__law_spoilt_5_ap]
  refine ⟨by omega, ?_⟩
  have kM : Kp r M M1 := (Kp.pre (List.prefix_append _ _)).trans k1
  have hw1 : getL M1 M.length = some (spW.map Val.str) := k1.getL ((getL_app0 _ _).trans rfl) (by omega)
  refine o_for_rng (SpI M r n) ⟨kM, row1, hw1, q, ps, _, _, _, _, _, _, _, _, h.kp kM, rfl⟩ (fun i e M' hi hI => ?_) (fun e M' hI => ?_)
  · obtain ⟨k, row', wl, q', ps', a3, a4, a5, a6, a7, a8, a9, a10, h', he⟩ := hI
    subst he
    simp [-b__law_spoilt_5_ap]
    exact sp_body hrl k row' wl h' (by omega)
  · obtain ⟨k, row', wl, q', ps', a3, a4, a5, a6, a7, a8, a9, a10, h', he⟩ := hI
    subst he
    have hl := h'.len
    have hq := h'.at_
    simp
    rw [itSeq_l hq]
    refine ⟨_, rfl, ?_⟩
    have hl1 : ∀ p ∈ ps', (lineOf p.2).length ≤ 4200 := fun p hp => by
      have := line_len (n := 200) ⟨(by have := (h'.ok p hp).len; omega), (h'.ok p hp).ok⟩
      omega
    refine o_lc_ix (ps'.map locP) (fun i => .str (lineOf (ps'.getD i (0, [])).2)) (b := (ps'.map locP).length) (Nat.le_refl _) (by rw [List.length_map]; show _ ≤ 16777216; omega) (fun i M2 _ hp => nxt_lst (getL_pre hp hq)) (fun i x M2 hx hp _ => ?_) (fun M2 hp hg => ?_)
    · rw [List.getElem?_map] at hx
      cases hc : ps'[i]? with
      | none => rw [hc] at hx; cases hx
      | some p =>
        rw [hc] at hx
        cases hx
        have hm := List.mem_of_getElem? hc
        have ok := h'.ok p hm
        have gp := getL_pre hp ok.at_
        have lb : (Str.ofString " ").length = 1 := by decide +kernel
        have hsum : (p.2.map (·.length)).sum ≤ p.2.length * 20 := by
          have := sum_le (l := p.2.map (·.length)) (b := 20) fun x hx => by
            obtain ⟨w, hw, e⟩ := List.mem_map.mp hx
            rw [← e]; exact (ok.ok w hw).len
          simpa using this
        have hpl := ok.len
        refine ⟨_, rfl, ?_⟩
        simp [isTyM, locP, gp, strsOf_map, lb, hc]
        exact ⟨by omega, by unfold lineOf; rw [blank_eq, join_eq]⟩
    · have hgl : getL M2 M'.length = some ((ps'.map fun p => lineOf p.2).map Val.str) := by
        rw [hg]
        congr 1
        refine List.ext_getElem? fun i => ?_
        unfold fV
        rw [List.getElem?_map, List.getElem?_map, List.getElem?_map]
        cases hc : ps'[i]? with
        | none =>
          have := List.getElem?_eq_none_iff.mp hc
          rw [List.getElem?_eq_none_iff.mpr (by simpa using this)]; rfl
        | some p =>
          have := (List.getElem?_eq_some_iff.mp hc).1
          rw [List.getElem?_range (by simpa using this)]
          simp [hc]
      have ln : (Str.ofString "\n").length = 1 := by decide +kernel
      have hsum : ((ps'.map fun p => lineOf p.2).map (·.length)).sum ≤ ps'.length * 4200 := by
        have := sum_le (l := (ps'.map fun p => lineOf p.2).map (·.length)) (b := 4200) fun x hx => by
          obtain ⟨w, hw, e⟩ := List.mem_map.mp hx
          obtain ⟨p, hp, e2⟩ := List.mem_map.mp hw
          rw [← e, ← e2]; exact hl1 p hp
        simpa using this
      simp [isTyM, hgl, strsOf_map, ln, -List.map_map]
      refine ⟨by omega, ps'.map (·.2), ?_, ⟨by simp; omega, fun x hx => ?_⟩, row'.kp hp, k.trans (.pre hp)⟩
      · unfold txtOf
        rw [line_eq, join_eq, List.map_map]; rfl
      · obtain ⟨p, hpm, e⟩ := List.mem_map.mp hx
        rw [← e]
        exact ⟨by have := (h'.ok p hpm).len; omega, (h'.ok p hpm).ok⟩

theorem gLn (M t : Mem) (k : Nat) : getL (M ++ t) (M.length + k) = getL t k := getL_appk M t k
/-! a word -/
abbrev wRet (w0 : Val) (M : Mem) : Val → Mem → Prop := fun w M3 => w = w0 ∧ M <+: M3
theorem word_of {F : SO} {w : Val} {M : Mem} (key : swp F (fun _ _ => False) (wRet w M) (fun _ _ => False) (fun _ _ => False) (fun _ _ _ => False)) : ∃ M3, M <+: M3 ∧ F = .rt w M3 := by
  rw [swp_eq] at key
  cases F with
  | rt w' M3 =>
    obtain ⟨e, hp3⟩ : w' = w ∧ M <+: M3 := key
    subst e
    exact ⟨M3, hp3, rfl⟩
  | _ => exact (show False from key).elim
theorem word_ok {n0 : Nat} {oc : Mem → Out Val} {M M2 : Mem} {v : Val} (h : oc (M ++ [.lst []]) = .ok v M2) (hp : M ++ [.lst []] <+: M2) : ∃ M3, M <+: M3 ∧ Fw__law_word n0 oc [some (.loc n0), none, none, none, none, none] M = .rt (.tup [.str "", v]) M3 := by
  have g : getL M2 M.length = some [] := getL_pre hp (getL_append_new M [])
  refine word_of ?_
  unfold Fw__law_word
  simp [h, isTyM, getL_ok g, g, getL_ok (getL_append_new M []), getL_set g, -t__law_word_7_ap]
  exact ⟨rfl, pre_set ((List.prefix_append _ _).trans hp) (Nat.le_refl _)⟩
theorem in_flat {M : Mem} {n : Nat} {x : Val} {l : List Val} (g : getL M n = some l) (hx : flat x = true) (hl : l.all flat = true) : inD x (.loc n) M = some (l.any fun z => eqF z x) := by
  unfold inD
  simp only [g]
  rw [if_pos (by rw [hx, hl]; rfl)]
theorem word_BadText {n0 : Nat} {oc : Mem → Out Val} {M M2 : Mem} {i : Int} (h : oc (M ++ [.lst []]) = .ex ⟨"BadText", [("row", i)]⟩ M2) (hp : M ++ [.lst []] <+: M2) : ∃ M3, M <+: M3 ∧ Fw__law_word n0 oc [some (.loc n0), none, none, none, none, none] M = .rt (.tup [.str "text", .int i]) M3 := by
  have g : getL M2 M.length = some [] := getL_pre hp (getL_append_new M [])
  have hpM : M <+: M2 := (List.prefix_append _ _).trans hp
  have h0 : (("BadText" : Str) == ("BadTown" : Str)) = false := by decide +kernel
  have h1 : (("BadText" : Str) == ("NoCorner" : Str)) = false := by decide +kernel
  have h2 : (("BadText" : Str) == ("NoStreet" : Str)) = false := by decide +kernel
  have h3 : (("BadText" : Str) == ("NoRound" : Str)) = false := by decide +kernel
  have h4 : (("BadText" : Str) == ("TooMany" : Str)) = false := by decide +kernel
  have h5 : (("BadText" : Str) == ("BadTimes" : Str)) = false := by decide +kernel
  have h6 : (("BadText" : Str) == ("Uneven" : Str)) = false := by decide +kernel
  have h7 : (("BadText" : Str) == ("NotOneWay" : Str)) = false := by decide +kernel
  have h8 : (("BadText" : Str) == ("BadDeed" : Str)) = false := by decide +kernel
  have h9 : (("BadText" : Str) == ("Halted" : Str)) = false := by decide +kernel
  have k0 : (("text" : Str) = ("town" : Str)) = False := eq_false (by decide +kernel)
  have k1 : (("text" : Str) = ("times" : Str)) = False := eq_false (by decide +kernel)
  have k2 : (("text" : Str) = ("twoway" : Str)) = False := eq_false (by decide +kernel)
  have k3 : (("text" : Str) = ("deed" : Str)) = False := eq_false (by decide +kernel)
  have k4 : (("text" : Str) = ("halted" : Str)) = False := eq_false (by decide +kernel)
  have k5 : (("text" : Str) = ("uneven" : Str)) = False := eq_false (by decide +kernel)
  have k7 : (("text" : Str) = ("corner" : Str)) = False := eq_false (by decide +kernel)
  have k8 : (("text" : Str) = ("street" : Str)) = False := eq_false (by decide +kernel)
  have k9 : (("text" : Str) = ("round" : Str)) = False := eq_false (by decide +kernel)
  have k10 : (("text" : Str) = ("many" : Str)) = False := eq_false (by decide +kernel)
  refine word_of ?_
  unfold Fw__law_word
  simp [h, isTyM, getL_ok g, g, getL_ok (getL_append_new M []), List.lookup, h0, h1, h2, h3, h4, h5, h6, h7, h8, h9, k0, k1, k2, k3, k4, k5, k7, k8, k9, k10, -t__law_word_7_ap]
  simp [getL_app0, gLn, isTyM, List.lookup, getL_ok, flat, eqF, List.findIdx?, List.findIdx?.go, h0, h1, h2, h3, h4, h5, h6, h7, h8, h9, k0, k1, k2, k3, k4, k5, k7, k8, k9, k10, -t__law_word_6_ap]
  simp [getL_app0, gLn, isTyM, List.lookup, getL_ok, flat, eqF, List.findIdx?, List.findIdx?.go, h0, h1, h2, h3, h4, h5, h6, h7, h8, h9, k0, k1, k2, k3, k4, k5, k7, k8, k9, k10, -t__law_word_5_ap]
  simp [getL_app0, gLn, isTyM, List.lookup, getL_ok, flat, eqF, List.findIdx?, List.findIdx?.go, h0, h1, h2, h3, h4, h5, h6, h7, h8, h9, k0, k1, k2, k3, k4, k5, k7, k8, k9, k10, -t__law_word_4_ap]
  simp [getL_app0, gLn, isTyM, List.lookup, getL_ok, flat, eqF, List.findIdx?, List.findIdx?.go, h0, h1, h2, h3, h4, h5, h6, h7, h8, h9, k0, k1, k2, k3, k4, k5, k7, k8, k9, k10, -t__law_word_3_ap]
  simp [getL_app0, gLn, isTyM, List.lookup, getL_ok, flat, eqF, List.findIdx?, List.findIdx?.go, h0, h1, h2, h3, h4, h5, h6, h7, h8, h9, k0, k1, k2, k3, k4, k5, k7, k8, k9, k10, -t__law_word_2_ap]
  refine ⟨_, rfl, ?_⟩
  simp [getL_app0, gLn, List.lookup, h0, h1, h2, h3, h4, h5, h6, h7, h8, h9, k0, k1, k2, k3, k4, k5, k7, k8, k9, k10, -t__law_word_1_ap]
  simp [getL_app0, gLn, List.lookup, h0, h1, h2, h3, h4, h5, h6, h7, h8, h9, k0, k1, k2, k3, k4, k5, k7, k8, k9, k10, -t__law_word_0_ap]
  simp [getL_app0, gLn, List.lookup, h0, h1, h2, h3, h4, h5, h6, h7, h8, h9, k0, k1, k2, k3, k4, k5, k7, k8, k9, k10]
  exact ⟨_, _, ⟨rfl, rfl⟩, rfl, _, by simp [List.lookup], rfl, hpM.trans (List.prefix_append _ _)⟩
theorem word_BadTown {n0 : Nat} {oc : Mem → Out Val} {M M2 : Mem} {i : Int} (h : oc (M ++ [.lst []]) = .ex ⟨"BadTown", [("number", i)]⟩ M2) (hp : M ++ [.lst []] <+: M2) : ∃ M3, M <+: M3 ∧ Fw__law_word n0 oc [some (.loc n0), none, none, none, none, none] M = .rt (.tup [.str "town", .int i]) M3 := by
  have g : getL M2 M.length = some [] := getL_pre hp (getL_append_new M [])
  have hpM : M <+: M2 := (List.prefix_append _ _).trans hp
  have h1 : (("BadTown" : Str) == ("NoCorner" : Str)) = false := by decide +kernel
  have h2 : (("BadTown" : Str) == ("NoStreet" : Str)) = false := by decide +kernel
  have h3 : (("BadTown" : Str) == ("NoRound" : Str)) = false := by decide +kernel
  have h4 : (("BadTown" : Str) == ("TooMany" : Str)) = false := by decide +kernel
  have h5 : (("BadTown" : Str) == ("BadTimes" : Str)) = false := by decide +kernel
  have h6 : (("BadTown" : Str) == ("Uneven" : Str)) = false := by decide +kernel
  have h7 : (("BadTown" : Str) == ("NotOneWay" : Str)) = false := by decide +kernel
  have h8 : (("BadTown" : Str) == ("BadDeed" : Str)) = false := by decide +kernel
  have h9 : (("BadTown" : Str) == ("Halted" : Str)) = false := by decide +kernel
  have h10 : (("BadTown" : Str) == ("BadText" : Str)) = false := by decide +kernel
  have k1 : (("town" : Str) = ("times" : Str)) = False := eq_false (by decide +kernel)
  have k2 : (("town" : Str) = ("twoway" : Str)) = False := eq_false (by decide +kernel)
  have k3 : (("town" : Str) = ("deed" : Str)) = False := eq_false (by decide +kernel)
  have k4 : (("town" : Str) = ("halted" : Str)) = False := eq_false (by decide +kernel)
  have k5 : (("town" : Str) = ("uneven" : Str)) = False := eq_false (by decide +kernel)
  have k6 : (("town" : Str) = ("text" : Str)) = False := eq_false (by decide +kernel)
  have k7 : (("town" : Str) = ("corner" : Str)) = False := eq_false (by decide +kernel)
  have k8 : (("town" : Str) = ("street" : Str)) = False := eq_false (by decide +kernel)
  have k9 : (("town" : Str) = ("round" : Str)) = False := eq_false (by decide +kernel)
  have k10 : (("town" : Str) = ("many" : Str)) = False := eq_false (by decide +kernel)
  refine word_of ?_
  unfold Fw__law_word
  simp [h, isTyM, getL_ok g, g, getL_ok (getL_append_new M []), List.lookup, h1, h2, h3, h4, h5, h6, h7, h8, h9, h10, k1, k2, k3, k4, k5, k6, k7, k8, k9, k10, -t__law_word_7_ap]
  simp [getL_app0, gLn, isTyM, List.lookup, getL_ok, flat, eqF, List.findIdx?, List.findIdx?.go, h1, h2, h3, h4, h5, h6, h7, h8, h9, h10, k1, k2, k3, k4, k5, k6, k7, k8, k9, k10, -t__law_word_6_ap]
  simp [getL_app0, gLn, isTyM, List.lookup, getL_ok, flat, eqF, List.findIdx?, List.findIdx?.go, h1, h2, h3, h4, h5, h6, h7, h8, h9, h10, k1, k2, k3, k4, k5, k6, k7, k8, k9, k10, -t__law_word_5_ap]
  simp [getL_app0, gLn, isTyM, List.lookup, getL_ok, flat, eqF, List.findIdx?, List.findIdx?.go, h1, h2, h3, h4, h5, h6, h7, h8, h9, h10, k1, k2, k3, k4, k5, k6, k7, k8, k9, k10, -t__law_word_4_ap]
  simp [getL_app0, gLn, isTyM, List.lookup, getL_ok, flat, eqF, List.findIdx?, List.findIdx?.go, h1, h2, h3, h4, h5, h6, h7, h8, h9, h10, k1, k2, k3, k4, k5, k6, k7, k8, k9, k10, -t__law_word_3_ap]
  simp [getL_app0, gLn, isTyM, List.lookup, getL_ok, flat, eqF, List.findIdx?, List.findIdx?.go, h1, h2, h3, h4, h5, h6, h7, h8, h9, h10, k1, k2, k3, k4, k5, k6, k7, k8, k9, k10, -t__law_word_2_ap]
  simp [getL_app0, gLn, List.lookup, h1, h2, h3, h4, h5, h6, h7, h8, h9, h10, k1, k2, k3, k4, k5, k6, k7, k8, k9, k10, -t__law_word_1_ap]
  simp [getL_app0, gLn, List.lookup, h1, h2, h3, h4, h5, h6, h7, h8, h9, h10, k1, k2, k3, k4, k5, k6, k7, k8, k9, k10, -t__law_word_0_ap]
  simp [getL_app0, gLn, List.lookup, h1, h2, h3, h4, h5, h6, h7, h8, h9, h10, k1, k2, k3, k4, k5, k6, k7, k8, k9, k10]
  refine .inr ⟨?_, ?_⟩
  · rw [in_flat (by rw [gLn]; rfl) rfl (by decide +kernel)]
    exact congrArg some (by decide +kernel)
  · refine ⟨_, _, ⟨rfl, rfl⟩, ?_, _, ?_, rfl, hpM.trans (List.prefix_append _ _)⟩
    · simp
    · simp [List.lookup]
/-! words of what is refused -/
abbrev WordOf (ex : Ex) (w : Val) : Prop := ∀ (n0 : Nat) (oc : Mem → Out Val) (M M2 : Mem), oc (M ++ [.lst []]) = .ex ex M2 → M ++ [.lst []] <+: M2 → ∃ M3, M <+: M3 ∧ Fw__law_word n0 oc [some (.loc n0), none, none, none, none, none] M = .rt w M3
def wI (s : Str) (i : Int) : Val := .tup [.str s, .int i]
theorem wo_text (i : Int) : WordOf ⟨"BadText", [("row", i)]⟩ (wI "text" i) := fun _ _ _ _ h hp => word_BadText h hp
theorem wo_town (i : Int) : WordOf ⟨"BadTown", [("number", i)]⟩ (wI "town" i) := fun _ _ _ _ h hp => word_BadTown h hp
theorem eword_g {P : Val → Prop} {S : Val → Prop} {fb : EF} {e : Sl} {M : Mem} (h : ∀ M', M <+: M' → Xq (fb e M') (fun v M2 => P v ∧ M' <+: M2) (fun x M2 => (∃ w, WordOf x w ∧ S w) ∧ M' <+: M2)) :
    Oq (eWord 6 Fw__law_word fb e M) (fun v M' => ((∃ v0, P v0 ∧ v = .tup [.str (Str.ofString ""), v0]) ∨ S v) ∧ M <+: M') := by
  have fin : ∀ w M3, M ++ [.fn] <+: M3 → Fw__law_word M.length (fun M' => fb e M') [some (.loc M.length), none, none, none, none, none] (M ++ [.fn]) = .rt w M3 → ((∃ v0, P v0 ∧ w = .tup [.str (Str.ofString ""), v0]) ∨ S w) → Oq (eWord 6 Fw__law_word fb e M) (fun v M' => ((∃ v0, P v0 ∧ v = .tup [.str (Str.ofString ""), v0]) ∨ S v) ∧ M <+: M') := fun w M3 hp3 e3 hw => by
    constructor
    have e4 : eWord 6 Fw__law_word fb e M = .ok w M3 := by
      unfold eWord
      show (match Fw__law_word M.length (fun M' => fb e M') [some (.loc M.length), none, none, none, none, none] (M ++ [.fn]) with
        | .nx _ M1 => Out.ok Val.non M1
        | .rt v M1 => .ok v M1
        | _ => .bad) = _
      rw [e3]
    rw [e4]
    rw [owp_eq]
    exact ⟨hw, (List.prefix_append _ _).trans hp3⟩
  rcases (h (M ++ [.fn] ++ [.lst []]) ((List.prefix_append _ _).trans (List.prefix_append _ _))).get with ⟨v, M2, e1, hv, hp⟩ | ⟨x, M2, e1, ⟨w, hw, hs⟩, hp⟩
  · obtain ⟨M3, hp3, e3⟩ := word_ok (n0 := M.length) (oc := fun M' => fb e M') (M := M ++ [.fn]) e1 hp
    exact fin _ M3 hp3 e3 (.inl ⟨v, hv, rfl⟩)
  · obtain ⟨M3, hp3, e3⟩ := hw M.length (fun M' => fb e M') (M ++ [.fn]) M2 e1 hp
    exact fin _ M3 hp3 e3 (.inr hs)

/-- held shut, else the conclusion is run -/
structure Wq (o : Out Val) (Q : Val → Mem → Prop) : Prop where
  h : o.wp Q noE
theorem Wq.imp {o : Out Val} {Q Q' : Val → Mem → Prop} {E' : Ex → Mem → Prop} (h : Wq o Q) (hq : ∀ a M, Q a M → Q' a M) : o.wp Q' E' := Out.wp_mono h.h hq fun _ _ z => z.elim

def natV (k : Nat) : Val := .int (k : Int)
theorem inD_nat {M : Mem} {d k : Nat} {L : List Nat} (h : getL M d = some (L.map natV)) : inD (.int (k : Int)) (.loc d) M = some (decide (k ∈ L)) := by
  have hf : (L.map natV).all flat = true := by simp [natV, flat]
  unfold inD
  simp only [h, hf, flat]
  simp
  rw [Bool.eq_iff_iff]
  simp [natV, eqF]
  constructor
  · rintro ⟨x, hx, e⟩
    have : x = k := by omega
    exact this ▸ hx
  · exact fun hk => ⟨k, hk, rfl⟩
theorem inD_natT {M : Mem} {k : Nat} {L : List Nat} : inD (.int (k : Int)) (.tup (L.map natV)) M = some (decide (k ∈ L)) := by
  have hf : (L.map natV).all flat = true := by simp [natV, flat]
  unfold inD
  simp only [hf, flat]
  simp
  rw [Bool.eq_iff_iff]
  simp [natV, eqF]
  constructor
  · rintro ⟨x, hx, e⟩
    have : x = k := by omega
    exact this ▸ hx
  · exact fun hk => ⟨k, hk, rfl⟩
theorem natV_at {L : List Nat} {k x : Nat} (h : L[k]? = some x) : atI (L.map natV) (k : Int) = some (.int (x : Int)) := atI_nat (by rw [List.getElem?_map, h]; rfl)

/-! data of ints -/
def dN (L : List Nat) : List PyData := L.map fun k : Nat => PyData.int (k : Int)
theorem mapM_nat (M : Mem) (k : Nat) : ∀ L : List Nat, (L.map natV).mapM (toD M (k + 1)) = some (dN L)
  | [] => rfl
  | x :: L => by
    rw [List.map_cons, List.mapM_cons, mapM_nat M k L]
    rfl
theorem lay_dN : ∀ L : List Nat, PyData.canLayAll0 (dN L) = true
  | [] => rfl
  | x :: L => by show (true && PyData.canLayAll0 (dN L)) = true; rw [lay_dN L]; rfl
theorem depth_dN : ∀ L : List Nat, PyData.depthAll (dN L) = 0
  | [] => rfl
  | x :: L => by show max 0 (PyData.depthAll (dN L)) = 0; rw [depth_dN L]; rfl
theorem eqv_dN : ∀ L L' : List Nat, PyData.eqvAll (dN L) (dN L') = decide (L = L')
  | [], [] => rfl
  | [], y :: L' => by simp [dN, PyData.eqvAll]
  | x :: L, [] => by simp [dN, PyData.eqvAll]
  | x :: L, y :: L' => by
    show (((x : Int) == (y : Int)) && PyData.eqvAll (dN L) (dN L')) = _
    rw [eqv_dN L L', Bool.eq_iff_iff]
    simp
    omega
theorem shaped_list (L : List Nat) : SeqAt.shaped (.list (dN L)) = true := by
  show (PyData.canLayAll0 (dN L) && decide (PyData.depthAll (dN L) + 1 ≤ 64)) = true
  rw [lay_dN, depth_dN]; rfl
theorem shaped_tuple (L : List Nat) : SeqAt.shaped (.tuple (dN L)) = true := by
  show (PyData.canLayAll0 (dN L) && decide (PyData.depthAll (dN L) + 1 ≤ 64)) = true
  rw [lay_dN, depth_dN]; rfl
theorem eqD_natL {M : Mem} {a b : Nat} {L L' : List Nat} (h : getL M a = some (L.map natV)) (h' : getL M b = some (L'.map natV)) : eqD (.loc a) (.loc b) M = some (decide (L = L')) := by
  have e : ∀ c (K : List Nat), getL M c = some (K.map natV) → toD M 8 (.loc c) = some (.list (dN K)) := fun c K hc => by
    show (match getL M c with
      | some l => (l.mapM (toD M 7)).map PyData.list
      | none => none) = _
    rw [hc]
    show ((K.map natV).mapM (toD M 7)).map PyData.list = _
    rw [mapM_nat]; rfl
  show (match toD M 8 (.loc a), toD M 8 (.loc b) with
    | some d, some e => if SeqAt.shaped d && SeqAt.shaped e then some (PyData.eqv d e) else none
    | _, _ => none) = _
  rw [e a L h, e b L' h']
  show (if (SeqAt.shaped (.list (dN L)) && SeqAt.shaped (.list (dN L'))) = true then some (PyData.eqvAll (dN L) (dN L')) else none) = _
  rw [shaped_list, shaped_list, eqv_dN]; rfl

theorem need_townO {M : Mem} {n : Int} {ss : List Street} (h : TownOk n ss) : Oq (F_need_town [encT n ss] M) (fun v M' => v = .non ∧ M' = M) := Oq.ofW (need_town_k (E := noE) (Q := fun v M' => v = .non ∧ M' = M) h ⟨rfl, rfl⟩)
theorem log2_small {i : Int} (h0 : 0 ≤ i) (h : i < 100) : i.natAbs.log2 < 1920 := by
  have h1 := Nat.log2_le_self i.natAbs
  omega
theorem town_blank (n : Int) : (Str.ofString "town") ++ (Str.ofString " ") ++ numI n = headZ n := by
  refine str_ext ?_
  unfold headZ headW
  show _ = ((Str.ofString "town") ++ ⟨#[32]⟩ ++ numI n).cps.toList
  rw [blank_eq]
theorem town_blank2 (n : Int) : (Str.ofString "town ") ++ numI n = headZ n := by
  rw [← town_blank]
  have : (Str.ofString "town ") = (Str.ofString "town") ++ (Str.ofString " ") := by decide +kernel
  rw [this]
theorem signs_at {o : Int} (h : o = 0 ∨ o = 1) : atI [Val.str (Str.ofString "="), Val.str (Str.ofString ">")] o = some (.str (signZ o)) := by
  rcases h with e | e <;> subst e <;> rfl
theorem signs_at2 {o : Int} (h : o = 0 ∨ o = 1) : ∃ c, atI (Str.ofString "=>").cps.toList o = some c ∧ (⟨#[c]⟩ : Str) = signZ o := by
  have e1 : (Str.ofString "=>").cps.toList = [61, 62] := by decide +kernel
  rw [e1]
  rcases h with e | e <;> subst e
  · exact ⟨61, rfl, by decide +kernel⟩
  · exact ⟨62, rfl, by decide +kernel⟩
theorem rowZ_app (t : Street) : numI t.f ++ (Str.ofString " ") ++ signZ t.o ++ (Str.ofString " ") ++ numI t.s ++ (Str.ofString " ") ++ numI t.l = rowZ t := by
  refine str_ext ?_
  unfold rowZ wordsZ
  show _ = (numI t.f ++ ⟨#[32]⟩ ++ (signZ t.o ++ ⟨#[32]⟩ ++ (numI t.s ++ ⟨#[32]⟩ ++ numI t.l))).cps.toList
  rw [blank_eq]
  simp only [str_app, List.append_assoc]
/-- rows so far, at d -/
def RwI (M : Mem) (d : Nat) (n : Int) (ss : List Street) (i : Nat) (M' : Mem) : Prop := M <+: M' ∧ M.length ≤ d ∧ getL M' d = some ((rowsZ n (ss.take i)).map Val.str)
theorem RwI.next {M M' M2 : Mem} {d : Nat} {n : Int} {ss : List Street} {i : Nat} {t : Street} (h : RwI M d n ss i M') (ht : ss[i]? = some t) (hp : M' <+: M2) : RwI M d n ss (i + 1) (M2.set d (.lst ((rowsZ n (ss.take i)).map Val.str ++ [.str (rowZ t)]))) := by
  obtain ⟨h1, h2, h3⟩ := h
  refine ⟨pre_set (h1.trans hp) h2, h2, ?_⟩
  rw [getL_set (getL_pre hp h3), List.take_add_one, ht]
  simp [rowsZ]
def WrI (M : Mem) (n : Int) (ss : List Street) (i : Nat) (e : Sl) (M' : Mem) : Prop := RwI M M.length n ss i M' ∧ ∃ a b c d, e = [some (encT n ss), some (.loc M.length), a, b, c, d]
theorem written_spec {M : Mem} {n : Int} {ss : List Street} (h : TownOk n ss) : Oq (F_written [encT n ss] M) (fun v M' => v = .str (textZ n ss) ∧ M <+: M') := by
  have hn0 := h.n0; have hn1 := h.n1; have hln := h.len
  have hz : ∀ t ∈ ss, StreetZ t := fun t ht => (h.all t ht).z hn1
  constructor
  unfold F_written
  simp [-t_written_1_ap]
  refine (need_townO h).use fun v M' hv => ?_
  obtain ⟨ev, em⟩ := hv
  subst ev em
  have l1 : (Str.ofString "town").length = 4 := by decide +kernel
  have l2 : (Str.ofString " ").length = 1 := by decide +kernel
  have l3 : ((Str.ofString "town") ++ (Str.ofString " ")).length = 5 := by decide +kernel
  have l4 := (numI_ok (i := n) (by omega) (by omega)).len
  have lg := log2_small (i := n) (by omega) (by omega)
  have tb := town_blank n
  simp [encT, l1, l2, l3, lg, tb, -b_written_0_ap]
  refine ⟨by omega, ?_⟩
  refine o_for_tup (WrI M' n ss) ⟨⟨List.prefix_append _ _, Nat.le_refl _, getL_append_new M' _⟩, _, _, _, _, rfl⟩ (fun i x e M1 hx hI => ?_) (fun e M1 hI => ?_)
  · obtain ⟨hI, a, b, c, d, he⟩ := hI
    subst he
    rw [List.getElem?_map] at hx
    cases ht : ss[i]? with
    | none => rw [ht] at hx; cases hx
    | some t =>
      rw [ht] at hx
      cases hx
      have hi : i < ss.length := (List.getElem?_eq_some_iff.mp ht).1
      have ok := h.all t (List.mem_of_getElem? ht)
      have z := ok.z hn1
      have g := hI.2.2
      have w1 := log2_small z.f.1 z.f.2
      have w2 := log2_small z.s.1 z.s.2
      have w3 := log2_small z.l.1 z.l.2
      have hso : strsOf [Val.str (numI t.f), .str (signZ t.o), .str (numI t.s), .str (numI t.l)] = some (wordsZ t) := strsOf_map (wordsZ t)
      have hjn : Txt.join (Str.ofString " ") (wordsZ t) = rowZ t := by rw [blank_eq, join_eq]; rfl
      have k1 := (numI_ok z.f.1 z.f.2).len
      have k2 := (numI_ok z.s.1 z.s.2).len
      have k3 := (numI_ok z.l.1 z.l.2).len
      have k4 : (signZ t.o).length ≤ 1 := by
        have e1 : (Str.ofString "=").length = 1 := by decide +kernel
        have e2 : (Str.ofString ">").length = 1 := by decide +kernel
        unfold signZ; split <;> omega
      have hsum : ((wordsZ t).map (·.length)).sum + (wordsZ t).length * (Str.ofString " ").length ≤ 16777216 := by
        rw [l2]; simp [wordsZ]; omega
      have hgt : ∀ u, getL (M1 ++ u) M'.length = some ((rowsZ n (ss.take i)).map Val.str) := fun u => getL_pre (List.prefix_append _ _) g
      simp [encS, g, hgt, w1, w2, w3, signs_at ok.o]
      refine ⟨wordsZ t, hso, hsum, ?_⟩
      rw [hjn]
      exact ⟨by simp [rowsZ]; omega, hI.next ht (List.prefix_append _ _), _, _, _, _, rfl⟩
  · obtain ⟨⟨hp, _, hg⟩, a, b, c, d, he⟩ := hI
    subst he
    rw [List.length_map, List.take_length] at hg
    have hsum : ((rowsZ n ss).map (·.length)).sum + (rowsZ n ss).length * (Str.ofString "\n").length ≤ 16777216 := by
      have e1 : (Str.ofString "\n").length = 1 := by decide +kernel
      have := rowsZ_sum (n := n) (ss := ss) (by omega) (by omega) hz (by omega)
      rw [e1]
      simp [rowsZ] at this ⊢
      omega
    simp [hg, strsOf_map]
    refine ⟨by simpa using hsum, ?_, hp⟩
    rw [line_eq, join_eq]; rfl

/-! alike -/
def Same (M : Mem) : Nat → Val → Val → Prop
  | 0, _, _ => False
  | k + 1, x, y => (x = y ∧ ((∃ i, x = .int i) ∨ (∃ z, x = .str z) ∨ x = .non)) ∨
    (∃ l l' : List Val, ((x = .tup l ∧ y = .tup l') ∨ ∃ a b, x = .loc a ∧ y = .loc b ∧ getL M a = some l ∧ getL M b = some l') ∧ l.length = l'.length ∧ l.length ≤ 1000 ∧ ∀ (i : Nat) (u v : Val), l[i]? = some u → l'[i]? = some v → Same M k u v)
theorem Same.pre {M M' : Mem} (p : M <+: M') : ∀ {k : Nat} {x y : Val}, Same M k x y → Same M' k x y
  | k + 1, x, y, .inl h => .inl h
  | k + 1, x, y, .inr ⟨l, l', h1, h2, h3, h4⟩ => by
    refine .inr ⟨l, l', ?_, h2, h3, fun i u v hu hv => (h4 i u v hu hv).pre p⟩
    rcases h1 with h1 | ⟨a, b, e1, e2, g1, g2⟩
    · exact .inl h1
    · exact .inr ⟨a, b, e1, e2, getL_pre p g1, getL_pre p g2⟩
theorem alike_spec : ∀ (k : Nat) {M : Mem} {x y : Val}, Same M k x y → Wq (F__law_alike k [x, y] M) (fun v M' => v = .bl true ∧ M <+: M')
  | 0, _, _, _, h => h.elim
  | k + 1, M, x, y, .inl ⟨e, h⟩ => by
    constructor
    subst e
    unfold F__law_alike
    rcases h with ⟨i, e⟩ | ⟨z, e⟩ | e <;> subst e <;> simp [tyN, isT]
  | k + 1, M, x, y, .inr ⟨l, l', .inl ⟨e1, e2⟩, hl, hl2, hs⟩ => by
    constructor
    subst e1 e2
    unfold F__law_alike
    simp [tyN, isT, hl]
    refine ⟨by omega, ?_⟩
    refine wp_lc_fun (rngL 0 l'.length) (fun _ => false) id (b := l'.length) (by simp) (by simp; omega) (fun j M _ => by rw [rngL_get]; rfl) (fun j x M3 hx hp3 => ?_) (fun M3 hp3 hg3 => ?_)
    · rw [rngL_get] at hx
      split at hx
      · rename_i hj
        cases hx
        refine ⟨_, rfl, ?_⟩
        have hj1 : j < l.length := by omega
        simp [atI_ofNat hj, atI_ofNat hj1]
        refine Wq.imp (alike_spec k ((hs j _ _ (List.getElem?_eq_getElem hj1) (List.getElem?_eq_getElem hj)).pre hp3)) fun v M4 ⟨ev, hp4⟩ => ?_
        subst ev
        simp
        exact hp4
      · cases hx
    · have hg3' : getL M3 M.length = some (([] : List Nat).map natV) := by rw [hg3]; simp
      refine ⟨?_, pre_append hp3 _⟩
      rw [eqD_natL (L := []) (L' := []) (getL_pre (List.prefix_append _ _) hg3') (by rw [getL_snoc]; rfl)]
      rfl
  | k + 1, M, x, y, .inr ⟨l, l', .inr ⟨a, b, e1, e2, g1, g2⟩, hl, hl2, hs⟩ => by
    constructor
    subst e1 e2
    unfold F__law_alike
    simp [tyN, isT, hl, g1, g2]
    refine ⟨by omega, ?_⟩
    refine wp_lc_fun (rngL 0 l'.length) (fun _ => false) id (b := l'.length) (by simp) (by simp; omega) (fun j M _ => by rw [rngL_get]; rfl) (fun j x M3 hx hp3 => ?_) (fun M3 hp3 hg3 => ?_)
    · rw [rngL_get] at hx
      split at hx
      · rename_i hj
        cases hx
        refine ⟨_, rfl, ?_⟩
        have hj1 : j < l.length := by omega
        simp [getL_pre hp3 g1, getL_pre hp3 g2, atI_ofNat hj, atI_ofNat hj1]
        refine Wq.imp (alike_spec k ((hs j _ _ (List.getElem?_eq_getElem hj1) (List.getElem?_eq_getElem hj)).pre hp3)) fun v M4 ⟨ev, hp4⟩ => ?_
        subst ev
        simp
        exact hp4
      · cases hx
    · have hg3' : getL M3 M.length = some (([] : List Nat).map natV) := by rw [hg3]; simp
      refine ⟨?_, pre_append hp3 _⟩
      rw [eqD_natL (L := []) (L' := []) (getL_pre (List.prefix_append _ _) hg3') (by rw [getL_snoc]; rfl)]
      rfl

/-! the law k15 -/
def RwO (Ws : List (List Str)) (v : Val) : Prop := ((∃ v0, (allOk Ws Ws.length ∧ v0 = encT (cV Ws Ws.length) (stS Ws Ws.length) ∧ (stS Ws Ws.length).length ≤ 16) ∧ v = .tup [.str (Str.ofString ""), v0]) ∨
  ((∃ k, FirstBad Ws k ∧ v = wI "text" (k : Nat)) ∨ (allOk Ws Ws.length ∧ ∃ i, v = wI "town" i ∧ (1 ≤ cV Ws Ws.length → cV Ws Ws.length ≤ 9 → (∀ t ∈ stS Ws Ws.length, StreetOk (cV Ws Ws.length) t) → i = 16))))
theorem read_word {M : Mem} {R : List (List Str)} (h : RowsOk 200 R) {fb : EF} {e : Sl} (hfb : ∀ M', fb e M' = F_read [.str (txtOf R)] M') : Oq (eWord 6 Fw__law_word fb e M) (fun v M' => RwO (nrs R) v ∧ M <+: M') := by
  refine eword_g (P := fun v0 => allOk (nrs R) (nrs R).length ∧ v0 = encT (cV (nrs R) (nrs R).length) (stS (nrs R) (nrs R).length) ∧ (stS (nrs R) (nrs R).length).length ≤ 16)
    (S := fun v => (∃ k, FirstBad (nrs R) k ∧ v = wI "text" (k : Nat)) ∨ (allOk (nrs R) (nrs R).length ∧ ∃ i, v = wI "town" i ∧ (1 ≤ cV (nrs R) (nrs R).length → cV (nrs R) (nrs R).length ≤ 9 → (∀ t ∈ stS (nrs R) (nrs R).length, StreetOk (cV (nrs R) (nrs R).length) t) → i = 16))) fun M' hp => ?_
  rw [hfb M']
  refine ⟨(read_x h).use (fun v M2 hv => ?_) (fun x M2 hx => ?_)⟩
  · exact ⟨⟨hv.1, hv.2.1, hv.2.2.1⟩, hv.2.2.2⟩
  · obtain ⟨hx, hp2⟩ := hx
    refine ⟨?_, hp2⟩
    rcases hx with ⟨k, hk, ex⟩ | ⟨hok, i, ex, hi⟩
    · exact ⟨_, by rw [ex]; exact wo_text k, .inl ⟨k, hk, rfl⟩⟩
    · exact ⟨_, by rw [ex]; exact wo_town i, .inr ⟨hok, i, rfl, hi⟩⟩
/-! much too much -/
theorem foldl_cat (a : Array Nat) : ∀ (n : Nat) (b : Array Nat), ((List.replicate n a).foldl (· ++ ·) b).toList = b.toList ++ (List.replicate n a.toList).flatten
  | 0, b => by simp
  | n + 1, b => by
    rw [List.replicate_succ, List.foldl_cons, foldl_cat a n, List.replicate_succ, List.flatten_cons]
    simp
theorem repS_list (x : Str) (n : Nat) : (repS x (n : Int)).cps.toList = (List.replicate n x.cps.toList).flatten := by
  unfold repS
  simp only [Int.toNat_natCast]
  rw [foldl_cat]
  simp
theorem join_rep (L : Str) : ∀ (n : Nat) (L0 : Str), (Str.join ⟨#[10]⟩ (L0 :: List.replicate n L)).cps.toList = L0.cps.toList ++ (List.replicate n (10 :: L.cps.toList)).flatten
  | 0, L0 => by
    show L0.cps.toList = _
    simp
  | n + 1, L0 => by
    show (L0 ++ ⟨#[10]⟩ ++ Str.join ⟨#[10]⟩ (L :: List.replicate n L)).cps.toList = _
    rw [str_app, str_app, join_rep L n L, List.replicate_succ, List.flatten_cons]
    simp
def mW : List Str := ["0", "=", "1", "5"]
def muchR (n : Nat) : List (List Str) := ["town", "2"] :: List.replicate n mW
theorem much_eq (n : Nat) : (Str.ofString "town 2") ++ repS (Str.ofString "\n0 = 1 5") (n : Int) = txtOf (muchR n) := by
  refine str_ext ?_
  unfold txtOf muchR
  rw [List.map_cons, List.map_replicate, join_rep, str_app, repS_list]
  have e1 : lineOf ["town", "2"] = Str.ofString "town 2" := by decide +kernel
  have e2 : (Str.ofString "\n0 = 1 5").cps.toList = 10 :: (lineOf mW).cps.toList := by decide +kernel
  rw [e1, e2]
theorem much_ok {n : Nat} (hn : n ≤ 100) : RowsOk 200 (muchR n) := by
  refine ⟨by simp [muchR]; omega, fun r hr => ?_⟩
  have h1 : (["town", "2"] : List Str).all (fun w => decide (w.length ≤ 20) && w.cps.toList.all fun c => decide (32 < c ∧ c < 128)) = true := by decide +kernel
  have h2 : mW.all (fun w => decide (w.length ≤ 20) && w.cps.toList.all fun c => decide (32 < c ∧ c < 128)) = true := by decide +kernel
  have hw : ∀ r : List Str, r.all (fun w => decide (w.length ≤ 20) && w.cps.toList.all fun c => decide (32 < c ∧ c < 128)) = true → ∀ w ∈ r, WOk w := fun r h w hw => by
    have := List.all_eq_true.mp h w hw
    rw [Bool.and_eq_true] at this
    exact ⟨of_decide_eq_true this.1, fun c hc => of_decide_eq_true (List.all_eq_true.mp this.2 c hc)⟩
  rcases List.mem_cons.mp hr with e | e
  · subst e; exact ⟨by decide, hw _ h1⟩
  · rw [List.eq_of_mem_replicate e]; exact ⟨by decide, hw _ h2⟩
theorem much_nrs (n : Nat) : nrs (muchR n) = muchR n := by
  unfold nrs lns
  rw [if_neg (by simp [muchR])]
  have : ∀ r ∈ muchR n, nr r = r := fun r hr => by
    unfold nr
    rw [if_neg]
    rcases List.mem_cons.mp hr with e | e
    · subst e; simp
    · rw [List.eq_of_mem_replicate e]; simp [mW]
  rw [List.map_congr_left this, List.map_id']
theorem much_row {n : Nat} {ws : List Str} (h : ws ∈ (muchR n).drop 1) : ws = mW := List.eq_of_mem_replicate h
theorem much_str {n : Nat} {t : Street} (h : t ∈ stS (muchR n) (muchR n).length) : t = ⟨0, 1, 5, 0⟩ := by
  unfold stS at h
  rw [List.take_length] at h
  obtain ⟨ws, hw, e⟩ := List.mem_map.mp h
  rw [much_row hw] at e
  rw [← e]
  have e0 : numW (Str.ofString "0") = 0 := by decide +kernel
  have e1 : numW (Str.ofString "1") = 1 := by decide +kernel
  have e5 : numW (Str.ofString "5") = 5 := by decide +kernel
  have eg : ((Str.ofString "=") = Str.ofString ">") = False := eq_false (by decide +kernel)
  simp [mW, strS, wd, e0, e1, e5, eg]
theorem much_len {n : Nat} : (stS (muchR n) (muchR n).length).length = n := by
  unfold stS
  simp [muchR]
theorem much_all {n : Nat} : allOk (muchR n) (muchR n).length := by
  intro j hj
  by_cases h0 : j = 0
  · subst h0
    show okRow 0 ["town", "2"] = true
    decide +kernel
  · obtain ⟨i, rfl⟩ : ∃ i, j = i + 1 := ⟨j - 1, by omega⟩
    have hi : i < n := by simp [muchR] at hj; exact hj
    have : rowA (muchR n) (i + 1) = mW := by
      refine rowA_of ?_
      show (List.replicate n mW)[i]? = _
      rw [List.getElem?_replicate, if_pos hi]
    rw [this]
    have : okRow 1 mW = true := by decide +kernel
    unfold okRow at this ⊢
    rw [if_neg (by omega)] at this ⊢
    exact this
theorem much_word {n : Nat} (hn : 17 ≤ n) {v : Val} (h : RwO (muchR n) v) : v = wI "town" 16 := by
  have hl := much_len (n := n)
  rcases h with ⟨v0, ⟨_, _, h⟩, _⟩ | ⟨k, hk, _⟩ | ⟨_, i, e, hi⟩
  · omega
  · exact absurd much_all hk.not
  · have hc : cV (muchR n) (muchR n).length = 2 := by
      unfold cV
      rw [if_neg (by simp [muchR])]
      show numW (Str.ofString "2") = 2
      decide +kernel
    rw [hc] at hi
    rw [e, hi (by decide) (by decide) fun t ht => ?_]
    rw [much_str ht]
    exact ⟨by decide, by decide, by decide, by decide, by decide, by decide, by decide, .inl rfl⟩

/-! the law k15, joined -/
theorem zW_ok {n : Int} {ss : List Street} (h : TownOk n ss) : RowsOk 20 (headW n :: ss.map wordsZ) := by
  have hn0 := h.n0; have hn1 := h.n1; have hln := h.len
  have num : ∀ i : Int, 0 ≤ i → i < 100 → WOk (numI i) := fun i h0 h1 => by
    have ok := numI_ok h0 h1
    exact ⟨Nat.le_trans ok.len (by decide), fun c hc => by have := ok.dig c hc; omega⟩
  have sgn : ∀ o, WOk (signZ o) := fun o => by
    have e1 : (Str.ofString "=").cps.toList = [61] := by decide +kernel
    have e2 : (Str.ofString ">").cps.toList = [62] := by decide +kernel
    unfold signZ
    split
    · exact ⟨by decide, fun c hc => by rw [e1] at hc; simp at hc; omega⟩
    · exact ⟨by decide, fun c hc => by rw [e2] at hc; simp at hc; omega⟩
  refine ⟨by simp; omega, fun r hr => ?_⟩
  rcases List.mem_cons.mp hr with e | e
  · subst e
    refine ⟨by show 2 ≤ 20; decide, fun w hw => ?_⟩
    simp only [headW, List.mem_cons, List.not_mem_nil, or_false] at hw
    rcases hw with e | e <;> subst e
    · have e1 : (Str.ofString "town").cps.toList = [116, 111, 119, 110] := by decide +kernel
      exact ⟨by decide, fun c hc => by rw [e1] at hc; simp at hc; omega⟩
    · exact num n (by omega) (by omega)
  · obtain ⟨t, ht, e⟩ := List.mem_map.mp e
    subst e
    have z := (h.all t ht).z hn1
    refine ⟨by show 4 ≤ 20; decide, fun w hw => ?_⟩
    simp only [wordsZ, List.mem_cons, List.not_mem_nil, or_false] at hw
    rcases hw with e | e | e | e <;> subst e
    · exact num _ z.f.1 z.f.2
    · exact sgn _
    · exact num _ z.s.1 z.s.2
    · exact num _ z.l.1 z.l.2
theorem textZ_txt (n : Int) (ss : List Street) : textZ n ss = txtOf (headW n :: ss.map wordsZ) := by
  unfold textZ txtOf rowsZ headZ
  rw [List.map_cons, List.map_map]; rfl
def dOf : Val → Nat
  | .loc d => d
  | _ => 0
/-- the rows, split anew -/
theorem split_rows {M : Mem} {r : Nat} {R : List (List Str)} {n b : Nat} {e : Sl} {D : Nat} {M0 : Mem} (hn : 1 ≤ n) (hn2 : n ≤ 200) (h : RowsOk n R) (hr : r < M.length) (hd : getL M b = some (((lns R).map lineOf).map Val.str)) (he : ∃ a0 a1 a2 a3 a4 a5 a6, e = [a0, a1, a2, a3, a4, a5, a6, none, none]) (hD : D = M.length) (hM : M0 = M ++ [.lst []]) {bb : Nat} (hb : ((lns R).map lineOf).length ≤ bb)
    {Q : Val → Mem → Prop} {E : Ex → Mem → Prop} (hQ : ∀ M' ps, M <+: M' → RwsA M' r M.length n ps → Q (.loc M.length) M') :
    owp (lcG (itLst b bb).nxt (.one 8) tTrue (eMt "str" splitV (eVar 8) (aCons (eC (.str (Str.ofString " "))) aNil)) D e (bb + 1) 0 M0) Q E := by
  subst hD hM
  obtain ⟨a0, a1, a2, a3, a4, a5, a6, he⟩ := he
  subst he
  have hL := lns_ok hn h
  have hW := nrs_ok hn h
  have hlen : ((lns R).map lineOf).length = (nrs R).length := by simp [nrs]
  have hl := hW.len
  refine o_lc_rel (((lns R).map lineOf).map Val.str) (fun i y M2 => ∃ d, y = .loc d ∧ M.length < d ∧ getL M2 d = some (((nrs R).getD i []).map Val.str)) (by simpa using hb) (by rw [List.length_map, hlen]; show _ ≤ 16777216; omega) (fun i M2 _ hp => nxt_lst (getL_pre hp hd))
    (fun i y M2 M3 ⟨d, e, h1, h2⟩ hp => ⟨d, e, h1, getL_pre hp h2⟩) (fun i y M2 acc c ⟨d, e, h1, h2⟩ hg => ⟨d, e, h1, by rw [getL_set_ne (by omega)]; exact h2⟩) (fun i x M2 hx hp hlt => ?_) (fun M2 ys hp hg hP => ?_)
  · obtain ⟨r', hr', ex, hws⟩ := nrs_at hx
    subst ex
    have hrk := hL.row r' (List.mem_of_getElem? hr')
    have hsplit := line_split hrk
    have hll : (lineOf r').length + 2 ≤ 16777216 := by have := line_len hrk; omega
    have lb : (Str.ofString " ").length = 1 := by decide +kernel
    refine ⟨_, rfl, ?_⟩
    simp [isTyM, lb, hsplit, hll]
    refine ⟨hlt, ?_⟩
    rw [hws]
    rfl
  · rw [List.length_map, hlen] at hg hP
    refine hQ M2 ((List.range (nrs R).length).map fun i => (dOf (ys i), (nrs R).getD i [])) hp ⟨by omega, ?_, by simpa using hl, fun p hp2 => ?_⟩
    · rw [hg]
      unfold fV
      rw [List.map_map]
      congr 1
      refine List.map_congr_left fun i hi => ?_
      obtain ⟨d, e, _, _⟩ := hP i (List.mem_range.mp hi)
      show ys i = .loc (dOf (ys i))
      rw [e]; rfl
    · obtain ⟨i, hi, e⟩ := List.mem_map.mp hp2
      have hi := List.mem_range.mp hi
      obtain ⟨d, e2, h1, h2⟩ := hP i hi
      subst e
      have hget : (nrs R).getD i [] = (nrs R)[i] := by rw [List.getD_eq_getElem?_getD, List.getElem?_eq_getElem hi]; rfl
      have hrow := hW.row _ (List.getElem_mem hi)
      refine ⟨by show dOf (ys i) ≠ r; rw [e2]; show d ≠ r; omega, by show getL M2 (dOf (ys i)) = _; rw [e2]; exact h2, by show ((nrs R).getD i []).length ≤ n; rw [hget]; exact hrow.1, fun w hw => by rw [show ((_, (nrs R).getD i []) : Nat × List Str).2 = _ from hget] at hw; exact hrow.2 w hw⟩
theorem Wq.o {o : Out Val} {Q : Val → Mem → Prop} (h : Wq o Q) : Oq o Q := by
  constructor
  rw [owp_eq]
  exact h.h
theorem sameTx (M : Mem) (k : Nat) : Same M 6 (.tup [.str (Str.ofString "text"), .int (k : Int)]) (.tup [.str (Str.ofString "text"), .int (k : Int)]) := by
  refine .inr ⟨_, _, .inl ⟨rfl, rfl⟩, rfl, by simp, fun i u v hu hv => ?_⟩
  rw [hu] at hv
  cases hv
  match i, hu with
  | 0, hu => cases hu; exact .inl ⟨rfl, .inr (.inl ⟨_, rfl⟩)⟩
  | 1, hu => cases hu; exact .inl ⟨rfl, .inl ⟨_, rfl⟩⟩
theorem sameT (M : Mem) (n : Int) (ss : List Street) (h : ss.length ≤ 1000) : Same M 6 (encT n ss) (encT n ss) := by
  have si : ∀ k (i : Int), Same M (k + 1) (.int i) (.int i) := fun k i => .inl ⟨rfl, .inl ⟨_, rfl⟩⟩
  refine .inr ⟨_, _, .inl ⟨rfl, rfl⟩, rfl, by simp, fun i u v hu hv => ?_⟩
  rw [hu] at hv
  cases hv
  match i, hu with
  | 0, hu => cases hu; exact si _ _
  | 1, hu =>
    cases hu
    refine .inr ⟨_, _, .inl ⟨rfl, rfl⟩, rfl, by simpa using h, fun i u v hu hv => ?_⟩
    rw [hu] at hv
    cases hv
    rw [List.getElem?_map] at hu
    cases ht : ss[i]? with
    | none => rw [ht] at hu; cases hu
    | some t =>
      rw [ht] at hu
      cases hu
      refine .inr ⟨_, _, .inl ⟨rfl, rfl⟩, rfl, by simp, fun i u v hu hv => ?_⟩
      rw [hu] at hv
      cases hv
      match i, hu with
      | 0, hu => cases hu; exact si _ _
      | 1, hu => cases hu; exact si _ _
      | 2, hu => cases hu; exact si _ _
      | 3, hu => cases hu; exact si _ _
def K5I (z : Option Val) (r : Nat) (i : Nat) (e : Sl) (M : Mem) : Prop := RowAt M r ∧ ∃ b2 b3 b4 b5 b6, e = [z, some (.loc r), b2, b3, b4, b5, b6, none, none]
theorem law15_body {M : Mem} {r : Nat} {z a2 a3 a4 a5 a6 : Option Val} {B C : Sl → Mem → Prop} {R : Val → Mem → Prop} {Es : Ex → Sl → Mem → Prop} {i : Nat} (row : RowAt M r) :
    swp (b_law_2 [z, some (.loc r), a2, a3, a4, a5, a6, none, none] M) (K5I z r i) R B C Es := by
  simp [-t_law_1_ap]
  refine (Oq.ofW (town_spec (cs := 5) (sn := 5) (kind := 2) row (by decide) (by decide) (by decide) (by decide) (by decide) (by decide))).use fun v M1 hv => ?_
  obtain ⟨n, ss, ev, hT, _, _, _, r1, k1⟩ := hv
  subst ev
  simp [-t_law_1_ap]
  refine (written_spec hT).use fun v M2 hv => ?_
  obtain ⟨ev, hp2⟩ := hv
  subst ev
  have r2 := r1.kp hp2
  have hz := zW_ok hT
  have hsp := txt_split hz
  have hlt : (textZ n ss).length + 2 ≤ 16777216 := by rw [textZ_txt]; have := txt_len hz; omega
  rw [← textZ_txt] at hsp
  have ln : (Str.ofString "\n").length = 1 := by decide +kernel
  simp [isTyM, ln, hsp, hlt, -t_law_0_ap, -List.map_map]
  have hrl := r2.lt
  have gR : getL (M2 ++ [Cell.lst (((lns (headW n :: ss.map wordsZ)).map lineOf).map Val.str)]) M2.length = some (((lns (headW n :: ss.map wordsZ)).map lineOf).map Val.str) := (getL_app0 _ _).trans rfl
  refine ⟨_, itSeq_l gR, ?_⟩
  refine split_rows (M := M2 ++ [Cell.lst (((lns (headW n :: ss.map wordsZ)).map lineOf).map Val.str)]) (r := r) (n := 20) (by decide) (by decide) hz (by simp; omega) gR ⟨_, _, _, _, _, _, _, rfl⟩ (by simp) (by simp) (by simp) fun M3 ps hp3 hrw => ?_
  have r3 := (r2.kp (List.prefix_append _ _)).kp hp3
  rw [List.length_append] at hrw
  have hrw : RwsA M3 r (M2.length + 1) 20 ps := hrw
  simp [-t_law_0_ap]
  refine (spoilt_x r3 hrw (by decide)).use fun v M4 hv => ?_
  obtain ⟨S, ev, hS, r4, k4⟩ := hv
  subst ev
  simp
  refine (law_read_x hS).use fun v M5 hv => ?_
  obtain ⟨hv, hp5⟩ := hv
  have r5 := r4.kp hp5
  have hwd : ∀ (e : Sl), e = [z, some (.loc r), a2, a3, a4, a5, some (.str (txtOf S)), none, none] → Oq (eWord 6 Fw__law_word (eFn 1 F_read (aCons (eVar 6) aNil)) e M5) (fun v M' => RwO (nrs S) v ∧ M5 <+: M') := fun e he => by
    subst he
    exact read_word hS fun M' => rfl
  rcases hv with ⟨k, hk, ev⟩ | ⟨hok, ev⟩
  · subst ev
    simp
    refine (hwd _ rfl).use fun v M6 hv => ?_
    obtain ⟨hv, hp6⟩ := hv
    have r6 := r5.kp hp6
    have ev : v = .tup [.str (Str.ofString "text"), .int (k : Int)] := by
      rcases hv with ⟨v0, ⟨h1, _, _⟩, _⟩ | ⟨k2, hk2, e⟩ | ⟨h1, _⟩
      · exact absurd h1 hk.not
      · rw [e, ← hk.uniq hk2]; rfl
      · exact absurd h1 hk.not
    subst ev
    simp
    refine (alike_spec 6 (sameTx M6 k)).o.use fun v M7 hv => ?_
    obtain ⟨ev, hp7⟩ := hv
    subst ev
    simp
    exact ⟨r6.kp hp7, _, _, _, _, _, rfl⟩
  · subst ev
    simp
    have d1 : ((Str.ofString "") = Str.ofString "text") = False := eq_false (by decide +kernel)
    have d2 : ((Str.ofString "town") = Str.ofString "") = False := eq_false (by decide +kernel)
    have i1 : ∀ M, inD (Val.str (Str.ofString "town")) (Val.tup [Val.str (Str.ofString ""), Val.str (Str.ofString "town")]) M = some true := fun M => rfl
    have i2 : ∀ M, inD (Val.str (Str.ofString "")) (Val.tup [Val.str (Str.ofString ""), Val.str (Str.ofString "town")]) M = some true := fun M => rfl
    refine (hwd _ rfl).use fun v M6 hv => ?_
    obtain ⟨hv, hp6⟩ := hv
    have r6 := r5.kp hp6
    rcases hv with ⟨v0, ⟨_, e0, h16⟩, e⟩ | ⟨k2, hk2, e⟩ | ⟨_, i, e, _⟩
    · subst e0 e
      simp [d1, i2]
      refine (alike_spec 6 (sameT M6 _ _ (Nat.le_trans h16 (by decide)))).o.use fun v M7 hv => ?_
      obtain ⟨ev, hp7⟩ := hv
      subst ev
      simp
      exact ⟨r6.kp hp7, _, _, _, _, _, rfl⟩
    · exact absurd hok hk2.not
    · subst e
      simp [wI, d1, d2, i1]
      exact ⟨r6, _, _, _, _, _, rfl⟩
theorem txt_nil : txtOf [] = Str.ofString "" := by decide +kernel
theorem nil_ok : RowsOk 200 [] := ⟨by simp, fun r hr => by cases hr⟩
theorem nil_word {v : Val} (h : RwO (nrs []) v) : v = wI "text" 0 := by
  have hb : FirstBad (nrs []) 0 := ⟨by decide, by decide +kernel, fun j hj => absurd hj (by omega)⟩
  rcases h with ⟨v0, ⟨h1, _, _⟩, _⟩ | ⟨k, hk, e⟩ | ⟨h1, _⟩
  · exact absurd h1 hb.not
  · rw [e, ← hb.uniq hk]; rfl
  · exact absurd h1 hb.not
theorem eqD_wI {M : Mem} {s : Str} {i : Int} (hs : PyData.strOk s = true) : eqD (wI s i) (.tup [.str s, .int i]) M = some true := by
  have hp : pln false 7 (wI s i) = true := by simp [wI, pln, plns, hs]
  obtain ⟨b, h1, h2⟩ := eqD_pln (M := M) hp hp
  have : b = true := h2.mpr rfl
  rw [← this]; exact h1
theorem owp_mulSV {M : Mem} {a : Str} {n : Int} {Q : Val → Mem → Prop} {E : Ex → Mem → Prop} (h : 2 ≤ n ∧ 1 ≤ a.length ∧ a.length * n.toNat ≤ sizeLine ∧ (repS a n).length ≤ sizeLine) (hq : Q (.str (repS a n)) M) : owp (mulSV (.str a) (.int n) M) Q E := by
  rw [owp_eq]
  unfold mulSV
  simp only [if_pos h]
  exact hq
theorem pure_law : ∀ ns : List Int, ns.length ≤ 63 → ∃ M, F_law [.frz ns] [] = .ok (.bl true) M := by
  intro ns hns
  have key : Oq (F_law [.frz ns] []) (fun v _ => v = .bl true) := by
    constructor
    unfold F_law
    simp
    refine (Oq.ofW (row_spec (M := []) (ns := ns))).use fun v M1 hv => ?_
    obtain ⟨ev, r1, _⟩ := hv
    subst ev
    simp [-b_law_2_ap, -t_law_4_ap]
    refine o_for_rng (K5I (some (.frz ns)) 0) ⟨r1, _, _, _, _, _, rfl⟩ (fun i e M' hi hI => ?_) (fun e M' hI => ?_)
    · obtain ⟨hr, b2, b3, b4, b5, b6, he⟩ := hI
      subst he
      simp [-b_law_2_ap]
      exact law15_body hr
    · obtain ⟨hr, b2, b3, b4, b5, b6, he⟩ := hI
      subst he
      simp [-t_law_3_ap]
      refine (takenO hr (by decide) (by decide)).use fun v M2 hv => ?_
      obtain ⟨w, ev, hw, r2, k2, l2⟩ := hv
      subst ev
      have l6 : (Str.ofString "town 2").length = 6 := by decide +kernel
      have l8 : (Str.ofString "\n0 = 1 5").length = 8 := by decide +kernel
      have hc : (17 : Int) + (w : Int) = ((17 + w : Nat) : Int) := by omega
      have hrl : (repS (Str.ofString "\n0 = 1 5") ((17 + w : Nat) : Int)).length ≤ 200 := by
        rw [len_z, repS_list, List.length_flatten, List.map_replicate, List.sum_replicate_nat, ← len_z, l8]
        omega
      simp only [Kt.kB_ap, Kt.owp_add_ii]
      rw [hc]
      refine owp_mulSV ⟨by omega, by omega, by rw [l8]; show _ ≤ 16777216; omega, by show _ ≤ 16777216; omega⟩ ?_
      have hm := much_eq (17 + w)
      have hmo := much_ok (n := 17 + w) (by omega)
      generalize hrep : repS (Str.ofString "\n0 = 1 5") ((17 + w : Nat) : Int) = zz at hrl hm
      simp [l6, hm, -t_law_3_ap]
      refine ⟨by omega, ?_⟩
      simp
      have hwd : ∀ (R : List (List Str)) (fb : EF) (e : Sl) (M3 : Mem), RowsOk 200 R → (∀ M', fb e M' = F_read [.str (txtOf R)] M') → Oq (eWord 6 Fw__law_word fb e M3) (fun v M' => RwO (nrs R) v ∧ M3 <+: M') := fun R fb e M3 hR h => read_word hR h
      refine (hwd (muchR (17 + w)) _ _ M2 hmo fun M' => rfl).use fun v M3 hv => ?_
      obtain ⟨hv, hp3⟩ := hv
      rw [much_nrs] at hv
      have ev := much_word (by omega) hv
      subst ev
      have st : PyData.strOk (Str.ofString "town") = true := by decide +kernel
      have st2 : PyData.strOk (Str.ofString "text") = true := by decide +kernel
      simp [eqD_wI st]
      refine (hwd [] _ _ M3 nil_ok fun M' => by rw [txt_nil]; rfl).use fun v M4 hv => ?_
      obtain ⟨hv, hp4⟩ := hv
      have ev := nil_word hv
      subst ev
      simp [eqD_wI st2]
  obtain ⟨v, M, e, hv⟩ := key.get
  exact ⟨M, by rw [e, hv]⟩

end Lw
open PySem PySem.W PySem.Calls PyProof.Rows
set_option maxRecDepth 100000 in
set_option maxHeartbeats 0 in
theorem PySem.Challenge.cw_streetrounds_k15_any_text_read_holds : PySem.Challenge.rw_streetrounds_k15_any_text_read.Holds := by
  w_on; o_law
  refine HandSHeadRun.head_any (r := OpenLaw.row PySem.Challenge.rw_streetrounds_k15_any_text_read) (q := view (OpenLaw.row PySem.Challenge.rw_streetrounds_k15_any_text_read).prog [38]) (H := Lw.hkL) (ob := Lw.obL) (M := 30000) (loose := Lw.namesL) (d := HandSHeadRun.topDef (OpenLaw.row PySem.Challenge.rw_streetrounds_k15_any_text_read).prog 38) (kwd := []) Lw.obL_eq
    (by kernel_rfl) (fun s => by kernel_rfl) Lw.runL (by kernel_rfl) (by kernel_rfl) (by kernel_rfl) (by rfl) (by first | assumption | decide +kernel) (by decide +kernel) ⟨rfl, rfl, rfl, rfl, rfl, by decide +kernel⟩ ?hw ?hc
  case hw => w_witness2
  case hc =>
    refine Sm.endAt (l := PySem.Challenge.rw_streetrounds_k15_any_text_read) (n := 63) (k := 8) rfl (by decide) (by kernel_rfl) ⟨rfl, by decide, by decide⟩ Lw.pure_law ?_
    intro w mg fa h Y G hmg0
    obtain ⟨K, KX, c⟩ := Y
    have hmg : mg ("law" : PySem.Str) = some (.ref fa) := by
      have e : (HandSHeadRun.topDef (OpenLaw.row PySem.Challenge.rw_streetrounds_k15_any_text_read).prog 38).name = ("law" : PySem.Str) := by kernel_rfl
      rw [← e]
      exact hmg0
    obtain ⟨fd, hb, hF⟩ := Lw.allL (P := (PySem.Challenge.rw_streetrounds_k15_any_text_read).prog) (w := w) KX G hmg c
    refine ⟨K, fd, Lw.ctL K, KX, fun p hp => ?_, fun p hp => ?_, fun p hp => ?_, hb, hF⟩
    all_goals
      obtain ⟨d, hd, e⟩ : ∃ d ∈ Lw.tfD, p.1 = He.cT K d := by
        simp only [Lw.ctL, List.mem_cons, List.not_mem_nil, or_false, false_or] at hp
        first
          | exact hp.elim
          | (simp only [Lw.tfD, List.mem_cons, List.not_mem_nil, or_false, exists_eq_or_imp, exists_eq_left]
             rcases hp with hp | hp | hp | hp <;> subst hp <;> simp)
          | (simp only [Lw.tfD, List.mem_cons, List.not_mem_nil, or_false, exists_eq_or_imp, exists_eq_left]
             rcases hp with hp | hp | hp <;> subst hp <;> simp)
          | (simp only [Lw.tfD, List.mem_cons, List.not_mem_nil, or_false, exists_eq_or_imp, exists_eq_left]
             rcases hp with hp | hp <;> subst hp <;> simp)
          | (simp only [Lw.tfD, List.mem_cons, List.not_mem_nil, or_false, exists_eq_or_imp, exists_eq_left]
             subst hp; simp)
    · rw [e]; exact c.empty d hd
    · rw [e]; exact c.out d hd
    · rw [e]; exact PySem.W.codeHd_of_K KX (c.hd d hd)
