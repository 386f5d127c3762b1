import PyProof.Rows.All
import Wide.All
import OpenK.AllK
import Wide.FinOn
import HandS.Base
import HandS.Call
import HandS.List
import HandS.Comp
import HandS.HeadHook1
import HandS.Iter
import HandS.Zip
import KE.GoesEnum
import HandS.Exc
import HandS.ExcOwn
import HandS.Defaults
import HandS.Words
import HandS.WordsExc
import HandS.TupAny
import HandS.TupMul
import HandS.Deep
import HandS.IsInst
import HandS.Conv
import HandS.Text
import HandS.More
import HandS.Style
import HandS.Ends
import HandS.Head0
import HandS.Head1
import HandS.Head2
import HandS.HeadEnd
import HandS.HeadHook2
import HandS.HeadHook3
import HandS.HeadHook4
import HandS.Dict
import HandS.DictComp
import HandS.Strs
import PySem.Challenge.RW_streetrounds_k14_written_and_read
set_option Elab.async false
set_option linter.all false
set_option maxRecDepth 100000
set_option maxHeartbeats 4000000
namespace Sm
open PySem L2
/-! values without addresses: tuples by value, lists, dicts, instances by a place in a memory -/
inductive Val where
  | non | bl (b : Bool) | int (i : Int) | str (x : Str) | tup (l : List Val) | frz (l : List Int) | loc (n : Nat)
inductive Cell where
  | lst (l : List Val)
  | dK (kvs : List (Key × Val))
  | dT (kvs : List (List Key × Val))
  | ins (C : Str) (fs : List (Str × Val))
abbrev Mem := List Cell
abbrev Sl := List (Option Val)

/-- a list that nobody writes -/
def FzL (K : PySem.W.Frag) (H : Hp) (a : Addr) (xs : List V) : Prop :=
  (∃ o, H a = some (.frz o (.lst xs))) ∨
    ∃ (o : Obj) (its : Array Value) (n : Nat), K.lookup a = some o ∧ o.cls = .type "list" ∧ o.dict = none ∧ o.data = .seq its n ∧ its.size ≤ sizeLine ∧ Vals xs its.toList
theorem FzL.sq {K : PySem.W.Frag} {H : Hp} {a : Addr} {xs : List V} (h : FzL K H a xs) : SqL K H a xs := by
  rcases h with h | h
  · exact .inl (.inr h)
  · exact .inr h
mutual
def RV (K : PySem.W.Frag) (ρ : List Addr) (H : Hp) : Val → V → Prop
  | .non, v => v = .non
  | .bl b, v => v = .bl b
  | .int i, v => v = .int i
  | .str x, v => v = .str x
  | .tup l, v => ∃ a vs, v = .ref a ∧ SqT K H a vs ∧ RVs K ρ H l vs
  | .frz l, v => ∃ a, v = .ref a ∧ FzL K H a (l.map V.int)
  | .loc n, v => ∃ a, v = .ref a ∧ ρ[n]? = some a
def RVs (K : PySem.W.Frag) (ρ : List Addr) (H : Hp) : List Val → List V → Prop
  | [], vs => vs = []
  | x :: l, vs => ∃ v r, vs = v :: r ∧ RV K ρ H x v ∧ RVs K ρ H l r
end
structure Ext (ρ : List Addr) (H : Hp) (ρ' : List Addr) (H' : Hp) : Prop where
  pre : ∃ t, ρ' = ρ ++ t
  tup : ∀ a xs, H a = some (.tup xs) → H' a = some (.tup xs)
  frz : ∀ a o u, H a = some (.frz o u) → H' a = some (.frz o u)
theorem Ext.refl (ρ : List Addr) (H : Hp) : Ext ρ H ρ H := ⟨⟨[], by simp⟩, fun _ _ h => h, fun _ _ _ h => h⟩
theorem Ext.trans {ρ ρ1 ρ2 : List Addr} {H H1 H2 : Hp} (a : Ext ρ H ρ1 H1) (b : Ext ρ1 H1 ρ2 H2) : Ext ρ H ρ2 H2 := by
  obtain ⟨t, e⟩ := a.pre
  obtain ⟨u, e'⟩ := b.pre
  exact ⟨⟨t ++ u, by rw [e', e, List.append_assoc]⟩, fun _ _ h => b.tup _ _ (a.tup _ _ h), fun _ _ _ h => b.frz _ _ _ (a.frz _ _ _ h)⟩
theorem Ext.get {ρ ρ' : List Addr} {H H' : Hp} (e : Ext ρ H ρ' H') {n : Nat} {a : Addr} (h : ρ[n]? = some a) : ρ'[n]? = some a := by
  obtain ⟨t, rfl⟩ := e.pre
  have hl : n < ρ.length := (List.getElem?_eq_some_iff.mp h).1
  rw [List.getElem?_append_left hl]; exact h
theorem Ext.sqT {K : PySem.W.Frag} {ρ ρ' : List Addr} {H H' : Hp} (e : Ext ρ H ρ' H') {a : Addr} {xs : List V} (h : SqT K H a xs) : SqT K H' a xs := by
  rcases h with (h | ⟨o, h⟩) | h
  · exact .inl (.inl (e.tup _ _ h))
  · exact .inl (.inr ⟨o, e.frz _ _ _ h⟩)
  · exact .inr h
theorem Ext.fzL {K : PySem.W.Frag} {ρ ρ' : List Addr} {H H' : Hp} (e : Ext ρ H ρ' H') {a : Addr} {xs : List V} (h : FzL K H a xs) : FzL K H' a xs := by
  rcases h with ⟨o, h⟩ | h
  · exact .inl ⟨o, e.frz _ _ _ h⟩
  · exact .inr h
section
variable {K : PySem.W.Frag} {ρ ρ' : List Addr} {H H' : Hp}
mutual
theorem RV.mono (e : Ext ρ H ρ' H') : ∀ (x : Val) (v : V), RV K ρ H x v → RV K ρ' H' x v
  | .non, _, h => h
  | .bl _, _, h => h
  | .int _, _, h => h
  | .str _, _, h => h
  | .tup l, _, ⟨a, vs, h1, h2, h3⟩ => ⟨a, vs, h1, e.sqT h2, RVs.mono e l vs h3⟩
  | .frz _, _, ⟨a, h1, h2⟩ => ⟨a, h1, e.fzL h2⟩
  | .loc _, _, ⟨a, h1, h2⟩ => ⟨a, h1, e.get h2⟩
theorem RVs.mono (e : Ext ρ H ρ' H') : ∀ (l : List Val) (vs : List V), RVs K ρ H l vs → RVs K ρ' H' l vs
  | [], _, h => h
  | x :: l, _, ⟨v, r, h1, h2, h3⟩ => ⟨v, r, h1, RV.mono e x v h2, RVs.mono e l r h3⟩
end
theorem RVs.length : ∀ {l : List Val} {vs : List V}, RVs K ρ H l vs → vs.length = l.length
  | [], _, h => by cases (show _ = [] from h); rfl
  | x :: l, _, ⟨v, r, h1, h2, h3⟩ => by subst h1; simp [RVs.length h3]
theorem RVs.append : ∀ {l m : List Val} {vs ws : List V}, RVs K ρ H l vs → RVs K ρ H m ws → RVs K ρ H (l ++ m) (vs ++ ws)
  | [], _, _, _, h, k => by cases (show _ = [] from h); exact k
  | x :: l, _, _, _, ⟨v, r, h1, h2, h3⟩, k => by subst h1; exact ⟨v, _, rfl, h2, RVs.append h3 k⟩
theorem RVs.get : ∀ {l : List Val} {vs : List V} {i : Nat} {x : Val}, RVs K ρ H l vs → l[i]? = some x → ∃ v, vs[i]? = some v ∧ RV K ρ H x v
  | [], _, _, _, _, e => by simp at e
  | y :: l, _, 0, x, ⟨v, r, h1, h2, h3⟩, e => by subst h1; simp at e; subst e; exact ⟨v, rfl, h2⟩
  | y :: l, _, i + 1, x, ⟨v, r, h1, h2, h3⟩, e => by
    subst h1
    obtain ⟨u, e1, e2⟩ := RVs.get (i := i) (x := x) h3 (by simpa using e)
    exact ⟨u, by simpa using e1, e2⟩
theorem RVs.set {y : Val} {w : V} (hy : RV K ρ H y w) : ∀ {l : List Val} {vs : List V} (i : Nat), RVs K ρ H l vs → RVs K ρ H (l.set i y) (vs.set i w)
  | [], _, _, h => by cases (show _ = [] from h); simp; rfl
  | x :: l, _, 0, ⟨v, r, h1, h2, h3⟩ => by subst h1; exact ⟨w, r, rfl, hy, h3⟩
  | x :: l, _, i + 1, ⟨v, r, h1, h2, h3⟩ => by subst h1; exact ⟨v, _, rfl, h2, RVs.set hy i h3⟩
theorem RVs.take : ∀ {l : List Val} {vs : List V} (n : Nat), RVs K ρ H l vs → RVs K ρ H (l.take n) (vs.take n)
  | _, _, 0, _ => by simp; rfl
  | [], _, n + 1, h => by cases (show _ = [] from h); simp; rfl
  | x :: l, _, n + 1, ⟨v, r, h1, h2, h3⟩ => by subst h1; exact ⟨v, _, rfl, h2, RVs.take n h3⟩
theorem RVs.drop : ∀ {l : List Val} {vs : List V} (n : Nat), RVs K ρ H l vs → RVs K ρ H (l.drop n) (vs.drop n)
  | _, _, 0, h => by simpa using h
  | [], _, n + 1, h => by cases (show _ = [] from h); simp; rfl
  | x :: l, _, n + 1, ⟨v, r, h1, h2, h3⟩ => by subst h1; exact RVs.drop n h3
theorem RVs.eraseIdx : ∀ {l : List Val} {vs : List V} (n : Nat), RVs K ρ H l vs → RVs K ρ H (l.eraseIdx n) (vs.eraseIdx n)
  | [], _, _, h => by cases (show _ = [] from h); simp; rfl
  | x :: l, _, 0, ⟨v, r, h1, h2, h3⟩ => by subst h1; exact h3
  | x :: l, _, n + 1, ⟨v, r, h1, h2, h3⟩ => by subst h1; exact ⟨v, _, rfl, h2, RVs.eraseIdx n h3⟩
theorem RVs.dropLast : ∀ {l : List Val} {vs : List V}, RVs K ρ H l vs → RVs K ρ H l.dropLast vs.dropLast
  | l, vs, h => by
    rw [List.dropLast_eq_take, List.dropLast_eq_take, h.length]
    exact h.take _
theorem RVs.rep : ∀ {l : List Val} {vs : List V} (k : Nat), RVs K ρ H l vs → RVs K ρ H (List.replicate k l).flatten (List.replicate k vs).flatten
  | _, _, 0, _ => rfl
  | l, vs, k + 1, h => by
    rw [List.replicate_succ, List.replicate_succ, List.flatten_cons, List.flatten_cons]
    exact h.append (h.rep k)
theorem RVs.reverse : ∀ {l : List Val} {vs : List V}, RVs K ρ H l vs → RVs K ρ H l.reverse vs.reverse
  | [], _, h => by cases (show _ = [] from h); exact rfl
  | x :: l, _, ⟨v, r, h1, h2, h3⟩ => by
    subst h1
    rw [List.reverse_cons, List.reverse_cons]
    exact RVs.append (RVs.reverse h3) ⟨v, [], rfl, h2, rfl⟩
theorem RVs.snoc {l : List Val} {vs : List V} {x : Val} {v : V} (h : RVs K ρ H l vs) (k : RV K ρ H x v) : RVs K ρ H (l ++ [x]) (vs ++ [v]) := h.append ⟨v, [], rfl, k, rfl⟩
theorem RVs.ints : ∀ (l : List Int) {vs : List V}, RVs K ρ H (l.map Val.int) vs ↔ vs = l.map V.int
  | [], vs => Iff.rfl
  | i :: l, vs => by
    constructor
    · rintro ⟨v, r, h1, h2, h3⟩
      cases (show v = V.int i from h2)
      rw [h1, (RVs.ints l).mp h3]
      rfl
    · rintro rfl
      exact ⟨_, _, rfl, rfl, (RVs.ints l).mpr rfl⟩
/-- the values of a dict, of an instance -/
def RKs {κ : Type} (K : PySem.W.Frag) (ρ : List Addr) (H : Hp) : List (κ × Val) → List (κ × V) → Prop
  | [], ws => ws = []
  | (k, x) :: l, ws => ∃ v r, ws = (k, v) :: r ∧ RV K ρ H x v ∧ RKs K ρ H l r
theorem RKs.mono {κ : Type} (e : Ext ρ H ρ' H') : ∀ {l : List (κ × Val)} {ws : List (κ × V)}, RKs K ρ H l ws → RKs K ρ' H' l ws
  | [], _, h => h
  | (k, x) :: l, _, ⟨v, r, h1, h2, h3⟩ => ⟨v, r, h1, RV.mono e x v h2, RKs.mono e h3⟩
def CellR (K : PySem.W.Frag) (ρ : List Addr) (H : Hp) (a : Addr) : Cell → Prop
  | .lst l => ∃ vs, H a = some (.lst vs) ∧ RVs K ρ H l vs
  | .dK kvs => ∃ ws, H a = some (.dK ws) ∧ RKs K ρ H kvs ws
  | .dT kvs => ∃ ws, H a = some (.dT ws) ∧ RKs K ρ H kvs ws
  | .ins C fs => ∃ dx ws, H a = some (.ins (He.ga K C) dx ws) ∧ RKs K ρ H fs ws
theorem CellR.some {a : Addr} : ∀ {c : Cell}, CellR K ρ H a c → ∃ o, H a = some o ∧ Mut (some o)
  | .lst _, ⟨_, h, _⟩ => ⟨_, h, trivial⟩
  | .dK _, ⟨_, h, _⟩ => ⟨_, h, trivial⟩
  | .dT _, ⟨_, h, _⟩ => ⟨_, h, trivial⟩
  | .ins _ _, ⟨_, _, h, _⟩ => ⟨_, h, trivial⟩
/-- carried to another heap that holds the same at a -/
theorem CellR.mono {a : Addr} (e : Ext ρ H ρ' H') (ha : H' a = H a) : ∀ {c : Cell}, CellR K ρ H a c → CellR K ρ' H' a c
  | .lst _, ⟨_, h, r⟩ => ⟨_, ha.trans h, RVs.mono e _ _ r⟩
  | .dK _, ⟨_, h, r⟩ => ⟨_, ha.trans h, r.mono e⟩
  | .dT _, ⟨_, h, r⟩ => ⟨_, ha.trans h, r.mono e⟩
  | .ins _ _, ⟨_, _, h, r⟩ => ⟨_, _, ha.trans h, r.mono e⟩
structure Rel (K : PySem.W.Frag) (ρ : List Addr) (M : Mem) (H : Hp) : Prop where
  len : ρ.length = M.length
  nd : ρ.Nodup
  at_ : ∀ (n : Nat) (c : Cell) (a : Addr), M[n]? = Option.some c → ρ[n]? = Option.some a → CellR K ρ H a c
theorem Rel.mem {M : Mem} (R : Rel K ρ M H) {a : Addr} (h : a ∈ ρ) : ∃ o, H a = Option.some o ∧ Mut (Option.some o) := by
  obtain ⟨n, hn⟩ := List.getElem?_of_mem h
  have hl : n < M.length := by rw [← R.len]; exact (List.getElem?_eq_some_iff.mp hn).1
  exact (R.at_ n (M[n]) a (List.getElem?_eq_getElem hl) hn).some
/-- a fresh address gets something -/
theorem Ext.fresh {p : Addr} {o : HO} (ρ : List Addr) (hp : H p = none) : Ext ρ H ρ (upd H p o) :=
  ⟨⟨[], by simp⟩, fun a xs h => by rw [upd_ne (ne_of_none h hp)]; exact h, fun a q u h => by rw [upd_ne (ne_of_none h hp)]; exact h⟩
theorem Rel.fresh {M : Mem} {p : Addr} {o : HO} (R : Rel K ρ M H) (hp : H p = none) : Rel K ρ M (upd H p o) :=
  ⟨R.len, R.nd, fun n c a h1 h2 => (R.at_ n c a h1 h2).mono (Ext.fresh ρ hp) (by
    obtain ⟨u, hu, _⟩ := R.mem (List.mem_of_getElem? h2)
    rw [upd_ne (ne_of_none hu hp)])⟩
/-- .. that is known from now on -/
theorem Ext.alloc {p : Addr} {o : HO} (ρ : List Addr) (hp : H p = none) : Ext ρ H (ρ ++ [p]) (upd H p o) :=
  ⟨⟨[p], rfl⟩, (Ext.fresh ρ hp).tup, (Ext.fresh ρ hp).frz⟩
theorem Rel.alloc {M : Mem} {p : Addr} {o : HO} {c : Cell} (R : Rel K ρ M H) (hp : H p = none) (hc : CellR K (ρ ++ [p]) (upd H p o) p c) : Rel K (ρ ++ [p]) (M ++ [c]) (upd H p o) := by
  have hnot : p ∉ ρ := fun h => by
    obtain ⟨u, hu, _⟩ := R.mem h
    rw [hp] at hu; cases hu
  refine ⟨by simp [R.len], ?_, fun n c' a h1 h2 => ?_⟩
  · rw [List.nodup_append]
    refine ⟨R.nd, by simp, fun x hx y hy e => hnot ?_⟩
    have hy' : y = p := by simpa using hy
    rw [← hy', ← e]; exact hx
  · by_cases hn : n < M.length
    · rw [List.getElem?_append_left hn] at h1
      rw [List.getElem?_append_left (by rw [R.len]; exact hn)] at h2
      refine (R.at_ n c' a h1 h2).mono (Ext.alloc ρ hp) ?_
      obtain ⟨u, hu, _⟩ := R.mem (List.mem_of_getElem? h2)
      rw [upd_ne (ne_of_none hu hp)]
    · have hl := (List.getElem?_eq_some_iff.mp h1).1
      simp at hl
      have e : n = M.length := by omega
      subst e
      rw [List.getElem?_append_right (Nat.le_refl _)] at h1
      rw [← R.len, List.getElem?_append_right (Nat.le_refl _)] at h2
      simp at h1 h2
      subst h1 h2
      exact hc
/-- a known object is written -/
theorem Ext.write {a : Addr} {o : HO} (ρ : List Addr) (hm : Mut (H a)) : Ext ρ H ρ (upd H a o) :=
  ⟨⟨[], by simp⟩, fun b xs h => by
    have : b ≠ a := by rintro rfl; rw [h] at hm; exact hm
    rw [upd_ne this]; exact h, fun b q u h => by
    have : b ≠ a := by rintro rfl; rw [h] at hm; exact hm
    rw [upd_ne this]; exact h⟩
theorem Rel.write {M : Mem} {n : Nat} {a : Addr} {o : HO} {c : Cell} (R : Rel K ρ M H) (hn : ρ[n]? = Option.some a) (hc : CellR K ρ (upd H a o) a c) : Rel K ρ (M.set n c) (upd H a o) ∧ Ext ρ H ρ (upd H a o) := by
  have hm : Mut (H a) := by
    obtain ⟨u, hu, m⟩ := R.mem (List.mem_of_getElem? hn)
    rw [hu]; exact m
  refine ⟨⟨by simp [R.len], R.nd, fun k c' b h1 h2 => ?_⟩, Ext.write ρ hm⟩
  by_cases hk : n = k
  · subst hk
    have hl : n < M.length := by rw [← R.len]; exact (List.getElem?_eq_some_iff.mp hn).1
    rw [List.getElem?_set_self hl] at h1
    cases h1
    rw [hn] at h2; cases h2
    exact hc
  · rw [List.getElem?_set_ne hk] at h1
    refine (R.at_ k c' b h1 h2).mono (Ext.write ρ hm) (upd_ne ?_)
    rintro rfl
    have h3 := (List.getElem?_inj (by exact (List.getElem?_eq_some_iff.mp hn).1) R.nd).mp (hn.trans h2.symm)
    exact hk h3
end
end Sm

namespace L2
open PySem
section
variable {X : Cx}
theorem PE.imp {e : Expr} {t t' : TE} (h : PE X e t) (i : ∀ σ H Q, t' σ H Q → t σ H Q) : PE X e t' := ⟨fun pins s σ H Q I q => h.run pins s σ H Q I (i σ H Q q)⟩
theorem PT.imp {e : Expr} {t t' : TT} (h : PT X e t) (i : ∀ σ H Q, t' σ H Q → t σ H Q) : PT X e t' := ⟨fun pins s σ H Q I q => h.run pins s σ H Q I (i σ H Q q)⟩
theorem PW.imp {e : Expr} {t t' : TT} (h : PW X e t) (i : ∀ σ H Q, t' σ H Q → t σ H Q) : PW X e t' := ⟨fun w pins s σ H Q I q => h.run w pins s σ H Q I (i σ H Q q)⟩
theorem PA.imp {e : List Expr} {t t' : TA} (h : PA X e t) (i : ∀ σ H Q, t' σ H Q → t σ H Q) : PA X e t' := ⟨fun p pins s σ H Q I q => h.run p pins s σ H Q I (i σ H Q q)⟩
theorem PS.imp {e : Stmt} {t t' : TS} (h : PS X e t) (i : ∀ D σ H, t' D σ H → t D σ H) : PS X e t' := ⟨fun pins s σ H D I q => h.run pins s σ H D I (i D σ H q)⟩
theorem PSs.imp {e : List Stmt} {t t' : TS} (h : PSs X e t) (i : ∀ D σ H, t' D σ H → t D σ H) : PSs X e t' := ⟨fun pins s σ H D I q => h.run pins s σ H D I (i D σ H q)⟩
end
end L2
namespace Sm
open PySem L2
/-! outcomes -/
structure Ex where
  cls : Str
  fs : List (Str × Val)
inductive Out (α : Type) where
  | ok (a : α) (M : Mem) | ex (x : Ex) (M : Mem) | bad
inductive SO where
  | nx (e : Sl) (M : Mem) | rt (x : Val) (M : Mem) | bk (e : Sl) (M : Mem) | ct (e : Sl) (M : Mem) | ex (x : Ex) (e : Sl) (M : Mem) | bad
abbrev EF := Sl → Mem → Out Val
abbrev TF := Sl → Mem → Out Bool
abbrev AF := Sl → Mem → Out (List Val)
abbrev SF := Sl → Mem → SO
abbrev FnS := List Val → Mem → Out Val
def Out.bind {α β : Type} (o : Out α) (k : α → Mem → Out β) : Out β := match o with
  | .ok a M => k a M
  | .ex x M => .ex x M
  | .bad => .bad
theorem Out.bind_ok {α β : Type} (a : α) (M : Mem) (k : α → Mem → Out β) : (Out.ok a M).bind k = k a M := rfl
theorem Out.bind_ex {α β : Type} (x : Ex) (M : Mem) (k : α → Mem → Out β) : (Out.ex x M : Out α).bind k = .ex x M := rfl
theorem Out.bind_bad {α β : Type} (k : α → Mem → Out β) : (Out.bad : Out α).bind k = .bad := rfl
section
variable {K : PySem.W.Frag} {ρ ρ' : List Addr} {H H' : Hp} {σ : St} {W : WX} {α β γ : Type}
/-- slots -/
structure SlR (K : PySem.W.Frag) (ρ : List Addr) (H : Hp) (e : Sl) (σ : St) : Prop where
  len : e.length = σ.length
  at_ : ∀ (i : Nat) (x : Val), e[i]? = some (some x) → ∃ v, σ[i]? = some (some v) ∧ RV K ρ H x v
theorem SlR.mono {e : Sl} (S : SlR K ρ H e σ) (E : Ext ρ H ρ' H') : SlR K ρ' H' e σ :=
  ⟨S.len, fun i x h => let ⟨v, h1, h2⟩ := S.at_ i x h; ⟨v, h1, RV.mono E _ _ h2⟩⟩
theorem SlR.set {e : Sl} {x : Val} {v : V} (S : SlR K ρ H e σ) (i : Nat) (r : RV K ρ H x v) : SlR K ρ H (e.set i (some x)) (σ.set i (some v)) := by
  refine ⟨by simp [S.len], fun j y h => ?_⟩
  by_cases hj : i = j
  · subst hj
    by_cases hl : i < e.length
    · rw [List.getElem?_set_self hl] at h
      cases h
      exact ⟨v, by rw [List.getElem?_set_self (by rw [← S.len]; exact hl)], r⟩
    · rw [List.getElem?_eq_none (by simpa using hl)] at h; cases h
  · rw [List.getElem?_set_ne hj] at h
    rw [List.getElem?_set_ne hj]
    exact S.at_ j y h
theorem SlR.unset {e : Sl} (S : SlR K ρ H e σ) (i : Nat) : SlR K ρ H (e.set i none) (σ.set i none) := by
  refine ⟨by simp [S.len], fun j y h => ?_⟩
  by_cases hj : i = j
  · subst hj
    by_cases hl : i < e.length
    · rw [List.getElem?_set_self hl] at h; cases h
    · rw [List.getElem?_eq_none (by simpa using hl)] at h; cases h
  · rw [List.getElem?_set_ne hj] at h
    rw [List.getElem?_set_ne hj]
    exact S.at_ j y h
/-- an exception's class and dict -/
def XR (K : PySem.W.Frag) (ρ : List Addr) (H : Hp) (x : Ex) (cls : Value) (d : Option Addr) : Prop :=
  cls = .ref (He.ga K x.cls) ∧ match x.fs with
    | [] => d = none
    | f :: r => ∃ a ws, d = some a ∧ H a = some (.xd ws) ∧ RKs K ρ H (f :: r) ws
abbrev RR (α β : Type) := List Addr → Hp → α → β → Prop
/-- what is wanted of an outcome -/
def Po (R : RR α β) (K : PySem.W.Frag) (ρ : List Addr) (H : Hp) (σ : St) (W : WX) (Q : β → Hp → Prop) : Out α → Prop
  | .ok a M => ∀ ρ' H' b, Ext ρ H ρ' H' → Rel K ρ' M H' → R ρ' H' a b → Q b H'
  | .ex x M => ∀ ρ' H' cls d, Ext ρ H ρ' H' → Rel K ρ' M H' → XR K ρ' H' x cls d → W cls d σ H'
  | .bad => False
theorem Po.mono {R : RR α β} {Q : β → Hp → Prop} (E : Ext ρ H ρ' H') : ∀ {o : Out α}, Po R K ρ H σ W Q o → Po R K ρ' H' σ W Q o
  | .ok _ _, h => fun ρ2 H2 b E2 r2 q => h ρ2 H2 b (E.trans E2) r2 q
  | .ex _ _, h => fun ρ2 H2 c d E2 r2 q => h ρ2 H2 c d (E.trans E2) r2 q
  | .bad, h => h
theorem Po.imp {R : RR α β} {Q Q' : β → Hp → Prop} (i : ∀ b H', Q b H' → Q' b H') : ∀ {o : Out α}, Po R K ρ H σ W Q o → Po R K ρ H σ W Q' o
  | .ok _ _, h => fun ρ2 H2 b E2 r2 q => i _ _ (h ρ2 H2 b E2 r2 q)
  | .ex _ _, h => h
  | .bad, h => h
/-- the outcome's continuation -/
theorem Po.bind {R : RR α β} {R' : RR γ δ} {Q : δ → Hp → Prop} {k : α → Mem → Out γ} : ∀ {o : Out α}, Po R' K ρ H σ W Q (o.bind k) →
    Po R K ρ H σ W (fun b H1 => ∃ ρ1 M1 a, Ext ρ H ρ1 H1 ∧ Rel K ρ1 M1 H1 ∧ R ρ1 H1 a b ∧ Po R' K ρ1 H1 σ W Q (k a M1)) o
  | .ok a M, h => fun ρ1 H1 b E1 r1 q => ⟨ρ1, M, a, E1, r1, q, Po.mono E1 h⟩
  | .ex _ _, h => h
  | .bad, h => h
abbrev RVr (K : PySem.W.Frag) : RR Val V := fun ρ H x v => RV K ρ H x v
abbrev RVsr (K : PySem.W.Frag) : RR (List Val) (List V) := fun ρ H x v => RVs K ρ H x v
abbrev Beq (K : PySem.W.Frag) : RR Bool Bool := fun _ _ x v => x = v
end
/-! readings -/
def tE (K : PySem.W.Frag) (W : WX) (f : EF) : TE := fun σ H Q => ∃ ρ e M, Rel K ρ M H ∧ SlR K ρ H e σ ∧ Po (RVr K) K ρ H σ W Q (f e M)
def tT (K : PySem.W.Frag) (W : WX) (f : TF) : TT := fun σ H Q => ∃ ρ e M, Rel K ρ M H ∧ SlR K ρ H e σ ∧ Po (Beq K) K ρ H σ W Q (f e M)
def tA (K : PySem.W.Frag) (W : WX) (f : AF) : TA := fun σ H Q => ∃ ρ e M, Rel K ρ M H ∧ SlR K ρ H e σ ∧ Po (RVsr K) K ρ H σ W Q (f e M)
structure SE (X : Cx) (W : WX) (e : Expr) (f : EF) : Prop where
  pe : PE X e (tE X.K W f)
structure ST (X : Cx) (W : WX) (e : Expr) (f : TF) : Prop where
  pt : PT X e (tT X.K W f)
structure SW (X : Cx) (W : WX) (e : Expr) (f : TF) : Prop where
  pw : PW X e (tT X.K W f)
structure SA (X : Cx) (W : WX) (es : List Expr) (f : AF) : Prop where
  pa : PA X es (tA X.K W f)
def PoS (K : PySem.W.Frag) (ρ : List Addr) (H : Hp) (W : WX) (D : Ends) : SO → Prop
  | .nx e M => ∀ ρ' H' σ', Ext ρ H ρ' H' → Rel K ρ' M H' → SlR K ρ' H' e σ' → D.nx σ' H'
  | .rt x M => ∀ ρ' H' v, Ext ρ H ρ' H' → Rel K ρ' M H' → RV K ρ' H' x v → D.rt v H'
  | .bk e M => ∀ ρ' H' σ', Ext ρ H ρ' H' → Rel K ρ' M H' → SlR K ρ' H' e σ' → D.bk σ' H'
  | .ct e M => ∀ ρ' H' σ', Ext ρ H ρ' H' → Rel K ρ' M H' → SlR K ρ' H' e σ' → D.ct σ' H'
  | .ex x e M => ∀ ρ' H' σ' cls d, Ext ρ H ρ' H' → Rel K ρ' M H' → SlR K ρ' H' e σ' → XR K ρ' H' x cls d → W cls d σ' H'
  | .bad => False
theorem PoS.mono {K : PySem.W.Frag} {ρ ρ' : List Addr} {H H' : Hp} {W : WX} {D : Ends} (E : Ext ρ H ρ' H') : ∀ {o : SO}, PoS K ρ H W D o → PoS K ρ' H' W D o
  | .nx _ _, h => fun ρ2 H2 b E2 r2 q => h ρ2 H2 b (E.trans E2) r2 q
  | .rt _ _, h => fun ρ2 H2 b E2 r2 q => h ρ2 H2 b (E.trans E2) r2 q
  | .bk _ _, h => fun ρ2 H2 b E2 r2 q => h ρ2 H2 b (E.trans E2) r2 q
  | .ct _ _, h => fun ρ2 H2 b E2 r2 q => h ρ2 H2 b (E.trans E2) r2 q
  | .ex _ _ _, h => fun ρ2 H2 s c d E2 r2 q => h ρ2 H2 s c d (E.trans E2) r2 q
  | .bad, h => h
def tSt (K : PySem.W.Frag) (W : WX) (f : SF) : TS := fun D σ H => ∃ ρ e M, Rel K ρ M H ∧ SlR K ρ H e σ ∧ PoS K ρ H W D (f e M)
structure SS (X : Cx) (W : WX) (st : Stmt) (f : SF) : Prop where
  ps : PS X st (tSt X.K W f)
structure SSs (X : Cx) (W : WX) (st : List Stmt) (f : SF) : Prop where
  pss : PSs X st (tSt X.K W f)
/-! expressions -/
def eC (x : Val) : EF := fun _ M => .ok x M
def eVar (i : Nat) : EF := fun e M => match e[i]? with
  | some (some x) => .ok x M
  | _ => .bad
def eOp2 (g : Val → Val → Mem → Out Val) (fa fb : EF) : EF := fun e M => (fa e M).bind fun x M1 => (fb e M1).bind fun y M2 => g x y M2
def eOp1 (g : Val → Mem → Out Val) (fa : EF) : EF := fun e M => (fa e M).bind fun x M1 => g x M1
def aNil : AF := fun _ M => .ok [] M
def aCons (fa : EF) (fr : AF) : AF := fun e M => (fa e M).bind fun x M1 => (fr e M1).bind fun l M2 => .ok (x :: l) M2
def eTup (fa : AF) : EF := fun e M => (fa e M).bind fun l M1 => if l.length ≤ sizeLine then .ok (.tup l) M1 else .bad
def eLst (fa : AF) : EF := fun e M => (fa e M).bind fun l M1 => if l.length ≤ sizeLine then .ok (.loc M1.length) (M1 ++ [.lst l]) else .bad
def eCall (F : FnS) (fa : AF) : EF := fun e M => (fa e M).bind fun l M1 => F l M1
def eIf (t : TF) (fa fb : EF) : EF := fun e M => (t e M).bind fun b M1 => if b = true then fa e M1 else fb e M1
/-- a rule on values and what it comes to -/
def OpS (K : PySem.W.Frag) (r : R2) (g : Val → Val → Mem → Out Val) : Prop :=
  ∀ (ρ : List Addr) (M : Mem) (H : Hp) (σ : St) (W : WX) (Q : VK) (x y : Val) (v u : V), Rel K ρ M H → RV K ρ H x v → RV K ρ H y u → Po (RVr K) K ρ H σ W Q (g x y M) → r v u H Q
def UnS (K : PySem.W.Frag) (r : V → Hp → VK → Prop) (g : Val → Mem → Out Val) : Prop :=
  ∀ (ρ : List Addr) (M : Mem) (H : Hp) (σ : St) (W : WX) (Q : VK) (x : Val) (v : V), Rel K ρ M H → RV K ρ H x v → Po (RVr K) K ρ H σ W Q (g x M) → r v H Q
def CallS (K : PySem.W.Frag) (r : List V → Hp → VK → Prop) (g : FnS) : Prop :=
  ∀ (ρ : List Addr) (M : Mem) (H : Hp) (σ : St) (W : WX) (Q : VK) (l : List Val) (vs : List V), Rel K ρ M H → RVs K ρ H l vs → Po (RVr K) K ρ H σ W Q (g l M) → r vs H Q
theorem OpS.or {K : PySem.W.Frag} {r r' : R2} {g : Val → Val → Mem → Out Val} (h : ∀ (ρ : List Addr) (M : Mem) (H : Hp) (σ : St) (W : WX) (Q : VK) (x y : Val) (v u : V), Rel K ρ M H → RV K ρ H x v → RV K ρ H y u → Po (RVr K) K ρ H σ W Q (g x y M) → r v u H Q ∨ r' v u H Q) :
    OpS K (fun x y H Q => r x y H Q ∨ r' x y H Q) g := h
section
variable {X : Cx} {W : WX} {a b c : Expr} {fa fb fc : EF} {pos : Pos}
theorem se_var {i : Nat} {x : Str} (hN : X.N[i]? = some x := by rfl) (hv : Vis X.env.scope x := by first | exact Or.inl rfl | exact Or.inr (Or.inl rfl) | exact Or.inr (Or.inr rfl)) (hd : (x == ("__debug__" : Str)) = false := by decide) (hcd : (x == ("__classdict__" : Str)) = false := by decide) :
    SE X W (.Name x pos) (eVar i) := ⟨(pe_var (i := i) hN hv hd hcd).imp fun σ H Q ⟨ρ, e, M, R, S, p⟩ => by
  unfold eVar at p
  cases h : e[i]? with
  | none => rw [h] at p; exact p.elim
  | some o => cases o with
    | none => rw [h] at p; exact p.elim
    | some x => rw [h] at p; obtain ⟨v, h1, h2⟩ := S.at_ i x h; exact ⟨v, h1, p ρ H v (Ext.refl _ _) R h2⟩⟩
theorem se_const {e : Expr} {x : Val} {v : V} (h : PE X e (tC v)) (r : ∀ ρ H, RV X.K ρ H x v) : SE X W e (eC x) := ⟨h.imp fun σ H Q ⟨ρ, e, M, R, S, p⟩ => p ρ H v (Ext.refl _ _) R (r ρ H)⟩
theorem se_int {i j} : SE X W (.Constant (.int i) j pos) (eC (.int i)) := se_const pe_int fun _ _ => rfl
theorem se_bl {b j} : SE X W (.Constant (.bool b) j pos) (eC (.bl b)) := se_const pe_bl fun _ _ => rfl
theorem se_non {j} : SE X W (.Constant .none j pos) (eC .non) := se_const pe_non fun _ _ => rfl
theorem se_str {x j} : SE X W (.Constant (.str x) j pos) (eC (.str x)) := se_const pe_str fun _ _ => rfl
/-- a module's number -/
theorem se_gint {x : Str} {i : Int} (hm : ∃ t, X.mg x = some (.int i t)) (hg : Gl X x := by rfl) (hd : (x == ("__debug__" : Str)) = false := by decide) : SE X W (.Name x pos) (eC (.int i)) := by
  obtain ⟨t, hm⟩ := hm
  exact se_const (pe_glob (v := .int i) hg hm ⟨t, rfl⟩ hd) fun _ _ => rfl
theorem se_gstr {x : Str} {i : Str} (hm : ∃ t, X.mg x = some (.str i t)) (hg : Gl X x := by rfl) (hd : (x == ("__debug__" : Str)) = false := by decide) : SE X W (.Name x pos) (eC (.str i)) := by
  obtain ⟨t, hm⟩ := hm
  exact se_const (pe_glob (v := .str i) hg hm ⟨t, rfl⟩ hd) fun _ _ => rfl
theorem se_bin {op : Operator} {r : R2} {g : Val → Val → Mem → Out Val} (ho : OpR X (binaryOp op) r) (hs : OpS X.K r g) (ha : SE X W a fa) (hb : SE X W b fb) : SE X W (.BinOp a op b pos) (eOp2 g fa fb) :=
  ⟨(pe_op ho ha.pe hb.pe).imp fun σ H Q ⟨ρ, e, M, R, S, p⟩ => ⟨ρ, e, M, R, S, (Po.bind p).imp fun v H1 ⟨ρ1, M1, x, E1, R1, r1, p1⟩ => ⟨ρ1, e, M1, R1, S.mono E1, (Po.bind p1).imp fun u H2 ⟨ρ2, M2, y, E2, R2, r2, p2⟩ => hs _ _ _ _ _ _ _ _ _ _ R2 (RV.mono E2 _ _ r1) r2 p2⟩⟩⟩
theorem se_cmp {op : CmpOp} {r : R2} {g : Val → Val → Mem → Out Val} (ho : OpR X (compareOp op) r) (hs : OpS X.K r g) (ha : SE X W a fa) (hb : SE X W b fb) (hm : behindInMarks op b = false) : SE X W (.Compare a [op] [b] pos) (eOp2 g fa fb) :=
  ⟨(pe_cmpR ho ha.pe hb.pe hm).imp fun σ H Q ⟨ρ, e, M, R, S, p⟩ => ⟨ρ, e, M, R, S, (Po.bind p).imp fun v H1 ⟨ρ1, M1, x, E1, R1, r1, p1⟩ => ⟨ρ1, e, M1, R1, S.mono E1, (Po.bind p1).imp fun u H2 ⟨ρ2, M2, y, E2, R2, r2, p2⟩ => hs _ _ _ _ _ _ _ _ _ _ R2 (RV.mono E2 _ _ r1) r2 p2⟩⟩⟩
theorem se_un {op : UnaryOp} {r : V → Hp → VK → Prop} {g : Val → Mem → Out Val} (ho : UnR X (unaryOp op) r) (hs : UnS X.K r g) (ha : SE X W a fa) : SE X W (.UnaryOp op a pos) (eOp1 g fa) :=
  ⟨(pe_un ho ha.pe).imp fun σ H Q ⟨ρ, e, M, R, S, p⟩ => ⟨ρ, e, M, R, S, (Po.bind p).imp fun v H1 ⟨ρ1, M1, x, E1, R1, r1, p1⟩ => hs _ _ _ _ _ _ _ _ R1 r1 p1⟩⟩
theorem se_ix {r : R2} {g : Val → Val → Mem → Out Val} (hr : IxR X r) (hs : OpS X.K r g) (ha : SE X W a fa) (hb : SE X W b fb) (hp : PlainIx b := by intro _ _; rfl) : SE X W (.Subscript a b pos) (eOp2 g fa fb) :=
  ⟨(pe_ix hr ha.pe hb.pe hp).imp fun σ H Q ⟨ρ, e, M, R, S, p⟩ => ⟨ρ, e, M, R, S, (Po.bind p).imp fun v H1 ⟨ρ1, M1, x, E1, R1, r1, p1⟩ => ⟨ρ1, e, M1, R1, S.mono E1, (Po.bind p1).imp fun u H2 ⟨ρ2, M2, y, E2, R2, r2, p2⟩ => hs _ _ _ _ _ _ _ _ _ _ R2 (RV.mono E2 _ _ r1) r2 p2⟩⟩⟩
/-! argument lists, displays -/
theorem sa_nil : SA X W [] aNil := ⟨pa_nil.imp fun σ H Q ⟨ρ, e, M, R, S, p⟩ => p ρ H [] (Ext.refl _ _) R rfl⟩
theorem sa_cons {es : List Expr} {fr : AF} (ha : SE X W a fa) (hr : SA X W es fr) (hs : starEach (a :: es) X.env = (false, eval a X.env) :: starEach es X.env := by rfl) : SA X W (a :: es) (aCons fa fr) :=
  ⟨(pa_cons ha.pe hr.pa hs).imp fun σ H Q ⟨ρ, e, M, R, S, p⟩ => ⟨ρ, e, M, R, S, (Po.bind p).imp fun v H1 ⟨ρ1, M1, x, E1, R1, r1, p1⟩ => ⟨ρ1, e, M1, R1, S.mono E1, (Po.bind (R := RVsr X.K) p1).imp fun us H2 ⟨ρ2, M2, l, E2, R2, r2, p2⟩ => p2 ρ2 H2 (v :: us) (Ext.refl _ _) R2 ⟨v, us, rfl, RV.mono E2 _ _ r1, r2⟩⟩⟩⟩
theorem se_tup {es : List Expr} {x1} {f : AF} (h : SA X W es f) : SE X W (.Tuple es x1 pos) (eTup f) :=
  ⟨(pe_tup h.pa).imp fun σ H Q ⟨ρ, e, M, R, S, p⟩ => ⟨ρ, e, M, R, S, (Po.bind (R := RVsr X.K) p).imp fun vs H1 ⟨ρ1, M1, l, E1, R1, r1, p1⟩ => by
    by_cases hl : l.length ≤ sizeLine
    · rw [if_pos hl] at p1
      refine ⟨by rw [r1.length]; exact hl, fun q hq => ?_⟩
      exact p1 ρ1 _ _ (Ext.fresh ρ1 hq) (R1.fresh hq) ⟨q, vs, rfl, SqT.of upd_same, RVs.mono (Ext.fresh ρ1 hq) _ _ r1⟩
    · rw [if_neg hl] at p1; exact p1.elim⟩⟩
/-- a new list at p -/
theorem Po.newList {K : PySem.W.Frag} {ρ : List Addr} {M : Mem} {H : Hp} {σ : St} {W : WX} {Q : VK} {l : List Val} {vs : List V} (p : Po (RVr K) K ρ H σ W Q (.ok (.loc M.length) (M ++ [.lst l]))) (R : Rel K ρ M H) (r : RVs K ρ H l vs) :
    ∀ q, H q = none → Q (.ref q) (upd H q (.lst vs)) := fun q hq => by
  have E := Ext.alloc (o := .lst vs) ρ hq
  refine p (ρ ++ [q]) _ _ E (R.alloc hq ⟨vs, upd_same, RVs.mono E _ _ r⟩) ⟨q, rfl, ?_⟩
  rw [← R.len, List.getElem?_append_right (Nat.le_refl _)]; simp
theorem se_lst {es : List Expr} {f : AF} (h : SA X W es f) : SE X W (.List es pos) (eLst f) :=
  ⟨(pe_lst h.pa).imp fun σ H Q ⟨ρ, e, M, R, S, p⟩ => ⟨ρ, e, M, R, S, (Po.bind (R := RVsr X.K) p).imp fun vs H1 ⟨ρ1, M1, l, E1, R1, r1, p1⟩ => by
    by_cases hl : l.length ≤ sizeLine
    · rw [if_pos hl] at p1
      exact ⟨by rw [r1.length]; exact hl, p1.newList R1 r1⟩
    · rw [if_neg hl] at p1; exact p1.elim⟩⟩
theorem se_ifExp {t : TF} (hc : ST X W c t) (ha : SE X W a fa) (hb : SE X W b fb) : SE X W (.IfExp c a b pos) (eIf t fa fb) :=
  ⟨(pe_ifExp hc.pt ha.pe hb.pe).imp fun σ H Q ⟨ρ, e, M, R, S, p⟩ => ⟨ρ, e, M, R, S, (Po.bind (R := Beq X.K) p).imp fun b H1 ⟨ρ1, M1, b', E1, R1, r1, p1⟩ => by
    cases (show b' = b from r1)
    by_cases hb : b = true
    · rw [if_pos hb] at p1 ⊢; exact ⟨ρ1, e, M1, R1, S.mono E1, p1⟩
    · rw [if_neg hb] at p1 ⊢; exact ⟨ρ1, e, M1, R1, S.mono E1, p1⟩⟩⟩
/-! built-ins by name -/
theorem se_callB {x : Str} {p : Pos} {e : Expr} {es : List Expr} {f : AF} {id : String} {r : List V → Hp → VK → Prop} {g : FnS} (hc : CallR X (.builtin id) r) (hs : CallS X.K r g) (hm : X.mg x = none) (hv : bootBuiltins x = some (.builtin id)) (ha : SA X W (e :: es) f)
    (hg : Gl X x := by rfl) (hn : x ≠ "__name__" := by decide) (hdb : (x == ("__debug__" : Str)) = false := by decide) (he : starEach (e :: es) X.env = (false, eval e X.env) :: starEach es X.env := by rfl) (hpl : (backTo pos (starEach es X.env)).any (·.1) = false := by rfl) :
    SE X W (.Call (.Name x p) (e :: es) [] pos) (eCall g f) :=
  ⟨(pe_callB hc hg hm hv ha.pa hn hdb he hpl).imp fun σ H Q ⟨ρ, e, M, R, S, p⟩ => ⟨ρ, e, M, R, S, (Po.bind (R := RVsr X.K) p).imp fun vs H1 ⟨ρ1, M1, l, E1, R1, r1, p1⟩ => hs _ _ _ _ _ _ _ _ R1 r1 p1⟩⟩
theorem se_callTy {x : Str} {p : Pos} {e : Expr} {es : List Expr} {f : AF} {id : String} {r : List V → Hp → VK → Prop} {g : FnS} (hc : CallR X (.type id) r) (hs : CallS X.K r g) (hm : X.mg x = none) (hv : bootBuiltins x = some (.type id)) (ha : SA X W (e :: es) f)
    (hg : Gl X x := by rfl) (hn : x ≠ "__name__" := by decide) (hdb : (x == ("__debug__" : Str)) = false := by decide) (he : starEach (e :: es) X.env = (false, eval e X.env) :: starEach es X.env := by rfl) (hpl : (backTo pos (starEach es X.env)).any (·.1) = false := by rfl) :
    SE X W (.Call (.Name x p) (e :: es) [] pos) (eCall g f) :=
  ⟨(pe_callTy hc hg hm hv ha.pa hn hdb he hpl).imp fun σ H Q ⟨ρ, e, M, R, S, p⟩ => ⟨ρ, e, M, R, S, (Po.bind (R := RVsr X.K) p).imp fun vs H1 ⟨ρ1, M1, l, E1, R1, r1, p1⟩ => hs _ _ _ _ _ _ _ _ R1 r1 p1⟩⟩
end
end Sm

namespace Sm
open PySem L2
/-! tests -/
def tCmp2 (g : Val → Val → Mem → Out Val) (fa fb : EF) : TF := fun e M => (eOp2 g fa fb e M).bind fun x M1 => match x with
  | .bl b => .ok b M1
  | _ => .bad
def tOfE (f : EF) : TF := fun e M => (f e M).bind fun x M1 => match x with
  | .bl b => .ok b M1
  | _ => .bad
def truV (x : Val) (M : Mem) : Option Bool := match x with
  | .non => some false
  | .bl b => some b
  | .int i => some (i != 0)
  | .str y => if y.length ≤ sizeLine then some ((y.length : Int) != 0) else none
  | .tup l => some (!l.isEmpty)
  | .frz l => some (!l.isEmpty)
  | .loc n => match M[n]? with
    | some (.lst l) => some (!l.isEmpty)
    | some (.dK l) => some (!l.isEmpty)
    | _ => none
def tTru (f : EF) : TF := fun e M => (f e M).bind fun x M1 => match truV x M1 with
  | some b => .ok b M1
  | none => .bad
def tNotF (t : TF) : TF := fun e M => (t e M).bind fun b M1 => .ok (!b) M1
def tAndF (t u : TF) : TF := fun e M => (t e M).bind fun b M1 => if b = true then u e M1 else .ok false M1
def tOrF (t u : TF) : TF := fun e M => (t e M).bind fun b M1 => if b = true then .ok true M1 else u e M1
def eAnd (f g : EF) : EF := fun e M => (f e M).bind fun x M1 => match x with
  | .bl b => if b = true then g e M1 else .ok (.bl false) M1
  | _ => .bad
def eOr (f g : EF) : EF := fun e M => (f e M).bind fun x M1 => match x with
  | .bl b => if b = true then .ok (.bl true) M1 else g e M1
  | _ => .bad
def eNot (f : EF) : EF := fun e M => (f e M).bind fun x M1 => match x with
  | .bl b => .ok (.bl (!b)) M1
  | _ => .bad
def eChain (g g' : Val → Val → Mem → Out Val) (fa fb fc : EF) : EF := fun e M => (fa e M).bind fun x M1 => (fb e M1).bind fun y M2 => (g x y M2).bind fun z M3 => match z with
  | .bl b => if b = true then (fc e M3).bind fun w M4 => g' y w M4 else .ok (.bl false) M3
  | _ => .bad
theorem RVs.isEmpty {K : PySem.W.Frag} {ρ : List Addr} {H : Hp} : ∀ {l : List Val} {vs : List V}, RVs K ρ H l vs → vs.isEmpty = l.isEmpty
  | [], _, h => by cases (show _ = [] from h); rfl
  | _ :: _, _, ⟨_, _, h, _, _⟩ => by subst h; rfl
theorem RKs.isEmpty {κ : Type} {K : PySem.W.Frag} {ρ : List Addr} {H : Hp} : ∀ {l : List (κ × Val)} {vs : List (κ × V)}, RKs K ρ H l vs → vs.isEmpty = l.isEmpty
  | [], _, h => by cases (show _ = [] from h); rfl
  | _ :: _, _, ⟨_, _, h, _, _⟩ => by subst h; rfl
theorem Rel.lst {K : PySem.W.Frag} {ρ : List Addr} {M : Mem} {H : Hp} (R : Rel K ρ M H) {n : Nat} {l : List Val} (h : M[n]? = some (.lst l)) {v : V} (r : RV K ρ H (.loc n) v) : ∃ a vs, v = .ref a ∧ ρ[n]? = some a ∧ H a = some (.lst vs) ∧ RVs K ρ H l vs := by
  obtain ⟨a, h1, h2⟩ := r
  obtain ⟨vs, h3, h4⟩ := R.at_ _ _ _ h h2
  exact ⟨a, vs, h1, h2, h3, h4⟩
theorem truV_ok {K : PySem.W.Frag} {ρ : List Addr} {M : Mem} {H : Hp} {x : Val} {v : V} {b : Bool} (R : Rel K ρ M H) (r : RV K ρ H x v) (h : truV x M = some b) : TruV K v H b := by
  cases x with
  | non => cases (show v = _ from r); cases h; exact rfl
  | bl c => cases (show v = _ from r); cases h; exact rfl
  | int i => cases (show v = _ from r); cases h; exact rfl
  | str y =>
    cases (show v = _ from r)
    unfold truV at h
    simp only at h
    split at h
    · rename_i hl; cases h; exact ⟨hl, rfl⟩
    · cases h
  | tup l =>
    obtain ⟨a, vs, h1, h2, h3⟩ := r
    subst h1
    cases h
    exact .inr (.inl ⟨vs, h2, by rw [h3.isEmpty]⟩)
  | frz l =>
    obtain ⟨a, h1, h2⟩ := r
    subst h1
    cases h
    exact .inl ⟨_, h2.sq, by simp⟩
  | loc n =>
    unfold truV at h
    simp only at h
    split at h
    · rename_i l hn
      cases h
      obtain ⟨a, vs, h1, h2, h3, h4⟩ := R.lst hn r
      subst h1
      exact .inl ⟨vs, SqL.of h3, by rw [h4.isEmpty]⟩
    · rename_i l hn
      cases h
      obtain ⟨a, h1, h2⟩ := r
      obtain ⟨ws, h3, h4⟩ := R.at_ _ _ _ hn h2
      subst h1
      exact .inr (.inr ⟨ws, h3, by rw [h4.isEmpty]⟩)
    · cases h
section
variable {X : Cx} {W : WX} {a b c : Expr} {fa fb fc : EF} {pos : Pos} {rest : List Expr} {t u : TF}
theorem st_cmp {op : CmpOp} {r : R2} {g : Val → Val → Mem → Out Val} (ho : OpR X (compareOp op) r) (hs : OpS X.K r g) (ha : SE X W a fa) (hb : SE X W b fb) (hm : behindInMarks op b = false) : ST X W (.Compare a [op] [b] pos) (tCmp2 g fa fb) :=
  ⟨(pt_cmpR ho ha.pe hb.pe hm).imp fun σ H Q ⟨ρ, e, M, R, S, p⟩ => ⟨ρ, e, M, R, S, by
    have p' := Po.bind (R := RVr X.K) p
    unfold eOp2 at p'
    exact (Po.bind p').imp fun v H1 ⟨ρ1, M1, x, E1, R1, r1, p1⟩ => ⟨ρ1, e, M1, R1, S.mono E1, (Po.bind p1).imp fun u H2 ⟨ρ2, M2, y, E2, R2, r2, p2⟩ => hs _ _ _ _ _ _ _ _ _ _ R2 (RV.mono E2 _ _ r1) r2 (p2.imp fun z H3 ⟨ρ3, M3, z', E3, R3, r3, p3⟩ => by
      cases z' with
      | bl k => cases (show z = _ from r3); exact ⟨k, rfl, p3 ρ3 H3 k (Ext.refl _ _) R3 rfl⟩
      | _ => exact p3.elim)⟩⟩⟩
theorem st_tru (ha : SE X W a fa) (he : ∀ whole, isTrue a X.env whole = (do let v ← whole; standAt a.pos; holding [v] (truthy v)) := by intro _; rfl) : ST X W a (tTru fa) :=
  ⟨(pt_truth ha.pe he).imp fun σ H Q ⟨ρ, e, M, R, S, p⟩ => ⟨ρ, e, M, R, S, (Po.bind p).imp fun v H1 ⟨ρ1, M1, x, E1, R1, r1, p1⟩ => by
    cases h : truV x M1 with
    | none => simp only [h] at p1; exact p1.elim
    | some b => simp only [h] at p1; exact ⟨b, truV_ok R1 r1 h, p1 ρ1 H1 b (Ext.refl _ _) R1 rfl⟩⟩⟩
theorem st_not (ha : ST X W a t) : ST X W (.UnaryOp .Not a pos) (tNotF t) :=
  ⟨(pt_not ha.pt).imp fun σ H Q ⟨ρ, e, M, R, S, p⟩ => ⟨ρ, e, M, R, S, (Po.bind (R := Beq X.K) p).imp fun v H1 ⟨ρ1, M1, x, E1, R1, r1, p1⟩ => by
    cases (show x = v from r1); exact p1 ρ1 H1 _ (Ext.refl _ _) R1 rfl⟩⟩
theorem sw_and1 (ha : ST X W a t) : SW X W (.BoolOp .And [a] pos) t := ⟨pw_and1 ha.pt⟩
theorem sw_or1 (ha : ST X W a t) : SW X W (.BoolOp .Or [a] pos) t := ⟨pw_or1 ha.pt⟩
theorem sw_and (ha : ST X W a t) (hb : SW X W (.BoolOp .And (b :: rest) pos) u) : SW X W (.BoolOp .And (a :: b :: rest) pos) (tAndF t u) :=
  ⟨(pw_and ha.pt hb.pw).imp fun σ H Q ⟨ρ, e, M, R, S, p⟩ => ⟨ρ, e, M, R, S, (Po.bind (R := Beq X.K) p).imp fun v H1 ⟨ρ1, M1, x, E1, R1, r1, p1⟩ => by
    cases (show x = v from r1)
    by_cases h : v = true
    · rw [if_pos h] at p1 ⊢; exact ⟨ρ1, e, M1, R1, S.mono E1, p1⟩
    · rw [if_neg h] at p1 ⊢; exact p1 ρ1 H1 _ (Ext.refl _ _) R1 rfl⟩⟩
theorem sw_or (ha : ST X W a t) (hb : SW X W (.BoolOp .Or (b :: rest) pos) u) : SW X W (.BoolOp .Or (a :: b :: rest) pos) (tOrF t u) :=
  ⟨(pw_or ha.pt hb.pw).imp fun σ H Q ⟨ρ, e, M, R, S, p⟩ => ⟨ρ, e, M, R, S, (Po.bind (R := Beq X.K) p).imp fun v H1 ⟨ρ1, M1, x, E1, R1, r1, p1⟩ => by
    cases (show x = v from r1)
    by_cases h : v = true
    · rw [if_pos h] at p1 ⊢; exact p1 ρ1 H1 _ (Ext.refl _ _) R1 rfl
    · rw [if_neg h] at p1 ⊢; exact ⟨ρ1, e, M1, R1, S.mono E1, p1⟩⟩⟩
theorem st_w (h : SW X W a t) : ST X W a t := ⟨h.pw.pt⟩
theorem se_one {op} (h : SE X W a fa) : SE X W (.BoolOp op [a] pos) fa := ⟨pe_one h.pe⟩
theorem se_and (ha : SE X W a fa) (hb : SE X W (.BoolOp .And (b :: rest) pos) fb) : SE X W (.BoolOp .And (a :: b :: rest) pos) (eAnd fa fb) :=
  ⟨(pe_and ha.pe hb.pe).imp fun σ H Q ⟨ρ, e, M, R, S, p⟩ => ⟨ρ, e, M, R, S, (Po.bind p).imp fun v H1 ⟨ρ1, M1, x, E1, R1, r1, p1⟩ => by
    cases x with
    | bl k =>
      cases (show v = _ from r1)
      simp only at p1
      refine ⟨k, rfl, ?_⟩
      by_cases h : k = true
      · rw [if_pos h] at p1 ⊢; exact ⟨ρ1, e, M1, R1, S.mono E1, p1⟩
      · rw [if_neg h] at p1 ⊢; exact p1 ρ1 H1 _ (Ext.refl _ _) R1 rfl
    | _ => exact p1.elim⟩⟩
theorem se_or (ha : SE X W a fa) (hb : SE X W (.BoolOp .Or (b :: rest) pos) fb) : SE X W (.BoolOp .Or (a :: b :: rest) pos) (eOr fa fb) :=
  ⟨(pe_or ha.pe hb.pe).imp fun σ H Q ⟨ρ, e, M, R, S, p⟩ => ⟨ρ, e, M, R, S, (Po.bind p).imp fun v H1 ⟨ρ1, M1, x, E1, R1, r1, p1⟩ => by
    cases x with
    | bl k =>
      cases (show v = _ from r1)
      simp only at p1
      refine ⟨k, rfl, ?_⟩
      by_cases h : k = true
      · rw [if_pos h] at p1 ⊢; exact p1 ρ1 H1 _ (Ext.refl _ _) R1 rfl
      · rw [if_neg h] at p1 ⊢; exact ⟨ρ1, e, M1, R1, S.mono E1, p1⟩
    | _ => exact p1.elim⟩⟩
theorem se_not (ha : SE X W a fa) : SE X W (.UnaryOp .Not a pos) (eNot fa) :=
  ⟨(pe_not ha.pe).imp fun σ H Q ⟨ρ, e, M, R, S, p⟩ => ⟨ρ, e, M, R, S, (Po.bind p).imp fun v H1 ⟨ρ1, M1, x, E1, R1, r1, p1⟩ => by
    cases x with
    | bl k => cases (show v = _ from r1); exact ⟨k, rfl, p1 ρ1 H1 _ (Ext.refl _ _) R1 rfl⟩
    | _ => exact p1.elim⟩⟩
theorem tChain_ok {r r' : R2} {g g' : Val → Val → Mem → Out Val} (hs : OpS X.K r g) (hs' : OpS X.K r' g') {σ : St} {H : Hp} {Q : VK} (h : tE X.K W (eChain g g' fa fb fc) σ H Q) : tChain r r' (tE X.K W fa) (tE X.K W fb) (tE X.K W fc) σ H Q := by
  obtain ⟨ρ, e, M, R, S, p⟩ := h
  refine ⟨ρ, e, M, R, S, (Po.bind p).imp fun v H1 ⟨ρ1, M1, x, E1, R1, r1, p1⟩ => ⟨ρ1, e, M1, R1, S.mono E1, (Po.bind p1).imp fun u H2 ⟨ρ2, M2, y, E2, R2, r2, p2⟩ => ?_⟩⟩
  refine hs _ _ _ _ _ _ _ _ _ _ R2 (RV.mono E2 _ _ r1) r2 ((Po.bind (R := RVr X.K) p2).imp fun z H3 ⟨ρ3, M3, z', E3, R3, r3, p3⟩ => ?_)
  cases z' with
  | bl k =>
    cases (show z = _ from r3)
    simp only at p3
    refine ⟨k, rfl, ?_⟩
    by_cases h : k = true
    · rw [if_pos h] at p3 ⊢
      exact ⟨ρ3, e, M3, R3, (S.mono E1).mono (E2.trans E3), (Po.bind p3).imp fun w' H4 ⟨ρ4, M4, w, E4, R4, r4, p4⟩ => hs' _ _ _ _ _ _ _ _ _ _ R4 (RV.mono (E3.trans E4) _ _ r2) r4 p4⟩
    · rw [if_neg h] at p3 ⊢; exact p3 ρ3 H3 _ (Ext.refl _ _) R3 rfl
  | _ => exact p3.elim
theorem se_chain {op op' : CmpOp} {r r' : R2} {g g' : Val → Val → Mem → Out Val} (ho : OpR X (compareOp op) r) (ho' : OpR X (compareOp op') r') (hs : OpS X.K r g) (hs' : OpS X.K r' g') (ha : SE X W a fa) (hb : SE X W b fb) (hc : SE X W c fc)
    (hm : lastMarks [op, op'] [b, c] = false := by with_unfolding_all rfl) : SE X W (.Compare a [op, op'] [b, c] pos) (eChain g g' fa fb fc) :=
  ⟨(pe_chain ho ho' ha.pe hb.pe hc.pe hm).imp fun σ H Q h => tChain_ok hs hs' h⟩
theorem st_chain {op op' : CmpOp} {r r' : R2} {g g' : Val → Val → Mem → Out Val} (ho : OpR X (compareOp op) r) (ho' : OpR X (compareOp op') r') (hs : OpS X.K r g) (hs' : OpS X.K r' g') (ha : SE X W a fa) (hb : SE X W b fb) (hc : SE X W c fc)
    (hm : lastMarks [op, op'] [b, c] = false := by with_unfolding_all rfl) : ST X W (.Compare a [op, op'] [b, c] pos) (tOfE (eChain g g' fa fb fc)) :=
  ⟨(pt_chain ho ho' ha.pe hb.pe hc.pe hm).imp fun σ H Q ⟨ρ, e, M, R, S, p⟩ => by
    unfold tOfE at p
    refine tChain_ok hs hs' ⟨ρ, e, M, R, S, (Po.bind (R := RVr X.K) p).imp fun v H1 ⟨ρ1, M1, x, E1, R1, r1, p1⟩ => ?_⟩
    cases x with
    | bl k => cases (show v = _ from r1); exact ⟨k, rfl, p1 ρ1 H1 _ (Ext.refl _ _) R1 rfl⟩
    | _ => exact p1.elim⟩
end
/-! statements -/
def SO.seq (o : SO) (k : Sl → Mem → SO) : SO := match o with
  | .nx e M => k e M
  | o => o
def sNil : SF := fun e M => .nx e M
def sSeq (f g : SF) : SF := fun e M => (f e M).seq g
/-- an expression in a statement -/
def Out.toS {α : Type} (o : Out α) (e : Sl) (k : α → Mem → SO) : SO := match o with
  | .ok a M => k a M
  | .ex x M => .ex x e M
  | .bad => .bad
def sExpr (f : EF) : SF := fun e M => (f e M).toS e fun _ M1 => .nx e M1
def sRet (f : EF) : SF := fun e M => (f e M).toS e fun x M1 => .rt x M1
def sRetN : SF := fun _ M => .rt .non M
def sIf (t : TF) (f g : SF) : SF := fun e M => (t e M).toS e fun b M1 => if b = true then f e M1 else g e M1
def sBrk : SF := fun e M => .bk e M
def sCnt : SF := fun e M => .ct e M
/-- targets -/
inductive GO where
  | nx (e : Sl) (M : Mem) | ex (x : Ex) (e : Sl) (M : Mem) | bad
abbrev GF := Val → Sl → Mem → GO
def GO.toS (o : GO) (k : Sl → Mem → SO) : SO := match o with
  | .nx e M => k e M
  | .ex x e M => .ex x e M
  | .bad => .bad
def sAsg (f : EF) (g : GF) : SF := fun e M => (f e M).toS e fun x M1 => (g x e M1).toS .nx
def PoG (K : PySem.W.Frag) (ρ : List Addr) (H : Hp) (W : WX) (Q : St → Hp → Prop) : GO → Prop
  | .nx e M => ∀ ρ' H' σ', Ext ρ H ρ' H' → Rel K ρ' M H' → SlR K ρ' H' e σ' → Q σ' H'
  | .ex x e M => ∀ ρ' H' σ' cls d, Ext ρ H ρ' H' → Rel K ρ' M H' → SlR K ρ' H' e σ' → XR K ρ' H' x cls d → W cls d σ' H'
  | .bad => False
def tGt (K : PySem.W.Frag) (W : WX) (g : GF) : TG := fun v σ H Q => ∃ ρ e M x, Rel K ρ M H ∧ SlR K ρ H e σ ∧ RV K ρ H x v ∧ PoG K ρ H W Q (g x e M)
structure SG (X : Cx) (W : WX) (tg : Expr) (g : GF) : Prop where
  pg : PG X tg (tGt X.K W g)
theorem PG.imp {X : Cx} {tg : Expr} {t t' : TG} (h : PG X tg t) (i : ∀ v σ H Q, t' v σ H Q → t v σ H Q) : PG X tg t' := ⟨fun pins s σ H v u Q I r q => h.run pins s σ H v u Q I r (i v σ H Q q)⟩
/-- an expression's outcome in a statement -/
theorem PoS.ofE {K : PySem.W.Frag} {α β : Type} {R : RR α β} {ρ : List Addr} {H : Hp} {σ : St} {W : WX} {D : Ends} {e : Sl} {k : α → Mem → SO} (S : SlR K ρ H e σ) : ∀ {o : Out α}, PoS K ρ H W D (o.toS e k) →
    Po R K ρ H σ W (fun b H1 => ∃ ρ1 M1 a, Ext ρ H ρ1 H1 ∧ Rel K ρ1 M1 H1 ∧ R ρ1 H1 a b ∧ PoS K ρ1 H1 W D (k a M1)) o
  | .ok a M, h => fun ρ1 H1 b E1 r1 q => ⟨ρ1, M, a, E1, r1, q, h.mono E1⟩
  | .ex _ _, h => fun ρ1 H1 c d E1 r1 q => h ρ1 H1 σ c d E1 r1 (S.mono E1) q
  | .bad, h => h
theorem PoG.toS {K : PySem.W.Frag} {ρ : List Addr} {H : Hp} {W : WX} {D : Ends} {k : Sl → Mem → SO} : ∀ {o : GO}, PoS K ρ H W D (o.toS k) →
    PoG K ρ H W (fun σ1 H1 => ∃ ρ1 e1 M1, Ext ρ H ρ1 H1 ∧ Rel K ρ1 M1 H1 ∧ SlR K ρ1 H1 e1 σ1 ∧ PoS K ρ1 H1 W D (k e1 M1)) o
  | .nx e M, h => fun ρ1 H1 σ1 E1 r1 s1 => ⟨ρ1, e, M, E1, r1, s1, h.mono E1⟩
  | .ex _ _ _, h => h
  | .bad, h => h
theorem PoG.imp {K : PySem.W.Frag} {ρ : List Addr} {H : Hp} {W : WX} {Q Q' : St → Hp → Prop} (i : ∀ b H', Q b H' → Q' b H') : ∀ {o : GO}, PoG K ρ H W Q o → PoG K ρ H W Q' o
  | .nx _ _, h => fun ρ2 H2 b E2 r2 q => i _ _ (h ρ2 H2 b E2 r2 q)
  | .ex _ _ _, h => h
  | .bad, h => h
theorem PoG.mono {K : PySem.W.Frag} {ρ ρ' : List Addr} {H H' : Hp} {W : WX} {Q : St → Hp → Prop} (E : Ext ρ H ρ' H') : ∀ {o : GO}, PoG K ρ H W Q o → PoG K ρ' H' W Q o
  | .nx _ _, h => fun ρ2 H2 b E2 r2 q => h ρ2 H2 b (E.trans E2) r2 q
  | .ex _ _ _, h => fun ρ2 H2 s c d E2 r2 q => h ρ2 H2 s c d (E.trans E2) r2 q
  | .bad, h => h
/-- what follows -/
theorem PoS.seq {K : PySem.W.Frag} {ρ : List Addr} {H : Hp} {W : WX} {D : Ends} {k : Sl → Mem → SO} : ∀ {o : SO}, PoS K ρ H W D (o.seq k) → PoS K ρ H W { D with nx := tSt K W k D } o
  | .nx e M, h => fun ρ1 H1 σ1 E1 r1 s1 => ⟨ρ1, e, M, r1, s1, h.mono E1⟩
  | .rt _ _, h => h
  | .bk _ _, h => h
  | .ct _ _, h => h
  | .ex _ _ _, h => h
  | .bad, h => h
section
variable {X : Cx} {W : WX} {a b c : Expr} {fa fb fc : EF} {pos : Pos} {st : Stmt} {rest : List Stmt} {f g : SF}
theorem ss_nil : SSs X W [] sNil := ⟨pss_nil.imp fun D σ H ⟨ρ, e, M, R, S, p⟩ => p ρ H σ (Ext.refl _ _) R S⟩
theorem ss_one (h : SS X W st f) : SSs X W [st] f := ⟨pss_one h.ps⟩
theorem ss_cons (h1 : SS X W st f) (h2 : SSs X W rest g) : SSs X W (st :: rest) (sSeq f g) := ⟨(pss_cons h1.ps h2.pss).imp fun D σ H ⟨ρ, e, M, R, S, p⟩ => ⟨ρ, e, M, R, S, PoS.seq p⟩⟩
theorem ss_pass : SS X W (.Pass pos) sNil := ⟨ps_pass.imp fun D σ H ⟨ρ, e, M, R, S, p⟩ => p ρ H σ (Ext.refl _ _) R S⟩
theorem ss_break : SS X W (.Break pos) sBrk := ⟨ps_break.imp fun D σ H ⟨ρ, e, M, R, S, p⟩ => p ρ H σ (Ext.refl _ _) R S⟩
theorem ss_continue : SS X W (.Continue pos) sCnt := ⟨ps_continue.imp fun D σ H ⟨ρ, e, M, R, S, p⟩ => p ρ H σ (Ext.refl _ _) R S⟩
theorem ss_expr (ha : SE X W a fa) (hs : swapsWith a none pos.line X.env = pure false := by rfl) : SS X W (.Expr a pos) (sExpr fa) :=
  ⟨(ps_expr ha.pe hs).imp fun D σ H ⟨ρ, e, M, R, S, p⟩ => ⟨ρ, e, M, R, S, (PoS.ofE (R := RVr X.K) S p).imp fun v H1 ⟨ρ1, M1, x, E1, R1, r1, p1⟩ => p1 ρ1 H1 σ (Ext.refl _ _) R1 (S.mono E1)⟩⟩
theorem ss_ret (ha : SE X W a fa) : SS X W (.Return (some a) pos) (sRet fa) :=
  ⟨(ps_ret ha.pe).imp fun D σ H ⟨ρ, e, M, R, S, p⟩ => ⟨ρ, e, M, R, S, (PoS.ofE (R := RVr X.K) S p).imp fun v H1 ⟨ρ1, M1, x, E1, R1, r1, p1⟩ => p1 ρ1 H1 v (Ext.refl _ _) R1 r1⟩⟩
theorem ss_retN : SS X W (.Return none pos) sRetN := ⟨ps_retN.imp fun D σ H ⟨ρ, e, M, R, S, p⟩ => p ρ H .non (Ext.refl _ _) R rfl⟩
theorem ss_if {t : TF} {p q : List Stmt} (hc : ST X W c t) (hp : SSs X W p f) (hq : SSs X W q g) : SS X W (.If c p q pos) (sIf t f g) :=
  ⟨(ps_if hc.pt hp.pss hq.pss).imp fun D σ H ⟨ρ, e, M, R, S, p⟩ => ⟨ρ, e, M, R, S, (PoS.ofE (R := Beq X.K) S p).imp fun v H1 ⟨ρ1, M1, x, E1, R1, r1, p1⟩ => by
    cases (show x = v from r1)
    by_cases h : v = true
    · rw [if_pos h] at p1 ⊢; exact ⟨ρ1, e, M1, R1, S.mono E1, p1⟩
    · rw [if_neg h] at p1 ⊢; exact ⟨ρ1, e, M1, R1, S.mono E1, p1⟩⟩⟩
end
/-! targets -/
def gNm (i : Nat) : GF := fun x e M => .nx (e.set i (some x)) M
abbrev GsF := List Val → Sl → Mem → GO
def GO.bind (o : GO) (k : Sl → Mem → GO) : GO := match o with
  | .nx e M => k e M
  | o => o
def gsNil : GsF := fun l e M => match l with
  | [] => .nx e M
  | _ => .bad
def gsCons (g : GF) (gs : GsF) : GsF := fun l e M => match l with
  | [] => .bad
  | x :: r => (g x e M).bind fun e1 M1 => gs r e1 M1
def gTp (n : Nat) (gs : GsF) : GF := fun x e M => match x with
  | .tup l => if l.length = n then gs l e M else .bad
  | _ => .bad
/-- o[i] = x -/
def setV (o i x : Val) (M : Mem) : Option Mem := match o, i with
  | .loc n, .int k => match M[n]? with
    | some (.lst l) => match ixN l.length k with
      | some j => some (M.set n (.lst (l.set j x)))
      | none => none
    | _ => none
  | _, _ => none
def gSb (fo fi : EF) : GF := fun x e M => match (fo e M) with
  | .ok o M1 => match fi e M1 with
    | .ok i M2 => match setV o i x M2 with
      | some M3 => .nx e M3
      | none => .bad
    | .ex y M2 => .ex y e M2
    | .bad => .bad
  | .ex y M1 => .ex y e M1
  | .bad => .bad
def tGs (K : PySem.W.Frag) (W : WX) (g : GsF) : TGs := fun vs σ H Q => ∃ ρ e M l, Rel K ρ M H ∧ SlR K ρ H e σ ∧ RVs K ρ H l vs ∧ PoG K ρ H W Q (g l e M)
structure SGs (X : Cx) (W : WX) (tg : List Expr) (g : GsF) : Prop where
  pgs : PGs X tg (tGs X.K W g)
theorem PGs.imp {X : Cx} {tg : List Expr} {t t' : TGs} (h : PGs X tg t) (i : ∀ v σ H Q, t' v σ H Q → t v σ H Q) : PGs X tg t' := ⟨fun pins s σ H v u Q I r q => h.run pins s σ H v u Q I r (i v σ H Q q)⟩
theorem PoG.bind {K : PySem.W.Frag} {ρ : List Addr} {H : Hp} {W : WX} {Q : St → Hp → Prop} {k : Sl → Mem → GO} : ∀ {o : GO}, PoG K ρ H W Q (o.bind k) →
    PoG K ρ H W (fun σ1 H1 => ∃ ρ1 e1 M1, Ext ρ H ρ1 H1 ∧ Rel K ρ1 M1 H1 ∧ SlR K ρ1 H1 e1 σ1 ∧ PoG K ρ1 H1 W Q (k e1 M1)) o
  | .nx e M, h => fun ρ1 H1 σ1 E1 r1 s1 => ⟨ρ1, e, M, E1, r1, s1, h.mono E1⟩
  | .ex _ _ _, h => h
  | .bad, h => h
theorem setV_ok {K : PySem.W.Frag} {ρ : List Addr} {M M' : Mem} {H : Hp} {o i x : Val} {vo vi vx : V} (R : Rel K ρ M H) (ro : RV K ρ H o vo) (ri : RV K ρ H i vi) (rx : RV K ρ H x vx) (h : setV o i x M = some M') {Q : Hp → Prop}
    (q : ∀ H', Ext ρ H ρ H' → Rel K ρ M' H' → Q H') : rSetL vo vi vx H Q := by
  unfold setV at h
  split at h
  · rename_i n k
    split at h
    · rename_i l hn
      split at h
      · rename_i j hj
        cases h
        obtain ⟨a, vs, h1, h2, h3, h4⟩ := R.lst hn ro
        have hm : Mut (H a) := by rw [h3]; trivial
        have E := Ext.write (o := .lst (vs.set j vx)) ρ hm
        obtain ⟨R', E'⟩ := R.write (c := .lst (l.set j x)) h2 ⟨vs.set j vx, upd_same, RVs.mono E _ _ (h4.set rx j)⟩
        exact ⟨a, vs, k, j, h1, ri, h3, by rw [h4.length]; exact hj, q _ E' R'⟩
      · cases h
    · cases h
  · cases h
section
variable {X : Cx} {W : WX} {o i : Expr} {fo fi : EF} {pos : Pos}
theorem sg_name {i : Nat} {x : Str} (hN : X.N.Nodup) (hi : X.N[i]? = some x := by rfl) (hx : Loc X.env.scope x := by first | exact Or.inl rfl | exact Or.inr rfl) (hf : X.fn x = true ∨ X.env.scope.names.lookup x = some .local := by first | exact .inl rfl | exact .inr rfl | assumption) :
    SG X W (.Name x pos) (gNm i) := ⟨PG.imp (pg_name (i := i) hN hi hx hf) fun v σ H Q ⟨ρ, e, M, y, R, S, r, p⟩ => p ρ H _ (Ext.refl _ _) R (S.set i r)⟩
theorem sgs_nil : SGs X W [] gsNil := ⟨PGs.imp pgs_nil fun vs σ H Q ⟨ρ, e, M, l, R, S, r, p⟩ => by
  cases l with
  | nil => exact ⟨r, p ρ H _ (Ext.refl _ _) R S⟩
  | cons _ _ => exact p.elim⟩
theorem sgs_cons {t : Expr} {ts : List Expr} {g : GF} {gs : GsF} (h1 : SG X W t g) (h2 : SGs X W ts gs) (hs : (assignEach (t :: ts) X.env).map (·.2) = assign t X.env :: (assignEach ts X.env).map (·.2) := by rfl) : SGs X W (t :: ts) (gsCons g gs) :=
  ⟨PGs.imp (pgs_cons h1.pg h2.pgs hs) fun vs σ H Q ⟨ρ, e, M, l, R, S, r, p⟩ => by
    cases l with
    | nil => exact p.elim
    | cons x l =>
      obtain ⟨v, us, e1, r1, r2⟩ := r
      exact ⟨v, us, e1, ρ, e, M, x, R, S, r1, (PoG.bind p).imp fun σ1 H1 ⟨ρ1, e1, M1, E1, R1, S1, p1⟩ => ⟨ρ1, e1, M1, l, R1, S1, RVs.mono E1 _ _ r2, p1⟩⟩⟩
theorem sg_tup {ts : List Expr} {k : Nat} {gs : GsF} {n : Nat} (hc : X.calm = true) (h : SGs X W ts gs) (hn : (assignEach ts X.env).length = n := by rfl) (hst : (assignEach ts X.env).findIdx? (·.1) = none := by rfl) : SG X W (.Tuple ts k pos) (gTp n gs) :=
  ⟨PG.imp (pg_tup hc h.pgs hn hst) fun v σ H Q ⟨ρ, e, M, x, R, S, r, p⟩ => by
    cases x with
    | tup l =>
      unfold gTp at p
      simp only at p
      obtain ⟨a, vs, h1, h2, h3⟩ := r
      by_cases hl : l.length = n
      · rw [if_pos hl] at p
        exact ⟨a, vs, h1, h2, by rw [h3.length]; exact hl, ρ, e, M, l, R, S, h3, p⟩
      · rw [if_neg hl] at p; exact p.elim
    | _ => exact p.elim⟩
theorem sg_sub (ho : SE X W o fo) (hi : SE X W i fi)
    (ha : ∀ v, assign (.Subscript o i pos) X.env v = (do
      let ov ← holding [v] (eval o X.env)
      let iv ← holding [v, ov] (eval i X.env)
      standAt pos
      holding [v, ov, iv] (setItem ov iv v)
      release [v, ov, iv] []) := by intro _; rfl) : SG X W (.Subscript o i pos) (gSb fo fi) :=
  ⟨PG.imp (pg_sub ho.pe hi.pe set_list ha) fun v σ H Q ⟨ρ, e, M, x, R, S, r, p⟩ => ⟨ρ, e, M, R, S, by
    unfold gSb at p
    cases h1 : fo e M with
    | bad => rw [h1] at p; exact p.elim
    | ex y M1 => rw [h1] at p; exact fun ρ1 H1 c d E1 R1 q => p ρ1 H1 σ c d E1 R1 (S.mono E1) q
    | ok ov M1 =>
      rw [h1] at p
      intro ρ1 H1 b E1 R1 r1
      refine ⟨ρ1, e, M1, R1, S.mono E1, ?_⟩
      simp only at p
      cases h2 : fi e M1 with
      | bad => rw [h2] at p; exact p.elim
      | ex y M2 => rw [h2] at p; exact fun ρ2 H2 c d E2 R2 q => p ρ2 H2 σ c d (E1.trans E2) R2 (S.mono (E1.trans E2)) q
      | ok iv M2 =>
        rw [h2] at p
        intro ρ2 H2 b2 E2 R2 r2
        simp only at p
        cases h3 : setV ov iv x M2 with
        | none => rw [h3] at p; exact p.elim
        | some M3 =>
          rw [h3] at p
          exact setV_ok R2 (RV.mono E2 _ _ r1) r2 (RV.mono (E1.trans E2) _ _ r) h3 fun H' E3 R3 => p ρ2 H' σ ((E1.trans E2).trans E3) R3 (S.mono ((E1.trans E2).trans E3))⟩⟩
theorem ss_asg {tg a : Expr} {fa : EF} {g : GF} (ha : SE X W a fa) (hg : SG X W tg g) (hs : swapsWithSole [tg] a pos.line X.env = pure false := by rfl) (hw : swappedStores [tg] a X.env = pure none := by rfl) (h1 : (assignEach [tg] X.env).map (·.2) = [assign tg X.env] := by rfl) : SS X W (.Assign [tg] a pos) (sAsg fa g) :=
  ⟨(ps_asg ha.pe hg.pg hs hw h1).imp fun D σ H ⟨ρ, e, M, R, S, p⟩ => ⟨ρ, e, M, R, S, (PoS.ofE (R := RVr X.K) S p).imp fun v H1 ⟨ρ1, M1, x, E1, R1, r1, p1⟩ => ⟨ρ1, e, M1, x, R1, S.mono E1, r1, (PoG.toS p1).imp fun σ2 H2 ⟨ρ2, e2, M2, E2, R2, S2, p2⟩ => p2 ρ2 H2 σ2 (Ext.refl _ _) R2 S2⟩⟩⟩
end
end Sm

namespace L2
open PySem PySem.Spec PyProof.Rows
/-! enumerate of a tuple -/
def IteT (K : PySem.W.Frag) (a : Addr) : It :=
  ⟨fun i H => ∃ (xs : List V) (x : V), SqT K H a xs ∧ xs[i]? = some x, fun i H v H' => ∃ T x, v = .ref T ∧ H T = none ∧ H' = upd H T (.tup [.int (i : Nat), x]) ∧ ∀ xs, SqT K H a xs → xs[i]? = some x, fun i H => ∃ xs : List V, SqT K H a xs ∧ xs.length ≤ i⟩
theorem turn_enumT {P : Program} {w : World} {K : PySem.W.Frag} {elts : List Expr} {kk : Nat} {tpos : Pos} (a e it : Addr) :
    Turn P w K (.Tuple elts kk tpos) (IteT K a) [e, it] e (fun i h => (∃ old, IsEnum h e it ((i : Nat) : Int) old) ∧ h.IsTupleIter it a i ∧ e ≠ it ∧ a ≠ e ∧ a ≠ it) where
  mem := by simp
  obj := fun i h st b hb => by
    obtain ⟨⟨old, he⟩, ⟨o, ho, hc, hd⟩, _⟩ := st
    have e' : b = e ∨ b = it := by simpa using hb
    rcases e' with z | z
    · rw [z]; exact ⟨_, he, fun v q => nomatch q⟩
    · rw [z]; exact ⟨o, ho, fun v q => by rw [hd] at q; cases q⟩
  keep := fun i h h' st k => let ⟨⟨old, he⟩, hi, hne, hr⟩ := st; ⟨⟨old, k e (by simp) _ he⟩, hi.at fun o q => k it (by simp) o q, hne, hr⟩
  item := by
    intro X hP hw hK hc i pins s σ H E I hf st hg
    subst hP hw hK
    obtain ⟨⟨old, he⟩, hit, hne, hae, hai⟩ := st
    obtain ⟨xs, x, hq, hx⟩ := hg
    obtain ⟨its, rv, p, hz⟩ := I.tuple hq
    obtain ⟨u, hu, ru⟩ := rv.get hx
    have hel : e < s.heap.objs.size := Heap.lt_size he
    have hil : it < s.heap.objs.size := by obtain ⟨_, q, _⟩ := hit; exact Heap.lt_size q
    have pt : s.heap.IsTuple a its.toArray := p
    have hlt : i < its.toArray.size := by
      have := (List.getElem?_eq_some_iff.mp hu).1
      simpa using this
    refine wpAny_pyNext_enum_itemC (Draws.tuple (prog := X.prog) (w := X.w) (A := X.A.in1) (I.ok.hd hc) it a hai its.toArray) he ⟨hit, pt⟩ hlt hne (by simp [hne, Ne.symm hae]) fun x' h' tk hP ho hst hT hsz hk => ?_
    have ex : x' = u := by
      have hP' : its.toArray[i]? = some x' := hP
      have hu' : its.toArray[i]? = some u := by simpa using hu
      rw [hu'] at hP'
      exact (Option.some.inj hP').symm
    subst ex
    refine ⟨_, rfl, wpAny_letOwnedTupleGo_enum (s := { s with heap := h', toks := tk + 1 }) ho fun h'' he' sb => ?_⟩
    have hT2 : h''.get? s.heap.objs.size = some { cls := .type "tuple", data := .seq #[.int i tk, x'] } := (sb.2 _ (Nat.ne_of_gt hel)).trans hT
    have new : ObjOk X.prog X.w (upd H s.heap.objs.size (.tup [.int (i : Nat), x])) h'' s.heap.objs.size (.tup [.int (i : Nat), x]) :=
      ⟨by show 2 ≤ sizeLine; decide, [.int i tk, x'], .cons ⟨_, rfl⟩ (.cons ru .nil), ⟨_, hT2, rfl, _, rfl⟩⟩
    have I1 : Inv X pins σ (upd H s.heap.objs.size (.tup [.int (i : Nat), x])) { s with heap := h'', toks := tk + 1 } :=
      I.turnedNew (ch := [e, it]) (fun b ob hb q => (sb.2 b (fun z => hb (by simp [z]))).trans (hk b ob (fun z => hb (by simp [z])) (fun z => hb (by simp [z])) q)) hf (Nat.le_refl _) new
    refine ⟨.ref s.heap.objs.size, _, I1, rfl, ⟨_, x, rfl, I.hok.fresh (Nat.le_refl _), rfl, fun ys hy => by rw [I.tuple_inj hy hq]; exact hx⟩, ⟨⟨x', ?_⟩, hst.1.at fun o q => (sb.2 it (Ne.symm hne)).trans q, hne, hae, hai⟩, fun b hb => ?_⟩
    · have e1 : ((i + 1 : Nat) : Int) = (i : Int) + 1 := by omega
      rw [e1]; exact he'
    · have hb' : b < s.heap.objs.size := by
        have e' : b = e ∨ b = it := by simpa using hb
        rcases e' with z | z
        · rw [z]; exact hel
        · rw [z]; exact hil
      rw [upd_ne (Nat.ne_of_lt hb')]
      exact (hf b hb).1
  done := by
    intro X hP hw hK hc i pins s σ H E I hf st hg
    subst hP hw hK
    obtain ⟨⟨old, he⟩, hit, hne, hae, hai⟩ := st
    obtain ⟨xs, hq, hx⟩ := hg
    obtain ⟨its, rv, p, hz⟩ := I.tuple hq
    obtain ⟨f0, f1, f2, f3, f4, f5⟩ := hf it (by simp)
    have hl := rv.length
    have hT : s.TypeIs (.ref e) "enumerate" := ⟨_, he, rfl⟩
    have pt : s.heap.IsTuple a its.toArray := p
    unfold pyNext
    refine wpAny_bind (wpAny_attempt (wpAny_callSpecial?_slot (name := Str.ofString "__next__") hT F.slot_enumerate_next
      (wpAny_call_entry F.slot_enumerate_next hT F.entry_enumerate_next ?_ (F.args_enumerate_next_1 _))))
    show wpAny _ _ (field (.ref e) 2 >>= _) _ _ _
    refine wpAny_bind (wpAny_field he rfl (x := .ref it) rfl ?_)
    refine wpAny_bind (wpAny_nextOf_tuple_end (I.ok.hd hc) hit pt (by simp; omega) fun h' x he' hx' => ?_)
    obtain ⟨o, ho, hc⟩ := hx'
    refine wpAny_bind (wpAny_isInstance (T := "StopIteration") (b := true) ⟨o, ho, hc⟩ isSubtype_stop ?_)
    exact wpAny_pure ⟨rfl, I.turned (t' := s.toks) (fun b o hb q => he' b o hb q) f0 f1 f3 f4 f5⟩
  self := fun A i s Q E st h => let ⟨⟨_, he⟩, _⟩ := st; wpAny_pyIter_enum he h
set_option maxHeartbeats 1000000 in
theorem meets_enum_newB {v : Value} {o : Obj} {H : Heap → Prop} (B : Begins v o H) :
    Meets (Builtin.«enumerate.__new__» ⟨[.type "enumerate", v], []⟩) (fun _ R s => H s.heap ∧
      R (.ok (.ret (.ref (s.heap.push o).objs.size))) { s with heap := (s.heap.push o).push { cls := .type "enumerate", data := .fields #[.none, .bool false, .ref s.heap.objs.size, rawInt 0, .none, .none] } }) :=
  .of_wp fun prog w A R s h => by
    obtain ⟨hp, g, d, tk, os⟩ := s; obtain ⟨h1, h⟩ := h
    have hsub := sub_enumerate
    have q1 : ∀ {A' : Around} {E : Value → Shared → Prop} {Q : Value → Shared → Prop}, Q (.ref hp.objs.size) ⟨hp.push o, g, d, tk, os⟩ → wpAny (model prog w) A' (pyIter v) Q E ⟨hp, g, d, tk, os⟩ :=
      fun q => B.iter prog w _ _ ⟨hp, g, d, tk, os⟩ _ h1 q
    wp_walk using q1
    refine wpAny_stack_any fun st => wpAny_pure ?_
    split
    · rename_i c _ _ _ _ _
      cases (c == Value.type "enumerate")
      · wp_walk using q1
        exact ⟨_, rfl, h⟩
      · wp_walk using q1
        exact ⟨_, rfl, h⟩
    · wp_walk using q1
      exact ⟨_, rfl, h⟩
theorem enum_begins1 {prog : Program} {w : World} {A : Around} {E : Value → Shared → Prop} {s : Shared} {v : Value} {o : Obj} {H : Heap → Prop} {Q : Value → Shared → Prop} (B : Begins v o H) (h1 : H s.heap)
    (h : ∀ h', IsEnum h' (s.heap.objs.size + 1) s.heap.objs.size 0 .none → h'.get? s.heap.objs.size = some o → h'.objs.size = s.heap.objs.size + 2 →
      (∀ b o, s.heap.get? b = some o → h'.get? b = some o) → Q (.ref (s.heap.objs.size + 1)) { s with heap := h' }) :
    wpAny (model prog w) A (call (.type "enumerate") [v]) Q E s := by
  refine callType_new F.called_enumerate (by decide) (F.typeCall_enumerate_1 _) (F.newCall_enumerate_1 _) (fun obj => F.args_object_init_2 obj _) F.entry_enumerate_new
    (meets_enum_newB B) ⟨h1, ?_⟩
  have hz : (s.heap.push o).objs.size = s.heap.objs.size + 1 := Heap.size_push ..
  show _ ∧ _
  rw [hz]
  have he : IsEnum ((s.heap.push o).push { cls := .type "enumerate", data := .fields #[.none, .bool false, .ref s.heap.objs.size, rawInt 0, .none, .none] }) (s.heap.objs.size + 1) s.heap.objs.size 0 .none := by
    have := Heap.get?_push_size (s.heap.push o) (o := { cls := .type "enumerate", data := .fields #[.none, .bool false, .ref s.heap.objs.size, rawInt 0, .none, .none] }) rfl
    rw [hz] at this; exact this
  refine ⟨⟨_, he, rfl⟩, h _ he (Heap.get?_push_of_some _ (Heap.get?_push_size _ B.free)) (by rw [Heap.size_push, hz]) fun b o x => Heap.get?_push_of_some _ (Heap.get?_push_of_some _ x)⟩
def iEnumA (K : PySem.W.Frag) (ta : TA) : TI := fun σ H R => ta σ H fun vs H1 => ∃ a xs, vs = [.ref a] ∧ ((SqL K H1 a xs ∧ R (Ite K a) H1) ∨ (SqT K H1 a xs ∧ R (IteT K a) H1))
theorem pi_enumA {X : Cx} {e : Expr} {ta : TA} {p pos tpos : Pos} {elts : List Expr} {kk : Nat} (hg : Gl X "enumerate") (hm : X.mg "enumerate" = none) (ha : PA X [e] ta) (hs : starEach [e] X.env = [(false, eval e X.env)] := by rfl) :
    PI X (.Tuple elts kk tpos) (.Call (.Name "enumerate" p) [e] [] pos) (iEnumA X.K ta) := by
  refine ⟨fun pins s σ H R I h => ?_⟩
  refine Call_ (ld_blt I hg hm boot_enumerate (PyProof.Rows.callWith_type1 (thn (ha.run pos pins s σ H _ I h) fun us s1 ⟨vs, H1, I1, r1, q1⟩ => ?_) hs rfl))
  obtain ⟨a, xs, ex, q1⟩ := q1
  subst ex
  cases r1 with
  | cons r rr =>
    cases rr
    cases r
    have fresh : ∀ b, b ∈ [s1.heap.objs.size + 1, s1.heap.objs.size] → FpOk X pins H1 b := fun b hb => by
      have e' : b = s1.heap.objs.size + 1 ∨ b = s1.heap.objs.size := by simpa using hb
      have hle : s1.heap.objs.size ≤ b := by
        rcases e' with z | z
        · rw [z]; exact Nat.le_add_right _ _
        · rw [z]; exact Nat.le_refl _
      exact I1.fpOk hle (I1.hok.fresh hle)
    rcases q1 with ⟨hq, q⟩ | ⟨hq, q⟩
    · obtain ⟨its, rv, p', hz⟩ := I1.list hq
      refine call_enumerate_list p'.isList fun h' he hit hsz hk => wpAny_pyIter_enum he ?_
      have I2 : Inv X pins σ H1 { s1 with heap := h' } := I1.kept (t' := s1.toks) hk
      exact ⟨s1.heap.objs.size + 1, [s1.heap.objs.size + 1, s1.heap.objs.size], _, _, H1, rfl, I2, turn_enum a (s1.heap.objs.size + 1) s1.heap.objs.size, ⟨⟨.none, he⟩, hit, Nat.succ_ne_self _⟩, fresh, q⟩
    · obtain ⟨its, rv, p', hz⟩ := I1.tuple hq
      have pt : s1.heap.IsTuple a its.toArray := p'
      have hal : a < s1.heap.objs.size := by obtain ⟨o, ho, _⟩ := id pt; exact Heap.lt_size ho
      refine enum_begins1 (begins_tuple a its.toArray) pt fun h' he hit hsz hk => wpAny_pyIter_enum he ?_
      have I2 : Inv X pins σ H1 { s1 with heap := h' } := I1.kept (t' := s1.toks) hk
      exact ⟨s1.heap.objs.size + 1, [s1.heap.objs.size + 1, s1.heap.objs.size], _, _, H1, rfl, I2, turn_enumT a (s1.heap.objs.size + 1) s1.heap.objs.size, ⟨⟨.none, he⟩, ⟨_, hit, rfl, rfl⟩, Nat.succ_ne_self _, Nat.ne_of_lt (Nat.lt_succ_of_lt hal), Nat.ne_of_lt hal⟩, fresh, q⟩
/-- a list, a tuple, a text -/
def iSeq (K : PySem.W.Frag) (tl : TE) : TI := fun σ H R => tl σ H fun x H1 => (∃ a, x = .ref a ∧ (∃ xs, SqL K H1 a xs) ∧ R (Itl K a) H1) ∨ (∃ a, x = .ref a ∧ (∃ xs, SqT K H1 a xs) ∧ R (Itt K a) H1) ∨ (∃ z, x = .str z ∧ R (Its z) H1)
theorem pe_atV {X : Cx} {pins : List (Addr × Obj)} {σ : St} {H : Hp} {s : Shared} {v : V} {u : Value} {R : It → Hp → Prop} {tg : Expr} (I : Inv X pins σ H s) (r : RelV v u) :
    ((∃ a, v = .ref a ∧ (∃ xs, SqL X.K H a xs) ∧ R (Itl X.K a) H) → wpAny (model X.prog X.w) X.A (pyIter u) (PIE X pins σ tg R) X.xe s) ∧ ((∃ a, v = .ref a ∧ (∃ xs, SqT X.K H a xs) ∧ R (Itt X.K a) H) → wpAny (model X.prog X.w) X.A (pyIter u) (PIE X pins σ tg R) X.xe s) ∧
      ((∃ z, v = .str z ∧ R (Its z) H) → wpAny (model X.prog X.w) X.A (pyIter u) (PIE X pins σ tg R) X.xe s) := by
  refine ⟨fun ⟨a, e, ⟨xs, hq⟩, q⟩ => ?_, fun ⟨a, e, ⟨xs, hq⟩, q⟩ => ?_, fun ⟨z, e, q⟩ => ?_⟩
  · subst e
    cases r
    obtain ⟨its, rv, p, hz⟩ := I.list hq
    refine wpAny_pyIter_list p.isList ?_
    refine ⟨s.heap.objs.size, [s.heap.objs.size], _, _, H, rfl, I.kept (t' := s.toks) fun b o e => Heap.get?_push_of_some _ e, turn_list a _, ⟨_, Heap.get?_push_size _ rfl, rfl, rfl⟩, fun b hb => ?_, q⟩
    have e : b = s.heap.objs.size := by simpa using hb
    subst e
    exact I.fpOk (Nat.le_refl _) (I.hok.fresh (Nat.le_refl _))
  · subst e
    cases r
    obtain ⟨its, rv, p, hz⟩ := I.tuple hq
    refine wpAny_pyIter_tuple (show s.heap.IsTuple a its.toArray from p) ?_
    refine ⟨s.heap.objs.size, [s.heap.objs.size], _, _, H, rfl, I.kept (t' := s.toks) fun b o e => Heap.get?_push_of_some _ e, turn_tuple a _, ⟨_, Heap.get?_push_size _ rfl, rfl, rfl⟩, fun b hb => ?_, q⟩
    have e : b = s.heap.objs.size := by simpa using hb
    subst e
    exact I.fpOk (Nat.le_refl _) (I.hok.fresh (Nat.le_refl _))
  · subst e
    obtain ⟨t, rfl⟩ := r
    cases ha : z.cps.all (· < 128)
    · exact wpAny_pyIter_wide ha (pi_one (tk := s.toks) I _ (turn_str _ z t "str_iterator" (.inr rfl)) ⟨_, Heap.get?_push_size _ rfl, rfl, rfl⟩ q)
    · exact wpAny_pyIter_ascii ha (pi_one (tk := s.toks) I _ (turn_str _ z t "str_ascii_iterator" (.inl rfl)) ⟨_, Heap.get?_push_size _ rfl, rfl, rfl⟩ q)
theorem pi_seq {X : Cx} {tg l : Expr} {tl : TE} (hl : PE X l tl) : PI X tg l (iSeq X.K tl) := by
  refine ⟨fun pins s σ H R I h => ?_⟩
  refine thn (hl.run pins s σ H _ I h) fun v s1 ⟨x, H1, I1, r1, q1⟩ => ?_
  obtain ⟨k1, k2, k3⟩ := pe_atV (R := R) (tg := tg) I1 r1
  rcases q1 with q | q | q
  · exact k1 q
  · exact k2 q
  · exact k3 q
end L2
namespace Sm
open PySem L2
/-! what is walked: item i (none: nothing is known; some none: the end), a bound of the turns -/
structure Itr where
  nxt : Nat → Mem → Option (Option Val)
  fuel : Nat
abbrev IF := Sl → Mem → Out Itr
def SimIt (K : PySem.W.Frag) (ρ0 : List Addr) (H0 : Hp) (it : Itr) (J : It) : Prop :=
  ∀ (i : Nat) (ρ : List Addr) (M : Mem) (H : Hp), Ext ρ0 H0 ρ H → Rel K ρ M H → (it.nxt i M = some none → J.stop i H) ∧
    ∀ x, it.nxt i M = some (some x) → J.go i H ∧ ∀ v H', J.yld i H v H' → Ext ρ H ρ H' ∧ Rel K ρ M H' ∧ RV K ρ H' x v
abbrev Ritr (K : PySem.W.Frag) : RR Itr It := fun ρ H it J => SimIt K ρ H it J
def tIt (K : PySem.W.Frag) (W : WX) (f : IF) : TI := fun σ H R => ∃ ρ e M, Rel K ρ M H ∧ SlR K ρ H e σ ∧ Po (Ritr K) K ρ H σ W R (f e M)
structure SI (X : Cx) (W : WX) (tg iter : Expr) (f : IF) : Prop where
  pi : PI X tg iter (tIt X.K W f)
theorem PI.imp {X : Cx} {tg e : Expr} {t t' : TI} (h : PI X tg e t) (i : ∀ σ H Q, t' σ H Q → t σ H Q) : PI X tg e t' := ⟨fun pins s σ H Q I q => h.run pins s σ H Q I (i σ H Q q)⟩
def iOf (f : EF) (k : Val → Mem → Option Itr) : IF := fun e M => (f e M).bind fun x M1 => match k x M1 with
  | some it => .ok it M1
  | none => .bad
def itTup (l : List Val) : Itr := ⟨fun i _ => some l[i]?, l.length + 1⟩
def itLst (n : Nat) (b : Nat) : Itr := ⟨fun i M => match M[n]? with
  | some (.lst l) => some l[i]?
  | _ => none, b + 1⟩
def itFrz (l : List Int) : Itr := ⟨fun i _ => some (l[i]?.map Val.int), l.length + 1⟩
def itStr (z : Str) : Itr := ⟨fun i _ => some (z.cps[i]?.map fun c => Val.str ⟨#[c]⟩), z.cps.size + 1⟩
def itRng (lo : Int) (n : Nat) : Itr := ⟨fun i _ => some (if i < n then some (.int (lo + i)) else none), n + 1⟩
def lenM (n : Nat) (M : Mem) : Option Nat := match M[n]? with
  | some (.lst l) => some l.length
  | _ => none
def itSeq (x : Val) (M : Mem) : Option Itr := match x with
  | .tup l => some (itTup l)
  | .frz l => some (itFrz l)
  | .str z => some (itStr z)
  | .loc n => (lenM n M).map fun b => itLst n b
  | _ => none
/-- items with their numbers -/
def itNum (it : Itr) : Itr := ⟨fun i M => (it.nxt i M).map fun o => o.map fun x => .tup [.int (i : Nat), x], it.fuel⟩
def itEnum (x : Val) (M : Mem) : Option Itr := match x with
  | .tup l => some (itNum (itTup l))
  | .loc n => (lenM n M).map fun b => itNum (itLst n b)
  | _ => none
def itZ (a b : Itr) : Itr := ⟨fun i M => match a.nxt i M, b.nxt i M with
  | some (some x), some (some y) => some (some (.tup [x, y]))
  | some none, some _ => some none
  | some _, some none => some none
  | _, _ => none, a.fuel⟩
def itZip (x y : Val) (M : Mem) : Option Itr := match x, y with
  | .tup l, .tup m => some (itZ (itTup l) (itTup m))
  | .loc n, .loc k => match lenM n M, lenM k M with
    | some b, some _ => some (itZ (itLst n b) (itLst k b))
    | _, _ => none
  | _, _ => none
def iSq (f : EF) : IF := iOf f itSeq
def iEn (f : EF) : IF := iOf f itEnum
def iZp (f g : EF) : IF := fun e M => (f e M).bind fun x M1 => (g e M1).bind fun y M2 => match itZip x y M2 with
  | some it => .ok it M2
  | none => .bad
def iR1 (f : EF) : IF := fun e M => (f e M).bind fun x M1 => match x with
  | .int j => if -(2 ^ 62) ≤ j ∧ j < 2 ^ 62 then .ok (itRng 0 j.toNat) M1 else .bad
  | _ => .bad
def iR2 (f g : EF) : IF := fun e M => (f e M).bind fun x M1 => (g e M1).bind fun y M2 => match x, y with
  | .int i, .int j => if -(2 ^ 62) ≤ i ∧ i < 2 ^ 62 ∧ -(2 ^ 62) ≤ j ∧ j < 2 ^ 62 then .ok (itRng i (j - i).toNat) M2 else .bad
  | _, _ => .bad
section
variable {K : PySem.W.Frag} {ρ : List Addr} {H : Hp} {M : Mem}
theorem sim_lst {n b : Nat} {a : Addr} (h : ρ[n]? = some a) : SimIt K ρ H (itLst n b) (Itl K a) := fun i ρ1 M1 H1 E R => by
  have key : ∀ o, (itLst n b).nxt i M1 = some o → ∃ l vs, M1[n]? = some (.lst l) ∧ o = l[i]? ∧ H1 a = some (.lst vs) ∧ RVs K ρ1 H1 l vs := fun o ho => by
    unfold itLst at ho
    simp only at ho
    split at ho
    · rename_i l hm
      obtain ⟨vs, h3, h4⟩ := R.at_ _ _ _ hm (E.get h)
      cases ho
      exact ⟨l, vs, hm, rfl, h3, h4⟩
    · cases ho
  refine ⟨fun ho => ?_, fun x ho => ?_⟩
  · obtain ⟨l, vs, hm, e, h3, h4⟩ := key _ ho
    exact ⟨vs, SqL.of h3, by rw [h4.length]; exact List.getElem?_eq_none_iff.mp e.symm⟩
  · obtain ⟨l, vs, hm, e, h3, h4⟩ := key _ ho
    obtain ⟨v, hv, rv⟩ := h4.get e.symm
    refine ⟨⟨vs, v, SqL.of h3, hv⟩, fun u H' ⟨e1, e2⟩ => ?_⟩
    subst e1
    have := e2 vs (SqL.of h3)
    rw [hv] at this; cases this
    exact ⟨Ext.refl _ _, R, rv⟩
theorem sim_tup {l : List Val} {a : Addr} {vs : List V} (h : SqT K H a vs) (r : RVs K ρ H l vs) : SimIt K ρ H (itTup l) (Itt K a) := fun i ρ1 M1 H1 E R => by
  have h1 := E.sqT h
  have r1 := RVs.mono E _ _ r
  refine ⟨fun ho => ?_, fun x ho => ?_⟩
  · have e : l[i]? = none := Option.some.inj ho
    exact ⟨vs, h1, by rw [r1.length]; exact List.getElem?_eq_none_iff.mp e⟩
  · have e : l[i]? = some x := Option.some.inj ho
    obtain ⟨v, hv, rv⟩ := r1.get e
    refine ⟨⟨vs, v, h1, hv⟩, fun u H' ⟨e1, e2⟩ => ?_⟩
    subst e1
    have := e2 vs h1
    rw [hv] at this; cases this
    exact ⟨Ext.refl _ _, R, rv⟩
theorem sim_frz {l : List Int} {a : Addr} (h : FzL K H a (l.map V.int)) : SimIt K ρ H (itFrz l) (Itl K a) := fun i ρ1 M1 H1 E R => by
  have h1 := (E.fzL h).sq
  refine ⟨fun ho => ?_, fun x ho => ?_⟩
  · have e : l[i]?.map Val.int = none := Option.some.inj ho
    exact ⟨_, h1, by simpa using e⟩
  · have e : l[i]?.map Val.int = some x := Option.some.inj ho
    cases hi : l[i]? with
    | none => rw [hi] at e; cases e
    | some n =>
      rw [hi] at e
      cases e
      have hv : (l.map V.int)[i]? = some (V.int n) := by simp [hi]
      refine ⟨⟨_, _, h1, hv⟩, fun u H' ⟨e1, e2⟩ => ?_⟩
      subst e1
      have := e2 _ h1
      rw [hv] at this; cases this
      exact ⟨Ext.refl _ _, R, rfl⟩
theorem sim_str {z : Str} : SimIt K ρ H (itStr z) (Its z) := fun i ρ1 M1 H1 E R => by
  refine ⟨fun ho => ?_, fun x ho => ?_⟩
  · have e : z.cps[i]?.map (fun c => Val.str ⟨#[c]⟩) = none := Option.some.inj ho
    show z.cps.size ≤ i
    simpa using e
  · have e : z.cps[i]?.map (fun c => Val.str ⟨#[c]⟩) = some x := Option.some.inj ho
    cases hi : z.cps[i]? with
    | none => rw [hi] at e; cases e
    | some c =>
      rw [hi] at e
      cases e
      refine ⟨(Array.getElem?_eq_some_iff.mp hi).1, fun u H' ⟨e1, c', e2, e3⟩ => ?_⟩
      subst e1 e3
      rw [hi] at e2; cases e2
      exact ⟨Ext.refl _ _, R, rfl⟩
theorem sim_rng {lo : Int} {n : Nat} : SimIt K ρ H (itRng lo n) (L2.Itr lo n) := fun i ρ1 M1 H1 E R => by
  refine ⟨fun ho => ?_, fun x ho => ?_⟩
  · have e : (if i < n then some (Val.int (lo + i)) else none) = none := Option.some.inj ho
    show n ≤ i
    split at e
    · cases e
    · omega
  · have e : (if i < n then some (Val.int (lo + i)) else none) = some x := Option.some.inj ho
    split at e
    · rename_i hlt
      cases e
      refine ⟨hlt, fun u H' ⟨e1, e2⟩ => ?_⟩
      subst e1 e2
      exact ⟨Ext.refl _ _, R, rfl⟩
    · cases e
/-- items in new pairs -/
theorem pair_new {ρ1 : List Addr} {M1 : Mem} {H1 : Hp} {T : Addr} {x y : Val} {v u : V} (R : Rel K ρ1 M1 H1) (hT : H1 T = none) (rx : RV K ρ1 H1 x v) (ry : RV K ρ1 H1 y u) :
    Ext ρ1 H1 ρ1 (upd H1 T (.tup [v, u])) ∧ Rel K ρ1 M1 (upd H1 T (.tup [v, u])) ∧ RV K ρ1 (upd H1 T (.tup [v, u])) (.tup [x, y]) (.ref T) := by
  have E := Ext.fresh (o := .tup [v, u]) ρ1 hT
  exact ⟨E, R.fresh hT, T, [v, u], rfl, SqT.of upd_same, v, [u], rfl, RV.mono E _ _ rx, u, [], rfl, RV.mono E _ _ ry, rfl⟩
theorem sim_numL {n b : Nat} {a : Addr} (h : ρ[n]? = some a) : SimIt K ρ H (itNum (itLst n b)) (Ite K a) := fun i ρ1 M1 H1 E R => by
  have s := sim_lst (K := K) (H := H) (b := b) h i ρ1 M1 H1 E R
  refine ⟨fun ho => ?_, fun x ho => ?_⟩
  · have e : (itLst n b).nxt i M1 = some none := by
      unfold itNum at ho
      simp only at ho
      cases hn : (itLst n b).nxt i M1 with
      | none => rw [hn] at ho; cases ho
      | some o => cases o with
        | none => rfl
        | some _ => rw [hn] at ho; cases ho
    exact s.1 e
  · unfold itNum at ho
    simp only at ho
    cases hn : (itLst n b).nxt i M1 with
    | none => rw [hn] at ho; cases ho
    | some o => cases o with
      | none => rw [hn] at ho; cases ho
      | some y =>
        rw [hn] at ho
        cases ho
        obtain ⟨⟨xs, w, g1, g2⟩, g3⟩ := s.2 y hn
        refine ⟨⟨xs, w, g1, g2⟩, fun u H' ⟨T, w', e1, hT, e2, e3⟩ => ?_⟩
        subst e1 e2
        obtain ⟨_, _, rw'⟩ := g3 w' H1 ⟨rfl, e3⟩
        exact pair_new R hT rfl rw'
theorem sim_numT {l : List Val} {a : Addr} {vs : List V} (h : SqT K H a vs) (r : RVs K ρ H l vs) : SimIt K ρ H (itNum (itTup l)) (IteT K a) := fun i ρ1 M1 H1 E R => by
  have s := sim_tup h r i ρ1 M1 H1 E R
  refine ⟨fun ho => ?_, fun x ho => ?_⟩
  · have e : (itTup l).nxt i M1 = some none := by
      unfold itNum at ho
      simp only at ho
      cases hn : (itTup l).nxt i M1 with
      | none => rw [hn] at ho; cases ho
      | some o => cases o with
        | none => rfl
        | some _ => rw [hn] at ho; cases ho
    exact s.1 e
  · unfold itNum at ho
    simp only at ho
    cases hn : (itTup l).nxt i M1 with
    | none => rw [hn] at ho; cases ho
    | some o => cases o with
      | none => rw [hn] at ho; cases ho
      | some y =>
        rw [hn] at ho
        cases ho
        obtain ⟨⟨xs, w, g1, g2⟩, g3⟩ := s.2 y hn
        refine ⟨⟨xs, w, g1, g2⟩, fun u H' ⟨T, w', e1, hT, e2, e3⟩ => ?_⟩
        subst e1 e2
        obtain ⟨_, _, rw'⟩ := g3 w' H1 ⟨rfl, e3⟩
        exact pair_new R hT rfl rw'
theorem itZ_none {a b : Itr} {i : Nat} {M : Mem} (h : (itZ a b).nxt i M = some none) : ∃ o p, a.nxt i M = some o ∧ b.nxt i M = some p ∧ (o = none ∨ p = none) := by
  unfold itZ at h
  simp only at h
  split at h
  · cases h
  · rename_i o h1 h2; exact ⟨_, _, h1, h2, .inl rfl⟩
  · rename_i o h0 h1 h2; exact ⟨_, _, h1, h2, .inr rfl⟩
  · cases h
theorem itZ_some {a b : Itr} {i : Nat} {M : Mem} {z : Val} (h : (itZ a b).nxt i M = some (some z)) : ∃ x y, a.nxt i M = some (some x) ∧ b.nxt i M = some (some y) ∧ z = .tup [x, y] := by
  unfold itZ at h
  simp only at h
  split at h
  · rename_i x y h1 h2; cases h; exact ⟨_, _, h1, h2, rfl⟩
  · cases h
  · cases h
  · cases h
theorem lst_at {n b : Nat} {a : Addr} {ρ1 : List Addr} {M1 : Mem} {H1 : Hp} {o : Option Val} {i : Nat} (R : Rel K ρ1 M1 H1) (h : ρ1[n]? = some a) (ho : (itLst n b).nxt i M1 = some o) : ∃ l vs, H1 a = some (.lst vs) ∧ RVs K ρ1 H1 l vs ∧ o = l[i]? := by
  unfold itLst at ho
  simp only at ho
  split at ho
  · rename_i l hm
    obtain ⟨vs, h3, h4⟩ := R.at_ _ _ _ hm h
    cases ho
    exact ⟨l, vs, h3, h4, rfl⟩
  · cases ho
theorem sim_zipL {n b m c : Nat} {a d : Addr} (h : ρ[n]? = some a) (h' : ρ[m]? = some d) : SimIt K ρ H (itZ (itLst n b) (itLst m c)) (Itz K a d) := fun i ρ1 M1 H1 E R => by
  refine ⟨fun ho => ?_, fun z ho => ?_⟩
  · obtain ⟨o, p, e1, e2, e3⟩ := itZ_none ho
    obtain ⟨l, vs, k1, k2, k3⟩ := lst_at R (E.get h) e1
    obtain ⟨l', vs', k1', k2', k3'⟩ := lst_at R (E.get h') e2
    refine ⟨vs, vs', SqL.of k1, SqL.of k1', ?_⟩
    rcases e3 with e3 | e3
    · exact .inl (by rw [k2.length]; exact List.getElem?_eq_none_iff.mp (k3.symm.trans e3))
    · exact .inr (by rw [k2'.length]; exact List.getElem?_eq_none_iff.mp (k3'.symm.trans e3))
  · obtain ⟨x, y, e1, e2, e3⟩ := itZ_some ho
    obtain ⟨l, vs, k1, k2, k3⟩ := lst_at R (E.get h) e1
    obtain ⟨l', vs', k1', k2', k3'⟩ := lst_at R (E.get h') e2
    obtain ⟨v, hv, rv⟩ := k2.get k3.symm
    obtain ⟨v', hv', rv'⟩ := k2'.get k3'.symm
    subst e3
    refine ⟨⟨vs, vs', v, v', SqL.of k1, SqL.of k1', hv, hv'⟩, fun u H' ⟨T, w, w', q1, hT, q2, q3, q4⟩ => ?_⟩
    subst q1 q2
    have z1 := q3 _ (SqL.of k1)
    have z2 := q4 _ (SqL.of k1')
    rw [hv] at z1; rw [hv'] at z2
    cases z1; cases z2
    exact pair_new R hT rv rv'
theorem sim_zipT {l m : List Val} {a d : Addr} {vs vs' : List V} (h : SqT K H a vs) (r : RVs K ρ H l vs) (h' : SqT K H d vs') (r' : RVs K ρ H m vs') : SimIt K ρ H (itZ (itTup l) (itTup m)) (RZ.ItzT K a d) := fun i ρ1 M1 H1 E R => by
  have h1 := E.sqT h
  have h1' := E.sqT h'
  have r1 := RVs.mono E _ _ r
  have r1' := RVs.mono E _ _ r'
  refine ⟨fun ho => ?_, fun z ho => ?_⟩
  · obtain ⟨o, p, e1, e2, e3⟩ := itZ_none ho
    have k1 : l[i]? = o := Option.some.inj e1
    have k2 : m[i]? = p := Option.some.inj e2
    refine ⟨vs, vs', h1, h1', ?_⟩
    rcases e3 with e3 | e3
    · exact .inl (by rw [r1.length]; exact List.getElem?_eq_none_iff.mp (k1.trans e3))
    · exact .inr (by rw [r1'.length]; exact List.getElem?_eq_none_iff.mp (k2.trans e3))
  · obtain ⟨x, y, e1, e2, e3⟩ := itZ_some ho
    obtain ⟨v, hv, rv⟩ := r1.get (Option.some.inj e1)
    obtain ⟨v', hv', rv'⟩ := r1'.get (Option.some.inj e2)
    subst e3
    refine ⟨⟨vs, vs', v, v', h1, h1', hv, hv'⟩, fun u H' ⟨T, w, w', q1, hT, q2, q3, q4⟩ => ?_⟩
    subst q1 q2
    have z1 := q3 _ h1
    have z2 := q4 _ h1'
    rw [hv] at z1; rw [hv'] at z2
    cases z1; cases z2
    exact pair_new R hT rv rv'
end
section
variable {X : Cx} {W : WX} {a b : Expr} {fa fb : EF} {pos p tpos : Pos} {tg : Expr} {elts : List Expr} {kk : Nat}
theorem si_seq (ha : SE X W a fa) : SI X W tg a (iSq fa) := ⟨PI.imp (pi_seq ha.pe) fun σ H Q ⟨ρ, e, M, R, S, p⟩ => ⟨ρ, e, M, R, S, (Po.bind p).imp fun v H1 ⟨ρ1, M1, x, E1, R1, r1, p1⟩ => by
  cases x with
  | tup l =>
    obtain ⟨q, vs, h1, h2, h3⟩ := r1
    exact .inr (.inl ⟨q, h1, ⟨vs, h2⟩, p1 ρ1 H1 _ (Ext.refl _ _) R1 (sim_tup h2 h3)⟩)
  | frz l =>
    obtain ⟨q, h1, h2⟩ := r1
    exact .inl ⟨q, h1, ⟨_, h2.sq⟩, p1 ρ1 H1 _ (Ext.refl _ _) R1 (sim_frz h2)⟩
  | str z => exact .inr (.inr ⟨z, r1, p1 ρ1 H1 _ (Ext.refl _ _) R1 sim_str⟩)
  | loc n =>
    unfold itSeq lenM at p1
    simp only at p1
    cases hm : M1[n]? with
    | none => rw [hm] at p1; exact p1.elim
    | some c => cases c with
      | lst l =>
        rw [hm] at p1
        obtain ⟨q, vs, h1, h2, h3, h4⟩ := R1.lst hm r1
        exact .inl ⟨q, h1, ⟨vs, SqL.of h3⟩, p1 ρ1 H1 _ (Ext.refl _ _) R1 (sim_lst h2)⟩
      | _ => rw [hm] at p1; exact p1.elim
  | _ => exact p1.elim⟩⟩
theorem si_enum (ha : SE X W a fa) (hm : X.mg "enumerate" = none) (hg : Gl X "enumerate" := by rfl) (hs : starEach [a] X.env = [(false, eval a X.env)] := by rfl) : SI X W (.Tuple elts kk tpos) (.Call (.Name "enumerate" p) [a] [] pos) (iEn fa) :=
  ⟨PI.imp (pi_enumA hg hm (sa_cons ha sa_nil (by rw [hs]; rfl)).pa hs) fun σ H Q ⟨ρ, e, M, R, S, p⟩ => ⟨ρ, e, M, R, S, by
    have p' : Po (Ritr X.K) X.K ρ H σ W Q ((aCons fa aNil e M).bind fun l M1 => match l with
      | [x] => (match itEnum x M1 with
        | some it => .ok it M1
        | none => .bad)
      | _ => .bad) := by
      unfold iEn iOf at p
      unfold aCons aNil
      cases h : fa e M with
      | ok x M1 => rw [h] at p; exact p
      | ex x M1 => rw [h] at p; exact p
      | bad => rw [h] at p; exact p
    exact (Po.bind (R := RVsr X.K) p').imp fun vs H1 ⟨ρ1, M1, l, E1, R1, r1, p1⟩ => by
      match l, r1, p1 with
      | [x], ⟨v, r, e1, r2, e3⟩, p1 =>
        cases (show r = [] from e3)
        subst e1
        cases x with
        | tup l =>
          obtain ⟨q, vs, h1, h2, h3⟩ := r2
          subst h1
          exact ⟨q, vs, rfl, .inr ⟨h2, p1 ρ1 H1 _ (Ext.refl _ _) R1 (sim_numT h2 h3)⟩⟩
        | loc n =>
          unfold itEnum lenM at p1
          simp only at p1
          cases hm : M1[n]? with
          | none => rw [hm] at p1; exact p1.elim
          | some c => cases c with
            | lst l =>
              rw [hm] at p1
              obtain ⟨q, vs, h1, h2, h3, h4⟩ := R1.lst hm r2
              subst h1
              exact ⟨q, vs, rfl, .inl ⟨SqL.of h3, p1 ρ1 H1 _ (Ext.refl _ _) R1 (sim_numL h2)⟩⟩
            | _ => rw [hm] at p1; exact p1.elim
        | _ => exact p1.elim
      | [], _, p1 => exact p1.elim
      | _ :: _ :: _, _, p1 => exact p1.elim⟩⟩
theorem si_zip (ha : SE X W a fa) (hb : SE X W b fb) (hm : X.mg "zip" = none) (hg : Gl X "zip" := by rfl)
    (hs : starEach [a, b] X.env = (false, eval a X.env) :: starEach [b] X.env := by rfl) (hs2 : starEach [b] X.env = (false, eval b X.env) :: starEach [] X.env := by rfl) (hpl : (backTo pos (starEach [b] X.env)).any (·.1) = false := by rfl) :
    SI X W (.Tuple elts kk tpos) (.Call (.Name "zip" p) [a, b] [] pos) (iZp fa fb) :=
  ⟨PI.imp (RZ.pi_zipA hg hm (sa_cons ha (sa_cons hb sa_nil hs2) hs).pa hs hpl) fun σ H Q ⟨ρ, e, M, R, S, p⟩ => ⟨ρ, e, M, R, S, by
    have p' : Po (Ritr X.K) X.K ρ H σ W Q ((aCons fa (aCons fb aNil) e M).bind fun l M1 => match l with
      | [x, y] => (match itZip x y M1 with
        | some it => .ok it M1
        | none => .bad)
      | _ => .bad) := by
      unfold iZp at p
      unfold aCons aNil
      cases h : fa e M with
      | ok x M1 =>
        rw [h] at p
        simp only [Out.bind_ok] at p ⊢
        cases h2 : fb e M1 with
        | ok y M2 => rw [h2] at p; exact p
        | ex x M1 => rw [h2] at p; exact p
        | bad => rw [h2] at p; exact p
      | ex x M1 => rw [h] at p; exact p
      | bad => rw [h] at p; exact p
    exact (Po.bind (R := RVsr X.K) p').imp fun vs H1 ⟨ρ1, M1, l, E1, R1, r1, p1⟩ => by
      match l, r1, p1 with
      | [x, y], ⟨v, r, e1, r2, u, r', e1', r2', e3⟩, p1 =>
        cases (show r' = [] from e3)
        subst e1'
        subst e1
        cases x with
        | tup l => cases y with
          | tup m =>
            obtain ⟨q, vs, h1, h2, h3⟩ := r2
            obtain ⟨q', vs', h1', h2', h3'⟩ := r2'
            subst h1 h1'
            exact ⟨q, q', vs, vs', rfl, .inr ⟨h2, h2', p1 ρ1 H1 _ (Ext.refl _ _) R1 (sim_zipT h2 h3 h2' h3')⟩⟩
          | _ => exact p1.elim
        | loc n => cases y with
          | loc k =>
            unfold itZip lenM at p1
            simp only at p1
            cases hm : M1[n]? with
            | none => rw [hm] at p1; exact p1.elim
            | some c => cases c with
              | lst l =>
                rw [hm] at p1
                cases hm' : M1[k]? with
                | none => rw [hm'] at p1; exact p1.elim
                | some c' => cases c' with
                  | lst l' =>
                    rw [hm'] at p1
                    obtain ⟨q, vs, h1, h2, h3, h4⟩ := R1.lst hm r2
                    obtain ⟨q', vs', h1', h2', h3', h4'⟩ := R1.lst hm' r2'
                    subst h1 h1'
                    exact ⟨q, q', vs, vs', rfl, .inl ⟨SqL.of h3, SqL.of h3', p1 ρ1 H1 _ (Ext.refl _ _) R1 (sim_zipL h2 h2')⟩⟩
                  | _ => rw [hm'] at p1; exact p1.elim
              | _ => rw [hm] at p1; exact p1.elim
          | _ => exact p1.elim
        | _ => exact p1.elim
      | [], _, p1 => exact p1.elim
      | [_], _, p1 => exact p1.elim
      | _ :: _ :: _ :: _, _, p1 => exact p1.elim⟩⟩
theorem si_r1 (ha : SE X W a fa) (hm : X.mg "range" = none) (hg : Gl X "range" := by rfl) (hs : starEach [a] X.env = [(false, eval a X.env)] := by rfl) : SI X W tg (.Call (.Name "range" p) [a] [] pos) (iR1 fa) :=
  ⟨PI.imp (pi_range1 hg hm (sa_cons ha sa_nil (by rw [hs]; rfl)).pa hs) fun σ H Q ⟨ρ, e, M, R, S, p⟩ => ⟨ρ, e, M, R, S, by
    have p' : Po (Ritr X.K) X.K ρ H σ W Q ((aCons fa aNil e M).bind fun l M1 => match l with
      | [.int j] => if -(2 ^ 62) ≤ j ∧ j < 2 ^ 62 then .ok (itRng 0 j.toNat) M1 else .bad
      | _ => .bad) := by
      unfold iR1 at p
      unfold aCons aNil
      cases h : fa e M with
      | ok x M1 => rw [h] at p; cases x <;> exact p
      | ex x M1 => rw [h] at p; exact p
      | bad => rw [h] at p; exact p
    exact (Po.bind (R := RVsr X.K) p').imp fun vs H1 ⟨ρ1, M1, l, E1, R1, r1, p1⟩ => by
      split at p1
      · rename_i j
        obtain ⟨v, r, e1, r2, e3⟩ := r1
        cases (show r = [] from e3)
        cases (show v = _ from r2)
        split at p1
        · rename_i hj
          exact ⟨j, e1, hj.1, hj.2, p1 ρ1 H1 _ (Ext.refl _ _) R1 sim_rng⟩
        · exact p1.elim
      · exact p1.elim⟩⟩
theorem si_r2 (ha : SE X W a fa) (hb : SE X W b fb) (hm : X.mg "range" = none) (hg : Gl X "range" := by rfl) (hs : starEach [a, b] X.env = [(false, eval a X.env), (false, eval b X.env)] := by rfl) (hs2 : starEach [b] X.env = [(false, eval b X.env)] := by rfl) : SI X W tg (.Call (.Name "range" p) [a, b] [] pos) (iR2 fa fb) :=
  ⟨PI.imp (pi_range2 hg hm (sa_cons ha (sa_cons hb sa_nil (by rw [hs2]; rfl)) (by rw [hs, hs2])).pa hs hs2) fun σ H Q ⟨ρ, e, M, R, S, p⟩ => ⟨ρ, e, M, R, S, by
    have p' : Po (Ritr X.K) X.K ρ H σ W Q ((aCons fa (aCons fb aNil) e M).bind fun l M1 => match l with
      | [.int i, .int j] => if -(2 ^ 62) ≤ i ∧ i < 2 ^ 62 ∧ -(2 ^ 62) ≤ j ∧ j < 2 ^ 62 then .ok (itRng i (j - i).toNat) M1 else .bad
      | _ => .bad) := by
      unfold iR2 at p
      unfold aCons aNil
      cases h : fa e M with
      | ok x M1 =>
        rw [h] at p
        simp only [Out.bind_ok] at p ⊢
        cases h2 : fb e M1 with
        | ok y M2 => rw [h2] at p; cases x <;> cases y <;> exact p
        | ex x M1 => rw [h2] at p; exact p
        | bad => rw [h2] at p; exact p
      | ex x M1 => rw [h] at p; exact p
      | bad => rw [h] at p; exact p
    exact (Po.bind (R := RVsr X.K) p').imp fun vs H1 ⟨ρ1, M1, l, E1, R1, r1, p1⟩ => by
      split at p1
      · rename_i i j
        obtain ⟨v, r, e1, r2, v', r', e1', r2', e3⟩ := r1
        cases (show r' = [] from e3)
        cases (show v = _ from r2)
        cases (show v' = _ from r2')
        subst e1'
        split at p1
        · rename_i hj
          exact ⟨i, j, e1, hj, p1 ρ1 H1 _ (Ext.refl _ _) R1 sim_rng⟩
        · exact p1.elim
      · exact p1.elim⟩⟩
end
end Sm

namespace Sm
open PySem L2
open PyProof.Rows (envOfC)
/-! loops -/
def forG (nxt : Nat → Mem → Option (Option Val)) (g : GF) (body : SF) : Nat → Nat → SF
  | 0, _ => fun _ _ => .bad
  | m + 1, i => fun e M => match nxt i M with
    | none => .bad
    | some none => .nx e M
    | some (some x) => (g x e M).toS fun e1 M1 => match body e1 M1 with
      | .nx e2 M2 => forG nxt g body m (i + 1) e2 M2
      | .ct e2 M2 => forG nxt g body m (i + 1) e2 M2
      | .bk e2 M2 => .nx e2 M2
      | o => o
def sFor (f : IF) (g : GF) (body : SF) : SF := fun e M => (f e M).toS e fun it M1 => forG it.nxt g body it.fuel 0 e M1
def whG (t : TF) (body : SF) : Nat → SF
  | 0 => fun _ _ => .bad
  | m + 1 => fun e M => (t e M).toS e fun b M1 => if b = true then (match body e M1 with
      | .nx e2 M2 => whG t body m e2 M2
      | .ct e2 M2 => whG t body m e2 M2
      | .bk e2 M2 => .nx e2 M2
      | o => o) else .nx e M1
def sWhile (n : Nat) (t : TF) (body : SF) : SF := whG t body n
section
variable {K : PySem.W.Frag} {ρ : List Addr} {H : Hp} {W : WX} {D : Ends}
theorem PoS.turn {N : St → Hp → Prop} {k : Sl → Mem → SO} (hN : ∀ ρ' H' σ' e M, Ext ρ H ρ' H' → Rel K ρ' M H' → SlR K ρ' H' e σ' → PoS K ρ' H' W D (k e M) → N σ' H') : ∀ {o : SO}, PoS K ρ H W D (match o with
      | .nx e2 M2 => k e2 M2
      | .ct e2 M2 => k e2 M2
      | .bk e2 M2 => .nx e2 M2
      | o => o) → PoS K ρ H W { D with nx := N, ct := N, bk := D.nx } o
  | .nx e M, h => fun ρ1 H1 σ1 E1 r1 s1 => hN ρ1 H1 σ1 e M E1 r1 s1 (h.mono E1)
  | .ct e M, h => fun ρ1 H1 σ1 E1 r1 s1 => hN ρ1 H1 σ1 e M E1 r1 s1 (h.mono E1)
  | .bk _ _, h => h
  | .rt _ _, h => h
  | .ex _ _ _, h => h
  | .bad, h => h
end
section
variable {X : Cx} {W : WX} {pos : Pos} {tg iter c : Expr} {body : List Stmt} {f : IF} {g : GF} {fb : SF} {t : TF}
theorem ss_for (hp : PassesOwn (model X.prog X.w) X.A X.env X.xe) (hc : X.calm = true) (hi : SI X W tg iter f) (hg : SG X W tg g) (hb : SSs X W body fb) (hs : ∀ x, foldedSetIterable iter X.env x = pure x := by intro _; rfl) :
    SS X W (.For tg iter body [] pos) (sFor f g fb) :=
  ⟨(ps_for hp hc hi.pi hg.pg hb.pss hs).imp fun D σ H ⟨ρ, e, M, R, S, p⟩ => ⟨ρ, e, M, R, S, (PoS.ofE (R := Ritr X.K) S p).imp fun J H1 ⟨ρ1, M1, it, E1, R1, sim, p1⟩ =>
    ⟨fun i m σ' H' => ∃ ρ' e' M', Ext ρ1 H1 ρ' H' ∧ Rel X.K ρ' M' H' ∧ SlR X.K ρ' H' e' σ' ∧ PoS X.K ρ' H' W D (forG it.nxt g fb m i e' M'),
      ⟨it.fuel, ρ1, e, M1, Ext.refl _ _, R1, S.mono E1, p1⟩, fun i m σ' H' ⟨ρ', e', M', E', R', S', p'⟩ => by
        cases m with
        | zero => exact p'.elim
        | succ m =>
          unfold forG at p'
          cases hn : it.nxt i M' with
          | none => rw [hn] at p'; exact p'.elim
          | some o => cases o with
            | none =>
              rw [hn] at p'
              exact .inl ⟨(sim i ρ' M' H' E' R').1 hn, p' ρ' H' σ' (Ext.refl _ _) R' S'⟩
            | some x =>
              rw [hn] at p'
              simp only at p'
              obtain ⟨g1, g2⟩ := (sim i ρ' M' H' E' R').2 x hn
              refine .inr ⟨g1, _, fun σ2 H2 h => ⟨m, Nat.lt_succ_self m, h⟩, fun v H2 hy => ?_⟩
              obtain ⟨E2, R2, r2⟩ := g2 v H2 hy
              refine ⟨ρ', e', M', x, R2, S'.mono E2, r2, (PoG.toS (p'.mono E2)).imp fun σ3 H3 ⟨ρ3, e3, M3, E3, R3, S3, p3⟩ => ⟨ρ3, e3, M3, R3, S3, ?_⟩⟩
              exact PoS.turn (fun ρ4 H4 σ4 e4 M4 E4 R4 S4 p4 => ⟨ρ4, e4, M4, E'.trans (E2.trans (E3.trans E4)), R4, S4, p4⟩) p3⟩⟩⟩
theorem ss_while {n : Nat} (hp : PassesOwn (model X.prog X.w) X.A X.env X.xe) (hc : ST X W c t) (hb : SSs X W body fb) : SS X W (.While c body [] pos) (sWhile n t fb) :=
  ⟨(ps_while hp hc.pt hb.pss).imp fun D σ H ⟨ρ, e, M, R, S, p⟩ =>
    ⟨fun m σ' H' => ∃ ρ' e' M', Rel X.K ρ' M' H' ∧ SlR X.K ρ' H' e' σ' ∧ PoS X.K ρ' H' W D (whG t fb m e' M'), ⟨n, ρ, e, M, R, S, p⟩, fun m σ' H' ⟨ρ', e', M', R', S', p'⟩ => by
      cases m with
      | zero => exact p'.elim
      | succ m =>
        unfold whG at p'
        refine ⟨ρ', e', M', R', S', (PoS.ofE (R := Beq X.K) S' p').imp fun v H1 ⟨ρ1, M1, b, E1, R1, r1, p1⟩ => ?_⟩
        cases (show b = v from r1)
        by_cases hb : v = true
        · rw [if_pos hb] at p1 ⊢
          refine ⟨_, fun σ2 H2 h => ⟨m, Nat.lt_succ_self m, h⟩, ρ1, e', M1, R1, S'.mono E1, ?_⟩
          exact PoS.turn (fun ρ4 H4 σ4 e4 M4 E4 R4 S4 p4 => ⟨ρ4, e4, M4, R4, S4, p4⟩) p1
        · rw [if_neg hb] at p1 ⊢
          exact p1 ρ1 H1 σ' (Ext.refl _ _) R1 (S'.mono E1)⟩⟩
end
/-! comprehensions -/
abbrev noW : WX := fun _ _ _ _ => False
/-- a comprehension's target: a name, or a tuple of names -/
inductive Tg where
  | one (i : Nat) | many (is : List Nat)
def Tg.vs : Tg → List Nat
  | .one i => [i]
  | .many is => is
def setAll {α : Type} : List Nat → List α → List (Option α) → List (Option α)
  | [], _, e => e
  | _ :: _, [], e => e
  | i :: is, x :: l, e => setAll is l (e.set i (some x))
def Tg.put (g : Tg) (x : Val) (e : Sl) : Option Sl := match g with
  | .one i => some (e.set i (some x))
  | .many is => match x with
    | .tup l => if l.length = is.length then some (setAll is l e) else none
    | _ => none
def wipeS (e : Sl) : List Nat → Sl
  | [] => e
  | v :: vs => (wipeS e vs).set v none
/-- the targets' readings -/
def gNames : List Nat → TGs
  | [] => gNil
  | i :: r => gCons (gName i) (gNames r)
def Tg.g (K : PySem.W.Frag) : Tg → TG
  | .one i => gName i
  | .many is => gTup K is.length (gNames is)
structure SLT (X : Cx) (tg : Expr) (g : Tg) : Prop where
  pg : PG X tg (g.g X.K)
structure SLs (X : Cx) (tgs : List Expr) (is : List Nat) : Prop where
  pgs : PGs X tgs (gNames is)
structure STs (X : Cx) (ifs : List Expr) (t : TF) : Prop where
  pts : PTs X ifs (tT X.K noW t)
theorem PTs.imp {X : Cx} {e : List Expr} {t t' : TT} (h : PTs X e t) (i : ∀ σ H Q, t' σ H Q → t σ H Q) : PTs X e t' := ⟨fun pins s σ H Q I q => h.run pins s σ H Q I (i σ H Q q)⟩
def tTrue : TF := fun _ M => .ok true M
section
variable {X : Cx} {pos : Pos}
theorem sl_one {i : Nat} {x : Str} (hN : X.N.Nodup) (hi : X.N[i]? = some x := by rfl) (hx : Loc X.env.scope x := by first | exact Or.inl rfl | exact Or.inr rfl) (hf : X.fn x = true ∨ X.env.scope.names.lookup x = some .local := by first | exact .inl rfl | exact .inr rfl | assumption) :
    SLT X (.Name x pos) (.one i) := ⟨pg_name (i := i) hN hi hx hf⟩
theorem sls_nil : SLs X [] [] := ⟨pgs_nil⟩
theorem sls_cons {i : Nat} {x : Str} {is : List Nat} {ts : List Expr} (hN : X.N.Nodup) (hr : SLs X ts is) (hi : X.N[i]? = some x := by rfl) (hx : Loc X.env.scope x := by first | exact Or.inl rfl | exact Or.inr rfl) (hf : X.fn x = true ∨ X.env.scope.names.lookup x = some .local := by first | exact .inl rfl | exact .inr rfl | assumption)
    (hs : (assignEach (.Name x pos :: ts) X.env).map (·.2) = assign (.Name x pos) X.env :: (assignEach ts X.env).map (·.2) := by rfl) : SLs X (.Name x pos :: ts) (i :: is) := ⟨pgs_cons (pg_name (i := i) hN hi hx hf) hr.pgs hs⟩
theorem sl_many {is : List Nat} {ts : List Expr} {k : Nat} (hc : X.calm = true) (h : SLs X ts is) (hn : (assignEach ts X.env).length = is.length := by rfl) (hst : (assignEach ts X.env).findIdx? (·.1) = none := by rfl) : SLT X (.Tuple ts k pos) (.many is) :=
  ⟨pg_tup hc h.pgs hn hst⟩
theorem sts_nil : STs X [] tTrue := ⟨PTs.imp pts_nil fun σ H Q ⟨ρ, e, M, R, S, p⟩ => p ρ H true (Ext.refl _ _) R rfl⟩
theorem sts_one {c : Expr} {t : TF} (h : ST X noW c t) : STs X [c] t := ⟨pts_one h.pt⟩
end
theorem wipe_get (σ : St) : ∀ (vs : List Nat) (j : Nat), (wipe σ vs)[j]? = if j ∈ vs then σ[j]?.map (fun _ => none) else σ[j]?
  | [], j => by simp [wipe]
  | v :: vs, j => by
    unfold wipe
    by_cases h : v = j
    · subst h
      by_cases hl : v < (wipe σ vs).length
      · rw [List.getElem?_set_self hl]
        rw [wipe_length] at hl
        simp [hl]
      · rw [List.getElem?_eq_none (by simpa using hl)]
        rw [wipe_length] at hl
        simp [List.getElem?_eq_none (Nat.le_of_not_lt hl)]
    · rw [List.getElem?_set_ne h, wipe_get σ vs j]
      have h' : ¬ j = v := fun e => h e.symm
      simp [h']
theorem wipe_set {σ : St} {vs : List Nat} {i : Nat} {v : V} (h : i ∈ vs) : wipe (σ.set i (some v)) vs = wipe σ vs := by
  apply List.ext_getElem?
  intro j
  rw [wipe_get, wipe_get]
  by_cases hj : j ∈ vs
  · rw [if_pos hj, if_pos hj]
    by_cases e : i = j
    · subst e
      by_cases hl : i < σ.length
      · rw [List.getElem?_set_self hl]; simp [hl]
      · rw [List.getElem?_eq_none (by simpa using hl), List.getElem?_eq_none (Nat.le_of_not_lt hl)]
    · rw [List.getElem?_set_ne e]
  · rw [if_neg hj, if_neg hj]
    have e : i ≠ j := fun e => hj (e ▸ h)
    rw [List.getElem?_set_ne e]
section
variable {K : PySem.W.Frag} {ρ : List Addr} {H : Hp} {σ : St} {e : Sl}
theorem SlR.wipe (S : SlR K ρ H e σ) : ∀ vs : List Nat, SlR K ρ H (wipeS e vs) (L2.wipe σ vs)
  | [] => S
  | v :: vs => (SlR.wipe S vs).unset v
theorem gNames_ok {Q : St → Hp → Prop} {vs0 : List Nat} : ∀ {is : List Nat} {l : List Val} {us : List V} {e : Sl} {σ : St}, is.length = l.length → (∀ i ∈ is, i ∈ vs0) → RVs K ρ H l us → SlR K ρ H e σ →
    (∀ σ', SlR K ρ H (setAll is l e) σ' → L2.wipe σ' vs0 = L2.wipe σ vs0 → Q σ' H) → gNames is us σ H Q
  | [], [], us, e, σ, _, _, r, S, h => ⟨r, h σ S rfl⟩
  | [], _ :: _, _, _, _, hl, _, _, _, _ => by cases hl
  | _ :: _, [], _, _, _, hl, _, _, _, _ => by cases hl
  | i :: is, x :: l, us, e, σ, hl, hv, ⟨v, r, e1, r1, r2⟩, S, h => ⟨v, r, e1, gNames_ok (Nat.succ.inj hl) (fun j hj => hv j (List.mem_cons_of_mem _ hj)) r2 (S.set i r1) fun σ' S' w => h σ' S' (by rw [w, wipe_set (hv i List.mem_cons_self)])⟩
theorem Tg.ok {g : Tg} {vs0 : List Nat} {x : Val} {v : V} {e1 : Sl} {Q : St → Hp → Prop} (hv : ∀ i ∈ g.vs, i ∈ vs0) (r : RV K ρ H x v) (S : SlR K ρ H e σ) (hp : g.put x e = some e1) (h : ∀ σ', SlR K ρ H e1 σ' → L2.wipe σ' vs0 = L2.wipe σ vs0 → Q σ' H) : g.g K v σ H Q := by
  cases g with
  | one i =>
    cases hp
    exact h _ (S.set i r) (wipe_set (hv i (by simp [Tg.vs])))
  | many is =>
    unfold Tg.put at hp
    simp only at hp
    split at hp
    · rename_i l
      split at hp
      · rename_i hl
        cases hp
        obtain ⟨a, us, e1, h1, h2⟩ := r
        exact ⟨a, us, e1, h1, by rw [h2.length]; exact hl, gNames_ok hl.symm hv h2 S h⟩
      · cases hp
    · cases hp
end
/-- the turns of a comprehension; D: the new list's place -/
def lcG (nxt : Nat → Mem → Option (Option Val)) (g : Tg) (t : TF) (el : EF) (D : Nat) (e : Sl) : Nat → Nat → Mem → Out Val
  | 0, _, _ => .bad
  | m + 1, i, M => match nxt i M with
    | none => .bad
    | some none => .ok (.loc D) M
    | some (some x) => match g.put x e with
      | none => .bad
      | some e1 => match t e1 M with
        | .ok b M1 => if b = true then (match el e1 M1 with
          | .ok y M2 => (match M2[D]? with
            | some (.lst acc) => if acc.length < sizeLine then lcG nxt g t el D e m (i + 1) (M2.set D (.lst (acc ++ [y]))) else .bad
            | _ => .bad)
          | _ => .bad) else lcG nxt g t el D e m (i + 1) M1
        | _ => .bad
def eLc (f : IF) (g : Tg) (t : TF) (el : EF) (vs : List Nat) : EF := fun e M => (f e M).bind fun it M1 => lcG it.nxt g t el M1.length (wipeS e vs) it.fuel 0 (M1 ++ [.lst []])
theorem Po.noex {K : PySem.W.Frag} {α β : Type} {R : RR α β} {ρ : List Addr} {H : Hp} {σ : St} {Q : β → Hp → Prop} {o : Out α} {a : α} {M : Mem} (h : o = .ok a M) (k : ∀ ρ' H' b, Ext ρ H ρ' H' → Rel K ρ' M H' → R ρ' H' a b → Q b H') : Po R K ρ H σ noW Q o := by
  subst h; exact k
section
variable {X : Cx} {W : WX} {pos : Pos} {tg iter elt : Expr} {ifs : List Expr} {scope : Scope} {own : List (Str × Nat)} {f : IF} {g : Tg} {t : TF} {el : EF}
theorem lc_ok (hv : ∀ i ∈ g.vs, i ∈ own.map (·.2)) {σ : St} {H : Hp} {Q : VK} (h : tE X.K W (eLc f g t el (own.map (·.2))) σ H Q) : tLc (tIt X.K W f) (g.g X.K) (tT X.K noW t) (tE X.K noW el) (own.map (·.2)) σ H Q := by
  obtain ⟨ρ, e, M, R, S, p⟩ := h
  refine ⟨ρ, e, M, R, S, (Po.bind (R := Ritr X.K) p).imp fun J H1 ⟨ρ1, M1, it, E1, R1, sim, p1⟩ D hD => ?_⟩
  have EA := Ext.alloc (o := .lst []) ρ1 hD
  have hn : (ρ1 ++ [D])[M1.length]? = some D := by rw [← R1.len, List.getElem?_append_right (Nat.le_refl _)]; simp
  refine ⟨fun i m H' => ∃ ρ' M', Ext ρ1 H1 ρ' H' ∧ Rel X.K ρ' M' H' ∧ ρ'[M1.length]? = some D ∧ Po (RVr X.K) X.K ρ' H' σ W Q (lcG it.nxt g t el M1.length (wipeS e (own.map (·.2))) m i M'),
    ⟨it.fuel, ρ1 ++ [D], _, EA, R1.alloc (c := .lst []) hD ⟨[], upd_same, rfl⟩, hn, p1.mono EA⟩, fun i m H' ⟨ρ', M', E', R', hn', p'⟩ => ?_⟩
  cases m with
  | zero => exact p'.elim
  | succ m =>
    unfold lcG at p'
    cases hx : it.nxt i M' with
    | none => rw [hx] at p'; exact p'.elim
    | some o => cases o with
      | none =>
        rw [hx] at p'
        exact .inl ⟨(sim i ρ' M' H' E' R').1 hx, p' ρ' H' _ (Ext.refl _ _) R' ⟨D, rfl, hn'⟩⟩
      | some x =>
        rw [hx] at p'
        simp only at p'
        obtain ⟨g1, g2⟩ := (sim i ρ' M' H' E' R').2 x hx
        refine .inr ⟨g1, _, fun H2 h => ⟨m, Nat.lt_succ_self m, h⟩, fun v H2 hy => ?_⟩
        obtain ⟨E2, R2, r2⟩ := g2 v H2 hy
        cases hp : g.put x (wipeS e (own.map (·.2))) with
        | none => rw [hp] at p'; exact p'.elim
        | some e1 =>
          rw [hp] at p'
          simp only at p'
          have S2 : SlR X.K ρ' H2 (wipeS e (own.map (·.2))) (L2.wipe σ (own.map (·.2))) := (S.wipe _).mono (E1.trans (E'.trans E2))
          refine Tg.ok hv r2 S2 hp fun σ' S' w => ⟨?_, ρ', e1, M', R2, S', ?_⟩
          · rw [w]
            apply List.ext_getElem?
            intro j
            rw [wipe_get, wipe_get]
            by_cases hj : j ∈ own.map (·.2)
            · rw [if_pos hj, if_pos hj]; cases σ[j]? <;> rfl
            · rw [if_neg hj, if_neg hj]
          · cases ht : t e1 M' with
            | bad => rw [ht] at p'; exact p'.elim
            | ex _ _ => rw [ht] at p'; exact p'.elim
            | ok b M3 =>
              rw [ht] at p'
              simp only at p'
              intro ρ3 H3 b' E3 R3 eb
              cases (show b = b' from eb)
              by_cases hb : b = true
              · rw [if_pos hb] at p' ⊢
                cases hl : el e1 M3 with
                | bad => rw [hl] at p'; exact p'.elim
                | ex _ _ => rw [hl] at p'; exact p'.elim
                | ok y M4 =>
                  rw [hl] at p'
                  simp only at p'
                  refine ⟨ρ3, e1, M3, R3, S'.mono E3, Po.noex hl fun ρ4 H4 u E4 R4 r4 => ?_⟩
                  cases hm : M4[M1.length]? with
                  | none => rw [hm] at p'; exact p'.elim
                  | some c => cases c with
                    | lst acc =>
                      rw [hm] at p'
                      simp only at p'
                      have hn4 := E4.get (E3.get hn')
                      obtain ⟨vs, h3, h4⟩ := R4.at_ _ _ _ hm hn4
                      by_cases hz : acc.length < sizeLine
                      · rw [if_pos hz] at p'
                        refine ⟨vs, h3, by rw [h4.length]; exact hz, ?_⟩
                        have hmu : Mut (H4 D) := by rw [h3]; trivial
                        have E5 := Ext.write (o := .lst (vs ++ [u])) ρ4 hmu
                        obtain ⟨R5, _⟩ := R4.write (c := .lst (acc ++ [y])) hn4 ⟨_, upd_same, RVs.mono E5 _ _ (h4.snoc r4)⟩
                        exact ⟨ρ4, _, E'.trans (E2.trans (E3.trans (E4.trans E5))), R5, hn4, p'.mono (E2.trans (E3.trans (E4.trans E5)))⟩
                      · rw [if_neg hz] at p'; exact p'.elim
                    | _ => rw [hm] at p'; exact p'.elim
              · rw [if_neg hb] at p' ⊢
                exact ⟨ρ3, M3, E'.trans (E2.trans E3), R3, E3.get hn', p'.mono (E2.trans E3)⟩
theorem se_lc (hc : X.calm = true) (hN : X.N.Nodup) (hi : SI X W tg iter f) (ok : BlkOk X.N X.env.scope scope own) (hv : ∀ i ∈ g.vs, i ∈ own.map (·.2))
    (hg : ∀ (s : Shared) (H : Hp) (C : Addr) (cl : List (Str × Addr)) (fp : List Addr), SLT (X.blk s H scope (compEnvC scope cl C X.env) fp) tg g) (ht : ∀ (s : Shared) (H : Hp) (C : Addr) (cl : List (Str × Addr)) (fp : List Addr), STs (X.blk s H scope (compEnvC scope cl C X.env) fp) ifs t)
    (he : ∀ (s : Shared) (H : Hp) (C : Addr) (cl : List (Str × Addr)) (fp : List Addr), SE (X.blk s H scope (compEnvC scope cl C X.env) fp) noW elt el) (hs : ∀ x, foldedSetIterable iter X.env x = pure x := by intro _; rfl) :
    SE X W (.ListComp elt [⟨tg, iter, ifs, 0⟩] scope pos) (eLc f g t el (own.map (·.2))) :=
  ⟨(pe_lc hc hN hi.pi ok (fun s H C cl fp => (hg s H C cl fp).pg) (fun s H C cl fp => (ht s H C cl fp).pts) (fun s H C cl fp => (he s H C cl fp).pe) hs).imp fun σ H Q h => lc_ok hv h⟩
theorem ss_setLc {i : Nat} {y : Str} {py spos : Pos} (hc : X.calm = true) (hN : X.N.Nodup) (hsw : swapsWith (.ListComp elt [⟨tg, iter, ifs, 0⟩] scope pos) (some (.Name y py)) spos.line X.env = pure true) (hi : SI X W tg iter f) (ok : BlkOk X.N X.env.scope scope own) (hv : ∀ i ∈ g.vs, i ∈ own.map (·.2))
    (hg : ∀ (s : Shared) (H : Hp) (C : Addr) (cl : List (Str × Addr)) (fp : List Addr), SLT (X.blk s H scope (compEnvC scope cl C X.env) fp) tg g) (ht : ∀ (s : Shared) (H : Hp) (C : Addr) (cl : List (Str × Addr)) (fp : List Addr), STs (X.blk s H scope (compEnvC scope cl C X.env) fp) ifs t)
    (he : ∀ (s : Shared) (H : Hp) (C : Addr) (cl : List (Str × Addr)) (fp : List Addr), SE (X.blk s H scope (compEnvC scope cl C X.env) fp) noW elt el) (hy : X.N[i]? = some y := by rfl) (hyl : X.env.scope.names.lookup y = some .local := by rfl) (hs : ∀ x, foldedSetIterable iter X.env x = pure x := by intro _; rfl) :
    SS X W (.Assign [.Name y py] (.ListComp elt [⟨tg, iter, ifs, 0⟩] scope pos) spos) (sAsg (eLc f g t el (own.map (·.2))) (gNm i)) :=
  ⟨(ps_setLc (i := i) hc hN hy hyl hsw hi.pi ok (fun s H C cl fp => (hg s H C cl fp).pg) (fun s H C cl fp => (ht s H C cl fp).pts) (fun s H C cl fp => (he s H C cl fp).pe) hs).imp fun D σ H ⟨ρ, e, M, R, S, p⟩ =>
    lc_ok (W := W) hv ⟨ρ, e, M, R, S, (PoS.ofE (R := RVr X.K) S p).imp fun v H1 ⟨ρ1, M1, x, E1, R1, r1, p1⟩ => p1 ρ1 H1 _ (Ext.refl _ _) R1 ((S.mono E1).set i r1)⟩⟩
end
/-! defs -/
def fnS (np n : Nat) (body : SF) : FnS := fun l M => if l.length = np then (match body (l.map some ++ List.replicate (n - np) none) M with
    | .nx _ M => .ok .non M
    | .rt v M => .ok v M
    | .ex x _ M => .ex x M
    | _ => .bad) else .bad
def spS (K : PySem.W.Frag) (np : Nat) (F : FnS) : Sp := fun vs H Q E => ∃ ρ M l, Rel K ρ M H ∧ RVs K ρ H l vs ∧ l.length = np ∧ Po (RVr K) K ρ H [] (fun c d _ H => E c d H) Q (F l M)
abbrev FOk (P : Program) (w : World) (K : PySem.W.Frag) (mg : Str → Option Value) (base : Heap) (k : Nat) (f : Addr) (fd : FuncData) (ps : List Str) (F : FnS) : Prop := FnOk P w K mg base (L2.CX P w) k f fd ps (spS K ps.length F)
theorem SlR.start {K : PySem.W.Frag} {ρ : List Addr} {H : Hp} {N : List Str} {np : Nat} {l : List Val} {vs : List V} (r : RVs K ρ H l vs) (hl : l.length = np) : SlR K ρ H (l.map some ++ List.replicate (N.length - np) none) (L2.start N vs) := by
  have hl' := r.length
  refine ⟨by unfold L2.start; simp [hl', hl], fun i x h => ?_⟩
  unfold L2.start
  by_cases hi : i < l.length
  · rw [List.getElem?_append_left (by simpa using hi)] at h
    rw [List.getElem?_append_left (by simpa [hl'] using hi)]
    have hx : l[i]? = some x := by simpa using h
    obtain ⟨v, h1, h2⟩ := r.get hx
    exact ⟨v, by simp [h1], h2⟩
  · rw [List.getElem?_append_right (by simpa using hi)] at h
    have := List.mem_of_getElem? h
    simp at this
section
variable {P : Program} {w : World} {K : PySem.W.Frag} {mg : Str → Option Value} {base : Heap} {x qual : Str} {params : Arguments} {body : List Stmt} {scope : Scope} {dvs : List V} {kws : List (Str × V)} {f : Addr} {fd : FuncData}
theorem fok_of {N ps : List Str} {k : Nat} {fb : SF} (F : FunD K x qual params body scope dvs kws f fd) (S : FnScope N ps scope)
    (hb : ∀ (cdv : Value) (A : Around) (outer : List Env) (s : Shared) (H : Hp) (E : XK), Room k (A.deeper (envOfC qual scope s.heap.objs.size f cdv)) →
      SSs (cxOf (L2.CX P w) P w K mg base N qual scope f cdv A outer s H E) (fun c d _ H => E c d H) body fb) : FOk P w K mg base (k + 1) f fd ps (fnS ps.length N.length fb) := by
  refine F.ok S (fun vs H Q E ⟨ρ, M, l, R, r, hl, p⟩ => by rw [r.length]; exact hl) fun cdv A outer s H vs Q E hr ⟨ρ, M, l, R, r, hl, p⟩ => ⟨_, (hb cdv A outer s H E hr).pss, ρ, _, M, R, SlR.start r hl, ?_⟩
  unfold fnS at p
  rw [if_pos hl] at p
  show PoS K ρ H _ _ (fb (l.map some ++ List.replicate (N.length - ps.length) none) M)
  cases hf : fb (l.map some ++ List.replicate (N.length - ps.length) none) M with
  | nx e1 M1 => rw [hf] at p; exact fun ρ' H' σ' E' R' S' => p ρ' H' .non E' R' rfl
  | rt v M1 => rw [hf] at p; exact p
  | ex y e1 M1 => rw [hf] at p; exact fun ρ' H' σ' c d E' R' S' q => p ρ' H' c d E' R' q
  | bk _ _ => rw [hf] at p; exact p.elim
  | ct _ _ => rw [hf] at p; exact p.elim
  | bad => rw [hf] at p; exact p.elim
end
def eFn (np : Nat) (F : FnS) (fa : AF) : EF := fun e M => (fa e M).bind fun l M1 => if l.length = np then F l M1 else .bad
section
variable {X : Cx} {W : WX} {k : Nat} {f : Addr} {fd : FuncData} {ps : List Str} {Fs : FnS} {x : Str} {p pos : Pos} {a : Expr} {es : List Expr} {fa : AF}
theorem se_call (F : FOk X.prog X.w X.K X.mg X.base k f fd ps Fs) (hr : Room k X.A) (hm : X.mg x = some (.ref f)) (hk : PySem.W.keepIn X.K (.ref f) = true) (hb : Binds X.K fd ps []) (tk : Takes X W) (ha : SA X W (a :: es) fa)
    (hg : Gl X x := by rfl) (hdb : (x == ("__debug__" : Str)) = false := by decide) (he : starEach (a :: es) X.env = (false, eval a X.env) :: starEach es X.env := by rfl) (hpl : (backTo pos (starEach es X.env)).any (·.1) = false := by rfl) :
    SE X W (.Call (.Name x p) (a :: es) [] pos) (eFn ps.length Fs fa) :=
  ⟨(pe_callS F hr hg hm hk hb (passAt tk) ha.pa hdb he hpl).imp fun σ H Q ⟨ρ, e, M, R, S, p⟩ => ⟨ρ, e, M, R, S, (Po.bind (R := RVsr X.K) p).imp fun vs H1 ⟨ρ1, M1, l, E1, R1, r1, p1⟩ => by
    by_cases hl : l.length = ps.length
    · rw [if_pos hl] at p1
      refine ⟨ρ1, M1, l, R1, r1, hl, ?_⟩
      cases hF : Fs l M1 with
      | ok v M2 => rw [hF] at p1; exact p1
      | ex y M2 => rw [hF] at p1; exact p1
      | bad => rw [hF] at p1; exact p1.elim
    · rw [if_neg hl] at p1; exact p1.elim⟩⟩
end
end Sm

namespace Sm
open PySem L2
section
variable {K : PySem.W.Frag} {ρ : List Addr} {M : Mem} {H : Hp} {σ : St} {W : WX} {Q : VK}
theorem Po.val {x : Val} {v : V} (p : Po (RVr K) K ρ H σ W Q (.ok x M)) (R : Rel K ρ M H) (r : RV K ρ H x v) : Q v H := p ρ H v (Ext.refl _ _) R r
/-- a new tuple at q -/
theorem Po.newTup {l : List Val} {vs : List V} (p : Po (RVr K) K ρ H σ W Q (.ok (.tup l) M)) (R : Rel K ρ M H) (r : RVs K ρ H l vs) : ∀ q, H q = none → Q (.ref q) (upd H q (.tup vs)) := fun q hq => by
  have E := Ext.fresh (o := .tup vs) ρ hq
  exact p ρ _ _ E (R.fresh hq) ⟨q, vs, rfl, SqT.of upd_same, RVs.mono E _ _ r⟩
end
/-! ints -/
def small64 (k : Int) : Bool := decide (-(2 ^ 64) < k) && decide (k < 2 ^ 64)
theorem small64_ok {k : Int} (h : small64 k = true) : -(2 ^ 64) < k ∧ k < 2 ^ 64 := by
  unfold small64 at h
  rw [Bool.and_eq_true] at h
  exact ⟨of_decide_eq_true h.1, of_decide_eq_true h.2⟩
def getL (M : Mem) (n : Nat) : Option (List Val) := match M[n]? with
  | some (.lst l) => some l
  | _ => none
theorem getL_ok {M : Mem} {n : Nat} {l : List Val} (h : getL M n = some l) : M[n]? = some (.lst l) := by
  unfold getL at h
  split at h
  · rename_i hm; cases h; exact hm
  · cases h
def addV (x y : Val) (M : Mem) : Out Val := match x, y with
  | .int i, .int j => .ok (.int (i + j)) M
  | .str a, .str b => if a.length + b.length ≤ sizeLine then .ok (.str (a ++ b)) M else .bad
  | .tup a, .tup b => if a.length + b.length ≤ sizeLine then .ok (.tup (a ++ b)) M else .bad
  | .loc m, .loc n => match getL M m, getL M n with
    | some a, some b => if a.length + b.length ≤ sizeLine then .ok (.loc M.length) (M ++ [.lst (a ++ b)]) else .bad
    | _, _ => .bad
  | _, _ => .bad
def subV (x y : Val) (M : Mem) : Out Val := match x, y with
  | .int i, .int j => .ok (.int (i - j)) M
  | _, _ => .bad
def mulV (x y : Val) (M : Mem) : Out Val := match x, y with
  | .int i, .int j => if small64 i || small64 j then .ok (.int (i * j)) M else .bad
  | .loc n, .int k => match getL M n with
    | some l => if -(2 ^ 63) ≤ k ∧ k < 2 ^ 63 ∧ l.length * k.toNat ≤ sizeLine then .ok (.loc M.length) (M ++ [.lst (List.replicate k.toNat l).flatten]) else .bad
    | none => .bad
  | .tup l, .int k => if l ≠ [] ∧ 2 ≤ k ∧ k ≤ 1000 ∧ l.length ≤ 1000 then .ok (.tup (List.replicate k.toNat l).flatten) M else .bad
  | _, _ => .bad
def divV (x y : Val) (M : Mem) : Out Val := match x, y with
  | .int i, .int j => if 0 < j ∧ j < 1073741824 then .ok (.int (i / j)) M else .bad
  | _, _ => .bad
def modV (x y : Val) (M : Mem) : Out Val := match x, y with
  | .int i, .int j => if 0 < j then .ok (.int (i % j)) M else .bad
  | _, _ => .bad
def powV (x y : Val) (M : Mem) : Out Val := match x, y with
  | .int i, .int j => if 0 ≤ j ∧ j ≤ 1000000 ∧ i.natAbs < 2 ^ 64 then .ok (.int (i ^ j.toNat)) M else .bad
  | _, _ => .bad
def cmpV (p : Int → Int → Bool) (x y : Val) (M : Mem) : Out Val := match x, y with
  | .int i, .int j => .ok (.bl (p i j)) M
  | _, _ => .bad
def isNon : Val → Bool
  | .non => true
  | _ => false
def isN (x y : Val) (M : Mem) : Out Val := match y with
  | .non => .ok (.bl (isNon x)) M
  | _ => .bad
def notN (x y : Val) (M : Mem) : Out Val := match y with
  | .non => .ok (.bl (!isNon x)) M
  | _ => .bad
def negV (x : Val) (M : Mem) : Out Val := match x with
  | .int i => .ok (.int (-i)) M
  | _ => .bad
def rAddA (K : PySem.W.Frag) : R2 := fun x y H Q => (∃ i j, x = .int i ∧ y = .int j ∧ Q (.int (i + j)) H) ∨ (∃ i j, x = .str i ∧ y = .str j ∧ i.length + j.length ≤ sizeLine ∧ Q (.str (i ++ j)) H) ∨ rCatA K x y H Q ∨ rCat x y H Q
def rMulA (K : PySem.W.Frag) : R2 := fun x y H Q => rI CMul (fun i j => .int (i * j)) x y H Q ∨ rRep x y H Q ∨ rRepT K x y H Q
section
variable {X : Cx} {K : PySem.W.Frag}
theorem op_addA : OpR X (binaryOp .Add) (rAddA X.K) := OpR.or op_add (OpR.or op_add_str (OpR.or op_catA op_cat))
theorem op_mulA : OpR X (binaryOp .Mult) (rMulA X.K) := OpR.or op_mul (OpR.or op_rep op_repT)
theorem os_add : OpS K (rAddA K) addV := by
  intro ρ M H σ W Q x y v u R rx ry p
  unfold addV at p
  split at p
  · cases (show v = _ from rx); cases (show u = _ from ry); exact .inl ⟨_, _, rfl, rfl, p.val R rfl⟩
  · cases (show v = _ from rx); cases (show u = _ from ry)
    split at p
    · rename_i h; exact .inr (.inl ⟨_, _, rfl, rfl, h, p.val R rfl⟩)
    · exact p.elim
  · split at p
    · rename_i a b h
      obtain ⟨q, vs, e1, h1, r1⟩ := rx
      obtain ⟨q', vs', e2, h2, r2⟩ := ry
      subst e1 e2
      refine .inr (.inr (.inl ⟨q, q', vs, vs', rfl, rfl, h1, h2, by rw [r1.length, r2.length]; exact h, fun e => ?_, fun _ e => ?_, fun _ _ q3 hq3 => p.newTup R (r1.append r2) q3 hq3⟩))
      · have ea : a = [] := by
          have := r1.length
          rw [e] at this
          exact List.length_eq_zero_iff.mp this.symm
        subst ea
        exact p.val R ⟨q', vs', rfl, h2, r2⟩
      · have eb : b = [] := by
          have := r2.length
          rw [e] at this
          exact List.length_eq_zero_iff.mp this.symm
        subst eb
        rw [List.append_nil] at p
        exact p.val R ⟨q, vs, rfl, h1, r1⟩
    · exact p.elim
  · split at p
    · rename_i a b ha hb
      split at p
      · rename_i h
        obtain ⟨q, vs, e1, h1, h2, r1⟩ := R.lst (getL_ok ha) rx
        obtain ⟨q', vs', e2, h1', h2', r2⟩ := R.lst (getL_ok hb) ry
        exact .inr (.inr (.inr ⟨q, q', vs, vs', e1, e2, h2, h2', by rw [r1.length, r2.length]; exact h, p.newList R (r1.append r2)⟩))
      · exact p.elim
    · exact p.elim
  · exact p.elim
theorem os_sub : OpS K (rI0 fun i j => .int (i - j)) subV := by
  intro ρ M H σ W Q x y v u R rx ry p
  unfold subV at p
  split at p
  · cases (show v = _ from rx); cases (show u = _ from ry); exact ⟨_, _, rfl, rfl, p.val R rfl⟩
  · exact p.elim
theorem os_mul : OpS K (rMulA K) mulV := by
  intro ρ M H σ W Q x y v u R rx ry p
  unfold mulV at p
  split at p
  · cases (show v = _ from rx); cases (show u = _ from ry)
    split at p
    · rename_i h
      rw [Bool.or_eq_true] at h
      exact .inl ⟨_, _, rfl, rfl, h.imp small64_ok small64_ok, p.val R rfl⟩
    · exact p.elim
  · cases (show u = _ from ry)
    split at p
    · rename_i l hl
      split at p
      · rename_i h
        obtain ⟨q, vs, e1, h1, h2, r1⟩ := R.lst (getL_ok hl) rx
        exact .inr (.inl ⟨q, _, vs, e1, rfl, h2, h.1, h.2.1, by rw [r1.length]; exact h.2.2, p.newList R (r1.rep _)⟩)
      · exact p.elim
    · exact p.elim
  · cases (show u = _ from ry)
    split at p
    · rename_i l k h
      obtain ⟨q, vs, e1, h1, r1⟩ := rx
      refine .inr (.inr ⟨q, _, vs, e1, rfl, h1, ?_, h.2.1, h.2.2.1, by rw [r1.length]; exact h.2.2.2, p.newTup R (r1.rep _)⟩)
      rintro rfl
      have := r1.length
      exact h.1 (List.length_eq_zero_iff.mp this.symm)
    · exact p.elim
  · exact p.elim
theorem os_div : OpS K (rI CDiv fun i j => .int (i / j)) divV := by
  intro ρ M H σ W Q x y v u R rx ry p
  unfold divV at p
  split at p
  · cases (show v = _ from rx); cases (show u = _ from ry)
    split at p
    · rename_i h; exact ⟨_, _, rfl, rfl, h, p.val R rfl⟩
    · exact p.elim
  · exact p.elim
theorem os_mod : OpS K (rI (fun _ j => 0 < j) fun i j => .int (i % j)) modV := by
  intro ρ M H σ W Q x y v u R rx ry p
  unfold modV at p
  split at p
  · cases (show v = _ from rx); cases (show u = _ from ry)
    split at p
    · rename_i h; exact ⟨_, _, rfl, rfl, h, p.val R rfl⟩
    · exact p.elim
  · exact p.elim
theorem os_pow : OpS K (rI CPow fun i j => .int (i ^ j.toNat)) powV := by
  intro ρ M H σ W Q x y v u R rx ry p
  unfold powV at p
  split at p
  · cases (show v = _ from rx); cases (show u = _ from ry)
    split at p
    · rename_i h; exact ⟨_, _, rfl, rfl, h, p.val R rfl⟩
    · exact p.elim
  · exact p.elim
theorem os_cmp {g : Int → Int → Bool} : OpS K (rI0 fun i j => .bl (g i j)) (cmpV g) := by
  intro ρ M H σ W Q x y v u R rx ry p
  unfold cmpV at p
  split at p
  · cases (show v = _ from rx); cases (show u = _ from ry); exact ⟨_, _, rfl, rfl, p.val R rfl⟩
  · exact p.elim
theorem RV.non_iff {ρ : List Addr} {H : Hp} {x : Val} {v : V} (r : RV K ρ H x v) : decide (v = .non) = isNon x := by
  cases x with
  | non => cases (show v = _ from r); rfl
  | bl _ => cases (show v = _ from r); rfl
  | int _ => cases (show v = _ from r); rfl
  | str _ => cases (show v = _ from r); rfl
  | tup _ => obtain ⟨_, _, e, _⟩ := r; subst e; rfl
  | frz _ => obtain ⟨_, e, _⟩ := r; subst e; rfl
  | loc _ => obtain ⟨_, e, _⟩ := r; subst e; rfl
theorem os_isN : OpS K (fun x y H Q => y = .non ∧ Q (.bl (decide (x = .non))) H) isN := by
  intro ρ M H σ W Q x y v u R rx ry p
  unfold isN at p
  split at p
  · exact ⟨ry, by rw [rx.non_iff]; exact p.val R rfl⟩
  · exact p.elim
theorem os_notN : OpS K (fun x y H Q => y = .non ∧ Q (.bl (!decide (x = .non))) H) notN := by
  intro ρ M H σ W Q x y v u R rx ry p
  unfold notN at p
  split at p
  · exact ⟨ry, by rw [rx.non_iff]; exact p.val R rfl⟩
  · exact p.elim
theorem us_neg : UnS K (rU fun i => .int (-i)) negV := by
  intro ρ M H σ W Q x v R rx p
  unfold negV at p
  split at p
  · cases (show v = _ from rx); exact ⟨_, rfl, p.val R rfl⟩
  · exact p.elim
end
/-! data -/
def toD (M : Mem) : Nat → Val → Option PyData
  | 0, _ => none
  | k + 1, x => match x with
    | .non => some .none
    | .bl b => some (.bool b)
    | .int i => some (.int i)
    | .str s => some (.str s)
    | .tup l => (l.mapM (toD M k)).map .tuple
    | .frz l => some (.list (l.map .int))
    | .loc n => match getL M n with
      | some l => (l.mapM (toD M k)).map .list
      | none => none
section
variable {K : PySem.W.Frag} {ρ : List Addr} {M : Mem} {H : Hp}
theorem dpAll_ints : ∀ l : List Int, DpAll K H (l.map V.int) (l.map PyData.int)
  | [] => .nil
  | i :: l => .cons (.int i) (dpAll_ints l)
theorem toD_all {k : Nat} (ih : ∀ x v d, RV K ρ H x v → toD M k x = some d → Dp K H v d) : ∀ {l : List Val} {vs : List V} {ds : List PyData}, RVs K ρ H l vs → l.mapM (toD M k) = some ds → DpAll K H vs ds
  | [], vs, ds, r, h => by
    cases (show vs = [] from r)
    simp at h
    subst h
    exact .nil
  | x :: l, vs, ds, ⟨v, us, e, r1, r2⟩, h => by
    subst e
    rw [List.mapM_cons] at h
    cases hx : toD M k x with
    | none => rw [hx] at h; simp at h
    | some d =>
      cases hl : l.mapM (toD M k) with
      | none => rw [hx, hl] at h; simp at h
      | some ds' =>
        rw [hx, hl] at h
        simp at h
        subst h
        exact .cons (ih _ _ _ r1 hx) (toD_all ih r2 hl)
theorem toD_ok (R : Rel K ρ M H) : ∀ (k : Nat) (x : Val) (v : V) (d : PyData), RV K ρ H x v → toD M k x = some d → Dp K H v d
  | 0, _, _, _, _, h => by cases h
  | k + 1, x, v, d, r, h => by
    unfold toD at h
    cases x with
    | non => cases (show v = _ from r); cases h; exact .non
    | bl b => cases (show v = _ from r); cases h; exact .bl b
    | int i => cases (show v = _ from r); cases h; exact .int i
    | str s => cases (show v = _ from r); cases h; exact .str s
    | tup l =>
      obtain ⟨a, vs, e, h1, h2⟩ := r
      subst e
      simp only at h
      cases hl : l.mapM (toD M k) with
      | none => rw [hl] at h; cases h
      | some ds => rw [hl] at h; cases h; exact .tup h1 (toD_all (toD_ok R k) h2 hl)
    | frz l =>
      obtain ⟨a, e, h1⟩ := r
      subst e
      cases h
      exact .lst h1.sq (dpAll_ints l)
    | loc n =>
      simp only at h
      cases hg : getL M n with
      | none => rw [hg] at h; cases h
      | some l =>
        rw [hg] at h
        simp only at h
        obtain ⟨a, vs, e1, h1, h2, h3⟩ := R.lst (getL_ok hg) r
        subst e1
        cases hl : l.mapM (toD M k) with
        | none => rw [hl] at h; cases h
        | some ds => rw [hl] at h; cases h; exact .lst (SqL.of h2) (toD_all (toD_ok R k) h3 hl)
end
def eqD (x y : Val) (M : Mem) : Option Bool := match x, y with
  | .int i, .int j => some (decide (i = j))
  | .str a, .str b => some (decide (a = b))
  | .bl a, .bl b => some (decide (a = b))
  | x, y => match toD M 8 x, toD M 8 y with
    | some d, some e => if SeqAt.shaped d && SeqAt.shaped e then some (PyData.eqv d e) else none
    | _, _ => none
def eqV (x y : Val) (M : Mem) : Out Val := match eqD x y M with
  | some b => .ok (.bl b) M
  | none => .bad
def neV (x y : Val) (M : Mem) : Out Val := match eqD x y M with
  | some b => .ok (.bl (!b)) M
  | none => .bad
section
variable {X : Cx} {K : PySem.W.Frag} {ρ : List Addr} {M : Mem} {H : Hp}
theorem eqD_ok {x y : Val} {v u : V} {b : Bool} (R : Rel K ρ M H) (rx : RV K ρ H x v) (ry : RV K ρ H y u) (h : eqD x y M = some b) : (scal v u = true ∧ decide (v = u) = b) ∨ (∃ d e, Dp K H v d ∧ Dp K H u e ∧ SeqAt.shaped d = true ∧ SeqAt.shaped e = true ∧ PyData.eqv d e = b) := by
  unfold eqD at h
  split at h
  · cases (show v = _ from rx); cases (show u = _ from ry); cases h; exact .inl ⟨rfl, by simp⟩
  · cases (show v = _ from rx); cases (show u = _ from ry); cases h; exact .inl ⟨rfl, by simp⟩
  · cases (show v = _ from rx); cases (show u = _ from ry); cases h; exact .inl ⟨rfl, by simp⟩
  · split at h
    · rename_i d e hd he
      split at h
      · rename_i hs
        rw [Bool.and_eq_true] at hs
        cases h
        exact .inr ⟨d, e, toD_ok R _ _ _ _ rx hd, toD_ok R _ _ _ _ ry he, hs.1, hs.2, rfl⟩
      · cases h
    · cases h
theorem op_eqA (hu : X.A.units + 64 < cLine) : OpR X (compareOp .Eq) (fun x y H Q => rEq x y H Q ∨ rEqD X.K x y H Q) := OpR.or op_eq (op_eqD hu)
theorem op_neA (hu : X.A.units + 64 < cLine) : OpR X (compareOp .NotEq) (fun x y H Q => rNe x y H Q ∨ rNeD X.K x y H Q) := OpR.or op_ne (op_neD hu)
theorem os_eq : OpS K (fun x y H Q => rEq x y H Q ∨ rEqD K x y H Q) eqV := by
  intro ρ M H σ W Q x y v u R rx ry p
  unfold eqV at p
  split at p
  · rename_i b h
    rcases eqD_ok R rx ry h with ⟨h1, h2⟩ | ⟨d, e, h1, h2, h3, h4, h5⟩
    · exact .inl ⟨h1, by rw [h2]; exact p.val R rfl⟩
    · exact .inr ⟨d, e, h1, h2, h3, h4, by rw [h5]; exact p.val R rfl⟩
  · exact p.elim
theorem os_ne : OpS K (fun x y H Q => rNe x y H Q ∨ rNeD K x y H Q) neV := by
  intro ρ M H σ W Q x y v u R rx ry p
  unfold neV at p
  split at p
  · rename_i b h
    rcases eqD_ok R rx ry h with ⟨h1, h2⟩ | ⟨d, e, h1, h2, h3, h4, h5⟩
    · exact .inl ⟨h1, by rw [h2]; exact p.val R rfl⟩
    · exact .inr ⟨d, e, h1, h2, h3, h4, by rw [h5]; exact p.val R rfl⟩
  · exact p.elim
end
/-! in -/
def flat : Val → Bool
  | .non => true
  | .bl _ => true
  | .int _ => true
  | .str _ => true
  | _ => false
def eqF : Val → Val → Bool
  | .non, .non => true
  | .bl a, .bl b => a == b
  | .bl a, .int b => (if a then 1 else 0) == b
  | .int a, .bl b => a == (if b then 1 else 0)
  | .int a, .int b => a == b
  | .str a, .str b => a == b
  | _, _ => false
def inD (x y : Val) (M : Mem) : Option Bool := match y with
  | .tup l => if flat x && l.all flat then some (l.any fun z => eqF z x) else none
  | .frz l => if flat x then some (l.any fun z => eqF (.int z) x) else none
  | .loc n => match getL M n with
    | some l => if flat x && l.all flat then some (l.any fun z => eqF z x) else (match toD M 8 x, l.mapM (toD M 7) with
      | some d, some ds => if SeqAt.shaped d && SeqAt.shaped (.list ds) then some (ds.any fun z => PyData.eqv z d) else none
      | _, _ => none)
    | none => none
  | .str j => (match x with
    | .str i => some (!(Builtin.Str.occurrences j i 0 j.length 1).isEmpty)
    | _ => none)
  | _ => none
def inV (x y : Val) (M : Mem) : Out Val := match inD x y M with
  | some b => .ok (.bl b) M
  | none => .bad
def notInV (x y : Val) (M : Mem) : Out Val := match inD x y M with
  | some b => .ok (.bl (!b)) M
  | none => .bad
section
variable {X : Cx} {K : PySem.W.Frag} {ρ : List Addr} {M : Mem} {H : Hp}
theorem flat_ok {x : Val} {v : V} (r : RV K ρ H x v) : flatV v = flat x := by
  cases x with
  | non => cases (show v = _ from r); rfl
  | bl _ => cases (show v = _ from r); rfl
  | int _ => cases (show v = _ from r); rfl
  | str _ => cases (show v = _ from r); rfl
  | tup _ => obtain ⟨_, _, e, _⟩ := r; subst e; rfl
  | frz _ => obtain ⟨_, e, _⟩ := r; subst e; rfl
  | loc _ => obtain ⟨_, e, _⟩ := r; subst e; rfl
theorem eqF_ok {x y : Val} {v u : V} (rx : RV K ρ H x v) (ry : RV K ρ H y u) (fx : flat x = true) (fy : flat y = true) : L2.eqV v u = eqF x y := by
  cases x with
  | non => cases (show v = _ from rx); cases y <;> first | (cases (show u = _ from ry); rfl) | cases fy
  | bl _ => cases (show v = _ from rx); cases y <;> first | (cases (show u = _ from ry); rfl) | cases fy
  | int _ => cases (show v = _ from rx); cases y <;> first | (cases (show u = _ from ry); rfl) | cases fy
  | str _ => cases (show v = _ from rx); cases y <;> first | (cases (show u = _ from ry); rfl) | cases fy
  | _ => cases fx
theorem flats_ok : ∀ {l : List Val} {vs : List V}, RVs K ρ H l vs → vs.all flatV = l.all flat
  | [], _, h => by cases (show _ = [] from h); rfl
  | x :: l, _, ⟨v, us, e, r1, r2⟩ => by subst e; rw [List.all_cons, List.all_cons, flat_ok r1, flats_ok r2]
theorem anyF_ok {x : Val} {v : V} (rx : RV K ρ H x v) (fx : flat x = true) : ∀ {l : List Val} {vs : List V}, RVs K ρ H l vs → l.all flat = true → L2.inV v vs = l.any fun z => eqF z x
  | [], _, h, _ => by cases (show _ = [] from h); rfl
  | z :: l, _, ⟨w, us, e, r1, r2⟩, f => by
    subst e
    rw [List.all_cons, Bool.and_eq_true] at f
    unfold L2.inV
    rw [List.any_cons, List.any_cons, eqF_ok r1 rx f.1 fx]
    congr 1
    exact anyF_ok rx fx r2 f.2
theorem ints_any {x : Val} : ∀ l : List Int, (l.any fun z => eqF (.int z) x) = (l.map Val.int).any fun z => eqF z x
  | [] => rfl
  | i :: l => by rw [List.any_cons, List.map_cons, List.any_cons, ints_any l]
theorem ints_flat : ∀ l : List Int, (l.map Val.int).all flat = true
  | [] => rfl
  | i :: l => by rw [List.map_cons, List.all_cons, ints_flat l]; rfl
theorem inD_ok {x y : Val} {v u : V} {b : Bool} (R : Rel K ρ M H) (rx : RV K ρ H x v) (ry : RV K ρ H y u) (h : inD x y M = some b) :
    (∃ p xs, u = .ref p ∧ (SqL K H p xs ∨ SqT K H p xs) ∧ flatV v = true ∧ xs.all flatV = true ∧ L2.inV v xs = b) ∨ (∃ d ds, Dp K H v d ∧ Dp K H u (.list ds) ∧ SeqAt.shaped d = true ∧ SeqAt.shaped (.list ds) = true ∧ (ds.any fun z => PyData.eqv z d) = b) ∨
      ∃ i j, v = .str i ∧ u = .str j ∧ (!(Builtin.Str.occurrences j i 0 j.length 1).isEmpty) = b := by
  unfold inD at h
  split at h
  · split at h
    · rename_i l hf
      rw [Bool.and_eq_true] at hf
      cases h
      obtain ⟨a, vs, e, h1, h2⟩ := ry
      exact .inl ⟨a, vs, e, .inr h1, by rw [flat_ok rx]; exact hf.1, by rw [flats_ok h2]; exact hf.2, anyF_ok rx hf.1 h2 hf.2⟩
    · cases h
  · split at h
    · rename_i l hf
      cases h
      obtain ⟨a, e, h1⟩ := ry
      have r : RVs K ρ H (l.map Val.int) (l.map V.int) := (RVs.ints l).mpr rfl
      exact .inl ⟨a, _, e, .inl h1.sq, by rw [flat_ok rx]; exact hf, by rw [flats_ok r]; exact ints_flat l, by rw [anyF_ok rx hf r (ints_flat l), ints_any]⟩
    · cases h
  · split at h
    · rename_i n l hl
      obtain ⟨a, vs, e, h1, h2, h3⟩ := R.lst (getL_ok hl) ry
      split at h
      · rename_i hf
        rw [Bool.and_eq_true] at hf
        cases h
        exact .inl ⟨a, vs, e, .inl (SqL.of h2), by rw [flat_ok rx]; exact hf.1, by rw [flats_ok h3]; exact hf.2, anyF_ok rx hf.1 h3 hf.2⟩
      · split at h
        · rename_i d ds hd hds
          split at h
          · rename_i hs
            rw [Bool.and_eq_true] at hs
            cases h
            subst e
            exact .inr (.inl ⟨d, ds, toD_ok R _ _ _ _ rx hd, .lst (SqL.of h2) (toD_all (toD_ok R 7) h3 hds), hs.1, hs.2, rfl⟩)
          · cases h
        · cases h
    · cases h
  · split at h
    · cases (show v = _ from rx); cases (show u = _ from ry); cases h; exact .inr (.inr ⟨_, _, rfl, rfl, rfl⟩)
    · cases h
  · cases h
def rInA (K : PySem.W.Frag) : R2 := fun x y H Q => rIn K false x y H Q ∨ rInD K x y H Q ∨ (∃ i j, x = .str i ∧ y = .str j ∧ Q (.bl (!(Builtin.Str.occurrences j i 0 j.length 1).isEmpty)) H)
def rNotInA (K : PySem.W.Frag) : R2 := fun x y H Q => rIn K true x y H Q ∨ rNotInD K x y H Q ∨ (∃ i j, x = .str i ∧ y = .str j ∧ Q (.bl (!(!(Builtin.Str.occurrences j i 0 j.length 1).isEmpty))) H)
theorem op_inA (hu : X.A.units + 65 < cLine) : OpR X (compareOp .In) (rInA X.K) := OpR.or op_in_seq (OpR.or (op_inD hu) op_in_str)
theorem op_notInA (hu : X.A.units + 65 < cLine) : OpR X (compareOp .NotIn) (rNotInA X.K) := OpR.or op_notIn_seq (OpR.or (op_notInD hu) op_notin_str)
theorem os_in : OpS K (rInA K) inV := by
  intro ρ M H σ W Q x y v u R rx ry p
  unfold inV at p
  split at p
  · rename_i b h
    rcases inD_ok R rx ry h with ⟨q, xs, h1, h2, h3, h4, h5⟩ | ⟨d, ds, h1, h2, h3, h4, h5⟩ | ⟨i, j, h1, h2, h3⟩
    · exact .inl ⟨q, xs, h1, h2, h3, h4, by simp only [h5]; exact p.val R rfl⟩
    · exact .inr (.inl ⟨d, ds, h1, h2, h3, h4, by rw [h5]; exact p.val R rfl⟩)
    · exact .inr (.inr ⟨i, j, h1, h2, by rw [h3]; exact p.val R rfl⟩)
  · exact p.elim
theorem os_notIn : OpS K (rNotInA K) notInV := by
  intro ρ M H σ W Q x y v u R rx ry p
  unfold notInV at p
  split at p
  · rename_i b h
    rcases inD_ok R rx ry h with ⟨q, xs, h1, h2, h3, h4, h5⟩ | ⟨d, ds, h1, h2, h3, h4, h5⟩ | ⟨i, j, h1, h2, h3⟩
    · exact .inl ⟨q, xs, h1, h2, h3, h4, by simp only [h5]; exact p.val R rfl⟩
    · exact .inr (.inl ⟨d, ds, h1, h2, h3, h4, by rw [h5]; exact p.val R rfl⟩)
    · exact .inr (.inr ⟨i, j, h1, h2, by rw [h3]; exact p.val R rfl⟩)
  · exact p.elim
end
/-! subscripts, slices -/
def ixV (x y : Val) (M : Mem) : Out Val := match x, y with
  | .tup l, .int i => (match atI l i with
    | some v => .ok v M
    | none => .bad)
  | .frz l, .int i => (match atI l i with
    | some v => .ok (.int v) M
    | none => .bad)
  | .loc n, .int i => (match getL M n with
    | some l => (match atI l i with
      | some v => .ok v M
      | none => .bad)
    | none => .bad)
  | .str z, .int i => if z.length ≤ sizeLine then (match atI z.cps.toList i with
    | some c => .ok (.str ⟨#[c]⟩) M
    | none => .bad) else .bad
  | _, _ => .bad
section
variable {X : Cx} {K : PySem.W.Frag} {ρ : List Addr} {M : Mem} {H : Hp}
theorem RVs.atI {l : List Val} {vs : List V} {i : Int} {x : Val} (r : RVs K ρ H l vs) (h : L2.atI l i = some x) : ∃ v, L2.atI vs i = some v ∧ RV K ρ H x v := by
  unfold L2.atI at h ⊢
  rw [r.length]
  cases hj : ixN l.length i with
  | none => rw [hj] at h; cases h
  | some j =>
    rw [hj] at h
    simp only [Option.bind_some] at h ⊢
    exact r.get h
theorem os_ix : OpS K (rIx K) ixV := by
  intro ρ M H σ W Q x y v u R rx ry p
  unfold ixV at p
  split at p
  · cases (show u = _ from ry)
    split at p
    · rename_i h
      obtain ⟨a, vs, e, h1, h2⟩ := rx
      obtain ⟨w, h3, h4⟩ := h2.atI h
      exact .inr (.inl ⟨a, vs, _, w, e, rfl, h1, h3, p.val R h4⟩)
    · exact p.elim
  · cases (show u = _ from ry)
    split at p
    · rename_i l i o w h
      obtain ⟨a, e, h1⟩ := rx
      refine .inl ⟨a, _, _, _, e, rfl, h1.sq, ?_, p.val R rfl⟩
      unfold L2.atI at h ⊢
      rw [List.length_map]
      cases hj : ixN l.length i with
      | none => rw [hj] at h; cases h
      | some j =>
        rw [hj] at h
        simp only [Option.bind_some] at h ⊢
        rw [List.getElem?_map, h]; rfl
    · exact p.elim
  · cases (show u = _ from ry)
    split at p
    · rename_i l hl
      split at p
      · rename_i h
        obtain ⟨a, vs, e, h1, h2, h3⟩ := R.lst (getL_ok hl) rx
        obtain ⟨w, h4, h5⟩ := h3.atI h
        exact .inl ⟨a, vs, _, w, e, rfl, SqL.of h2, h4, p.val R h5⟩
      · exact p.elim
    · exact p.elim
  · cases (show v = _ from rx); cases (show u = _ from ry)
    split at p
    · rename_i hz
      split at p
      · rename_i h
        exact .inr (.inr ⟨_, _, _, rfl, rfl, hz, h, p.val R rfl⟩)
      · exact p.elim
    · exact p.elim
  · exact p.elim
end
/-- parts of a slice -/
def cutL {α : Type} (xs : List α) (lo hi : Option Int) : List α := (xs.drop (HT.sIx xs.length 0 lo)).take (HT.sIx xs.length xs.length hi - HT.sIx xs.length 0 lo)
abbrev OF := Sl → Mem → Out (Option Int)
def oNone : OF := fun _ M => .ok none M
def oSome (f : EF) : OF := fun e M => (f e M).bind fun x M1 => match x with
  | .int i => .ok (some i) M1
  | _ => .bad
def slV (x : Val) (lo hi : Option Int) (M : Mem) : Out Val := match x with
  | .tup l => .ok (.tup (cutL l lo hi)) M
  | .loc n => (match getL M n with
    | some l => .ok (.loc M.length) (M ++ [.lst (cutL l lo hi)])
    | none => .bad)
  | _ => .bad
def eSl (f : EF) (l h : OF) : EF := fun e M => (f e M).bind fun x M1 => (l e M1).bind fun lo M2 => (h e M2).bind fun hi M3 => slV x lo hi M3
section
variable {X : Cx} {W : WX} {K : PySem.W.Frag} {ρ : List Addr} {M : Mem} {H : Hp} {a : Expr} {fa : EF} {pos p2 : Pos} {lo hi : Option Expr} {l h : OF}
abbrev Oeq (K : PySem.W.Frag) : RR (Option Int) (Option Int) := fun _ _ x v => x = v
structure SO' (X : Cx) (W : WX) (e : Option Expr) (f : OF) : Prop where
  po : PO X e (fun σ H Q => ∃ ρ e M, Rel X.K ρ M H ∧ SlR X.K ρ H e σ ∧ Po (Oeq X.K) X.K ρ H σ W Q (f e M))
theorem PO.imp {e : Option Expr} {t t' : TO} (h : PO X e t) (i : ∀ σ H Q, t' σ H Q → t σ H Q) : PO X e t' := ⟨fun pins s σ H Q I q => h.run pins s σ H Q I (i σ H Q q)⟩
theorem so_none : SO' X W none oNone := ⟨PO.imp po_none fun σ H Q ⟨ρ, e, M, R, S, p⟩ => p ρ H none (Ext.refl _ _) R rfl⟩
theorem so_some (ha : SE X W a fa) : SO' X W (some a) (oSome fa) := ⟨PO.imp (po_some ha.pe) fun σ H Q ⟨ρ, e, M, R, S, p⟩ => ⟨ρ, e, M, R, S, (Po.bind (R := RVr X.K) p).imp fun v H1 ⟨ρ1, M1, x, E1, R1, r1, p1⟩ => by
  cases x with
  | int i => cases (show v = _ from r1); exact ⟨i, rfl, p1 ρ1 H1 _ (Ext.refl _ _) R1 rfl⟩
  | _ => exact p1.elim⟩⟩
theorem RVs.cut {l : List Val} {vs : List V} (lo hi : Option Int) (r : RVs K ρ H l vs) : RVs K ρ H (cutL l lo hi) (cutV vs lo hi) := by
  unfold cutL cutV
  rw [r.length]
  exact (r.drop _).take _
theorem cutL_whole {l : List Val} {lo hi : Option Int} (h : HT.sIx l.length 0 lo = 0 ∧ HT.sIx l.length l.length hi = l.length) : cutL l lo hi = l := by
  unfold cutL
  rw [h.1, h.2]
  simp
theorem se_slice (ha : SE X W a fa) (hl : SO' X W lo l) (hh : SO' X W hi h) : SE X W (.Subscript a (.Slice lo hi none p2) pos) (eSl fa l h) :=
  ⟨(pe_slice (SlR.or (sl_tupA (X := X)) sl_list) ha.pe hl.po hh.po).imp fun σ H Q ⟨ρ, e, M, R, S, p⟩ => ⟨ρ, e, M, R, S, (Po.bind p).imp fun v H1 ⟨ρ1, M1, x, E1, R1, r1, p1⟩ => ⟨ρ1, e, M1, R1, S.mono E1, (Po.bind (R := Oeq X.K) p1).imp fun lo' H2 ⟨ρ2, M2, lo, E2, R2, r2, p2⟩ =>
    ⟨ρ2, e, M2, R2, (S.mono E1).mono E2, (Po.bind (R := Oeq X.K) p2).imp fun hi' H3 ⟨ρ3, M3, hi, E3, R3, r3, p3⟩ => by
      cases (show lo = lo' from r2)
      cases (show hi = hi' from r3)
      have r := RV.mono (E2.trans E3) _ _ r1
      unfold slV at p3
      split at p3
      · rename_i l
        obtain ⟨q, vs, e1, h1, h2⟩ := r
        refine .inl ⟨q, vs, e1, h1, fun hw => ?_, fun _ => p3.newTup R3 (h2.cut _ _)⟩
        rw [h2.length] at hw
        rw [cutL_whole hw] at p3
        exact p3.val R3 ⟨q, vs, rfl, h1, h2⟩
      · split at p3
        · rename_i n l hl
          obtain ⟨q, vs, e1, h1, h2, h3⟩ := R3.lst (getL_ok hl) r
          exact .inr ⟨q, vs, e1, SqL.of h2, p3.newList R3 (h3.cut _ _)⟩
        · exact p3.elim
      · exact p3.elim⟩⟩⟩⟩
end
end Sm

namespace Sm
open PySem L2
/-! built-ins: len, tuple, list, int, isinstance, sorted, sum, .. -/
def lenV : FnS := fun l M => match l with
  | [.tup l] => .ok (.int l.length) M
  | [.frz l] => .ok (.int l.length) M
  | [.loc n] => (match getL M n with
    | some l => .ok (.int l.length) M
    | none => .bad)
  | [.str y] => if y.length ≤ sizeLine then .ok (.int y.length) M else .bad
  | _ => .bad
def tupleV : FnS := fun l M => match l with
  | [.tup l] => .ok (.tup l) M
  | [.loc n] => (match getL M n with
    | some l => .ok (.tup l) M
    | none => .bad)
  | _ => .bad
def listV : FnS := fun l M => match l with
  | [.tup l] => .ok (.loc M.length) (M ++ [.lst l])
  | [.loc n] => (match getL M n with
    | some l => .ok (.loc M.length) (M ++ [.lst l])
    | none => .bad)
  | _ => .bad
def intV : FnS := fun l M => match l with
  | [.int i] => .ok (.int i) M
  | [.bl b] => .ok (.int (if b then 1 else 0)) M
  | _ => .bad
def absV1 : FnS := fun l M => match l with
  | [.int i] => .ok (.int (if i < 0 then -i else i)) M
  | _ => .bad
def max2V : FnS := fun l M => match l with
  | [.int i, .int j] => .ok (.int (if j > i then j else i)) M
  | _ => .bad
def min2V : FnS := fun l M => match l with
  | [.int i, .int j] => .ok (.int (if j < i then j else i)) M
  | _ => .bad
/-- a list of intsOf -/
def intsOf : List Val → Option (List Int)
  | [] => some []
  | .int i :: l => (intsOf l).map (i :: ·)
  | _ => none
def boolsOf : List Val → Option (List Bool)
  | [] => some []
  | .bl i :: l => (boolsOf l).map (i :: ·)
  | _ => none
/-- the intsOf in order -/
def insI (x : Int) : List Int → List Int
  | [] => [x]
  | y :: l => if x ≤ y then x :: y :: l else y :: insI x l
def sortI : List Int → List Int
  | [] => []
  | x :: l => insI x (sortI l)
def sortedV : FnS := fun l M => match l with
  | [.loc n] => (match (getL M n).bind intsOf with
    | some l => if l.length < 64 then .ok (.loc M.length) (M ++ [.lst ((sortI l).map .int)]) else .bad
    | none => .bad)
  | _ => .bad
def sumV : FnS := fun l M => match l with
  | [.loc n] => (match (getL M n).bind intsOf with
    | some l => .ok (.int l.sum) M
    | none => .bad)
  | _ => .bad
/-- the greatest, the least -/
def maxL : List Int → Int
  | [] => 0
  | [x] => x
  | x :: l => max x (maxL l)
def minL : List Int → Int
  | [] => 0
  | [x] => x
  | x :: l => min x (minL l)
def maxV : FnS := fun l M => match l with
  | [.loc n] => (match (getL M n).bind intsOf with
    | some l => if 0 < l.length then .ok (.int (maxL l)) M else .bad
    | none => .bad)
  | _ => .bad
def minV : FnS := fun l M => match l with
  | [.loc n] => (match (getL M n).bind intsOf with
    | some l => if 0 < l.length then .ok (.int (minL l)) M else .bad
    | none => .bad)
  | _ => .bad
def anyV : FnS := fun l M => match l with
  | [.loc n] => (match (getL M n).bind boolsOf with
    | some l => .ok (.bl (l.any id)) M
    | none => .bad)
  | _ => .bad
def allV : FnS := fun l M => match l with
  | [.loc n] => (match (getL M n).bind boolsOf with
    | some l => .ok (.bl (l.all id)) M
    | none => .bad)
  | _ => .bad
section
variable {K : PySem.W.Frag} {ρ : List Addr} {M : Mem} {H : Hp}
theorem rv1 {x : Val} {vs : List V} (r : RVs K ρ H [x] vs) : ∃ v, vs = [v] ∧ RV K ρ H x v := by
  obtain ⟨v, us, e, r1, r2⟩ := r
  cases (show us = [] from r2)
  exact ⟨v, e, r1⟩
theorem rv2 {x y : Val} {vs : List V} (r : RVs K ρ H [x, y] vs) : ∃ v u, vs = [v, u] ∧ RV K ρ H x v ∧ RV K ρ H y u := by
  obtain ⟨v, us, e, r1, u, us', e', r2, r3⟩ := r
  cases (show us' = [] from r3)
  subst e'
  exact ⟨v, u, e, r1, r2⟩
theorem ints_ok : ∀ {l : List Val} {ns : List Int}, intsOf l = some ns → l = ns.map .int
  | [], ns, h => by cases h; rfl
  | .int i :: l, ns, h => by
    unfold intsOf at h
    cases hl : intsOf l with
    | none => rw [hl] at h; cases h
    | some ms => rw [hl] at h; cases h; rw [ints_ok hl]; rfl
  | .non :: _, _, h => by cases h
  | .bl _ :: _, _, h => by cases h
  | .str _ :: _, _, h => by cases h
  | .tup _ :: _, _, h => by cases h
  | .frz _ :: _, _, h => by cases h
  | .loc _ :: _, _, h => by cases h
theorem bools_ok : ∀ {l : List Val} {ns : List Bool}, boolsOf l = some ns → l = ns.map .bl
  | [], ns, h => by cases h; rfl
  | .bl i :: l, ns, h => by
    unfold boolsOf at h
    cases hl : boolsOf l with
    | none => rw [hl] at h; cases h
    | some ms => rw [hl] at h; cases h; rw [bools_ok hl]; rfl
  | .non :: _, _, h => by cases h
  | .int _ :: _, _, h => by cases h
  | .str _ :: _, _, h => by cases h
  | .tup _ :: _, _, h => by cases h
  | .frz _ :: _, _, h => by cases h
  | .loc _ :: _, _, h => by cases h
theorem RVs.bools : ∀ (l : List Bool) {vs : List V}, RVs K ρ H (l.map Val.bl) vs → vs = l.map V.bl
  | [], vs, h => h
  | i :: l, vs, ⟨v, r, h1, h2, h3⟩ => by
    cases (show v = V.bl i from h2)
    rw [h1, RVs.bools l h3]
    rfl
/-- a list of intsOf in the memory -/
theorem Rel.ints (R : Rel K ρ M H) {n : Nat} {ns : List Int} {v : V} (h : (getL M n).bind Sm.intsOf = some ns) (r : RV K ρ H (.loc n) v) : ∃ a, v = .ref a ∧ H a = some (.lst (ns.map V.int)) := by
  cases hg : getL M n with
  | none => rw [hg] at h; cases h
  | some l =>
    rw [hg] at h
    have e := ints_ok h
    subst e
    obtain ⟨a, vs, e1, h1, h2, h3⟩ := R.lst (getL_ok hg) r
    rw [(RVs.ints ns).mp h3] at h2
    exact ⟨a, e1, h2⟩
theorem Rel.bools (R : Rel K ρ M H) {n : Nat} {ns : List Bool} {v : V} (h : (getL M n).bind Sm.boolsOf = some ns) (r : RV K ρ H (.loc n) v) : ∃ a, v = .ref a ∧ H a = some (.lst (ns.map V.bl)) := by
  cases hg : getL M n with
  | none => rw [hg] at h; cases h
  | some l =>
    rw [hg] at h
    have e := bools_ok h
    subst e
    obtain ⟨a, vs, e1, h1, h2, h3⟩ := R.lst (getL_ok hg) r
    rw [RVs.bools ns h3] at h2
    exact ⟨a, e1, h2⟩
theorem insI_perm (x : Int) : ∀ l : List Int, (insI x l).Perm (x :: l)
  | [] => .refl _
  | y :: l => by
    unfold insI
    split
    · exact .refl _
    · exact ((insI_perm x l).cons y).trans (.swap x y l)
theorem sortI_perm : ∀ l : List Int, (sortI l).Perm l
  | [] => .refl _
  | x :: l => (insI_perm x _).trans ((sortI_perm l).cons x)
theorem insI_pair (x : Int) : ∀ l : List Int, l.Pairwise (· ≤ ·) → (insI x l).Pairwise (· ≤ ·)
  | [], _ => by simp [insI]
  | y :: l, h => by
    rw [List.pairwise_cons] at h
    unfold insI
    split
    · rename_i hxy
      rw [List.pairwise_cons]
      refine ⟨fun z hz => ?_, List.pairwise_cons.mpr h⟩
      rcases List.mem_cons.mp hz with rfl | hz
      · exact hxy
      · exact Int.le_trans hxy (h.1 z hz)
    · rename_i hxy
      rw [List.pairwise_cons]
      refine ⟨fun z hz => ?_, insI_pair x l h.2⟩
      have := (insI_perm x l).mem_iff.mp hz
      rcases List.mem_cons.mp this with rfl | hz
      · omega
      · exact h.1 z hz
theorem sortI_pair : ∀ l : List Int, (sortI l).Pairwise (· ≤ ·)
  | [] => .nil
  | x :: l => insI_pair x _ (sortI_pair l)
theorem sorted_one : ∀ {l m : List Int}, l.Perm m → l.Pairwise (· ≤ ·) → m.Pairwise (· ≤ ·) → l = m
  | [], m, h, _, _ => h.symm.eq_nil.symm
  | x :: l, [], h, _, _ => absurd h.length_eq (by simp)
  | x :: l, y :: m, h, h1, h2 => by
    rw [List.pairwise_cons] at h1 h2
    have hx : x ∈ y :: m := h.mem_iff.mp List.mem_cons_self
    have hy : y ∈ x :: l := h.mem_iff.mpr List.mem_cons_self
    have e : x = y := by
      rcases List.mem_cons.mp hx with e | hx
      · exact e
      · rcases List.mem_cons.mp hy with e | hy
        · exact e.symm
        · exact Int.le_antisymm (h1.1 y hy) (h2.1 x hx)
    subst e
    rw [sorted_one h.cons_inv h1.2 h2.2]
theorem sortI_is {l m : List Int} (h : m.Perm l) (p : m.Pairwise (· ≤ ·)) : m = sortI l := sorted_one (h.trans (sortI_perm l).symm) p (sortI_pair l)
theorem maxL_mem : ∀ {l : List Int}, 0 < l.length → maxL l ∈ l ∧ ∀ y ∈ l, y ≤ maxL l
  | [], h => by cases h
  | [x], _ => by simp [maxL]
  | x :: y :: l, _ => by
    obtain ⟨h1, h2⟩ := maxL_mem (l := y :: l) (by simp)
    show max x (maxL (y :: l)) ∈ x :: y :: l ∧ ∀ z ∈ x :: y :: l, z ≤ max x (maxL (y :: l))
    refine ⟨?_, fun z hz => ?_⟩
    · by_cases hx : x ≤ maxL (y :: l)
      · rw [Int.max_eq_right hx]; exact List.mem_cons_of_mem _ h1
      · rw [Int.max_eq_left (by omega)]; exact List.mem_cons_self
    · rcases List.mem_cons.mp hz with rfl | hz
      · exact Int.le_max_left _ _
      · exact Int.le_trans (h2 z hz) (Int.le_max_right _ _)
theorem minL_mem : ∀ {l : List Int}, 0 < l.length → minL l ∈ l ∧ ∀ y ∈ l, minL l ≤ y
  | [], h => by cases h
  | [x], _ => by simp [minL]
  | x :: y :: l, _ => by
    obtain ⟨h1, h2⟩ := minL_mem (l := y :: l) (by simp)
    show min x (minL (y :: l)) ∈ x :: y :: l ∧ ∀ z ∈ x :: y :: l, min x (minL (y :: l)) ≤ z
    refine ⟨?_, fun z hz => ?_⟩
    · by_cases hx : x ≤ minL (y :: l)
      · rw [Int.min_eq_left hx]; exact List.mem_cons_self
      · rw [Int.min_eq_right (by omega)]; exact List.mem_cons_of_mem _ h1
    · rcases List.mem_cons.mp hz with rfl | hz
      · exact Int.min_le_left _ _
      · exact Int.le_trans (Int.min_le_right _ _) (h2 z hz)
end
section
variable {X : Cx} {K : PySem.W.Frag}
def rLenA (K : PySem.W.Frag) : List V → Hp → VK → Prop := fun xs H Q => (∃ p ys, xs = [.ref p] ∧ (SqL K H p ys ∨ SqT K H p ys) ∧ Q (.int ys.length) H) ∨ (∃ z, xs = [.str z] ∧ z.length ≤ sizeLine ∧ Q (.int z.length) H)
theorem cr_len : CallR X (.builtin "len") (rLenA X.K) := CallR.or call_len_seq call_len_str
theorem cs_len : CallS K (rLenA K) lenV := by
  intro ρ M H σ W Q l vs R r p
  unfold lenV at p
  split at p
  · obtain ⟨v, e, a, us, e1, h1, h2⟩ := rv1 r
    subst e e1
    exact .inl ⟨a, us, rfl, .inr h1, by rw [h2.length]; exact p.val R rfl⟩
  · obtain ⟨v, e, a, e1, h1⟩ := rv1 r
    subst e e1
    exact .inl ⟨a, _, rfl, .inl h1.sq, by rw [List.length_map]; exact p.val R rfl⟩
  · split at p
    · rename_i l hl
      obtain ⟨v, e, r1⟩ := rv1 r
      obtain ⟨a, us, e1, h1, h2, h3⟩ := R.lst (getL_ok hl) r1
      subst e e1
      exact .inl ⟨a, us, rfl, .inl (SqL.of h2), by rw [h3.length]; exact p.val R rfl⟩
    · exact p.elim
  · obtain ⟨v, e, e1⟩ := rv1 r
    cases (show v = _ from e1)
    subst e
    split at p
    · rename_i h; exact .inr ⟨_, rfl, h, p.val R rfl⟩
    · exact p.elim
  · exact p.elim
theorem cs_tuple : CallS K (fun xs H Q => ∃ p ys, xs = [.ref p] ∧ ((SqL K H p ys ∧ ∀ l, H l = none → Q (.ref l) (upd H l (.tup ys))) ∨ (SqT K H p ys ∧ Q (.ref p) H))) tupleV := by
  intro ρ M H σ W Q l vs R r p
  unfold tupleV at p
  split at p
  · obtain ⟨v, e, a, us, e1, h1, h2⟩ := rv1 r
    subst e e1
    exact ⟨a, us, rfl, .inr ⟨h1, p.val R ⟨a, us, rfl, h1, h2⟩⟩⟩
  · split at p
    · rename_i l hl
      obtain ⟨v, e, r1⟩ := rv1 r
      obtain ⟨a, us, e1, h1, h2, h3⟩ := R.lst (getL_ok hl) r1
      subst e e1
      exact ⟨a, us, rfl, .inl ⟨SqL.of h2, p.newTup R h3⟩⟩
    · exact p.elim
  · exact p.elim
theorem cs_list : CallS K (fun xs H Q => ∃ p ys, xs = [.ref p] ∧ (SqL K H p ys ∨ SqT K H p ys) ∧ ∀ l, H l = none → Q (.ref l) (upd H l (.lst ys))) listV := by
  intro ρ M H σ W Q l vs R r p
  unfold listV at p
  split at p
  · obtain ⟨v, e, a, us, e1, h1, h2⟩ := rv1 r
    subst e e1
    exact ⟨a, us, rfl, .inr h1, p.newList R h2⟩
  · split at p
    · rename_i l hl
      obtain ⟨v, e, r1⟩ := rv1 r
      obtain ⟨a, us, e1, h1, h2, h3⟩ := R.lst (getL_ok hl) r1
      subst e e1
      exact ⟨a, us, rfl, .inl (SqL.of h2), p.newList R h3⟩
    · exact p.elim
  · exact p.elim
theorem cs_int : CallS K (fun xs H Q => (∃ i, xs = [.int i] ∧ Q (.int i) H) ∨ ∃ k, xs = [.bl k] ∧ Q (.int (if k then 1 else 0)) H) intV := by
  intro ρ M H σ W Q l vs R r p
  unfold intV at p
  split at p
  · obtain ⟨v, e, e1⟩ := rv1 r
    cases (show v = _ from e1)
    exact .inl ⟨_, e, p.val R rfl⟩
  · obtain ⟨v, e, e1⟩ := rv1 r
    cases (show v = _ from e1)
    exact .inr ⟨_, e, p.val R rfl⟩
  · exact p.elim
theorem cs_abs : CallS K (fun xs H Q => ∃ i, xs = [.int i] ∧ Q (.int (if i < 0 then -i else i)) H) absV1 := by
  intro ρ M H σ W Q l vs R r p
  unfold absV1 at p
  split at p
  · obtain ⟨v, e, e1⟩ := rv1 r
    cases (show v = _ from e1)
    exact ⟨_, e, p.val R rfl⟩
  · exact p.elim
theorem cs_max2 : CallS K (fun xs H Q => ∃ i j, xs = [.int i, .int j] ∧ Q (.int (if j > i then j else i)) H) max2V := by
  intro ρ M H σ W Q l vs R r p
  unfold max2V at p
  split at p
  · obtain ⟨v, u, e, e1, e2⟩ := rv2 r
    cases (show v = _ from e1); cases (show u = _ from e2)
    exact ⟨_, _, e, p.val R rfl⟩
  · exact p.elim
theorem cs_min2 : CallS K (fun xs H Q => ∃ i j, xs = [.int i, .int j] ∧ Q (.int (if j < i then j else i)) H) min2V := by
  intro ρ M H σ W Q l vs R r p
  unfold min2V at p
  split at p
  · obtain ⟨v, u, e, e1, e2⟩ := rv2 r
    cases (show v = _ from e1); cases (show u = _ from e2)
    exact ⟨_, _, e, p.val R rfl⟩
  · exact p.elim
theorem cs_sorted : CallS K (rSorted K) sortedV := by
  intro ρ M H σ W Q l vs R r p
  unfold sortedV at p
  split at p
  · split at p
    · rename_i l hl
      split at p
      · rename_i hz
        obtain ⟨v, e, r1⟩ := rv1 r
        obtain ⟨a, e1, h1⟩ := R.ints hl r1
        subst e e1
        refine ⟨a, l, rfl, SqL.of h1, hz, fun ns' q hp ho hq => ?_⟩
        rw [sortI_is hp ho]
        exact p.newList R ((RVs.ints _).mpr rfl) q hq
      · exact p.elim
    · exact p.elim
  · exact p.elim
theorem cs_sum : CallS K (rSum K) sumV := by
  intro ρ M H σ W Q l vs R r p
  unfold sumV at p
  split at p
  · split at p
    · rename_i l hl
      obtain ⟨v, e, r1⟩ := rv1 r
      obtain ⟨a, e1, h1⟩ := R.ints hl r1
      subst e e1
      exact ⟨a, l, rfl, SqL.of h1, p.val R rfl⟩
    · exact p.elim
  · exact p.elim
theorem cs_max : CallS K (rMax K) maxV := by
  intro ρ M H σ W Q l vs R r p
  unfold maxV at p
  split at p
  · split at p
    · rename_i l hl
      split at p
      · rename_i hz
        obtain ⟨v, e, r1⟩ := rv1 r
        obtain ⟨a, e1, h1⟩ := R.ints hl r1
        subst e e1
        refine ⟨a, l, rfl, SqL.of h1, hz, fun m hm ho => ?_⟩
        obtain ⟨k1, k2⟩ := maxL_mem hz
        rw [Int.le_antisymm (k2 m hm) (ho _ k1)]
        exact p.val R rfl
      · exact p.elim
    · exact p.elim
  · exact p.elim
theorem cs_min : CallS K (rMin K) minV := by
  intro ρ M H σ W Q l vs R r p
  unfold minV at p
  split at p
  · split at p
    · rename_i l hl
      split at p
      · rename_i hz
        obtain ⟨v, e, r1⟩ := rv1 r
        obtain ⟨a, e1, h1⟩ := R.ints hl r1
        subst e e1
        refine ⟨a, l, rfl, SqL.of h1, hz, fun m hm ho => ?_⟩
        obtain ⟨k1, k2⟩ := minL_mem hz
        rw [Int.le_antisymm (ho _ k1) (k2 m hm)]
        exact p.val R rfl
      · exact p.elim
    · exact p.elim
  · exact p.elim
theorem cs_any : CallS K (rAny K) anyV := by
  intro ρ M H σ W Q l vs R r p
  unfold anyV at p
  split at p
  · split at p
    · rename_i l hl
      obtain ⟨v, e, r1⟩ := rv1 r
      obtain ⟨a, e1, h1⟩ := R.bools hl r1
      subst e e1
      exact ⟨a, l, rfl, SqL.of h1, p.val R rfl⟩
    · exact p.elim
  · exact p.elim
theorem cs_all : CallS K (rAll K) allV := by
  intro ρ M H σ W Q l vs R r p
  unfold allV at p
  split at p
  · split at p
    · rename_i l hl
      obtain ⟨v, e, r1⟩ := rv1 r
      obtain ⟨a, e1, h1⟩ := R.bools hl r1
      subst e e1
      exact ⟨a, l, rfl, SqL.of h1, p.val R rfl⟩
    · exact p.elim
  · exact p.elim
end
/-! isinstance against built-in types -/
inductive Bt where
  | int | bool | tuple | list | str
def Bt.nm : Bt → String
  | .int => "int" | .bool => "bool" | .tuple => "tuple" | .list => "list" | .str => "str"
def tyN (x : Val) (M : Mem) : Option String := match x with
  | .non => some "NoneType"
  | .bl _ => some "bool"
  | .int _ => some "int"
  | .str _ => some "str"
  | .tup _ => some "tuple"
  | .frz _ => some "list"
  | .loc n => (getL M n).map fun _ => "list"
def isT (x : Val) (t : Bt) : Bool := match x, t with
  | .bl _, .bool => true
  | .bl _, .int => true
  | .int _, .int => true
  | .str _, .str => true
  | .tup _, .tuple => true
  | .frz _, .list => true
  | .loc _, .list => true
  | _, _ => false
def isiV (ts : List Bt) (x : Val) (M : Mem) : Out Val := match tyN x M with
  | some _ => .ok (.bl (ts.any fun t => isT x t)) M
  | none => .bad
theorem kit_n (t : Bt) : kitB "NoneType" t.nm = some false := by cases t <;> decide +kernel
theorem kit_b (t : Bt) : kitB "bool" t.nm = some (isT (.bl true) t) := by cases t <;> decide +kernel
theorem kit_i (t : Bt) : kitB "int" t.nm = some (isT (.int 0) t) := by cases t <;> decide +kernel
theorem kit_s (t : Bt) : kitB "str" t.nm = some (isT (.str ⟨#[]⟩) t) := by cases t <;> decide +kernel
theorem kit_t (t : Bt) : kitB "tuple" t.nm = some (isT (.tup []) t) := by cases t <;> decide +kernel
theorem kit_l (t : Bt) : kitB "list" t.nm = some (isT (.loc 0) t) := by cases t <;> decide +kernel
section
variable {K : PySem.W.Frag} {ρ : List Addr} {M : Mem} {H : Hp}
theorem isT_ok {x : Val} {v : V} {n : String} (R : Rel K ρ M H) (r : RV K ρ H x v) (h : tyN x M = some n) : TyX K H v (.type n) ∧ ∀ t : Bt, kitB n t.nm = some (isT x t) := by
  cases x with
  | non => cases (show v = _ from r); cases h; exact ⟨.base .non, fun t => by rw [kit_n]; cases t <;> rfl⟩
  | bl b => cases (show v = _ from r); cases h; exact ⟨.base (.bl b), fun t => by rw [kit_b]; cases t <;> rfl⟩
  | int i => cases (show v = _ from r); cases h; exact ⟨.base (.int i), fun t => by rw [kit_i]; cases t <;> rfl⟩
  | str i => cases (show v = _ from r); cases h; exact ⟨.base (.str i), fun t => by rw [kit_s]; cases t <;> rfl⟩
  | tup l =>
    obtain ⟨a, vs, e, h1, h2⟩ := r
    subst e
    cases h
    refine ⟨?_, fun t => by rw [kit_t]; cases t <;> rfl⟩
    rcases h1 with (h1 | ⟨o, h1⟩) | ⟨o, its, m, h1, h2, _⟩
    · exact .base (.tup h1)
    · exact .fTuple h1
    · exact .kTuple h1 h2
  | frz l =>
    obtain ⟨a, e, h1⟩ := r
    subst e
    cases h
    refine ⟨?_, fun t => by rw [kit_l]; cases t <;> rfl⟩
    rcases h1 with ⟨o, h1⟩ | ⟨o, its, m, h1, h2, _⟩
    · exact .base (.frz h1)
    · exact .kList h1 h2
  | loc k =>
    unfold tyN at h
    simp only at h
    cases hg : getL M k with
    | none => rw [hg] at h; cases h
    | some l =>
      rw [hg] at h
      cases h
      obtain ⟨a, vs, e1, h1, h2, h3⟩ := R.lst (getL_ok hg) r
      subst e1
      exact ⟨.base (.lst h2), fun t => by rw [kit_l]; cases t <;> rfl⟩
theorem kitAny_ok {n : String} {x : Val} (h : ∀ t : Bt, kitB n t.nm = some (isT x t)) : ∀ ts : List Bt, PySem.W.kitAny K (.type n) (ts.map fun t => Value.type t.nm) = some (ts.any fun t => isT x t)
  | [] => kitAny_nil
  | t :: ts => by
    rw [List.map_cons, List.any_cons]
    cases hb : isT x t with
    | true => exact kitAny_cons (b := true) (kit_ty (by rw [h, hb])) (fun e => by cases e) fun _ => rfl
    | false => exact kitAny_cons (b := false) (kit_ty (by rw [h, hb])) (fun _ => by rw [kitAny_ok h ts]; rfl) fun e => by cases e
end
def eIsi (ts : List Bt) (f : EF) : EF := fun e M => (f e M).bind fun x M1 => isiV ts x M1
section
variable {X : Cx} {W : WX} {a : Expr} {fa : EF} {pos p q q2 : Pos}
theorem pe_bt (t : Bt) {x : Str} (hx : x = Str.ofString t.nm) (hg : Gl X x) (hm : X.mg x = none) (hv : bootBuiltins x = some (.type t.nm)) (hn : x ≠ "__name__" := by decide) (hd : (x == ("__debug__" : Str)) = false := by decide) : PE X (.Name x q) (tC (.ty t.nm)) :=
  pe_bltn hg hm hv rfl hn hd
/-- isinstance(a, T) -/
theorem se_isi (t : Bt) {x : Str} (ha : SE X W a fa) (hm : X.mg "isinstance" = none) (hmx : X.mg x = none) (hv : bootBuiltins x = some (.type t.nm)) (hgx : Gl X x := by rfl) (hg : Gl X "isinstance" := by rfl) (hn : x ≠ "__name__" := by decide) (hd : (x == ("__debug__" : Str)) = false := by decide)
    (he : starEach [a, .Name x q] X.env = (false, eval a X.env) :: starEach [.Name x q] X.env := by rfl) (hpl : (backTo pos (starEach [.Name x q] X.env)).any (·.1) = false := by rfl) : SE X W (.Call (.Name "isinstance" p) [a, .Name x q] [] pos) (eIsi [t] fa) :=
  ⟨(pe_callB call_isi hg hm (by decide +kernel) (pa_cons ha.pe (pa_cons (pe_bltn (v := .ty t.nm) hgx hmx hv rfl hn hd) pa_nil) he) (by decide) (by decide) he hpl).imp fun σ H Q ⟨ρ, e, M, R, S, p⟩ => ⟨ρ, e, M, R, S, (Po.bind p).imp fun v H1 ⟨ρ1, M1, x, E1, R1, r1, p1⟩ => by
    unfold isiV at p1
    split at p1
    · rename_i n hn
      obtain ⟨k1, k2⟩ := isT_ok R1 r1 hn
      refine ⟨v, .ty t.nm, .type n, .type t.nm, isT x t, rfl, .ty _, k1, kit_ty (k2 t), ?_⟩
      have := p1.val R1 (v := .bl (isT x t)) (by show V.bl _ = V.bl _; simp)
      exact this
    · exact p1.elim⟩⟩
/-- isinstance(a, (T1, T2)) -/
theorem se_isi2 (t t' : Bt) {x x' : Str} {p3 p4 p5 : Pos} {kk : Nat} (ha : SE X W a fa) (hm : X.mg "isinstance" = none) (hmx : X.mg x = none) (hv : bootBuiltins x = some (.type t.nm)) (hmx' : X.mg x' = none) (hv' : bootBuiltins x' = some (.type t'.nm)) (hgx : Gl X x := by rfl) (hgx' : Gl X x' := by rfl) (hg : Gl X "isinstance" := by rfl) (hn : x ≠ "__name__" := by decide) (hd : (x == ("__debug__" : Str)) = false := by decide) (hn' : x' ≠ "__name__" := by decide) (hd' : (x' == ("__debug__" : Str)) = false := by decide)
    (he : starEach [a, .Tuple [.Name x p3, .Name x' p4] kk p5] X.env = (false, eval a X.env) :: starEach [.Tuple [.Name x p3, .Name x' p4] kk p5] X.env := by rfl) (hpl : (backTo pos (starEach [.Tuple [.Name x p3, .Name x' p4] kk p5] X.env)).any (·.1) = false := by rfl) : SE X W (.Call (.Name "isinstance" p) [a, .Tuple [.Name x p3, .Name x' p4] kk p5] [] pos) (eIsi [t, t'] fa) :=
  ⟨(pe_callB call_isiT hg hm (by decide +kernel) (pa_cons ha.pe (pa_cons (pe_tup (pa_cons (pe_bltn (v := .ty t.nm) hgx hmx hv rfl hn hd) (pa_cons (pe_bltn (v := .ty t'.nm) hgx' hmx' hv' rfl hn' hd') pa_nil))) pa_nil) he) (by decide) (by decide) he hpl).imp fun σ H Q ⟨ρ, e, M, R, S, p⟩ => ⟨ρ, e, M, R, S, (Po.bind p).imp fun v H1 ⟨ρ1, M1, x, E1, R1, r1, p1⟩ => by
    unfold isiV at p1
    split at p1
    · rename_i n hn
      refine ⟨by show 2 ≤ sizeLine; decide, fun tp htp => ?_⟩
      have E := Ext.fresh (o := .tup [V.ty t.nm, V.ty t'.nm]) ρ1 htp
      obtain ⟨k1, k2⟩ := isT_ok (R1.fresh htp) (RV.mono E _ _ r1) hn
      refine ⟨v, tp, [.ty t.nm, .ty t'.nm], .type n, [.type t.nm, .type t'.nm], _, rfl, upd_same, .cons (.ty _) (.cons (.ty _) .nil), k1, kitAny_ok k2 [t, t'], ?_⟩
      exact p1 ρ1 _ _ E (R1.fresh htp) rfl
    · exact p1.elim⟩⟩
end
/-! methods of lists -/
def isTyM (T : String) (x : Val) (M : Mem) : Bool := match x with
  | .loc n => T == "list" && (getL M n).isSome
  | .frz _ => T == "list"
  | .str _ => T == "str"
  | _ => false
abbrev MtF := Val → List Val → Mem → Out Val
def MethS (K : PySem.W.Frag) (r : V → List V → Hp → VK → Prop) (g : MtF) : Prop :=
  ∀ (ρ : List Addr) (M : Mem) (H : Hp) (σ : St) (W : WX) (Q : VK) (x : Val) (v : V) (l : List Val) (vs : List V), Rel K ρ M H → RV K ρ H x v → RVs K ρ H l vs → Po (RVr K) K ρ H σ W Q (g x l M) → r v vs H Q
def eMt (T : String) (g : MtF) (fo : EF) (fa : AF) : EF := fun e M => (fo e M).bind fun x M1 => if isTyM T x M1 then (fa e M1).bind fun l M2 => g x l M2 else .bad
def appendV : MtF := fun x l M => match x, l with
  | .loc n, [y] => (match getL M n with
    | some xs => if xs.length < sizeLine then .ok .non (M.set n (.lst (xs ++ [y]))) else .bad
    | none => .bad)
  | _, _ => .bad
def extendV : MtF := fun x l M => match x, l with
  | .loc n, [.loc m] => (match getL M n, getL M m with
    | some xs, some ys => if xs.length + ys.length ≤ sizeLine then .ok .non (M.set n (.lst (xs ++ ys))) else .bad
    | _, _ => .bad)
  | _, _ => .bad
def popV : MtF := fun x l M => match x, l with
  | .loc n, [] => (match getL M n with
    | some xs => (match xs[xs.length - 1]? with
      | some y => .ok y (M.set n (.lst xs.dropLast))
      | none => .bad)
    | none => .bad)
  | _, _ => .bad
def popAtV : MtF := fun x l M => match x, l with
  | .loc n, [.int i] => (match getL M n with
    | some xs => if -(2 ^ 63) ≤ i ∧ i < 2 ^ 63 then (match ixN xs.length i with
      | some k => (match xs[k]? with
        | some y => .ok y (M.set n (.lst (xs.eraseIdx k)))
        | none => .bad)
      | none => .bad) else .bad
    | none => .bad)
  | _, _ => .bad
section
variable {K : PySem.W.Frag} {ρ : List Addr} {M : Mem} {H : Hp}
theorem isTyM_ok {T : String} {x : Val} {v : V} (R : Rel K ρ M H) (r : RV K ρ H x v) (h : isTyM T x M = true) : tyV K T v H := by
  unfold isTyM at h
  split at h
  · rename_i n
    rw [Bool.and_eq_true, beq_iff_eq] at h
    obtain ⟨h1, h2⟩ := h
    cases hg : getL M n with
    | none => rw [hg] at h2; cases h2
    | some l =>
      obtain ⟨a, vs, e1, k1, k2, k3⟩ := R.lst (getL_ok hg) r
      subst e1
      exact .inl ⟨h1, vs, SqL.of k2⟩
  · rw [beq_iff_eq] at h
    obtain ⟨a, e, h1⟩ := r
    subst e
    exact .inl ⟨h, _, h1.sq⟩
  · rw [beq_iff_eq] at h
    cases (show v = _ from r)
    exact h
  · cases h
/-- a list in the memory is written -/
theorem Po.setList {σ : St} {W : WX} {Q : VK} {n : Nat} {l l' : List Val} {vs' : List V} {x : Val} {u : V} {a : Addr} (R : Rel K ρ M H) (ha : ρ[n]? = some a) (r : RVs K ρ H l' vs') (rx : RV K ρ H x u) (p : Po (RVr K) K ρ H σ W Q (.ok x (M.set n (.lst l')))) : Q u (upd H a (.lst vs')) := by
  have hm : Mut (H a) := by
    obtain ⟨o, ho, m⟩ := R.mem (List.mem_of_getElem? ha)
    rw [ho]; exact m
  have E := Ext.write (o := .lst vs') ρ hm
  obtain ⟨R', _⟩ := R.write (c := .lst l') ha ⟨vs', upd_same, RVs.mono E _ _ r⟩
  exact p ρ _ u E R' (RV.mono E _ _ rx)
theorem ms_append : MethS K rAppend appendV := by
  intro ρ M H σ W Q x v l vs R rx rl p
  unfold appendV at p
  split at p
  · split at p
    · rename_i xs hx
      split at p
      · rename_i hz
        obtain ⟨a, us, e1, h1, h2, h3⟩ := R.lst (getL_ok hx) rx
        obtain ⟨u, e2, r2⟩ := rv1 rl
        exact ⟨a, us, u, e1, e2, h2, by rw [h3.length]; exact hz, p.setList (l := xs) (x := .non) R h1 (h3.snoc r2) rfl⟩
      · exact p.elim
    · exact p.elim
  · exact p.elim
theorem ms_extend : MethS K rExtend extendV := by
  intro ρ M H σ W Q x v l vs R rx rl p
  unfold extendV at p
  split at p
  · split at p
    · rename_i xs ys hx hy
      split at p
      · rename_i hz
        obtain ⟨a, us, e1, h1, h2, h3⟩ := R.lst (getL_ok hx) rx
        obtain ⟨u, e2, r2⟩ := rv1 rl
        obtain ⟨b, ws, e3, k1, k2, k3⟩ := R.lst (getL_ok hy) r2
        subst e3
        exact ⟨a, b, us, ws, e1, e2, h2, k2, by rw [h3.length, k3.length]; exact hz, p.setList (l := xs) (x := .non) R h1 (h3.append k3) rfl⟩
      · exact p.elim
    · exact p.elim
  · exact p.elim
theorem ms_pop : MethS K rPop popV := by
  intro ρ M H σ W Q x v l vs R rx rl p
  unfold popV at p
  split at p
  · split at p
    · rename_i xs hx
      split at p
      · rename_i y hy
        obtain ⟨a, us, e1, h1, h2, h3⟩ := R.lst (getL_ok hx) rx
        obtain ⟨u, hu, ru⟩ := h3.get hy
        exact ⟨a, us, u, e1, rl, h2, by rw [h3.length]; exact hu, p.setList (l := xs) R h1 h3.dropLast ru⟩
      · exact p.elim
    · exact p.elim
  · exact p.elim
theorem ms_popAt : MethS K rPopAt popAtV := by
  intro ρ M H σ W Q x v l vs R rx rl p
  unfold popAtV at p
  split at p
  · split at p
    · rename_i xs hx
      split at p
      · rename_i hb
        split at p
        · rename_i k hk
          split at p
          · rename_i y hy
            obtain ⟨a, us, e1, h1, h2, h3⟩ := R.lst (getL_ok hx) rx
            obtain ⟨u, hu, ru⟩ := h3.get hy
            obtain ⟨w, e2, r2⟩ := rv1 rl
            cases (show w = _ from r2)
            exact ⟨a, us, _, k, u, e1, e2, h2, hb.1, hb.2, by rw [h3.length]; exact (ixN_seq hk).1, hu, p.setList (l := xs) R h1 (h3.eraseIdx k) ru⟩
          · exact p.elim
        · exact p.elim
      · exact p.elim
    · exact p.elim
  · exact p.elim
end
section
variable {X : Cx} {W : WX} {o a : Expr} {es : List Expr} {fo : EF} {fa : AF} {name : Str} {apos cpos : Pos} {T id : String} {r : V → List V → Hp → VK → Prop} {g : MtF}
theorem se_mt (pa : PlainAttrs T) (slot : Slot T name id) (hty : typeOf (.builtin id) = pure (.type "method_descriptor")) (hm : MtR X id r) (hs : MethS X.K r g) (ho : SE X W o fo) (ha : SA X W (a :: es) fa)
    (hbase : attributeBase o name X.env (eval o X.env) = eval o X.env := by rfl)
    (hfew : ((backTo cpos (starEach (a :: es) X.env)).all (fun x => !x.1) && (backToKw cpos (keywordEach [] X.env)).all (fun x => x.1.isSome)
      && decide ((a :: es).length + ([] : List Keyword).length + (if ([] : List Keyword).isEmpty then 0 else 1) < 30)) = true := by rfl)
    (hline : (apos.endLine == cpos.line) = true := by rfl) (he : starEach (a :: es) X.env = (false, eval a X.env) :: starEach es X.env := by rfl) (hpl : (backTo cpos (starEach es X.env)).any (·.1) = false := by rfl) :
    SE X W (.Call (.Attribute o name apos) (a :: es) [] cpos) (eMt T g fo fa) :=
  ⟨(pe_bm pa slot hty hm ho.pe ha.pa hbase hfew hline he hpl).imp fun σ H Q ⟨ρ, e, M, R, S, p⟩ => ⟨ρ, e, M, R, S, (Po.bind p).imp fun v H1 ⟨ρ1, M1, x, E1, R1, r1, p1⟩ => by
    split at p1
    · rename_i ht
      exact ⟨isTyM_ok R1 r1 ht, ρ1, e, M1, R1, S.mono E1, (Po.bind (R := RVsr X.K) p1).imp fun us H2 ⟨ρ2, M2, l, E2, R2, r2, p2⟩ => hs _ _ _ _ _ _ _ _ _ _ R2 (RV.mono E2 _ _ r1) r2 p2⟩
    · exact p1.elim⟩⟩
theorem se_mt0 (pa : PlainAttrs T) (slot : Slot T name id) (hty : typeOf (.builtin id) = pure (.type "method_descriptor")) (hm : MtR X id r) (hs : MethS X.K r g) (ho : SE X W o fo)
    (hbase : attributeBase o name X.env (eval o X.env) = eval o X.env := by rfl) (hline : (apos.endLine == cpos.line) = true := by rfl) :
    SE X W (.Call (.Attribute o name apos) [] [] cpos) (eMt T g fo aNil) :=
  ⟨(pe_bm0 pa slot hty hm ho.pe hbase hline).imp fun σ H Q ⟨ρ, e, M, R, S, p⟩ => ⟨ρ, e, M, R, S, (Po.bind p).imp fun v H1 ⟨ρ1, M1, x, E1, R1, r1, p1⟩ => by
    split at p1
    · rename_i ht
      exact ⟨isTyM_ok R1 r1 ht, hs _ _ _ _ _ _ _ _ [] [] R1 r1 (show ([] : List V) = [] from rfl) p1⟩
    · exact p1.elim⟩⟩
end
end Sm

namespace Sm
open PySem L2
def sPar (is : List Nat) (fa : AF) : SF := fun e M => (fa e M).toS e fun l M1 => if l.length = is.length then .nx (setAll is l e) M1 else .bad
def sBad : SF := fun _ _ => .bad
def sAug (i : Nat) (g : Val → Val → Mem → Out Val) (f : EF) : SF := fun e M => match e[i]? with
  | some (some x) => (f e M).toS e fun y M1 => (g x y M1).toS e fun z M2 => .nx (e.set i (some z)) M2
  | _ => .bad
def IpS (K : PySem.W.Frag) (r : TIp) (g : Val → Val → Mem → Out Val) : Prop :=
  ∀ (ρ : List Addr) (M : Mem) (H : Hp) (σ : St) (W : WX) (Q : VK) (x y : Val) (v u : V), Rel K ρ M H → RV K ρ H x v → RV K ρ H y u → Po (RVr K) K ρ H σ W Q (g x y M) → r v u H Q
section
variable {X : Cx} {W : WX} {a b c : Expr} {fa fb fc : EF} {pos : Pos} {K : PySem.W.Frag}
theorem len_two {α : Type} : ∀ {l : List α}, l.length = 2 → ∃ x y, l = [x, y]
  | [x, y], _ => ⟨x, y, rfl⟩
theorem len_three {α : Type} : ∀ {l : List α}, l.length = 3 → ∃ x y z, l = [x, y, z]
  | [x, y, z], _ => ⟨x, y, z, rfl⟩
theorem ss_never {st : Stmt} : SS X W st sBad := ⟨ps_never.imp fun D σ H ⟨ρ, e, M, R, S, p⟩ => p⟩
theorem ss_par {i j : Nat} {x y : Str} {f : AF} {px py pt : Pos} {kt k2 pt2} (hc : X.calm = true) (hN : X.N.Nodup) (ha : SA X W [a, b] f) (hi : X.N[i]? = some x := by rfl) (hj : X.N[j]? = some y := by rfl) (hij : i ≠ j := by decide)
    (hx : X.env.scope.names.lookup x = some .local := by rfl) (hy : X.env.scope.names.lookup y = some .local := by rfl)
    (hw : swappedStores [.Tuple [.Name x px, .Name y py] kt pt] (.Tuple [a, b] k2 pt2) X.env = pure (some [x, y]) := by rfl)
    (hs : swapsWithSole [.Tuple [.Name x px, .Name y py] kt pt] (.Tuple [a, b] k2 pt2) pos.line X.env = pure false := by rfl) :
    SS X W (.Assign [.Tuple [.Name x px, .Name y py] kt pt] (.Tuple [a, b] k2 pt2) pos) (sPar [i, j] f) :=
  ⟨(ps_par hc hN hi hj hij hx hy ha.pa hw hs).imp fun D σ H ⟨ρ, e, M, R, S, p⟩ => ⟨ρ, e, M, R, S, (PoS.ofE (R := RVsr X.K) S p).imp fun vs H1 ⟨ρ1, M1, l, E1, R1, r1, p1⟩ => by
    split at p1
    · rename_i hl
      obtain ⟨x', y', rfl⟩ := len_two hl
      obtain ⟨v, u, e1, r1, r2⟩ := rv2 r1
      exact ⟨v, u, e1, p1 ρ1 H1 _ (Ext.refl _ _) R1 (((S.mono E1).set i r1).set j r2)⟩
    · exact p1.elim⟩⟩
theorem ss_par3 {i j k : Nat} {x y z : Str} {f : AF} {px py pz pt : Pos} {kt k2 pt2} (hc : X.calm = true) (hN : X.N.Nodup) (ha : SA X W [a, b, c] f) (hi : X.N[i]? = some x := by rfl) (hj : X.N[j]? = some y := by rfl) (hk : X.N[k]? = some z := by rfl) (hij : i ≠ j := by decide) (hik : i ≠ k := by decide) (hjk : j ≠ k := by decide)
    (hx : X.env.scope.names.lookup x = some .local := by rfl) (hy : X.env.scope.names.lookup y = some .local := by rfl) (hz : X.env.scope.names.lookup z = some .local := by rfl)
    (hw : swappedStores [.Tuple [.Name x px, .Name y py, .Name z pz] kt pt] (.Tuple [a, b, c] k2 pt2) X.env = pure (some [x, y, z]) := by rfl)
    (hs : swapsWithSole [.Tuple [.Name x px, .Name y py, .Name z pz] kt pt] (.Tuple [a, b, c] k2 pt2) pos.line X.env = pure false := by rfl) :
    SS X W (.Assign [.Tuple [.Name x px, .Name y py, .Name z pz] kt pt] (.Tuple [a, b, c] k2 pt2) pos) (sPar [i, j, k] f) :=
  ⟨(ps_par3 hc hN hi hj hk hij hik hjk hx hy hz ha.pa hw hs).imp fun D σ H ⟨ρ, e, M, R, S, p⟩ => ⟨ρ, e, M, R, S, (PoS.ofE (R := RVsr X.K) S p).imp fun vs H1 ⟨ρ1, M1, l, E1, R1, r1, p1⟩ => by
    split at p1
    · rename_i hl
      obtain ⟨x', y', z', rfl⟩ := len_three hl
      obtain ⟨v, r, e1, q1, q0⟩ := r1
      obtain ⟨u, w, e2, q2, q3⟩ := rv2 q0
      subst e2
      exact ⟨v, u, w, e1, p1 ρ1 H1 _ (Ext.refl _ _) R1 ((((S.mono E1).set i q1).set j q2).set k q3)⟩
    · exact p1.elim⟩⟩
theorem ss_aug {i : Nat} {x : Str} {op : Operator} {ti : TIp} {g : Val → Val → Mem → Out Val} {pos' : Pos} (ho : PIp X op ti) (hg : IpS X.K ti g) (hN : X.N.Nodup) (ha : SE X W a fa) (hi : X.N[i]? = some x := by rfl) (hx : Loc X.env.scope x := by first | exact Or.inl rfl | exact Or.inr rfl)
    (hf : X.fn x = true ∨ X.env.scope.names.lookup x = some .local := by first | exact .inl rfl | exact .inr rfl | assumption) : SS X W (.AugAssign (.Name x pos') op a pos) (sAug i g fa) :=
  ⟨(ps_aug hN hi hx ha.pe ho hf).imp fun D σ H ⟨ρ, e, M, R, S, p⟩ => by
    unfold sAug at p
    split at p
    · rename_i xv hx
      obtain ⟨v, h1, h2⟩ := S.at_ i xv hx
      exact ⟨v, h1, ρ, e, M, R, S, (PoS.ofE (R := RVr X.K) S p).imp fun u H1 ⟨ρ1, M1, y, E1, R1, r1, p1⟩ => hg _ _ _ σ W _ _ _ _ _ R1 (RV.mono E1 _ _ h2) r1
        ((PoS.ofE (R := RVr X.K) (S.mono E1) p1).imp fun w H2 ⟨ρ2, M2, z, E2, R2, r2, p2⟩ => p2 ρ2 H2 _ (Ext.refl _ _) R2 (((S.mono E1).mono E2).set i r2))⟩
    · exact p.elim⟩

end
end Sm
namespace Sm
open PySem L2
def arI (h : Int → Int → Int) (x y : Val) (M : Mem) : Out Val := match x, y with
  | .int i, .int j => .ok (.int (h i j)) M
  | _, _ => .bad
theorem is_ar {K : PySem.W.Frag} {h : Int → Int → Int} : IpS K (ipI h) (arI h) := by
  intro ρ M H σ W Q x y v u R rx ry p
  unfold arI at p
  split at p
  · cases (show v = _ from rx); cases (show u = _ from ry); exact ⟨_, _, rfl, rfl, p.val R rfl⟩
  · exact p.elim
end Sm
namespace Sm
open PySem L2
def rangeL (a b : Int) : List Val := (List.range (b - a).toNat).map fun i => Val.int (a + (i : Nat))
def eLr1 (f : EF) : EF := fun e M => (f e M).bind fun x M1 => match x with
  | .int n => if -(2 ^ 62) ≤ n ∧ n < 2 ^ 62 ∧ n.toNat ≤ 2 ^ 24 then .ok (.loc M1.length) (M1 ++ [.lst (rangeL 0 n)]) else .bad
  | _ => .bad
theorem rangeL_ok {K : PySem.W.Frag} {ρ : List Addr} {H : Hp} (a b : Int) : RVs K ρ H (rangeL a b) (rgV a b) := by
  have e1 : rangeL a b = ((List.range (b - a).toNat).map fun (i : Nat) => a + (i : Int)).map Val.int := by unfold rangeL; rw [List.map_map]; rfl
  have e2 : rgV a b = ((List.range (b - a).toNat).map fun (i : Nat) => a + (i : Int)).map V.int := by unfold rgV; rw [List.map_map]; rfl
  rw [e1, e2]
  exact (RVs.ints _).mpr rfl
/-- list(range(a)) -/
theorem se_listRg1 {X : Cx} {W : WX} {a : Expr} {fa : EF} {p q pos qpos : Pos} (hc : X.calm = true) (hm : X.mg "list" = none) (hmr : X.mg "range" = none) (ha : SE X W a fa) (hg : Gl X "list" := by rfl) (hgr : Gl X "range" := by rfl)
    (na : starEach [a] X.env = (false, eval a X.env) :: starEach [] X.env := by rfl) (nb : starEach [.Call (.Name "range" q) [a] [] qpos] X.env = (false, eval (.Call (.Name "range" q) [a] [] qpos) X.env) :: starEach [] X.env := by rfl) :
    SE X W (.Call (.Name "list" p) [.Call (.Name "range" q) [a] [] qpos] [] pos) (eLr1 fa) :=
  ⟨(pe_listRg hc hg hm (prg_1 hgr hmr ha.pe na) nb).imp fun σ H Q ⟨ρ, e, M, R, S, p⟩ => ⟨ρ, e, M, R, S, (Po.bind p).imp fun v H1 ⟨ρ1, M1, x, E1, R1, r1, p1⟩ => by
    split at p1
    · rename_i n
      cases (show v = _ from r1)
      split at p1
      · rename_i h
        exact ⟨n, rfl, ⟨by decide, by decide, h.1, h.2.1, by simpa using h.2.2⟩, p1.newList R1 (rangeL_ok 0 n)⟩
      · exact p1.elim
    · exact p1.elim⟩⟩
end Sm

namespace Sm
open PySem L2
open PySem.Spec PyProof.Rows
theorem ss_doc {X : Cx} {W : WX} {x j pos pos'} : SS X W (.Expr (.Constant (.str x) j pos) pos') sNil := ⟨ps_doc.imp fun D σ H ⟨ρ, e, M, R, S, p⟩ => p ρ H σ (Ext.refl _ _) R S⟩
theorem hr_u65 {k : Nat} {A : Around} (hr : Room k A) : A.units + 65 < cLine := by
  have := hr.un
  omega
/-- a def at hand -/
def Cal (P : Program) (w : World) (K : PySem.W.Frag) (mg : Str → Option Value) (base : Heap) (x : Str) (k np : Nat) (Fs : FnS) : Prop :=
  ∃ (f : Addr) (fd : FuncData) (ps : List Str), ps.length = np ∧ FOk P w K mg base k f fd ps Fs ∧ mg x = some (.ref f) ∧ PySem.W.keepIn K (.ref f) = true ∧ Binds K fd ps []
section
variable {P : Program} {w : World} {K : PySem.W.Frag} {mg : Str → Option Value} {base : Heap} {x qual : Str} {params : Arguments} {body : List Stmt} {scope : Scope} {kws : List (Str × V)} {f : Addr} {fd : FuncData}
theorem cal_of {N ps : List Str} {k : Nat} {fb : SF} (F : FunD K x qual params body scope [] kws f fd) (hm : mg x = some (.ref f)) (S : FnScope N ps scope)
    (hbind : ∀ (kV doc pm : Value) (an : Option Addr) (cdv ct : Value) (us : List Value), us.length = ps.length → bindArgs (PySem.W.fnOf x qual params body scope .none kV doc pm an cdv ct) ⟨us, []⟩ = pure (ps.zip us))
    (hb : ∀ (cdv : Value) (A : Around) (outer : List Env) (s : Shared) (H : Hp) (E : XK), Room k (A.deeper (envOfC qual scope s.heap.objs.size f cdv)) →
      SSs (cxOf (L2.CX P w) P w K mg base N qual scope f cdv A outer s H E) (fun c d _ H => E c d H) body fb) : Cal P w K mg base x (k + 1) ps.length (fnS ps.length N.length fb) :=
  ⟨f, fd, ps, rfl, fok_of F S hb, hm, F.kp, F.bindsN hbind⟩
theorem cal_bad {ps : List Str} {k np : Nat} (D : ∃ fd, FunD K x qual params body scope [] kws f fd) (hm : mg x = some (.ref f)) (hl : ps.length = np)
    (hbind : ∀ (kV doc pm : Value) (an : Option Addr) (cdv ct : Value) (us : List Value), us.length = ps.length → bindArgs (PySem.W.fnOf x qual params body scope .none kV doc pm an cdv ct) ⟨us, []⟩ = pure (ps.zip us)) : Cal P w K mg base x k np (fun _ _ => .bad) := by
  obtain ⟨fd, F⟩ := D
  exact ⟨f, fd, ps, hl, ⟨fun vs H Q E ⟨_, _, _, _, _, _, p⟩ => p.elim, fun A outer s H args us vs Q E _ _ _ _ ⟨_, _, _, _, _, _, p⟩ => p.elim⟩, hm, F.kp, F.bindsN hbind⟩
end
section
variable {X : Cx} {W : WX} {k np : Nat} {Fs : FnS} {x : Str} {p pos : Pos} {a : Expr} {es : List Expr} {fa : AF}
theorem se_callC (C : Cal X.prog X.w X.K X.mg X.base x k np Fs) (hr : Room k X.A) (tk : Takes X W) (ha : SA X W (a :: es) fa)
    (hg : Gl X x := by rfl) (hdb : (x == ("__debug__" : Str)) = false := by decide) (he : starEach (a :: es) X.env = (false, eval a X.env) :: starEach es X.env := by rfl) (hpl : (backTo pos (starEach es X.env)).any (·.1) = false := by rfl) :
    SE X W (.Call (.Name x p) (a :: es) [] pos) (eFn np Fs fa) := by
  obtain ⟨f, fd, ps, rfl, F, hm, hk, hb⟩ := C
  exact se_call F hr hm hk hb tk ha hg hdb he hpl
end
/-- the law's end -/
theorem law_sp {K : PySem.W.Frag} {F : FnS} {n : Nat} (h : ∀ ns : List Int, ns.length ≤ n → ∃ M, F [.frz ns] [] = .ok (.bl true) M) (H : Hp) (a : Addr) (ns : List Int) (hl : ns.length ≤ n) (o : Only H) (hs : SqL K H a (ns.map V.int)) :
    spS K 1 F [.ref a] H (fun v _ => v = .bl true) fun _ _ _ => False := by
  have fz : FzL K H a (ns.map V.int) := by
    rcases hs with (hs | hs) | hs
    · rcases o a with e | ⟨q, xs, e⟩
      · rw [e] at hs; cases hs
      · rw [e] at hs; cases hs
    · exact .inl hs
    · exact .inr hs
  refine ⟨[], [], [.frz ns], ⟨rfl, .nil, fun n c a h => by cases h⟩, ⟨.ref a, [], rfl, ⟨a, rfl, fz⟩, rfl⟩, rfl, ?_⟩
  obtain ⟨M, e⟩ := h ns hl
  rw [e]
  exact fun ρ' H' b _ _ r => r
/-- the law, from what its def computes -/
theorem endAt {l : PySem.W.OpenLaw} {n k : Nat} {q : Program} {loose : List Str} {XP : (Str → Option Value) → Heap → Prop} {YP : World → Heap → Prop} {d : DefRec} {F : FnS}
    (hn : l.most = some n) (hz : n ≤ sizeLine) (hd : d.params.defaults = []) (hr : Room k callerA) (hF : ∀ ns : List Int, ns.length ≤ n → ∃ M, F [.frz ns] [] = .ok (.bl true) M)
    (hall : ∀ (w : World) (mg : Str → Option Value) (fa : Addr) (h : Heap), YP w h → h.Ns mainGlobals mg → mg d.name = some (.ref fa) → ∃ (K : PySem.W.Frag) (fd : FuncData), K.In h ∧
      (∀ (s : Shared) (v : Value), BindsTo s fd ⟨[v], []⟩ [("_law_script", v)]) ∧ ∀ base : Heap, K.In base → base.Ns mainGlobals mg → FOk l.prog w K mg base k fa fd ["_law_script"] F) :
    PySem.W.WalkO q loose XP YP l.row.toRowW d [] (fun f us => PySem.call f us) :=
  Att.attach_call hn hd fun w _ s mg mb fa _ _ _ _ a us ns G Y _ _ _ hm ho hi hl hg => by
    obtain ⟨K, fd, KX, hb, hf⟩ := hall w mg fa _ Y G.T.g hm
    exact law_call (sp := spS K 1 F) KX G.T.g G.T.b G.T.builtins G.T.nolimit hg ho hi (Nat.le_trans hl hz) hr hf hb (fun H o t => law_sp hF H a ns hl o t) fun H e s' z => by
      obtain ⟨_, _, _, _, _, _, _, _, _, _, _, _, f⟩ := z
      exact f
end Sm

namespace Sm
open PySem L2
/-! dicts whose keys are ints or texts -/
def keyOf : Val → Option Key
  | .int i => some (.inl i)
  | .str z => some (.inr z)
  | _ => none
def hasK {κ : Type} [DecidableEq κ] (kvs : List (κ × Val)) (k : κ) : Bool := kvs.any fun p => decide (p.1 = k)
def putV {κ : Type} [DecidableEq κ] (kvs : List (κ × Val)) (k : κ) (v : Val) : List (κ × Val) :=
  if hasK kvs k then kvs.map (fun p => if p.1 = k then (p.1, v) else p) else kvs ++ [(k, v)]
def inKD (x y : Val) (M : Mem) : Option Bool := match y with
  | .loc n => (match M[n]? with
    | some (.dK kvs) => (keyOf x).map (hasK kvs)
    | _ => none)
  | _ => none
def inKV (x y : Val) (M : Mem) : Out Val := match inKD x y M with
  | some b => .ok (.bl b) M
  | none => .bad
def notInKV (x y : Val) (M : Mem) : Out Val := match inKD x y M with
  | some b => .ok (.bl (!b)) M
  | none => .bad
section
variable {K : PySem.W.Frag} {ρ : List Addr} {M : Mem} {H : Hp} {κ : Type} [DecidableEq κ]
theorem keyOf_ok {x : Val} {v : V} {k : Key} (h : keyOf x = some k) (r : RV K ρ H x v) : v = kV k := by
  cases x <;> first | (cases h; cases (show v = _ from r); rfl) | cases h
theorem RKs.length : ∀ {l : List (κ × Val)} {ws : List (κ × V)}, RKs K ρ H l ws → ws.length = l.length
  | [], _, h => by cases (show _ = [] from h); rfl
  | (k, x) :: l, _, ⟨v, r, e, _, h⟩ => by subst e; simp [RKs.length h]
theorem RKs.has {k : κ} : ∀ {l : List (κ × Val)} {ws : List (κ × V)}, RKs K ρ H l ws → (ws.any fun p => decide (p.1 = k)) = hasK l k
  | [], _, h => by cases (show _ = [] from h); rfl
  | (j, x) :: l, _, ⟨v, r, e, _, h⟩ => by
    subst e
    show (decide (j = k) || r.any fun p => decide (p.1 = k)) = (decide (j = k) || hasK l k)
    rw [RKs.has h]
theorem RKs.map {k : κ} {z : Val} {u : V} (hz : RV K ρ H z u) : ∀ {l : List (κ × Val)} {ws : List (κ × V)}, RKs K ρ H l ws → RKs K ρ H (l.map fun p => if p.1 = k then (p.1, z) else p) (ws.map fun p => if p.1 = k then (p.1, u) else p)
  | [], _, h => by cases (show _ = [] from h); rfl
  | (j, x) :: l, _, ⟨v, r, e, hx, h⟩ => by
    subst e
    by_cases hj : j = k
    · rw [List.map_cons, List.map_cons, if_pos hj, if_pos hj]
      exact ⟨u, _, rfl, hz, RKs.map hz h⟩
    · rw [List.map_cons, List.map_cons, if_neg hj, if_neg hj]
      exact ⟨v, _, rfl, hx, RKs.map hz h⟩
theorem RKs.snoc {k : κ} {z : Val} {u : V} (hz : RV K ρ H z u) : ∀ {l : List (κ × Val)} {ws : List (κ × V)}, RKs K ρ H l ws → RKs K ρ H (l ++ [(k, z)]) (ws ++ [(k, u)])
  | [], _, h => by cases (show _ = [] from h); exact ⟨u, [], rfl, hz, rfl⟩
  | (j, x) :: l, _, ⟨v, r, e, hx, h⟩ => by subst e; exact ⟨v, _, rfl, hx, RKs.snoc hz h⟩
theorem RKs.put {k : κ} {z : Val} {u : V} {l : List (κ × Val)} {ws : List (κ × V)} (h : RKs K ρ H l ws) (hz : RV K ρ H z u) : RKs K ρ H (putV l k z) (putK ws k u) := by
  unfold putV putK
  rw [h.has]
  split
  · exact RKs.map hz h
  · exact RKs.snoc hz h
theorem valV_has {k : κ} : ∀ ws : List (κ × V), (valV ws k).isSome = ws.any fun p => decide (p.1 = k)
  | [] => rfl
  | p :: r => by
    by_cases e : p.1 = k
    · rw [valV_pos e]; simp [e]
    · rw [valV_neg e, valV_has r]; simp [e]
def rInK : R2 := fun x y H Q => ∃ a k ws, x = kV k ∧ y = .ref a ∧ H a = some (.dK ws) ∧ Q (.bl (valV ws k).isSome) H
def rNotInK : R2 := fun x y H Q => ∃ a k ws, x = kV k ∧ y = .ref a ∧ H a = some (.dK ws) ∧ Q (.bl (!(valV ws k).isSome)) H
theorem op_inK {X : Cx} (hu : X.A.units + 1 < cLine) : OpR X (compareOp .In) rInK := by
  rintro pins s σ H x y v u Q I rx ry ⟨a, k, ws, rfl, rfl, e, q⟩
  cases (show u = Value.ref a from ry)
  exact d_in hu I (.inl ⟨ws, k, .of e, rfl, rfl⟩) rx fun s' I' => ⟨.bl (valV ws k).isSome, H, I', rfl, q⟩
theorem op_notInK {X : Cx} (hu : X.A.units + 1 < cLine) : OpR X (compareOp .NotIn) rNotInK := by
  rintro pins s σ H x y v u Q I rx ry ⟨a, k, ws, rfl, rfl, e, q⟩
  cases (show u = Value.ref a from ry)
  exact d_notIn hu I (.inl ⟨ws, k, .of e, rfl, rfl⟩) rx fun s' I' => ⟨.bl (!(valV ws k).isSome), H, I', rfl, q⟩
theorem inKD_ok {x y : Val} {v u : V} {b : Bool} (R : Rel K ρ M H) (rx : RV K ρ H x v) (ry : RV K ρ H y u) (h : inKD x y M = some b) : ∃ a k ws, v = kV k ∧ u = .ref a ∧ H a = some (.dK ws) ∧ (valV ws k).isSome = b := by
  unfold inKD at h
  split at h
  · split at h
    · rename_i n kvs hn
      obtain ⟨a, e, ha⟩ := ry
      obtain ⟨ws, hw, hr⟩ := R.at_ _ _ _ hn ha
      cases hk : keyOf x with
      | none => rw [hk] at h; cases h
      | some k =>
        rw [hk] at h
        cases h
        exact ⟨a, k, ws, keyOf_ok hk rx, e, hw, by rw [valV_has, hr.has]⟩
    · cases h
  · cases h
theorem os_inK : OpS K rInK inKV := by
  intro ρ M H σ W Q x y v u R rx ry p
  unfold inKV at p
  split at p
  · rename_i b h
    obtain ⟨a, k, ws, h1, h2, h3, h4⟩ := inKD_ok R rx ry h
    exact ⟨a, k, ws, h1, h2, h3, by rw [h4]; exact p.val R rfl⟩
  · exact p.elim
theorem os_notInK : OpS K rNotInK notInKV := by
  intro ρ M H σ W Q x y v u R rx ry p
  unfold notInKV at p
  split at p
  · rename_i b h
    obtain ⟨a, k, ws, h1, h2, h3, h4⟩ := inKD_ok R rx ry h
    exact ⟨a, k, ws, h1, h2, h3, by rw [h4]; exact p.val R rfl⟩
  · exact p.elim
end
theorem hr_u1 {k : Nat} {A : Around} (hr : Room k A) : A.units + 1 < cLine := by
  have := hr.un
  omega
/-! a dict comprehension -/
def dcG (nxt : Nat → Mem → Option (Option Val)) (g : Tg) (t : TF) (ek ev : EF) (D : Nat) (e : Sl) : Nat → Nat → Mem → Out Val
  | 0, _, _ => .bad
  | m + 1, i, M => match nxt i M with
    | none => .bad
    | some none => .ok (.loc D) M
    | some (some x) => match g.put x e with
      | none => .bad
      | some e1 => match t e1 M with
        | .ok b M1 => if b = true then (match ek e1 M1 with
          | .ok y M2 => (match ev e1 M2 with
            | .ok z M3 => (match keyOf y with
              | some k => (match M3[D]? with
                | some (.dK kvs) => if kvs.length < sizeLine then dcG nxt g t ek ev D e m (i + 1) (M3.set D (.dK (putV kvs k z))) else .bad
                | _ => .bad)
              | none => .bad)
            | _ => .bad)
          | _ => .bad) else dcG nxt g t ek ev D e m (i + 1) M1
        | _ => .bad
def eDc (f : IF) (g : Tg) (t : TF) (ek ev : EF) (vs : List Nat) : EF := fun e M => (f e M).bind fun it M1 => dcG it.nxt g t ek ev M1.length (wipeS e vs) it.fuel 0 (M1 ++ [.dK []])
section
variable {X : Cx} {W : WX} {pos : Pos} {tg iter kx vx : Expr} {ifs : List Expr} {scope : Scope} {own : List (Str × Nat)} {f : IF} {g : Tg} {t : TF} {ek ev : EF}
theorem dc_ok (hv : ∀ i ∈ g.vs, i ∈ own.map (·.2)) {σ : St} {H : Hp} {Q : VK} (h : tE X.K W (eDc f g t ek ev (own.map (·.2))) σ H Q) : tDc (tIt X.K W f) (g.g X.K) (tT X.K noW t) (tE X.K noW ek) (tE X.K noW ev) (own.map (·.2)) σ H Q := by
  obtain ⟨ρ, e, M, R, S, p⟩ := h
  refine ⟨ρ, e, M, R, S, (Po.bind (R := Ritr X.K) p).imp fun J H1 ⟨ρ1, M1, it, E1, R1, sim, p1⟩ D hD => ?_⟩
  have EA := Ext.alloc (o := .dK []) ρ1 hD
  have hn : (ρ1 ++ [D])[M1.length]? = some D := by rw [← R1.len, List.getElem?_append_right (Nat.le_refl _)]; simp
  refine ⟨fun i m H' => ∃ ρ' M', Ext ρ1 H1 ρ' H' ∧ Rel X.K ρ' M' H' ∧ ρ'[M1.length]? = some D ∧ Po (RVr X.K) X.K ρ' H' σ W Q (dcG it.nxt g t ek ev M1.length (wipeS e (own.map (·.2))) m i M'),
    ⟨it.fuel, ρ1 ++ [D], _, EA, R1.alloc (c := .dK []) hD ⟨[], upd_same, rfl⟩, hn, p1.mono EA⟩, fun i m H' ⟨ρ', M', E', R', hn', p'⟩ => ?_⟩
  cases m with
  | zero => exact p'.elim
  | succ m =>
    unfold dcG at p'
    cases hx : it.nxt i M' with
    | none => rw [hx] at p'; exact p'.elim
    | some o => cases o with
      | none =>
        rw [hx] at p'
        exact .inl ⟨(sim i ρ' M' H' E' R').1 hx, p' ρ' H' _ (Ext.refl _ _) R' ⟨D, rfl, hn'⟩⟩
      | some x =>
        rw [hx] at p'
        simp only at p'
        obtain ⟨g1, g2⟩ := (sim i ρ' M' H' E' R').2 x hx
        refine .inr ⟨g1, _, fun H2 h => ⟨m, Nat.lt_succ_self m, h⟩, fun v H2 hy => ?_⟩
        obtain ⟨E2, R2, r2⟩ := g2 v H2 hy
        cases hp : g.put x (wipeS e (own.map (·.2))) with
        | none => rw [hp] at p'; exact p'.elim
        | some e1 =>
          rw [hp] at p'
          simp only at p'
          have S2 : SlR X.K ρ' H2 (wipeS e (own.map (·.2))) (L2.wipe σ (own.map (·.2))) := (S.wipe _).mono (E1.trans (E'.trans E2))
          refine Tg.ok hv r2 S2 hp fun σ' S' w => ⟨?_, ρ', e1, M', R2, S', ?_⟩
          · rw [w]
            apply List.ext_getElem?
            intro j
            rw [wipe_get, wipe_get]
            by_cases hj : j ∈ own.map (·.2)
            · rw [if_pos hj, if_pos hj]; cases σ[j]? <;> rfl
            · rw [if_neg hj, if_neg hj]
          · cases ht : t e1 M' with
            | bad => rw [ht] at p'; exact p'.elim
            | ex _ _ => rw [ht] at p'; exact p'.elim
            | ok b M3 =>
              rw [ht] at p'
              simp only at p'
              intro ρ3 H3 b' E3 R3 eb
              cases (show b = b' from eb)
              by_cases hb : b = true
              · rw [if_pos hb] at p' ⊢
                cases hl : ek e1 M3 with
                | bad => rw [hl] at p'; exact p'.elim
                | ex _ _ => rw [hl] at p'; exact p'.elim
                | ok y M4 =>
                  rw [hl] at p'
                  simp only at p'
                  refine ⟨ρ3, e1, M3, R3, S'.mono E3, Po.noex hl fun ρ4 H4 u E4 R4 r4 => ?_⟩
                  cases hl2 : ev e1 M4 with
                  | bad => rw [hl2] at p'; exact p'.elim
                  | ex _ _ => rw [hl2] at p'; exact p'.elim
                  | ok z M5 =>
                    rw [hl2] at p'
                    simp only at p'
                    refine ⟨ρ4, e1, M4, R4, (S'.mono E3).mono E4, Po.noex hl2 fun ρ5 H5 u2 E5 R5 r5 => ?_⟩
                    cases hk : keyOf y with
                    | none => rw [hk] at p'; exact p'.elim
                    | some k =>
                      rw [hk] at p'
                      simp only at p'
                      cases hm : M5[M1.length]? with
                      | none => rw [hm] at p'; exact p'.elim
                      | some c => cases c with
                        | dK acc =>
                          rw [hm] at p'
                          simp only at p'
                          have hn5 := E5.get (E4.get (E3.get hn'))
                          obtain ⟨ws, h3, h4⟩ := R5.at_ _ _ _ hm hn5
                          by_cases hz : acc.length < sizeLine
                          · rw [if_pos hz] at p'
                            refine ⟨ws, k, keyOf_ok hk r4, h3, by rw [h4.length]; exact hz, ?_⟩
                            have hmu : Mut (H5 D) := by rw [h3]; trivial
                            have E6 := Ext.write (o := .dK (putK ws k u2)) ρ5 hmu
                            obtain ⟨R6, _⟩ := R5.write (c := .dK (putV acc k z)) hn5 ⟨_, upd_same, (h4.put r5).mono E6⟩
                            exact ⟨ρ5, _, E'.trans (E2.trans (E3.trans (E4.trans (E5.trans E6)))), R6, hn5, p'.mono (E2.trans (E3.trans (E4.trans (E5.trans E6))))⟩
                          · rw [if_neg hz] at p'; exact p'.elim
                        | _ => rw [hm] at p'; exact p'.elim
              · rw [if_neg hb] at p' ⊢
                exact ⟨ρ3, M3, E'.trans (E2.trans E3), R3, E3.get hn', p'.mono (E2.trans E3)⟩
theorem se_dc (hc : X.calm = true) (hN : X.N.Nodup) (hi : SI X W tg iter f) (ok : BlkOk X.N X.env.scope scope own) (hv : ∀ i ∈ g.vs, i ∈ own.map (·.2))
    (hg : ∀ (s : Shared) (H : Hp) (C : Addr) (cl : List (Str × Addr)) (fp : List Addr), SLT (X.blk s H scope (compEnvC scope cl C X.env) fp) tg g) (ht : ∀ (s : Shared) (H : Hp) (C : Addr) (cl : List (Str × Addr)) (fp : List Addr), STs (X.blk s H scope (compEnvC scope cl C X.env) fp) ifs t)
    (hk : ∀ (s : Shared) (H : Hp) (C : Addr) (cl : List (Str × Addr)) (fp : List Addr), SE (X.blk s H scope (compEnvC scope cl C X.env) fp) noW kx ek)
    (he : ∀ (s : Shared) (H : Hp) (C : Addr) (cl : List (Str × Addr)) (fp : List Addr), SE (X.blk s H scope (compEnvC scope cl C X.env) fp) noW vx ev) (hs : ∀ x, foldedSetIterable iter X.env x = pure x := by intro _; rfl) :
    SE X W (.DictComp kx vx [⟨tg, iter, ifs, 0⟩] scope pos) (eDc f g t ek ev (own.map (·.2))) :=
  ⟨(pe_dc hc hN hi.pi ok (fun s H C cl fp => (hg s H C cl fp).pg) (fun s H C cl fp => (ht s H C cl fp).pts) (fun s H C cl fp => (hk s H C cl fp).pe) (fun s H C cl fp => (he s H C cl fp).pe) hs).imp fun σ H Q h => dc_ok hv h⟩
end
end Sm

namespace Sm
open PySem L2
/-! texts -/
def strV : FnS := fun l M => match l with
  | [.int i] => if i.natAbs.log2 < 1920 then .ok (.str (toString i)) M else .bad
  | _ => .bad
def intSV : FnS := fun l M => match l with
  | [.int i] => .ok (.int i) M
  | [.bl b] => .ok (.int (if b then 1 else 0)) M
  | [.str z] => (match PySem.intText? z with
    | some n => if z.length ≤ 640 then .ok (.int n) M else .bad
    | none => .bad)
  | _ => .bad
def strsOf : List Val → Option (List Str)
  | [] => some []
  | .str z :: l => (strsOf l).map (z :: ·)
  | _ => none
def joinV : MtF := fun x l M => match x, l with
  | .str a, [.loc n] => (match (getL M n).bind strsOf with
    | some ys => if (ys.map (·.length)).sum + ys.length * a.length ≤ 16777216 then .ok (.str (Txt.join a ys)) M else .bad
    | none => .bad)
  | _, _ => .bad
def splitV : MtF := fun x l M => match x, l with
  | .str a, [.str b] => if (b.length == 0) = false ∧ a.length + 2 ≤ sizeLine then .ok (.loc M.length) (M ++ [.lst ((Txt.split a b).map .str)]) else .bad
  | _, _ => .bad
section
variable {X : Cx} {K : PySem.W.Frag} {ρ : List Addr} {M : Mem} {H : Hp}
theorem strsOf_ok : ∀ {l : List Val} {ys : List Str} {vs : List V}, strsOf l = some ys → RVs K ρ H l vs → vs = ys.map V.str
  | [], ys, vs, h, r => by cases h; cases (show vs = [] from r); rfl
  | x :: l, ys, vs, h, r => by
    obtain ⟨v, us, e, r1, r2⟩ := r
    subst e
    cases x with
    | str z =>
      unfold strsOf at h
      cases hl : strsOf l with
      | none => rw [hl] at h; cases h
      | some zs =>
        rw [hl] at h
        cases h
        cases (show v = _ from r1)
        rw [strsOf_ok hl r2]; rfl
    | _ => cases h
theorem RVs.strs : ∀ (ys : List Str), RVs K ρ H (ys.map Val.str) (ys.map V.str)
  | [] => rfl
  | y :: ys => ⟨_, _, rfl, rfl, RVs.strs ys⟩
theorem cs_str : CallS K (fun xs H Q => ∃ i, xs = [.int i] ∧ i.natAbs.log2 < 1920 ∧ Q (.str (toString i)) H) strV := by
  intro ρ M H σ W Q l vs R r p
  unfold strV at p
  split at p
  · obtain ⟨v, e, e1⟩ := rv1 r
    cases (show v = _ from e1)
    split at p
    · rename_i h; exact ⟨_, e, h, p.val R rfl⟩
    · exact p.elim
  · exact p.elim
def rInt2 : List V → Hp → VK → Prop := fun xs H Q => ((∃ i, xs = [.int i] ∧ Q (.int i) H) ∨ ∃ k, xs = [.bl k] ∧ Q (.int (if k then 1 else 0)) H) ∨ (∃ a n, xs = [.str a] ∧ PySem.intText? a = some n ∧ a.length ≤ 640 ∧ Q (.int n) H)
theorem call_int2 : CallR X (.type "int") rInt2 := CallR.or call_int1 call_int_str
theorem cs_int2 : CallS K rInt2 intSV := by
  intro ρ M H σ W Q l vs R r p
  unfold intSV at p
  split at p
  · obtain ⟨v, e, e1⟩ := rv1 r
    cases (show v = _ from e1)
    exact .inl (.inl ⟨_, e, p.val R rfl⟩)
  · obtain ⟨v, e, e1⟩ := rv1 r
    cases (show v = _ from e1)
    exact .inl (.inr ⟨_, e, p.val R rfl⟩)
  · obtain ⟨v, e, e1⟩ := rv1 r
    cases (show v = _ from e1)
    split at p
    · rename_i n hn
      split at p
      · rename_i hl; exact .inr ⟨_, n, e, hn, hl, p.val R rfl⟩
      · exact p.elim
    · exact p.elim
  · exact p.elim
def rJoin (K : PySem.W.Frag) : V → List V → Hp → VK → Prop := fun x xs H Q => ∃ a p, ∃ ys : List Str, x = .str a ∧ xs = [.ref p] ∧ (SqL K H p (ys.map V.str) ∨ SqT K H p (ys.map V.str)) ∧
    (ys.map (·.length)).sum + ys.length * a.length ≤ 16777216 ∧ Q (.str (Txt.join a ys)) H
theorem mt_join' : MtR X "str.join" (rJoin X.K) := mt_join
theorem ms_join : MethS K (rJoin K) joinV := by
  intro ρ M H σ W Q x v l vs R rx rl p
  unfold joinV at p
  split at p
  · rename_i a n
    split at p
    · rename_i ys hy
      split at p
      · rename_i hz
        obtain ⟨u, e2, r2⟩ := rv1 rl
        cases hg : getL M n with
        | none => rw [hg] at hy; cases hy
        | some xs =>
          rw [hg] at hy
          obtain ⟨a, us, e3, h1, h2, h3⟩ := R.lst (getL_ok hg) r2
          subst e3
          have := strsOf_ok hy h3
          subst this
          exact ⟨_, a, ys, rx, e2, .inl (SqL.of h2), hz, p.val R rfl⟩
      · exact p.elim
    · exact p.elim
  · exact p.elim
def rSplit : V → List V → Hp → VK → Prop := fun x xs H Q => ∃ a b, x = .str a ∧ xs = [.str b] ∧ (b.length == 0) = false ∧ a.length + 2 ≤ sizeLine ∧ rNewStrs (Txt.split a b) H Q
theorem mt_split' : MtR X "str.split" rSplit := mt_split
theorem ms_split : MethS K rSplit splitV := by
  intro ρ M H σ W Q x v l vs R rx rl p
  unfold splitV at p
  split at p
  · split at p
    · rename_i h
      obtain ⟨u, e2, r2⟩ := rv1 rl
      cases (show u = _ from r2)
      exact ⟨_, _, rx, e2, h.1, h.2, p.newList R (RVs.strs _)⟩
    · exact p.elim
  · exact p.elim
end
/-! a tuple of texts of the top -/
/-- the first place of a text -/
def posOf (ys : List Str) (z : Str) : Option Nat := ys.findIdx? fun y => decide (y = z)
def eSgIx (ys : List Str) (f : EF) : EF := fun e M => (f e M).bind fun x M1 => match x with
  | .str z => (match posOf ys z with
    | some j => .ok (.int (j : Nat)) M1
    | none => .bad)
  | _ => .bad
/-- the module's name x is a tuple of these texts -/
def GTup (K : PySem.W.Frag) (mg : Str → Option Value) (x : Str) (ys : List Str) : Prop :=
  ∃ a o its n, mg x = some (.ref a) ∧ K.lookup a = some o ∧ o.cls = .type "tuple" ∧ o.dict = none ∧ o.data = .seq its n ∧ its.size ≤ sizeLine ∧ Vals (ys.map V.str) its.toList
theorem GTup.sq {K : PySem.W.Frag} {mg : Str → Option Value} {x : Str} {ys : List Str} (g : GTup K mg x ys) : ∃ a, mg x = some (.ref a) ∧ ∀ H, SqT K H a (ys.map V.str) := by
  obtain ⟨a, o, its, n, h1, h2, h3, h4, h5, h6, h7⟩ := g
  exact ⟨a, h1, fun H => .inr ⟨o, its, n, h2, h3, h5, h6, h7⟩⟩
section
variable {X : Cx} {W : WX} {pos : Pos}
theorem se_gtup {x : Str} {ys : List Str} (g : GTup X.K X.mg x ys) (hg : Gl X x := by rfl) (hd : (x == ("__debug__" : Str)) = false := by decide) : SE X W (.Name x pos) (eC (.tup (ys.map .str))) := by
  obtain ⟨a, h1, h2⟩ := g.sq
  exact se_const (pe_glob (v := .ref a) hg h1 rfl hd) fun ρ H => ⟨a, _, rfl, h2 H, RVs.strs _⟩
theorem se_gtupIx {x : Str} {ys : List Str} {a : Expr} {fa : EF} {p apos cpos : Pos} (g : GTup X.K X.mg x ys) (ha : SE X W a fa) (hg : Gl X x := by rfl) (hd : (x == ("__debug__" : Str)) = false := by decide)
    (hbase : attributeBase (.Name x p) "index" X.env (eval (.Name x p) X.env) = eval (.Name x p) X.env := by rfl)
    (hfew : ((backTo cpos (starEach [a] X.env)).all (fun x => !x.1) && (backToKw cpos (keywordEach [] X.env)).all (fun x => x.1.isSome)
      && decide ([a].length + ([] : List Keyword).length + (if ([] : List Keyword).isEmpty then 0 else 1) < 30)) = true := by rfl)
    (hline : (apos.endLine == cpos.line) = true := by rfl) (he : starEach [a] X.env = (false, eval a X.env) :: starEach [] X.env := by rfl) (hpl : (backTo cpos (starEach [] X.env)).any (·.1) = false := by rfl) :
    SE X W (.Call (.Attribute (.Name x p) "index" apos) [a] [] cpos) (eSgIx ys fa) := by
  obtain ⟨q, o, its, n, h1, h2, h3, h4, h5, h6, h7⟩ := g
  refine ⟨(pe_bm PySem.F.plainAttrs_tuple PySem.F.slot_tuple_index PySem.F.type_tuple_index mt_tup_index (pe_glob (v := .ref q) hg h1 rfl hd) (sa_cons ha sa_nil he).pa hbase hfew hline he hpl).imp fun σ H Q ⟨ρ, e, M, R, S, p⟩ => ?_⟩
  refine ⟨.inr (.inl ⟨rfl, o, h2, h3, h4⟩), ρ, e, M, R, S, ?_⟩
  have p' : Po (RVr X.K) X.K ρ H σ W Q ((aCons fa aNil e M).bind fun l M1 => match l with
      | [.str z] => (match posOf ys z with
        | some j => .ok (.int (j : Nat)) M1
        | none => .bad)
      | _ => .bad) := by
    unfold eSgIx at p
    unfold aCons aNil
    cases h : fa e M with
    | ok x M1 => rw [h] at p; cases x <;> exact p
    | ex x M1 => rw [h] at p; exact p
    | bad => rw [h] at p; exact p
  exact (Po.bind (R := RVsr X.K) p').imp fun vs H1 ⟨ρ1, M1, l, E1, R1, r1, p1⟩ => by
    split at p1
    · rename_i z
      obtain ⟨v, e1, r2⟩ := rv1 r1
      cases (show v = _ from r2)
      split at p1
      · rename_i j hj
        unfold posOf at hj
        rw [List.findIdx?_eq_some_iff_getElem] at hj
        obtain ⟨hl, hz, hno⟩ := hj
        have hz := of_decide_eq_true hz
        refine ⟨q, ys, z, j, rfl, e1, .inr ⟨o, its, n, h2, h3, h5, h6, h7⟩, by rw [List.getElem?_eq_getElem hl, hz], fun m hm => ?_, p1.val R1 rfl⟩
        have hml : m < ys.length := by omega
        have := hno m hm
        rw [List.getElem?_eq_getElem hml]
        intro e
        exact this (decide_eq_true (Option.some.inj e))
      · exact p1.elim
    · exact p1.elim
end
/-! the head's word for it -/
def gtupB (K : PySem.W.Frag) (x : Str) (ys : List Str) : Bool := match PySem.W.nsIn K mainGlobals x with
  | some (some (.ref a)) => (match K.lookup a with
    | some ⟨.type c, none, .seq its _, _⟩ => decide (c = "tuple") && (decide (its.size ≤ sizeLine) && He.relAll (ys.map V.str) its.toList)
    | _ => false)
  | _ => false
theorem gtupB_ok {K : PySem.W.Frag} {h : Heap} {mg : Str → Option Value} {x : Str} {ys : List Str} (X : K.In h) (G : h.Ns mainGlobals mg) (c : gtupB K x ys = true) : GTup K mg x ys := by
  unfold gtupB at c
  split at c
  · rename_i a hn
    split at c
    · rename_i c' its n sl hk
      rw [Bool.and_eq_true, Bool.and_eq_true] at c
      obtain ⟨h1, h2, h3⟩ := c
      refine ⟨a, _, its, n, PySem.W.mg_of X G hn, hk, congrArg Value.type (of_decide_eq_true h1), rfl, rfl, of_decide_eq_true h2, He.relAll_ok h3⟩
    · cases c
  · cases c
end Sm

namespace Lw
open PySem L2 Sm
@[irreducible] def F_is_number : FnS := fnS 3 3 (sRet (eAnd (eIsi [.int] (eVar 0)) (eAnd (eNot (eIsi [.bool] (eVar 0))) (eChain (cmpV fun i j => decide (i ≤ j)) (cmpV fun i j => decide (i ≤ j)) (eVar 1) (eVar 0) (eVar 2)))))
@[irreducible] def F_is_street : FnS := fnS 2 2 (sSeq (sIf (tOrF (tNotF (tTru (eIsi [.tuple] (eVar 0)))) (tOrF (tCmp2 neV (eCall lenV (aCons (eVar 0) aNil)) (eC (.int 4))) (tNotF (tTru (eFn 3 F_is_number (aCons (eOp2 ixV (eVar 0) (eC (.int 0))) (aCons (eC (.int 0)) (aCons (eOp2 subV (eVar 1) (eC (.int 1))) aNil)))))))) (sRet (eC (.bl false))) sNil) (sSeq (sIf (tOrF (tNotF (tTru (eFn 3 F_is_number (aCons (eOp2 ixV (eVar 0) (eC (.int 1))) (aCons (eC (.int 0)) (aCons (eOp2 subV (eVar 1) (eC (.int 1))) aNil)))))) (tCmp2 eqV (eOp2 ixV (eVar 0) (eC (.int 0))) (eOp2 ixV (eVar 0) (eC (.int 1))))) (sRet (eC (.bl false))) sNil) (sRet (eAnd (eFn 3 F_is_number (aCons (eOp2 ixV (eVar 0) (eC (.int 2))) (aCons (eC (.int 1)) (aCons (eC (.int 99)) aNil)))) (eFn 3 F_is_number (aCons (eOp2 ixV (eVar 0) (eC (.int 3))) (aCons (eC (.int 0)) (aCons (eC (.int 1)) aNil))))))))
@[irreducible] def F_need_town : FnS := fnS 1 3 (sSeq (sIf (tOrF (tNotF (tTru (eIsi [.tuple] (eVar 0)))) (tOrF (tCmp2 neV (eCall lenV (aCons (eVar 0) aNil)) (eC (.int 2))) (tNotF (tTru (eFn 3 F_is_number (aCons (eOp2 ixV (eVar 0) (eC (.int 0))) (aCons (eC (.int 1)) (aCons (eC (.int 9)) aNil)))))))) sBad sNil) (sSeq (sIf (tNotF (tTru (eIsi [.tuple] (eOp2 ixV (eVar 0) (eC (.int 1)))))) sBad sNil) (sFor (iEn (eOp2 ixV (eVar 0) (eC (.int 1)))) (gTp 2 (gsCons (gNm 1) (gsCons (gNm 2) gsNil))) (sIf (tOrF (tCmp2 eqV (eVar 1) (eC (.int 16))) (tNotF (tTru (eFn 2 F_is_street (aCons (eVar 2) (aCons (eOp2 ixV (eVar 0) (eC (.int 0))) aNil)))))) sBad sNil))))
def b_written_0 : SF := (sExpr (eMt "list" appendV (eVar 1) (aCons (eMt "str" joinV (eC (.str " ")) (aCons (eLst (aCons (eCall strV (aCons (eVar 2) aNil)) (aCons (eOp2 ixV (eC (.tup [.str "=", .str ">"])) (eVar 5)) (aCons (eCall strV (aCons (eVar 3) aNil)) (aCons (eCall strV (aCons (eVar 4) aNil)) aNil))))) aNil)) aNil)))
@[simp] theorem b_written_0_ap (e : Sl) (M : Mem) : b_written_0 e M = (sExpr (eMt "list" appendV (eVar 1) (aCons (eMt "str" joinV (eC (.str " ")) (aCons (eLst (aCons (eCall strV (aCons (eVar 2) aNil)) (aCons (eOp2 ixV (eC (.tup [.str "=", .str ">"])) (eVar 5)) (aCons (eCall strV (aCons (eVar 3) aNil)) (aCons (eCall strV (aCons (eVar 4) aNil)) aNil))))) aNil)) aNil))) e M := rfl
def t_written_1 : SF := (sSeq (sFor (iSq (eOp2 ixV (eVar 0) (eC (.int 1)))) (gTp 4 (gsCons (gNm 2) (gsCons (gNm 3) (gsCons (gNm 4) (gsCons (gNm 5) gsNil))))) b_written_0) (sRet (eMt "str" joinV (eC (.str "\n")) (aCons (eVar 1) aNil))))
@[simp] theorem t_written_1_ap (e : Sl) (M : Mem) : t_written_1 e M = (sSeq (sFor (iSq (eOp2 ixV (eVar 0) (eC (.int 1)))) (gTp 4 (gsCons (gNm 2) (gsCons (gNm 3) (gsCons (gNm 4) (gsCons (gNm 5) gsNil))))) b_written_0) (sRet (eMt "str" joinV (eC (.str "\n")) (aCons (eVar 1) aNil)))) e M := rfl
def t_written_2 : SF := (sSeq (sAsg (eLst (aCons (eOp2 addV (eOp2 addV (eC (.str "town")) (eC (.str " "))) (eCall strV (aCons (eOp2 ixV (eVar 0) (eC (.int 0))) aNil))) aNil)) (gNm 1)) t_written_1)
@[simp] theorem t_written_2_ap (e : Sl) (M : Mem) : t_written_2 e M = (sSeq (sAsg (eLst (aCons (eOp2 addV (eOp2 addV (eC (.str "town")) (eC (.str " "))) (eCall strV (aCons (eOp2 ixV (eVar 0) (eC (.int 0))) aNil))) aNil)) (gNm 1)) t_written_1) e M := rfl
@[irreducible] def F_written : FnS := fnS 1 6 (sSeq (sExpr (eFn 1 F_need_town (aCons (eVar 0) aNil))) t_written_2)
def t_number_of_0 : SF := (sSeq (sIf (tAndF (tCmp2 eqV (eOp2 ixV (eVar 0) (eC (.int 0))) (eC (.str "0"))) (tCmp2 neV (eVar 0) (eC (.str "0")))) sBad sNil) (sRet (eCall intSV (aCons (eVar 0) aNil))))
@[simp] theorem t_number_of_0_ap (e : Sl) (M : Mem) : t_number_of_0 e M = (sSeq (sIf (tAndF (tCmp2 eqV (eOp2 ixV (eVar 0) (eC (.int 0))) (eC (.str "0"))) (tCmp2 neV (eVar 0) (eC (.str "0")))) sBad sNil) (sRet (eCall intSV (aCons (eVar 0) aNil)))) e M := rfl
@[irreducible] def F_number_of : FnS := fnS 2 4 (sSeq (sIf (tOrF (tNotF (tOfE (eChain (cmpV fun i j => decide (i ≤ j)) (cmpV fun i j => decide (i ≤ j)) (eC (.int 1)) (eCall lenV (aCons (eVar 0) aNil)) (eC (.int 2))))) (tTru (eCall anyV (aCons (eLc (iSq (eVar 0)) (.one 3) tTrue (eOp2 notInV (eVar 3) (eC (.str "0123456789"))) [2, 3]) aNil)))) sBad sNil) t_number_of_0)
def b_read_0 : SF := (sSeq (sIf (tOrF (tCmp2 neV (eOp2 ixV (eVar 5) (eC (.int 0))) (eC (.str "town"))) (tCmp2 neV (eCall lenV (aCons (eVar 5) aNil)) (eC (.int 2)))) sBad sNil) (sAsg (eFn 2 F_number_of (aCons (eOp2 ixV (eVar 5) (eC (.int 1))) (aCons (eC (.int 0)) aNil))) (gNm 1)))
@[simp] theorem b_read_0_ap (e : Sl) (M : Mem) : b_read_0 e M = (sSeq (sIf (tOrF (tCmp2 neV (eOp2 ixV (eVar 5) (eC (.int 0))) (eC (.str "town"))) (tCmp2 neV (eCall lenV (aCons (eVar 5) aNil)) (eC (.int 2)))) sBad sNil) (sAsg (eFn 2 F_number_of (aCons (eOp2 ixV (eVar 5) (eC (.int 1))) (aCons (eC (.int 0)) aNil))) (gNm 1))) e M := rfl
def b_read_1 : SF := (sSeq (sAsg (eLc (iSq (eTup (aCons (eOp2 ixV (eVar 5) (eC (.int 0))) (aCons (eOp2 ixV (eVar 5) (eC (.int 2))) (aCons (eOp2 ixV (eVar 5) (eC (.int 3))) aNil))))) (.one 8) tTrue (eFn 2 F_number_of (aCons (eVar 8) (aCons (eVar 3) aNil))) [7, 8]) (gNm 6)) (sAsg (eOp2 addV (eVar 2) (eTup (aCons (eOp2 addV (eCall tupleV (aCons (eVar 6) aNil)) (eTup (aCons (eSgIx ["=", ">"] (eOp2 ixV (eVar 5) (eC (.int 1)))) aNil))) aNil))) (gNm 2)))
@[simp] theorem b_read_1_ap (e : Sl) (M : Mem) : b_read_1 e M = (sSeq (sAsg (eLc (iSq (eTup (aCons (eOp2 ixV (eVar 5) (eC (.int 0))) (aCons (eOp2 ixV (eVar 5) (eC (.int 2))) (aCons (eOp2 ixV (eVar 5) (eC (.int 3))) aNil))))) (.one 8) tTrue (eFn 2 F_number_of (aCons (eVar 8) (aCons (eVar 3) aNil))) [7, 8]) (gNm 6)) (sAsg (eOp2 addV (eVar 2) (eTup (aCons (eOp2 addV (eCall tupleV (aCons (eVar 6) aNil)) (eTup (aCons (eSgIx ["=", ">"] (eOp2 ixV (eVar 5) (eC (.int 1)))) aNil))) aNil))) (gNm 2))) e M := rfl
def b_read_2 : SF := (sSeq (sAsg (eMt "str" splitV (eVar 4) (aCons (eC (.str " ")) aNil)) (gNm 5)) (sIf (tCmp2 eqV (eVar 3) (eC (.int 0))) b_read_0 (sIf (tOrF (tCmp2 neV (eCall lenV (aCons (eVar 5) aNil)) (eC (.int 4))) (tCmp2 notInV (eOp2 ixV (eVar 5) (eC (.int 1))) (eC (.tup [.str "=", .str ">"])))) sBad b_read_1)))
@[simp] theorem b_read_2_ap (e : Sl) (M : Mem) : b_read_2 e M = (sSeq (sAsg (eMt "str" splitV (eVar 4) (aCons (eC (.str " ")) aNil)) (gNm 5)) (sIf (tCmp2 eqV (eVar 3) (eC (.int 0))) b_read_0 (sIf (tOrF (tCmp2 neV (eCall lenV (aCons (eVar 5) aNil)) (eC (.int 4))) (tCmp2 notInV (eOp2 ixV (eVar 5) (eC (.int 1))) (eC (.tup [.str "=", .str ">"])))) sBad b_read_1))) e M := rfl
def t_read_3 : SF := (sSeq (sExpr (eFn 1 F_need_town (aCons (eTup (aCons (eVar 1) (aCons (eVar 2) aNil))) aNil))) (sRet (eTup (aCons (eVar 1) (aCons (eVar 2) aNil)))))
@[simp] theorem t_read_3_ap (e : Sl) (M : Mem) : t_read_3 e M = (sSeq (sExpr (eFn 1 F_need_town (aCons (eTup (aCons (eVar 1) (aCons (eVar 2) aNil))) aNil))) (sRet (eTup (aCons (eVar 1) (aCons (eVar 2) aNil))))) e M := rfl
def t_read_4 : SF := (sSeq (sFor (iEn (eMt "str" splitV (eVar 0) (aCons (eC (.str "\n")) aNil))) (gTp 2 (gsCons (gNm 3) (gsCons (gNm 4) gsNil))) b_read_2) t_read_3)
@[simp] theorem t_read_4_ap (e : Sl) (M : Mem) : t_read_4 e M = (sSeq (sFor (iEn (eMt "str" splitV (eVar 0) (aCons (eC (.str "\n")) aNil))) (gTp 2 (gsCons (gNm 3) (gsCons (gNm 4) gsNil))) b_read_2) t_read_3) e M := rfl
@[irreducible] def F_read : FnS := fnS 1 9 (sSeq (sAsg (eTup (aCons (eC (.int 0)) (aCons (eTup aNil) aNil))) (gTp 2 (gsCons (gNm 1) (gsCons (gNm 2) gsNil)))) t_read_4)
@[irreducible] def F__law_row : FnS := fnS 1 3 (sSeq (sAsg (eC (.int 7)) (gNm 1)) (sSeq (sFor (iSq (eVar 0)) (gNm 2) (sAsg (eOp2 modV (eOp2 addV (eOp2 addV (eOp2 mulV (eVar 1) (eC (.int 48271))) (eVar 2)) (eC (.int 11))) (eC (.int 2147483647))) (gNm 1))) (sRet (eLst (aCons (eVar 0) (aCons (eC (.int 0)) (aCons (eC (.int 0)) (aCons (eVar 1) aNil))))))))
@[irreducible] def F__law_taken : FnS := fnS 2 4 (sSeq (sIf (tCmp2 (cmpV fun i j => decide (j < i)) (eOp2 ixV (eVar 0) (eC (.int 2))) (eC (.int 0))) (sSeq (sAsg (eOp2 modV (eOp2 ixV (eVar 0) (eC (.int 2))) (eVar 1)) (gNm 2)) (sSeq (sAsg (eOp2 divV (eOp2 ixV (eVar 0) (eC (.int 2))) (eVar 1)) (gSb (eVar 0) (eC (.int 2)))) (sRet (eVar 2)))) sNil) (sSeq (sIf (tCmp2 (cmpV fun i j => decide (i < j)) (eOp2 ixV (eVar 0) (eC (.int 1))) (eCall lenV (aCons (eOp2 ixV (eVar 0) (eC (.int 0))) aNil))) (sSeq (sAsg (eOp2 ixV (eOp2 ixV (eVar 0) (eC (.int 0))) (eOp2 ixV (eVar 0) (eC (.int 1)))) (gNm 3)) (sSeq (sAsg (eOp2 addV (eOp2 ixV (eVar 0) (eC (.int 1))) (eC (.int 1))) (gSb (eVar 0) (eC (.int 1)))) (sSeq (sIf (tCmp2 (cmpV fun i j => decide (j ≤ i)) (eVar 3) (eOp2 powV (eC (.int 10)) (eC (.int 18)))) (sAsg (eOp2 divV (eVar 3) (eVar 1)) (gSb (eVar 0) (eC (.int 2)))) sNil) (sRet (eOp2 modV (eVar 3) (eVar 1)))))) sNil) (sSeq (sAsg (eOp2 modV (eOp2 addV (eOp2 mulV (eOp2 ixV (eVar 0) (eC (.int 3))) (eC (.int 48271))) (eC (.int 12345))) (eC (.int 2147483647))) (gSb (eVar 0) (eC (.int 3)))) (sRet (eOp2 modV (eOp2 divV (eOp2 ixV (eVar 0) (eC (.int 3))) (eC (.int 1009))) (eVar 1))))))
@[irreducible] def F__law_street : FnS := fnS 3 6 (sSeq (sAsg (eFn 2 F__law_taken (aCons (eVar 0) (aCons (eVar 1) aNil))) (gNm 3)) (sSeq (sAsg (eOp2 modV (eOp2 addV (eOp2 addV (eVar 3) (eC (.int 1))) (eFn 2 F__law_taken (aCons (eVar 0) (aCons (eOp2 subV (eVar 1) (eC (.int 1))) aNil)))) (eVar 1)) (gNm 4)) (sSeq (sAsg (eIf (tCmp2 eqV (eVar 2) (eC (.int 2))) (eFn 2 F__law_taken (aCons (eVar 0) (aCons (eC (.int 2)) aNil))) (eVar 2)) (gNm 5)) (sRet (eTup (aCons (eVar 3) (aCons (eVar 4) (aCons (eOp2 addV (eC (.int 1)) (eFn 2 F__law_taken (aCons (eVar 0) (aCons (eOp2 ixV (eLst (aCons (eC (.int 3)) (aCons (eC (.int 9)) (aCons (eC (.int 99)) aNil)))) (eFn 2 F__law_taken (aCons (eVar 0) (aCons (eC (.int 3)) aNil)))) aNil)))) (aCons (eVar 5) aNil)))))))))
@[irreducible] def F__law_town : FnS := fnS 4 7 (sSeq (sAsg (eOp2 addV (eC (.int 1)) (eFn 2 F__law_taken (aCons (eVar 0) (aCons (eVar 1) aNil)))) (gNm 4)) (sSeq (sIf (tCmp2 eqV (eVar 4) (eC (.int 1))) (sRet (eTup (aCons (eC (.int 1)) (aCons (eTup aNil) aNil)))) sNil) (sRet (eTup (aCons (eVar 4) (aCons (eCall tupleV (aCons (eLc (iR1 (eFn 2 F__law_taken (aCons (eVar 0) (aCons (eOp2 addV (eVar 2) (eC (.int 1))) aNil)))) (.one 6) tTrue (eFn 3 F__law_street (aCons (eVar 0) (aCons (eVar 4) (aCons (eVar 3) aNil)))) [5, 6]) aNil)) aNil))))))
def F__law_alike : Nat → FnS
  | 0 => fun _ _ => .bad
  | m + 1 => fnS 2 5 (sSeq (sIf (tTru (eIsi [.tuple, .list] (eVar 1))) (sSeq (sIf (tOrF (tCmp2 neV (eIsi [.tuple] (eVar 0)) (eIsi [.tuple] (eVar 1))) (tNotF (tTru (eIsi [.tuple, .list] (eVar 0))))) (sRet (eC (.bl false))) sNil) (sSeq (sIf (tCmp2 neV (eCall lenV (aCons (eVar 0) aNil)) (eCall lenV (aCons (eVar 1) aNil))) (sRet (eC (.bl false))) sNil) (sRet (eOp2 eqV (eLc (iR1 (eCall lenV (aCons (eVar 1) aNil))) (.one 4) (tNotF (tTru (eFn 2 (F__law_alike m) (aCons (eOp2 ixV (eVar 0) (eVar 4)) (aCons (eOp2 ixV (eVar 1) (eVar 4)) aNil))))) (eVar 4) [3, 4]) (eLst aNil))))) sNil) (sSeq (sIf (tOrF (tCmp2 isN (eVar 1) (eC .non)) (tCmp2 isN (eVar 0) (eC .non))) (sRet (eAnd (eOp2 isN (eVar 1) (eC .non)) (eOp2 isN (eVar 0) (eC .non)))) sNil) (sSeq (sAsg (eOp2 eqV (eIsi [.str] (eVar 1)) (eIsi [.str] (eVar 0))) (gNm 2)) (sRet (eAnd (eVar 2) (eAnd (eOp2 eqV (eIsi [.bool] (eVar 1)) (eIsi [.bool] (eVar 0))) (eOp2 eqV (eVar 0) (eVar 1))))))))
def b_law_0 : SF := (sExpr (eMt "list" appendV (eVar 4) (aCons (eOp2 addV (eOp2 addV (eOp2 addV (eOp2 addV (eOp2 addV (eOp2 addV (eCall strV (aCons (eVar 5) aNil)) (eC (.str " "))) (eOp2 ixV (eC (.str "=>")) (eVar 8))) (eC (.str " "))) (eCall strV (aCons (eVar 6) aNil))) (eC (.str " "))) (eCall strV (aCons (eVar 7) aNil))) aNil)))
@[simp] theorem b_law_0_ap (e : Sl) (M : Mem) : b_law_0 e M = (sExpr (eMt "list" appendV (eVar 4) (aCons (eOp2 addV (eOp2 addV (eOp2 addV (eOp2 addV (eOp2 addV (eOp2 addV (eCall strV (aCons (eVar 5) aNil)) (eC (.str " "))) (eOp2 ixV (eC (.str "=>")) (eVar 8))) (eC (.str " "))) (eCall strV (aCons (eVar 6) aNil))) (eC (.str " "))) (eCall strV (aCons (eVar 7) aNil))) aNil))) e M := rfl
def t_law_1 : SF := (sSeq (sAsg (eMt "str" joinV (eC (.str "\n")) (aCons (eVar 4) aNil)) (gNm 9)) (sIf (tOrF (tNotF (tTru (eFn 2 (F__law_alike 6) (aCons (eFn 1 F_written (aCons (eVar 3) aNil)) (aCons (eVar 9) aNil))))) (tNotF (tTru (eFn 2 (F__law_alike 6) (aCons (eFn 1 F_read (aCons (eVar 9) aNil)) (aCons (eVar 3) aNil)))))) (sRet (eC (.bl false))) sNil))
@[simp] theorem t_law_1_ap (e : Sl) (M : Mem) : t_law_1 e M = (sSeq (sAsg (eMt "str" joinV (eC (.str "\n")) (aCons (eVar 4) aNil)) (gNm 9)) (sIf (tOrF (tNotF (tTru (eFn 2 (F__law_alike 6) (aCons (eFn 1 F_written (aCons (eVar 3) aNil)) (aCons (eVar 9) aNil))))) (tNotF (tTru (eFn 2 (F__law_alike 6) (aCons (eFn 1 F_read (aCons (eVar 9) aNil)) (aCons (eVar 3) aNil)))))) (sRet (eC (.bl false))) sNil)) e M := rfl
def t_law_2 : SF := (sSeq (sFor (iSq (eOp2 ixV (eVar 3) (eC (.int 1)))) (gTp 4 (gsCons (gNm 5) (gsCons (gNm 6) (gsCons (gNm 7) (gsCons (gNm 8) gsNil))))) b_law_0) t_law_1)
@[simp] theorem t_law_2_ap (e : Sl) (M : Mem) : t_law_2 e M = (sSeq (sFor (iSq (eOp2 ixV (eVar 3) (eC (.int 1)))) (gTp 4 (gsCons (gNm 5) (gsCons (gNm 6) (gsCons (gNm 7) (gsCons (gNm 8) gsNil))))) b_law_0) t_law_1) e M := rfl
def t_law_3 : SF := (sSeq (sAsg (eLst (aCons (eOp2 addV (eC (.str "town ")) (eCall strV (aCons (eOp2 ixV (eVar 3) (eC (.int 0))) aNil))) aNil)) (gNm 4)) t_law_2)
@[simp] theorem t_law_3_ap (e : Sl) (M : Mem) : t_law_3 e M = (sSeq (sAsg (eLst (aCons (eOp2 addV (eC (.str "town ")) (eCall strV (aCons (eOp2 ixV (eVar 3) (eC (.int 0))) aNil))) aNil)) (gNm 4)) t_law_2) e M := rfl
def b_law_4 : SF := (sSeq (sAsg (eFn 4 F__law_town (aCons (eVar 1) (aCons (eC (.int 9)) (aCons (eC (.int 16)) (aCons (eC (.int 2)) aNil))))) (gNm 3)) t_law_3)
@[simp] theorem b_law_4_ap (e : Sl) (M : Mem) : b_law_4 e M = (sSeq (sAsg (eFn 4 F__law_town (aCons (eVar 1) (aCons (eC (.int 9)) (aCons (eC (.int 16)) (aCons (eC (.int 2)) aNil))))) (gNm 3)) t_law_3) e M := rfl
def t_law_5 : SF := (sSeq (sFor (iR1 (eC (.int 5))) (gNm 2) b_law_4) (sRet (eC (.bl true))))
@[simp] theorem t_law_5_ap (e : Sl) (M : Mem) : t_law_5 e M = (sSeq (sFor (iR1 (eC (.int 5))) (gNm 2) b_law_4) (sRet (eC (.bl true)))) e M := rfl
@[irreducible] def F_law : FnS := fnS 1 10 (sSeq (sAsg (eFn 1 F__law_row (aCons (eVar 0) aNil)) (gNm 1)) t_law_5)
end Lw

namespace Lw
open PySem L2 Sm
open PyProof.Rows (envOfC)
def topS (i : Nat) : Stmt := PySem.Challenge.pw_streetrounds_k14_written_and_read.main.body.getD i (.Pass ⟨0, 0, 0, 0⟩)
structure Tx (K : PySem.W.Frag) (mg : Str → Option Value) : Prop where
  m_is_number : mg "is_number" = some (.ref (He.fAd K ("is_number", none)))
  m_is_street : mg "is_street" = some (.ref (He.fAd K ("is_street", none)))
  m_need_town : mg "need_town" = some (.ref (He.fAd K ("need_town", none)))
  m_written : mg "written" = some (.ref (He.fAd K ("written", none)))
  m_number_of : mg "number_of" = some (.ref (He.fAd K ("number_of", none)))
  m_read : mg "read" = some (.ref (He.fAd K ("read", none)))
  m__law_row : mg "_law_row" = some (.ref (He.fAd K ("_law_row", none)))
  m__law_taken : mg "_law_taken" = some (.ref (He.fAd K ("_law_taken", none)))
  m__law_street : mg "_law_street" = some (.ref (He.fAd K ("_law_street", none)))
  m__law_town : mg "_law_town" = some (.ref (He.fAd K ("_law_town", none)))
  m__law_alike : mg "_law_alike" = some (.ref (He.fAd K ("_law_alike", none)))
  m_law : mg "law" = some (.ref (He.fAd K ("law", none)))
  d_is_number : ∃ fd, FunD K "is_number" "is_number" (defArgs (topS 8)) (defBody (topS 8)) (defScope (topS 8)) [] [] (He.fAd K ("is_number", none)) fd
  d_is_street : ∃ fd, FunD K "is_street" "is_street" (defArgs (topS 9)) (defBody (topS 9)) (defScope (topS 9)) [] [] (He.fAd K ("is_street", none)) fd
  d_need_town : ∃ fd, FunD K "need_town" "need_town" (defArgs (topS 10)) (defBody (topS 10)) (defScope (topS 10)) [] [] (He.fAd K ("need_town", none)) fd
  d_written : ∃ fd, FunD K "written" "written" (defArgs (topS 16)) (defBody (topS 16)) (defScope (topS 16)) [] [] (He.fAd K ("written", none)) fd
  d_number_of : ∃ fd, FunD K "number_of" "number_of" (defArgs (topS 17)) (defBody (topS 17)) (defScope (topS 17)) [] [] (He.fAd K ("number_of", none)) fd
  d_read : ∃ fd, FunD K "read" "read" (defArgs (topS 18)) (defBody (topS 18)) (defScope (topS 18)) [] [] (He.fAd K ("read", none)) fd
  d__law_row : ∃ fd, FunD K "_law_row" "_law_row" (defArgs (topS 20)) (defBody (topS 20)) (defScope (topS 20)) [] [] (He.fAd K ("_law_row", none)) fd
  d__law_taken : ∃ fd, FunD K "_law_taken" "_law_taken" (defArgs (topS 21)) (defBody (topS 21)) (defScope (topS 21)) [] [] (He.fAd K ("_law_taken", none)) fd
  d__law_street : ∃ fd, FunD K "_law_street" "_law_street" (defArgs (topS 22)) (defBody (topS 22)) (defScope (topS 22)) [] [] (He.fAd K ("_law_street", none)) fd
  d__law_town : ∃ fd, FunD K "_law_town" "_law_town" (defArgs (topS 23)) (defBody (topS 23)) (defScope (topS 23)) [] [] (He.fAd K ("_law_town", none)) fd
  d__law_alike : ∃ fd, FunD K "_law_alike" "_law_alike" (defArgs (topS 24)) (defBody (topS 24)) (defScope (topS 24)) [] [] (He.fAd K ("_law_alike", none)) fd
  d_law : ∃ fd, FunD K "law" "law" (defArgs (topS 25)) (defBody (topS 25)) (defScope (topS 25)) [] [] (He.fAd K ("law", none)) fd
  b_any : mg "any" = none
  b_bool : mg "bool" = none
  b_enumerate : mg "enumerate" = none
  b_int : mg "int" = none
  b_isinstance : mg "isinstance" = none
  b_len : mg "len" = none
  b_list : mg "list" = none
  b_range : mg "range" = none
  b_str : mg "str" = none
  b_tuple : mg "tuple" = none
  g_FIGURES : ∃ t, mg "FIGURES" = some (.str "0123456789" t)
  g_MOST_CORNERS : ∃ t, mg "MOST_CORNERS" = some (.int 9 t)
  g_MOST_FIGURES : ∃ t, mg "MOST_FIGURES" = some (.int 2 t)
  g_MOST_LONG : ∃ t, mg "MOST_LONG" = some (.int 99 t)
  g_MOST_STREETS : ∃ t, mg "MOST_STREETS" = some (.int 16 t)
  g_TOWN : ∃ t, mg "TOWN" = some (.str "town" t)
  t_SIGNS : GTup K mg "SIGNS" ["=", ">"]
section
variable {P : Program} {w : World} {K : PySem.W.Frag} {mg : Str → Option Value} {base : Heap}
abbrev s_is_number : Stmt := topS 8
abbrev N_is_number : List Str := ["part", "low", "high"]
theorem sc_is_number : FnScope N_is_number ["part", "low", "high"] (defScope s_is_number) := ⟨rfl, rfl, rfl, by decide +kernel, rfl, by decide +kernel, by decide +kernel⟩
theorem c_is_number (T : Tx K mg)  : Cal P w K mg base "is_number" 1 3 F_is_number := by
  obtain ⟨fd, F⟩ := T.d_is_number
  unfold F_is_number
  refine cal_of F T.m_is_number sc_is_number (ps := ["part", "low", "high"]) (k := 0) (fun _ _ _ _ _ _ us hl => match us, hl with | [_, _, _], _ => rfl) (fun cdv A outer s H E hr => ?_)
  exact (ss_one (ss_ret (se_and (se_isi .int (se_var (i := 0)) T.b_isinstance T.b_int (by decide +kernel)) (se_and (se_not (se_isi .bool (se_var (i := 0)) T.b_isinstance T.b_bool (by decide +kernel))) (se_one (se_chain op_le op_le os_cmp os_cmp (se_var (i := 1)) (se_var (i := 0)) (se_var (i := 2))))))))
abbrev s_is_street : Stmt := topS 9
abbrev N_is_street : List Str := ["part", "corners"]
theorem sc_is_street : FnScope N_is_street ["part", "corners"] (defScope s_is_street) := ⟨rfl, rfl, rfl, by decide +kernel, rfl, by decide +kernel, by decide +kernel⟩
theorem c_is_street (T : Tx K mg) (C_is_number : Cal P w K mg base "is_number" 1 3 F_is_number) : Cal P w K mg base "is_street" 2 2 F_is_street := by
  obtain ⟨fd, F⟩ := T.d_is_street
  unfold F_is_street
  refine cal_of F T.m_is_street sc_is_street (ps := ["part", "corners"]) (k := 1) (fun _ _ _ _ _ _ us hl => match us, hl with | [_, _], _ => rfl) (fun cdv A outer s H E hr => ?_)
  exact (ss_cons (ss_if (st_w (sw_or (st_not (st_tru (se_isi .tuple (se_var (i := 0)) T.b_isinstance T.b_tuple (by decide +kernel)))) (sw_or (st_cmp (op_neA hr.units) os_ne (se_callB cr_len cs_len T.b_len (by decide +kernel) (sa_cons (se_var (i := 0)) sa_nil)) se_int (nomark _)) (sw_or1 (st_not (st_tru (se_callC C_is_number (hr.mono (by decide)) (takes_of rfl rfl rfl rfl) (sa_cons (se_ix ix_seq os_ix (se_var (i := 0)) se_int) (sa_cons se_int (sa_cons (se_bin op_sub os_sub (se_var (i := 1)) se_int) sa_nil)))))))))) (ss_one (ss_ret se_bl)) ss_nil)
 (ss_cons (ss_if (st_w (sw_or (st_not (st_tru (se_callC C_is_number (hr.mono (by decide)) (takes_of rfl rfl rfl rfl) (sa_cons (se_ix ix_seq os_ix (se_var (i := 0)) se_int) (sa_cons se_int (sa_cons (se_bin op_sub os_sub (se_var (i := 1)) se_int) sa_nil)))))) (sw_or1 (st_cmp (op_eqA hr.units) os_eq (se_ix ix_seq os_ix (se_var (i := 0)) se_int) (se_ix ix_seq os_ix (se_var (i := 0)) se_int) (nomark _))))) (ss_one (ss_ret se_bl)) ss_nil)
 (ss_one (ss_ret (se_and (se_callC C_is_number (hr.mono (by decide)) (takes_of rfl rfl rfl rfl) (sa_cons (se_ix ix_seq os_ix (se_var (i := 0)) se_int) (sa_cons se_int (sa_cons (se_gint T.g_MOST_LONG) sa_nil)))) (se_one (se_callC C_is_number (hr.mono (by decide)) (takes_of rfl rfl rfl rfl) (sa_cons (se_ix ix_seq os_ix (se_var (i := 0)) se_int) (sa_cons se_int (sa_cons se_int sa_nil))))))))))
abbrev s_need_town : Stmt := topS 10
abbrev N_need_town : List Str := ["town", "number", "street"]
theorem sc_need_town : FnScope N_need_town ["town"] (defScope s_need_town) := ⟨rfl, rfl, rfl, by decide +kernel, rfl, by decide +kernel, by decide +kernel⟩
theorem c_need_town (T : Tx K mg) (C_is_number : Cal P w K mg base "is_number" 1 3 F_is_number) (C_is_street : Cal P w K mg base "is_street" 2 2 F_is_street) : Cal P w K mg base "need_town" 3 1 F_need_town := by
  obtain ⟨fd, F⟩ := T.d_need_town
  unfold F_need_town
  refine cal_of F T.m_need_town sc_need_town (ps := ["town"]) (k := 2) (fun _ _ _ _ _ _ us hl => match us, hl with | [_], _ => rfl) (fun cdv A outer s H E hr => ?_)
  exact (ss_cons (ss_if (st_w (sw_or (st_not (st_tru (se_isi .tuple (se_var (i := 0)) T.b_isinstance T.b_tuple (by decide +kernel)))) (sw_or (st_cmp (op_neA hr.units) os_ne (se_callB cr_len cs_len T.b_len (by decide +kernel) (sa_cons (se_var (i := 0)) sa_nil)) se_int (nomark _)) (sw_or1 (st_not (st_tru (se_callC C_is_number (hr.mono (by decide)) (takes_of rfl rfl rfl rfl) (sa_cons (se_ix ix_seq os_ix (se_var (i := 0)) se_int) (sa_cons se_int (sa_cons (se_gint T.g_MOST_CORNERS) sa_nil)))))))))) (ss_one ss_never) ss_nil)
 (ss_cons (ss_if (st_not (st_tru (se_isi .tuple (se_ix ix_seq os_ix (se_var (i := 0)) se_int) T.b_isinstance T.b_tuple (by decide +kernel)))) (ss_one ss_never) ss_nil)
 (ss_one (ss_for (passes_of rfl) rfl (si_enum (se_ix ix_seq os_ix (se_var (i := 0)) se_int) T.b_enumerate) (sg_tup rfl (sgs_cons (sg_name (i := 1) sc_need_town.nd) (sgs_cons (sg_name (i := 2) sc_need_town.nd) sgs_nil))) (ss_one (ss_if (st_w (sw_or (st_cmp (op_eqA hr.units) os_eq (se_var (i := 1)) (se_gint T.g_MOST_STREETS) (nomark _)) (sw_or1 (st_not (st_tru (se_callC C_is_street (hr.mono (by decide)) (takes_of rfl rfl rfl rfl) (sa_cons (se_var (i := 2)) (sa_cons (se_ix ix_seq os_ix (se_var (i := 0)) se_int) sa_nil)))))))) (ss_one ss_never) ss_nil))))))
abbrev s_written : Stmt := topS 16
abbrev N_written : List Str := ["town", "rows", "first", "second", "long", "is_one_way"]
theorem sc_written : FnScope N_written ["town"] (defScope s_written) := ⟨rfl, rfl, rfl, by decide +kernel, rfl, by decide +kernel, by decide +kernel⟩
theorem c_written (T : Tx K mg) (C_need_town : Cal P w K mg base "need_town" 3 1 F_need_town) : Cal P w K mg base "written" 4 1 F_written := by
  obtain ⟨fd, F⟩ := T.d_written
  unfold F_written
  refine cal_of F T.m_written sc_written (ps := ["town"]) (k := 3) (fun _ _ _ _ _ _ us hl => match us, hl with | [_], _ => rfl) (fun cdv A outer s H E hr => ?_)
  exact (ss_cons (ss_expr (se_callC C_need_town (hr.mono (by decide)) (takes_of rfl rfl rfl rfl) (sa_cons (se_var (i := 0)) sa_nil)))
 (ss_cons (ss_asg (se_lst (sa_cons (se_bin op_addA os_add (se_bin op_addA os_add (se_gstr T.g_TOWN) se_str) (se_callTy call_str_int cs_str T.b_str (by decide +kernel) (sa_cons (se_ix ix_seq os_ix (se_var (i := 0)) se_int) sa_nil))) sa_nil)) (sg_name (i := 1) sc_written.nd))
 (ss_cons (ss_for (passes_of rfl) rfl (si_seq (se_ix ix_seq os_ix (se_var (i := 0)) se_int)) (sg_tup rfl (sgs_cons (sg_name (i := 2) sc_written.nd) (sgs_cons (sg_name (i := 3) sc_written.nd) (sgs_cons (sg_name (i := 4) sc_written.nd) (sgs_cons (sg_name (i := 5) sc_written.nd) sgs_nil))))) (ss_one (ss_expr (se_mt PySem.F.plainAttrs_list PySem.F.slot_list_append PySem.F.type_list_append mt_append ms_append (se_var (i := 1)) (sa_cons (se_mt PySem.F.plainAttrs_str PySem.F.slot_str_join PySem.F.type_str_join mt_join' ms_join se_str (sa_cons (se_lst (sa_cons (se_callTy call_str_int cs_str T.b_str (by decide +kernel) (sa_cons (se_var (i := 2)) sa_nil)) (sa_cons (se_ix ix_seq os_ix (se_gtup (x := "SIGNS") (ys := ["=", ">"]) T.t_SIGNS) (se_var (i := 5))) (sa_cons (se_callTy call_str_int cs_str T.b_str (by decide +kernel) (sa_cons (se_var (i := 3)) sa_nil)) (sa_cons (se_callTy call_str_int cs_str T.b_str (by decide +kernel) (sa_cons (se_var (i := 4)) sa_nil)) sa_nil))))) sa_nil)) sa_nil)))))
 (ss_one (ss_ret (se_mt PySem.F.plainAttrs_str PySem.F.slot_str_join PySem.F.type_str_join mt_join' ms_join se_str (sa_cons (se_var (i := 1)) sa_nil)))))))
abbrev s_number_of : Stmt := topS 17
abbrev N_number_of : List Str := ["word", "row", ".0", "sign"]
theorem sc_number_of : FnScope N_number_of ["word", "row"] (defScope s_number_of) := ⟨rfl, rfl, rfl, by decide +kernel, rfl, by decide +kernel, by decide +kernel⟩
theorem c_number_of (T : Tx K mg)  : Cal P w K mg base "number_of" 1 2 F_number_of := by
  obtain ⟨fd, F⟩ := T.d_number_of
  unfold F_number_of
  refine cal_of F T.m_number_of sc_number_of (ps := ["word", "row"]) (k := 0) (fun _ _ _ _ _ _ us hl => match us, hl with | [_, _], _ => rfl) (fun cdv A outer s H E hr => ?_)
  exact (ss_cons (ss_if (st_w (sw_or (st_not (st_chain op_le op_le os_cmp os_cmp se_int (se_callB cr_len cs_len T.b_len (by decide +kernel) (sa_cons (se_var (i := 0)) sa_nil)) (se_gint T.g_MOST_FIGURES))) (sw_or1 (st_tru (se_callB (cr_any rfl) cs_any T.b_any (by decide +kernel) (sa_cons (se_lc (own := [(".0", 2), ("sign", 3)]) (g := (.one 3)) rfl sc_number_of.nd (si_seq (se_var (i := 0))) (blkOk_by (own := [(".0", 2), ("sign", 3)]) (N := N_number_of) (by kernel_rfl)) (by decide) (fun _ _ _ _ _ => (sl_one (i := 3) sc_number_of.nd)) (fun _ _ _ _ _ => sts_nil) (fun _ _ _ _ _ => (se_cmp (op_notInA (hr_u65 hr)) os_notIn (se_var (i := 3)) (se_gstr T.g_FIGURES) (by rfl)))) sa_nil)))))) (ss_one ss_never) ss_nil)
 (ss_cons (ss_if (st_w (sw_and (st_cmp (op_eqA hr.units) os_eq (se_ix ix_seq os_ix (se_var (i := 0)) se_int) se_str (nomark _)) (sw_and1 (st_cmp (op_neA hr.units) os_ne (se_var (i := 0)) se_str (nomark _))))) (ss_one ss_never) ss_nil)
 (ss_one (ss_ret (se_callTy call_int2 cs_int2 T.b_int (by decide +kernel) (sa_cons (se_var (i := 0)) sa_nil))))))
abbrev s_read : Stmt := topS 18
abbrev N_read : List Str := ["text", "corners", "streets", "row", "line", "words", "numbers", ".0", "word"]
theorem sc_read : FnScope N_read ["text"] (defScope s_read) := ⟨rfl, rfl, rfl, by decide +kernel, rfl, by decide +kernel, by decide +kernel⟩
theorem c_read (T : Tx K mg) (C_number_of : Cal P w K mg base "number_of" 1 2 F_number_of) (C_need_town : Cal P w K mg base "need_town" 3 1 F_need_town) : Cal P w K mg base "read" 4 1 F_read := by
  obtain ⟨fd, F⟩ := T.d_read
  unfold F_read
  refine cal_of F T.m_read sc_read (ps := ["text"]) (k := 3) (fun _ _ _ _ _ _ us hl => match us, hl with | [_], _ => rfl) (fun cdv A outer s H E hr => ?_)
  exact (ss_cons (ss_asg (se_tup (sa_cons se_int (sa_cons (se_tup sa_nil) sa_nil))) (sg_tup rfl (sgs_cons (sg_name (i := 1) sc_read.nd) (sgs_cons (sg_name (i := 2) sc_read.nd) sgs_nil))))
 (ss_cons (ss_for (passes_of rfl) rfl (si_enum (se_mt PySem.F.plainAttrs_str PySem.F.slot_str_split PySem.F.type_str_split mt_split' ms_split (se_var (i := 0)) (sa_cons se_str sa_nil)) T.b_enumerate) (sg_tup rfl (sgs_cons (sg_name (i := 3) sc_read.nd) (sgs_cons (sg_name (i := 4) sc_read.nd) sgs_nil))) (ss_cons (ss_asg (se_mt PySem.F.plainAttrs_str PySem.F.slot_str_split PySem.F.type_str_split mt_split' ms_split (se_var (i := 4)) (sa_cons se_str sa_nil)) (sg_name (i := 5) sc_read.nd))
 (ss_one (ss_if (st_cmp (op_eqA hr.units) os_eq (se_var (i := 3)) se_int (nomark _)) (ss_cons (ss_if (st_w (sw_or (st_cmp (op_neA hr.units) os_ne (se_ix ix_seq os_ix (se_var (i := 5)) se_int) (se_gstr T.g_TOWN) (nomark _)) (sw_or1 (st_cmp (op_neA hr.units) os_ne (se_callB cr_len cs_len T.b_len (by decide +kernel) (sa_cons (se_var (i := 5)) sa_nil)) se_int (nomark _))))) (ss_one ss_never) ss_nil)
 (ss_one (ss_asg (se_callC C_number_of (hr.mono (by decide)) (takes_of rfl rfl rfl rfl) (sa_cons (se_ix ix_seq os_ix (se_var (i := 5)) se_int) (sa_cons se_int sa_nil))) (sg_name (i := 1) sc_read.nd)))) (ss_one (ss_if (st_w (sw_or (st_cmp (op_neA hr.units) os_ne (se_callB cr_len cs_len T.b_len (by decide +kernel) (sa_cons (se_var (i := 5)) sa_nil)) se_int (nomark _)) (sw_or1 (st_cmp (op_notInA (hr_u65 hr)) os_notIn (se_ix ix_seq os_ix (se_var (i := 5)) se_int) (se_gtup (x := "SIGNS") (ys := ["=", ">"]) T.t_SIGNS) (by rfl))))) (ss_one ss_never) (ss_cons (ss_setLc (i := 6) (own := [(".0", 7), ("word", 8)]) (g := (.one 8)) rfl sc_read.nd (sw_true rfl rfl rfl (by decide +kernel)) (si_seq (se_tup (sa_cons (se_ix ix_seq os_ix (se_var (i := 5)) se_int) (sa_cons (se_ix ix_seq os_ix (se_var (i := 5)) se_int) (sa_cons (se_ix ix_seq os_ix (se_var (i := 5)) se_int) sa_nil))))) (blkOk_by (own := [(".0", 7), ("word", 8)]) (N := N_read) (by kernel_rfl)) (by decide) (fun _ _ _ _ _ => (sl_one (i := 8) sc_read.nd)) (fun _ _ _ _ _ => sts_nil) (fun _ _ _ _ _ => (se_callC C_number_of (hr.mono (by decide)) takes0 (sa_cons (se_var (i := 8)) (sa_cons (se_var (i := 3)) sa_nil)))))
 (ss_one (ss_asg (se_bin op_addA os_add (se_var (i := 2)) (se_tup (sa_cons (se_bin op_addA os_add (se_callTy call_tuple_of cs_tuple T.b_tuple (by decide +kernel) (sa_cons (se_var (i := 6)) sa_nil)) (se_tup (sa_cons (se_gtupIx (x := "SIGNS") (ys := ["=", ">"]) T.t_SIGNS (se_ix ix_seq os_ix (se_var (i := 5)) se_int)) sa_nil))) sa_nil))) (sg_name (i := 2) sc_read.nd))))))))))
 (ss_cons (ss_expr (se_callC C_need_town (hr.mono (by decide)) (takes_of rfl rfl rfl rfl) (sa_cons (se_tup (sa_cons (se_var (i := 1)) (sa_cons (se_var (i := 2)) sa_nil))) sa_nil)))
 (ss_one (ss_ret (se_tup (sa_cons (se_var (i := 1)) (sa_cons (se_var (i := 2)) sa_nil))))))))
abbrev s__law_row : Stmt := topS 20
abbrev N__law_row : List Str := ["_law_script", "_law_mixed", "_law_cell"]
theorem sc__law_row : FnScope N__law_row ["_law_script"] (defScope s__law_row) := ⟨rfl, rfl, rfl, by decide +kernel, rfl, by decide +kernel, by decide +kernel⟩
theorem c__law_row (T : Tx K mg)  : Cal P w K mg base "_law_row" 1 1 F__law_row := by
  obtain ⟨fd, F⟩ := T.d__law_row
  unfold F__law_row
  refine cal_of F T.m__law_row sc__law_row (ps := ["_law_script"]) (k := 0) (fun _ _ _ _ _ _ us hl => match us, hl with | [_], _ => rfl) (fun cdv A outer s H E hr => ?_)
  exact (ss_cons (ss_asg se_int (sg_name (i := 1) sc__law_row.nd))
 (ss_cons (ss_for (passes_of rfl) rfl (si_seq (se_var (i := 0))) (sg_name (i := 2) sc__law_row.nd) (ss_one (ss_asg (se_bin op_mod os_mod (se_bin op_addA os_add (se_bin op_addA os_add (se_bin op_mulA os_mul (se_var (i := 1)) se_int) (se_var (i := 2))) se_int) se_int) (sg_name (i := 1) sc__law_row.nd))))
 (ss_one (ss_ret (se_lst (sa_cons (se_var (i := 0)) (sa_cons se_int (sa_cons se_int (sa_cons (se_var (i := 1)) sa_nil)))))))))
abbrev s__law_taken : Stmt := topS 21
abbrev N__law_taken : List Str := ["_law_row_here", "_law_many", "_law_found", "_law_cell"]
theorem sc__law_taken : FnScope N__law_taken ["_law_row_here", "_law_many"] (defScope s__law_taken) := ⟨rfl, rfl, rfl, by decide +kernel, rfl, by decide +kernel, by decide +kernel⟩
theorem c__law_taken (T : Tx K mg)  : Cal P w K mg base "_law_taken" 1 2 F__law_taken := by
  obtain ⟨fd, F⟩ := T.d__law_taken
  unfold F__law_taken
  refine cal_of F T.m__law_taken sc__law_taken (ps := ["_law_row_here", "_law_many"]) (k := 0) (fun _ _ _ _ _ _ us hl => match us, hl with | [_, _], _ => rfl) (fun cdv A outer s H E hr => ?_)
  exact (ss_cons (ss_if (st_cmp op_gt os_cmp (se_ix ix_seq os_ix (se_var (i := 0)) se_int) se_int (nomark _)) (ss_cons (ss_asg (se_bin op_mod os_mod (se_ix ix_seq os_ix (se_var (i := 0)) se_int) (se_var (i := 1))) (sg_name (i := 2) sc__law_taken.nd))
 (ss_cons (ss_asg (se_bin op_fdiv os_div (se_ix ix_seq os_ix (se_var (i := 0)) se_int) (se_var (i := 1))) (sg_sub (se_var (i := 0)) se_int))
 (ss_one (ss_ret (se_var (i := 2)))))) ss_nil)
 (ss_cons (ss_if (st_cmp op_lt os_cmp (se_ix ix_seq os_ix (se_var (i := 0)) se_int) (se_callB cr_len cs_len T.b_len (by decide +kernel) (sa_cons (se_ix ix_seq os_ix (se_var (i := 0)) se_int) sa_nil)) (nomark _)) (ss_cons (ss_asg (se_ix ix_seq os_ix (se_ix ix_seq os_ix (se_var (i := 0)) se_int) (se_ix ix_seq os_ix (se_var (i := 0)) se_int)) (sg_name (i := 3) sc__law_taken.nd))
 (ss_cons (ss_asg (se_bin op_addA os_add (se_ix ix_seq os_ix (se_var (i := 0)) se_int) se_int) (sg_sub (se_var (i := 0)) se_int))
 (ss_cons (ss_if (st_cmp op_ge os_cmp (se_var (i := 3)) (se_bin op_pow os_pow se_int se_int) (nomark _)) (ss_one (ss_asg (se_bin op_fdiv os_div (se_var (i := 3)) (se_var (i := 1))) (sg_sub (se_var (i := 0)) se_int))) ss_nil)
 (ss_one (ss_ret (se_bin op_mod os_mod (se_var (i := 3)) (se_var (i := 1)))))))) ss_nil)
 (ss_cons (ss_asg (se_bin op_mod os_mod (se_bin op_addA os_add (se_bin op_mulA os_mul (se_ix ix_seq os_ix (se_var (i := 0)) se_int) se_int) se_int) se_int) (sg_sub (se_var (i := 0)) se_int))
 (ss_one (ss_ret (se_bin op_mod os_mod (se_bin op_fdiv os_div (se_ix ix_seq os_ix (se_var (i := 0)) se_int) se_int) (se_var (i := 1))))))))
abbrev s__law_street : Stmt := topS 22
abbrev N__law_street : List Str := ["_law_row_here", "_law_corners", "_law_kind", "_law_first", "_law_second", "_law_one_way"]
theorem sc__law_street : FnScope N__law_street ["_law_row_here", "_law_corners", "_law_kind"] (defScope s__law_street) := ⟨rfl, rfl, rfl, by decide +kernel, rfl, by decide +kernel, by decide +kernel⟩
theorem c__law_street (T : Tx K mg) (C__law_taken : Cal P w K mg base "_law_taken" 1 2 F__law_taken) : Cal P w K mg base "_law_street" 2 3 F__law_street := by
  obtain ⟨fd, F⟩ := T.d__law_street
  unfold F__law_street
  refine cal_of F T.m__law_street sc__law_street (ps := ["_law_row_here", "_law_corners", "_law_kind"]) (k := 1) (fun _ _ _ _ _ _ us hl => match us, hl with | [_, _, _], _ => rfl) (fun cdv A outer s H E hr => ?_)
  exact (ss_cons (ss_asg (se_callC C__law_taken (hr.mono (by decide)) (takes_of rfl rfl rfl rfl) (sa_cons (se_var (i := 0)) (sa_cons (se_var (i := 1)) sa_nil))) (sg_name (i := 3) sc__law_street.nd))
 (ss_cons (ss_asg (se_bin op_mod os_mod (se_bin op_addA os_add (se_bin op_addA os_add (se_var (i := 3)) se_int) (se_callC C__law_taken (hr.mono (by decide)) (takes_of rfl rfl rfl rfl) (sa_cons (se_var (i := 0)) (sa_cons (se_bin op_sub os_sub (se_var (i := 1)) se_int) sa_nil)))) (se_var (i := 1))) (sg_name (i := 4) sc__law_street.nd))
 (ss_cons (ss_asg (se_ifExp (st_cmp (op_eqA hr.units) os_eq (se_var (i := 2)) se_int (nomark _)) (se_callC C__law_taken (hr.mono (by decide)) (takes_of rfl rfl rfl rfl) (sa_cons (se_var (i := 0)) (sa_cons se_int sa_nil))) (se_var (i := 2))) (sg_name (i := 5) sc__law_street.nd))
 (ss_one (ss_ret (se_tup (sa_cons (se_var (i := 3)) (sa_cons (se_var (i := 4)) (sa_cons (se_bin op_addA os_add se_int (se_callC C__law_taken (hr.mono (by decide)) (takes_of rfl rfl rfl rfl) (sa_cons (se_var (i := 0)) (sa_cons (se_ix ix_seq os_ix (se_lst (sa_cons se_int (sa_cons se_int (sa_cons se_int sa_nil)))) (se_callC C__law_taken (hr.mono (by decide)) (takes_of rfl rfl rfl rfl) (sa_cons (se_var (i := 0)) (sa_cons se_int sa_nil)))) sa_nil)))) (sa_cons (se_var (i := 5)) sa_nil))))))))))
abbrev s__law_town : Stmt := topS 23
abbrev N__law_town : List Str := ["_law_row_here", "_law_corners", "_law_streets", "_law_kind", "_law_many", ".0", "_law_k"]
theorem sc__law_town : FnScope N__law_town ["_law_row_here", "_law_corners", "_law_streets", "_law_kind"] (defScope s__law_town) := ⟨rfl, rfl, rfl, by decide +kernel, rfl, by decide +kernel, by decide +kernel⟩
theorem c__law_town (T : Tx K mg) (C__law_taken : Cal P w K mg base "_law_taken" 1 2 F__law_taken) (C__law_street : Cal P w K mg base "_law_street" 2 3 F__law_street) : Cal P w K mg base "_law_town" 3 4 F__law_town := by
  obtain ⟨fd, F⟩ := T.d__law_town
  unfold F__law_town
  refine cal_of F T.m__law_town sc__law_town (ps := ["_law_row_here", "_law_corners", "_law_streets", "_law_kind"]) (k := 2) (fun _ _ _ _ _ _ us hl => match us, hl with | [_, _, _, _], _ => rfl) (fun cdv A outer s H E hr => ?_)
  exact (ss_cons (ss_asg (se_bin op_addA os_add se_int (se_callC C__law_taken (hr.mono (by decide)) (takes_of rfl rfl rfl rfl) (sa_cons (se_var (i := 0)) (sa_cons (se_var (i := 1)) sa_nil)))) (sg_name (i := 4) sc__law_town.nd))
 (ss_cons (ss_if (st_cmp (op_eqA hr.units) os_eq (se_var (i := 4)) se_int (nomark _)) (ss_one (ss_ret (se_tup (sa_cons se_int (sa_cons (se_tup sa_nil) sa_nil))))) ss_nil)
 (ss_one (ss_ret (se_tup (sa_cons (se_var (i := 4)) (sa_cons (se_callTy call_tuple_of cs_tuple T.b_tuple (by decide +kernel) (sa_cons (se_lc (own := [(".0", 5), ("_law_k", 6)]) (g := (.one 6)) rfl sc__law_town.nd (si_r1 (se_callC C__law_taken (hr.mono (by decide)) (takes_of rfl rfl rfl rfl) (sa_cons (se_var (i := 0)) (sa_cons (se_bin op_addA os_add (se_var (i := 2)) se_int) sa_nil))) T.b_range) (blkOk_by (own := [(".0", 5), ("_law_k", 6)]) (N := N__law_town) (by kernel_rfl)) (by decide) (fun _ _ _ _ _ => (sl_one (i := 6) sc__law_town.nd)) (fun _ _ _ _ _ => sts_nil) (fun _ _ _ _ _ => (se_callC C__law_street (hr.mono (by decide)) takes0 (sa_cons (se_var (i := 0)) (sa_cons (se_var (i := 4)) (sa_cons (se_var (i := 3)) sa_nil)))))) sa_nil)) sa_nil)))))))
abbrev s__law_alike : Stmt := topS 24
abbrev N__law_alike : List Str := ["_law_found", "_law_due", "_law_same_kind", ".0", "_law_k"]
theorem sc__law_alike : FnScope N__law_alike ["_law_found", "_law_due"] (defScope s__law_alike) := ⟨rfl, rfl, rfl, by decide +kernel, rfl, by decide +kernel, by decide +kernel⟩
theorem c__law_alike_rec (T : Tx K mg)  : ∀ m : Nat, Cal P w K mg base "_law_alike" (1 + m) 2 (F__law_alike m)
  | 0 => cal_bad T.d__law_alike T.m__law_alike (ps := ["_law_found", "_law_due"]) rfl (fun _ _ _ _ _ _ us hl => match us, hl with | [_, _], _ => rfl)
  | m + 1 => by
    have C__law_alike := c__law_alike_rec T  m
    obtain ⟨fd, F⟩ := T.d__law_alike
    refine cal_of F T.m__law_alike sc__law_alike (ps := ["_law_found", "_law_due"]) (k := 1 + m) (fun _ _ _ _ _ _ us hl => match us, hl with | [_, _], _ => rfl) (fun cdv A outer s H E hr => ?_)
    exact (ss_cons (ss_if (st_tru (se_isi2 .tuple .list (se_var (i := 1)) T.b_isinstance T.b_tuple (by decide +kernel) T.b_list (by decide +kernel))) (ss_cons (ss_if (st_w (sw_or (st_cmp (op_neA hr.units) os_ne (se_isi .tuple (se_var (i := 0)) T.b_isinstance T.b_tuple (by decide +kernel)) (se_isi .tuple (se_var (i := 1)) T.b_isinstance T.b_tuple (by decide +kernel)) (nomark _)) (sw_or1 (st_not (st_tru (se_isi2 .tuple .list (se_var (i := 0)) T.b_isinstance T.b_tuple (by decide +kernel) T.b_list (by decide +kernel))))))) (ss_one (ss_ret se_bl)) ss_nil)
 (ss_cons (ss_if (st_cmp (op_neA hr.units) os_ne (se_callB cr_len cs_len T.b_len (by decide +kernel) (sa_cons (se_var (i := 0)) sa_nil)) (se_callB cr_len cs_len T.b_len (by decide +kernel) (sa_cons (se_var (i := 1)) sa_nil)) (nomark _)) (ss_one (ss_ret se_bl)) ss_nil)
 (ss_one (ss_ret (se_cmp (op_eqA hr.units) os_eq (se_lc (own := [(".0", 3), ("_law_k", 4)]) (g := (.one 4)) rfl sc__law_alike.nd (si_r1 (se_callB cr_len cs_len T.b_len (by decide +kernel) (sa_cons (se_var (i := 1)) sa_nil)) T.b_range) (blkOk_by (own := [(".0", 3), ("_law_k", 4)]) (N := N__law_alike) (by kernel_rfl)) (by decide) (fun _ _ _ _ _ => (sl_one (i := 4) sc__law_alike.nd)) (fun _ _ _ _ _ => (sts_one (st_not (st_tru (se_callC C__law_alike (hr.mono (Nat.le_refl _)) takes0 (sa_cons (se_ix ix_seq os_ix (se_var (i := 0)) (se_var (i := 4))) (sa_cons (se_ix ix_seq os_ix (se_var (i := 1)) (se_var (i := 4))) sa_nil))))))) (fun _ _ _ _ _ => (se_var (i := 4)))) (se_lst sa_nil) (nomark _)))))) ss_nil)
 (ss_cons (ss_if (st_w (sw_or (st_cmp op_isN os_isN (se_var (i := 1)) se_non (nomark _)) (sw_or1 (st_cmp op_isN os_isN (se_var (i := 0)) se_non (nomark _))))) (ss_one (ss_ret (se_and (se_cmp op_isN os_isN (se_var (i := 1)) se_non (nomark _)) (se_one (se_cmp op_isN os_isN (se_var (i := 0)) se_non (nomark _)))))) ss_nil)
 (ss_cons (ss_asg (se_cmp (op_eqA hr.units) os_eq (se_isi .str (se_var (i := 1)) T.b_isinstance T.b_str (by decide +kernel)) (se_isi .str (se_var (i := 0)) T.b_isinstance T.b_str (by decide +kernel)) (nomark _)) (sg_name (i := 2) sc__law_alike.nd))
 (ss_one (ss_ret (se_and (se_var (i := 2)) (se_and (se_cmp (op_eqA hr.units) os_eq (se_isi .bool (se_var (i := 1)) T.b_isinstance T.b_bool (by decide +kernel)) (se_isi .bool (se_var (i := 0)) T.b_isinstance T.b_bool (by decide +kernel)) (nomark _)) (se_one (se_cmp (op_eqA hr.units) os_eq (se_var (i := 0)) (se_var (i := 1)) (nomark _))))))))))
theorem c__law_alike (T : Tx K mg)  : Cal P w K mg base "_law_alike" 7 2 (F__law_alike 6) := c__law_alike_rec T  6
abbrev s_law : Stmt := topS 25
abbrev N_law : List Str := ["_law_script", "_law_row_here", "_law_turn", "_law_town_here", "_law_rows", "_law_first", "_law_second", "_law_wide", "_law_one_way", "_law_text"]
theorem sc_law : FnScope N_law ["_law_script"] (defScope s_law) := ⟨rfl, rfl, rfl, by decide +kernel, rfl, by decide +kernel, by decide +kernel⟩
theorem c_law (T : Tx K mg) (C__law_row : Cal P w K mg base "_law_row" 1 1 F__law_row) (C__law_town : Cal P w K mg base "_law_town" 3 4 F__law_town) (C_written : Cal P w K mg base "written" 4 1 F_written) (C__law_alike : Cal P w K mg base "_law_alike" 7 2 (F__law_alike 6)) (C_read : Cal P w K mg base "read" 4 1 F_read) {fd : FuncData} (F : FunD K "law" "law" (defArgs (topS 25)) (defBody (topS 25)) (defScope (topS 25)) [] [] (He.fAd K ("law", none)) fd) : FOk P w K mg base 8 (He.fAd K ("law", none)) fd ["_law_script"] F_law := by
  unfold F_law
  refine fok_of F sc_law (ps := ["_law_script"]) (k := 7) (fun cdv A outer s H E hr => ?_)
  exact (ss_cons (ss_asg (se_callC C__law_row (hr.mono (by decide)) (takes_of rfl rfl rfl rfl) (sa_cons (se_var (i := 0)) sa_nil)) (sg_name (i := 1) sc_law.nd))
 (ss_cons (ss_for (passes_of rfl) rfl (si_r1 se_int T.b_range) (sg_name (i := 2) sc_law.nd) (ss_cons (ss_asg (se_callC C__law_town (hr.mono (by decide)) (takes_of rfl rfl rfl rfl) (sa_cons (se_var (i := 1)) (sa_cons se_int (sa_cons se_int (sa_cons se_int sa_nil))))) (sg_name (i := 3) sc_law.nd))
 (ss_cons (ss_asg (se_lst (sa_cons (se_bin op_addA os_add se_str (se_callTy call_str_int cs_str T.b_str (by decide +kernel) (sa_cons (se_ix ix_seq os_ix (se_var (i := 3)) se_int) sa_nil))) sa_nil)) (sg_name (i := 4) sc_law.nd))
 (ss_cons (ss_for (passes_of rfl) rfl (si_seq (se_ix ix_seq os_ix (se_var (i := 3)) se_int)) (sg_tup rfl (sgs_cons (sg_name (i := 5) sc_law.nd) (sgs_cons (sg_name (i := 6) sc_law.nd) (sgs_cons (sg_name (i := 7) sc_law.nd) (sgs_cons (sg_name (i := 8) sc_law.nd) sgs_nil))))) (ss_one (ss_expr (se_mt PySem.F.plainAttrs_list PySem.F.slot_list_append PySem.F.type_list_append mt_append ms_append (se_var (i := 4)) (sa_cons (se_bin op_addA os_add (se_bin op_addA os_add (se_bin op_addA os_add (se_bin op_addA os_add (se_bin op_addA os_add (se_bin op_addA os_add (se_callTy call_str_int cs_str T.b_str (by decide +kernel) (sa_cons (se_var (i := 5)) sa_nil)) se_str) (se_ix ix_seq os_ix se_str (se_var (i := 8)))) se_str) (se_callTy call_str_int cs_str T.b_str (by decide +kernel) (sa_cons (se_var (i := 6)) sa_nil))) se_str) (se_callTy call_str_int cs_str T.b_str (by decide +kernel) (sa_cons (se_var (i := 7)) sa_nil))) sa_nil)))))
 (ss_cons (ss_asg (se_mt PySem.F.plainAttrs_str PySem.F.slot_str_join PySem.F.type_str_join mt_join' ms_join se_str (sa_cons (se_var (i := 4)) sa_nil)) (sg_name (i := 9) sc_law.nd))
 (ss_one (ss_if (st_w (sw_or (st_not (st_tru (se_callC C__law_alike (hr.mono (by decide)) (takes_of rfl rfl rfl rfl) (sa_cons (se_callC C_written (hr.mono (by decide)) (takes_of rfl rfl rfl rfl) (sa_cons (se_var (i := 3)) sa_nil)) (sa_cons (se_var (i := 9)) sa_nil))))) (sw_or1 (st_not (st_tru (se_callC C__law_alike (hr.mono (by decide)) (takes_of rfl rfl rfl rfl) (sa_cons (se_callC C_read (hr.mono (by decide)) (takes_of rfl rfl rfl rfl) (sa_cons (se_var (i := 9)) sa_nil)) (sa_cons (se_var (i := 3)) sa_nil)))))))) (ss_one (ss_ret se_bl)) ss_nil)))))))
 (ss_one (ss_ret se_bl))))
end
def dd_is_number : He.DefD := ⟨("is_number", none), "is_number", "is_number", defArgs (topS 8), defBody (topS 8), defScope (topS 8), [], []⟩
def dd_is_street : He.DefD := ⟨("is_street", none), "is_street", "is_street", defArgs (topS 9), defBody (topS 9), defScope (topS 9), [], []⟩
def dd_need_town : He.DefD := ⟨("need_town", none), "need_town", "need_town", defArgs (topS 10), defBody (topS 10), defScope (topS 10), [], []⟩
def dd_written : He.DefD := ⟨("written", none), "written", "written", defArgs (topS 16), defBody (topS 16), defScope (topS 16), [], []⟩
def dd_number_of : He.DefD := ⟨("number_of", none), "number_of", "number_of", defArgs (topS 17), defBody (topS 17), defScope (topS 17), [], []⟩
def dd_read : He.DefD := ⟨("read", none), "read", "read", defArgs (topS 18), defBody (topS 18), defScope (topS 18), [], []⟩
def dd__law_row : He.DefD := ⟨("_law_row", none), "_law_row", "_law_row", defArgs (topS 20), defBody (topS 20), defScope (topS 20), [], []⟩
def dd__law_taken : He.DefD := ⟨("_law_taken", none), "_law_taken", "_law_taken", defArgs (topS 21), defBody (topS 21), defScope (topS 21), [], []⟩
def dd__law_street : He.DefD := ⟨("_law_street", none), "_law_street", "_law_street", defArgs (topS 22), defBody (topS 22), defScope (topS 22), [], []⟩
def dd__law_town : He.DefD := ⟨("_law_town", none), "_law_town", "_law_town", defArgs (topS 23), defBody (topS 23), defScope (topS 23), [], []⟩
def dd__law_alike : He.DefD := ⟨("_law_alike", none), "_law_alike", "_law_alike", defArgs (topS 24), defBody (topS 24), defScope (topS 24), [], []⟩
def dd_law : He.DefD := ⟨("law", none), "law", "law", defArgs (topS 25), defBody (topS 25), defScope (topS 25), [], []⟩
def fnD : List He.DefD := [dd_is_number, dd_is_street, dd_need_town, dd_written, dd_number_of, dd_read, dd__law_row, dd__law_taken, dd__law_street, dd__law_town, dd__law_alike, dd_law]
def faD : List He.Fa := [.glo "is_number", .glo "is_street", .glo "need_town", .glo "written", .glo "number_of", .glo "read", .glo "_law_row", .glo "_law_taken", .glo "_law_street", .glo "_law_town", .glo "_law_alike", .glo "law", .free "any", .free "bool", .free "enumerate", .free "int", .free "isinstance", .free "len", .free "list", .free "range", .free "str", .free "tuple", .str "FIGURES" "0123456789", .int "MOST_CORNERS" 9, .int "MOST_FIGURES" 2, .int "MOST_LONG" 99, .int "MOST_STREETS" 16, .str "TOWN" "town"]
def exL : List (PySem.W.Frag → Bool) := [fun K => gtupB K "SIGNS" ["=", ">"]]
def exD (K : PySem.W.Frag) : Bool := exL.all fun f => f K
theorem exAt {K : PySem.W.Frag} (c : exD K = true) (i : Nat) {f : PySem.W.Frag → Bool} (h : exL[i]? = some f := by rfl) : f K = true := List.all_eq_true.mp c f (List.mem_of_getElem? h)
def tsD : List He.Tab := []
def tfD : List He.Defn := []
theorem tx {w : World} {K : PySem.W.Frag} {h : Heap} {mg : Str → Option Value} (X : K.In h) (G : h.Ns mainGlobals mg) (cX : He.SaysX faD fnD tsD tfD exD w h K) : Tx K mg where
  m_is_number := He.glo_ok X G (cX.t.d.fact 0 (f := .glo "is_number") rfl)
  m_is_street := He.glo_ok X G (cX.t.d.fact 1 (f := .glo "is_street") rfl)
  m_need_town := He.glo_ok X G (cX.t.d.fact 2 (f := .glo "need_town") rfl)
  m_written := He.glo_ok X G (cX.t.d.fact 3 (f := .glo "written") rfl)
  m_number_of := He.glo_ok X G (cX.t.d.fact 4 (f := .glo "number_of") rfl)
  m_read := He.glo_ok X G (cX.t.d.fact 5 (f := .glo "read") rfl)
  m__law_row := He.glo_ok X G (cX.t.d.fact 6 (f := .glo "_law_row") rfl)
  m__law_taken := He.glo_ok X G (cX.t.d.fact 7 (f := .glo "_law_taken") rfl)
  m__law_street := He.glo_ok X G (cX.t.d.fact 8 (f := .glo "_law_street") rfl)
  m__law_town := He.glo_ok X G (cX.t.d.fact 9 (f := .glo "_law_town") rfl)
  m__law_alike := He.glo_ok X G (cX.t.d.fact 10 (f := .glo "_law_alike") rfl)
  m_law := He.glo_ok X G (cX.t.d.fact 11 (f := .glo "law") rfl)
  d_is_number := cX.t.d.def_ 0 (d := dd_is_number) rfl
  d_is_street := cX.t.d.def_ 1 (d := dd_is_street) rfl
  d_need_town := cX.t.d.def_ 2 (d := dd_need_town) rfl
  d_written := cX.t.d.def_ 3 (d := dd_written) rfl
  d_number_of := cX.t.d.def_ 4 (d := dd_number_of) rfl
  d_read := cX.t.d.def_ 5 (d := dd_read) rfl
  d__law_row := cX.t.d.def_ 6 (d := dd__law_row) rfl
  d__law_taken := cX.t.d.def_ 7 (d := dd__law_taken) rfl
  d__law_street := cX.t.d.def_ 8 (d := dd__law_street) rfl
  d__law_town := cX.t.d.def_ 9 (d := dd__law_town) rfl
  d__law_alike := cX.t.d.def_ 10 (d := dd__law_alike) rfl
  d_law := cX.t.d.def_ 11 (d := dd_law) rfl
  b_any := He.free_ok X G (cX.t.d.fact 12 (f := .free "any") rfl)
  b_bool := He.free_ok X G (cX.t.d.fact 13 (f := .free "bool") rfl)
  b_enumerate := He.free_ok X G (cX.t.d.fact 14 (f := .free "enumerate") rfl)
  b_int := He.free_ok X G (cX.t.d.fact 15 (f := .free "int") rfl)
  b_isinstance := He.free_ok X G (cX.t.d.fact 16 (f := .free "isinstance") rfl)
  b_len := He.free_ok X G (cX.t.d.fact 17 (f := .free "len") rfl)
  b_list := He.free_ok X G (cX.t.d.fact 18 (f := .free "list") rfl)
  b_range := He.free_ok X G (cX.t.d.fact 19 (f := .free "range") rfl)
  b_str := He.free_ok X G (cX.t.d.fact 20 (f := .free "str") rfl)
  b_tuple := He.free_ok X G (cX.t.d.fact 21 (f := .free "tuple") rfl)
  g_FIGURES := He.str_ok X G (cX.t.d.fact 22 (f := .str "FIGURES" "0123456789") rfl)
  g_MOST_CORNERS := He.int_ok X G (cX.t.d.fact 23 (f := .int "MOST_CORNERS" 9) rfl)
  g_MOST_FIGURES := He.int_ok X G (cX.t.d.fact 24 (f := .int "MOST_FIGURES" 2) rfl)
  g_MOST_LONG := He.int_ok X G (cX.t.d.fact 25 (f := .int "MOST_LONG" 99) rfl)
  g_MOST_STREETS := He.int_ok X G (cX.t.d.fact 26 (f := .int "MOST_STREETS" 16) rfl)
  g_TOWN := He.str_ok X G (cX.t.d.fact 27 (f := .str "TOWN" "town") rfl)
  t_SIGNS := gtupB_ok X G (exAt cX.more 0)
abbrev RL : PySem.W.OpenRow := PySem.W.OpenLaw.row PySem.Challenge.rw_streetrounds_k14_written_and_read
abbrev hkL : PySem.W.Hook := He.hookX 4 faD fnD tsD tfD exD
def obL (s : PySem.W.SharedT) : He.AlX := He.obsX 4 faD fnD tsD tfD exD (HandSHeadRun.getT s)
theorem obL_eq (s : PySem.W.SharedT) : obL s = hkL.obs s.abs := He.obsX_eq (HandSHeadRun.getT_eq s)
def namesL : List PySem.Str := (["StreetError", "BadTown", "BadText", "MOST_CORNERS", "MOST_STREETS", "MOST_LONG", "is_number", "is_street", "need_town", "TOWN", "SIGNS", "FIGURES", "MOST_FIGURES", "written", "number_of", "read", "_law_row", "_law_taken", "_law_street", "_law_town"] : List PySem.Str) ++ (["_law_alike"] : List PySem.Str)
set_option maxHeartbeats 0 in
theorem runL (w : World) : HandSHeadRun.RunEq RL (PySem.W.view RL.prog [25]) hkL obL 30000 namesL w := by
  intro os
  kernel_rfl
theorem allL {K : PySem.W.Frag} {h : Heap} {mg : Str → Option Value} {P : Program} {w : World} {f : Addr} (X : K.In h) (G : h.Ns mainGlobals mg) (hfa : mg ("law" : Str) = some (.ref f)) (c : He.SaysX faD fnD tsD tfD exD w h K) :
    ∃ fd : FuncData, (∀ (s : Shared) (v : Value), BindsTo s fd ⟨[v], []⟩ [("_law_script", v)]) ∧ ∀ base : Heap, K.In base → base.Ns mainGlobals mg → FOk P w K mg base 8 f fd ["_law_script"] F_law := by
  have T := tx X G c
  have e := hfa.symm.trans T.m_law
  cases e
  obtain ⟨fd, F⟩ := T.d_law
  have b := FunD.bindsA (ps := ["_law_script"]) F fun _ _ _ _ _ _ us hl => match us, hl with | [_], _ => rfl
  refine ⟨fd, fun s v => b s [v] rfl, fun base _ _ => ?_⟩
  have C_is_number := c_is_number (P := P) (w := w) (base := base) T 
  have C_is_street := c_is_street (P := P) (w := w) (base := base) T C_is_number
  have C_need_town := c_need_town (P := P) (w := w) (base := base) T C_is_number C_is_street
  have C_written := c_written (P := P) (w := w) (base := base) T C_need_town
  have C_number_of := c_number_of (P := P) (w := w) (base := base) T 
  have C_read := c_read (P := P) (w := w) (base := base) T C_number_of C_need_town
  have C__law_row := c__law_row (P := P) (w := w) (base := base) T 
  have C__law_taken := c__law_taken (P := P) (w := w) (base := base) T 
  have C__law_street := c__law_street (P := P) (w := w) (base := base) T C__law_taken
  have C__law_town := c__law_town (P := P) (w := w) (base := base) T C__law_taken C__law_street
  have C__law_alike := c__law_alike (P := P) (w := w) (base := base) T 
  exact c_law T C__law_row C__law_town C_written C__law_alike C_read F
end Lw

namespace Sm
open PySem L2
/-! what an outcome leaves -/
def Out.wp {α : Type} (o : Out α) (Q : α → Mem → Prop) (E : Ex → Mem → Prop) : Prop := match o with
  | .ok a M => Q a M
  | .ex x M => E x M
  | .bad => False
def SO.wp (o : SO) (N : Sl → Mem → Prop) (R : Val → Mem → Prop) (B C : Sl → Mem → Prop) (E : Ex → Sl → Mem → Prop) : Prop := match o with
  | .nx e M => N e M
  | .rt x M => R x M
  | .bk e M => B e M
  | .ct e M => C e M
  | .ex x e M => E x e M
  | .bad => False
def GO.wp (o : GO) (N : Sl → Mem → Prop) (E : Ex → Sl → Mem → Prop) : Prop := match o with
  | .nx e M => N e M
  | .ex x e M => E x e M
  | .bad => False
abbrev noE : Ex → Mem → Prop := fun _ _ => False
theorem Out.wp_mono {α : Type} {o : Out α} {Q Q' : α → Mem → Prop} {E E' : Ex → Mem → Prop} (h : o.wp Q E) (hq : ∀ a M, Q a M → Q' a M) (he : ∀ x M, E x M → E' x M) : o.wp Q' E' := by
  cases o with
  | ok a M => exact hq a M h
  | ex x M => exact he x M h
  | bad => exact h
theorem Out.wp_imp {α : Type} {o : Out α} {Q Q' : α → Mem → Prop} {E' : Ex → Mem → Prop} (h : o.wp Q noE) (hq : ∀ a M, Q a M → Q' a M) : o.wp Q' E' := Out.wp_mono h hq fun _ _ z => z.elim
theorem SO.wp_mono {o : SO} {N N' : Sl → Mem → Prop} {R R' : Val → Mem → Prop} {B B' C C' : Sl → Mem → Prop} {E E' : Ex → Sl → Mem → Prop} (h : o.wp N R B C E) (h1 : ∀ e M, N e M → N' e M) (h2 : ∀ x M, R x M → R' x M) (h3 : ∀ e M, B e M → B' e M) (h4 : ∀ e M, C e M → C' e M)
    (h5 : ∀ x e M, E x e M → E' x e M) : o.wp N' R' B' C' E' := by
  cases o with
  | nx e M => exact h1 e M h
  | rt x M => exact h2 x M h
  | bk e M => exact h3 e M h
  | ct e M => exact h4 e M h
  | ex x e M => exact h5 x e M h
  | bad => exact h
theorem Out.wp_ok {α : Type} {o : Out α} {Q : α → Mem → Prop} (h : o.wp Q noE) : ∃ a M, o = .ok a M ∧ Q a M := by
  cases o with
  | ok a M => exact ⟨a, M, rfl, h⟩
  | ex x M => exact h.elim
  | bad => exact h.elim
section
variable {α β : Type} {Q : α → Mem → Prop} {Qv : Val → Mem → Prop} {Qb : Bool → Mem → Prop} {Ql : List Val → Mem → Prop} {E : Ex → Mem → Prop} {e : Sl} {M : Mem} {N B C : Sl → Mem → Prop} {R : Val → Mem → Prop} {Es : Ex → Sl → Mem → Prop}
@[simp] theorem wp_ok (a : α) : (Out.ok a M).wp Q E = Q a M := rfl
@[simp] theorem wp_ex (x : Ex) : (Out.ex x M : Out α).wp Q E = E x M := rfl
@[simp] theorem wp_bad : (Out.bad : Out α).wp Q E = False := rfl
@[simp] theorem wp_snx : (SO.nx e M).wp N R B C Es = N e M := rfl
@[simp] theorem wp_srt (x : Val) : (SO.rt x M).wp N R B C Es = R x M := rfl
@[simp] theorem wp_sbk : (SO.bk e M).wp N R B C Es = B e M := rfl
@[simp] theorem wp_sct : (SO.ct e M).wp N R B C Es = C e M := rfl
@[simp] theorem wp_sex (x : Ex) : (SO.ex x e M).wp N R B C Es = Es x e M := rfl
@[simp] theorem wp_sbad : (SO.bad).wp N R B C Es = False := rfl
theorem wp_bind (o : Out α) (k : α → Mem → Out β) (Q : β → Mem → Prop) : (o.bind k).wp Q E = o.wp (fun a M => (k a M).wp Q E) E := by cases o <;> rfl
theorem wp_toS (o : Out α) (k : α → Mem → SO) : (o.toS e k).wp N R B C Es = o.wp (fun a M => (k a M).wp N R B C Es) (fun x M => Es x e M) := by cases o <;> rfl
theorem wp_gtoS (o : GO) (k : Sl → Mem → SO) : (o.toS k).wp N R B C Es = o.wp (fun a M => (k a M).wp N R B C Es) Es := by cases o <;> rfl
@[simp] theorem wp_eC (x : Val) : (eC x e M).wp Qv E = Qv x M := rfl
/-- a slot -/
def sget (e : Sl) (i : Nat) : Option Val := match e[i]? with
  | some o => o
  | none => none
@[simp] theorem wp_eVar (i : Nat) : (eVar i e M).wp Qv E = ∃ x, sget e i = some x ∧ Qv x M := by
  unfold eVar sget
  cases h : e[i]? with
  | none => simp
  | some o => cases o <;> simp
@[simp] theorem sget_0 (o : Option Val) (e : Sl) : sget (o :: e) 0 = o := rfl
@[simp] theorem sget_s (o : Option Val) (e : Sl) (i : Nat) : sget (o :: e) (i + 1) = sget e i := by unfold sget; simp
@[simp] theorem wp_eOp2 (g : Val → Val → Mem → Out Val) (fa fb : EF) : (eOp2 g fa fb e M).wp Qv E = (fa e M).wp (fun x M1 => (fb e M1).wp (fun y M2 => (g x y M2).wp Qv E) E) E := by
  unfold eOp2; simp only [wp_bind]
@[simp] theorem wp_eOp1 (g : Val → Mem → Out Val) (fa : EF) : (eOp1 g fa e M).wp Qv E = (fa e M).wp (fun x M1 => (g x M1).wp Qv E) E := by unfold eOp1; simp only [wp_bind]
@[simp] theorem wp_aNil : (aNil e M).wp Ql E = Ql [] M := rfl
@[simp] theorem wp_aCons (fa : EF) (fr : AF) : (aCons fa fr e M).wp Ql E = (fa e M).wp (fun x M1 => (fr e M1).wp (fun l M2 => Ql (x :: l) M2) E) E := by unfold aCons; simp only [wp_bind, wp_ok]
theorem wp_ite {c : Prop} [Decidable c] {o : Out α} : (if c then o else .bad).wp Q E = (c ∧ o.wp Q E) := by
  by_cases h : c <;> simp [h]
@[simp] theorem wp_eTup (fa : AF) : (eTup fa e M).wp Qv E = (fa e M).wp (fun l M1 => l.length ≤ sizeLine ∧ Qv (.tup l) M1) E := by unfold eTup; simp only [wp_bind, wp_ite, wp_ok]
@[simp] theorem wp_eLst (fa : AF) : (eLst fa e M).wp Qv E = (fa e M).wp (fun l M1 => l.length ≤ sizeLine ∧ Qv (.loc M1.length) (M1 ++ [.lst l])) E := by unfold eLst; simp only [wp_bind, wp_ite, wp_ok]
@[simp] theorem wp_eCall (F : FnS) (fa : AF) : (eCall F fa e M).wp Qv E = (fa e M).wp (fun l M1 => (F l M1).wp Qv E) E := by unfold eCall; simp only [wp_bind]
@[simp] theorem wp_eFn (np : Nat) (F : FnS) (fa : AF) : (eFn np F fa e M).wp Qv E = (fa e M).wp (fun l M1 => l.length = np ∧ (F l M1).wp Qv E) E := by unfold eFn; simp only [wp_bind, wp_ite]
@[simp] theorem wp_eIf (t : TF) (fa fb : EF) : (eIf t fa fb e M).wp Qv E = (t e M).wp (fun b M1 => if b = true then (fa e M1).wp Qv E else (fb e M1).wp Qv E) E := by
  unfold eIf; simp only [wp_bind]; congr 1; funext b M1; split <;> rfl
/-! tests -/
def isB (x : Val) : Option Bool := match x with
  | .bl b => some b
  | _ => none
@[simp] theorem isB_bl (b : Bool) : isB (.bl b) = some b := rfl
theorem wp_isB (x : Val) (M : Mem) : Out.wp (match x with | .bl b => .ok b M | _ => .bad) Qb E = ∃ b, x = .bl b ∧ Qb b M := by
  cases x <;> simp
@[simp] theorem wp_tCmp2 (g : Val → Val → Mem → Out Val) (fa fb : EF) : (tCmp2 g fa fb e M).wp Qb E = (fa e M).wp (fun x M1 => (fb e M1).wp (fun y M2 => (g x y M2).wp (fun z M3 => ∃ b, z = .bl b ∧ Qb b M3) E) E) E := by
  unfold tCmp2; simp only [wp_bind, wp_eOp2]; congr 1; funext x M1; congr 1; funext y M2; congr 1; funext z M3; cases z <;> simp
@[simp] theorem wp_tOfE (f : EF) : (tOfE f e M).wp Qb E = (f e M).wp (fun z M3 => ∃ b, z = .bl b ∧ Qb b M3) E := by unfold tOfE; simp only [wp_bind]; congr 1; funext z M3; cases z <;> simp
@[simp] theorem wp_tTru (f : EF) : (tTru f e M).wp Qb E = (f e M).wp (fun z M3 => ∃ b, truV z M3 = some b ∧ Qb b M3) E := by
  unfold tTru; simp only [wp_bind]; congr 1; funext z M3; cases truV z M3 <;> simp
@[simp] theorem wp_tNotF (t : TF) : (tNotF t e M).wp Qb E = (t e M).wp (fun b M1 => Qb (!b) M1) E := by unfold tNotF; simp only [wp_bind, wp_ok]
@[simp] theorem wp_tAndF (t u : TF) : (tAndF t u e M).wp Qb E = (t e M).wp (fun b M1 => if b = true then (u e M1).wp Qb E else Qb false M1) E := by
  unfold tAndF; simp only [wp_bind]; congr 1; funext b M1; split <;> rfl
@[simp] theorem wp_tOrF (t u : TF) : (tOrF t u e M).wp Qb E = (t e M).wp (fun b M1 => if b = true then Qb true M1 else (u e M1).wp Qb E) E := by
  unfold tOrF; simp only [wp_bind]; congr 1; funext b M1; split <;> rfl
@[simp] theorem wp_tTrue : (tTrue e M).wp Qb E = Qb true M := rfl
@[simp] theorem wp_eAnd (f g : EF) : (eAnd f g e M).wp Qv E = (f e M).wp (fun z M1 => ∃ b, z = .bl b ∧ if b = true then (g e M1).wp Qv E else Qv (.bl false) M1) E := by
  unfold eAnd; simp only [wp_bind]; congr 1; funext z M1; cases z <;> simp <;> split <;> simp_all
@[simp] theorem wp_eOr (f g : EF) : (eOr f g e M).wp Qv E = (f e M).wp (fun z M1 => ∃ b, z = .bl b ∧ if b = true then Qv (.bl true) M1 else (g e M1).wp Qv E) E := by
  unfold eOr; simp only [wp_bind]; congr 1; funext z M1; cases z <;> simp <;> split <;> simp_all
@[simp] theorem wp_eNot (f : EF) : (eNot f e M).wp Qv E = (f e M).wp (fun z M1 => ∃ b, z = .bl b ∧ Qv (.bl (!b)) M1) E := by
  unfold eNot; simp only [wp_bind]; congr 1; funext z M1; cases z <;> simp
@[simp] theorem wp_eChain (g g' : Val → Val → Mem → Out Val) (fa fb fc : EF) : (eChain g g' fa fb fc e M).wp Qv E = (fa e M).wp (fun x M1 => (fb e M1).wp (fun y M2 => (g x y M2).wp (fun z M3 => ∃ b, z = .bl b ∧
    if b = true then (fc e M3).wp (fun w M4 => (g' y w M4).wp Qv E) E else Qv (.bl false) M3) E) E) E := by
  unfold eChain; simp only [wp_bind]; congr 1; funext x M1; congr 1; funext y M2; congr 1; funext z M3; cases z <;> simp <;> split <;> simp_all [wp_bind]
@[simp] theorem sizeLine_val : sizeLine = 16777216 := by decide
/-! statements -/
@[simp] theorem wp_sNil : (sNil e M).wp N R B C Es = N e M := rfl
@[simp] theorem wp_sSeq (f g : SF) : (sSeq f g e M).wp N R B C Es = (f e M).wp (fun e1 M1 => (g e1 M1).wp N R B C Es) R B C Es := by
  unfold sSeq SO.seq; cases f e M <;> rfl
@[simp] theorem wp_sExpr (f : EF) : (sExpr f e M).wp N R B C Es = (f e M).wp (fun _ M1 => N e M1) (fun x M1 => Es x e M1) := by unfold sExpr; simp only [wp_toS, wp_snx]
@[simp] theorem wp_sRet (f : EF) : (sRet f e M).wp N R B C Es = (f e M).wp R (fun x M1 => Es x e M1) := by unfold sRet; simp only [wp_toS, wp_srt]
@[simp] theorem wp_sRetN : (sRetN e M).wp N R B C Es = R .non M := rfl
@[simp] theorem wp_sBrk : (sBrk e M).wp N R B C Es = B e M := rfl
@[simp] theorem wp_sCnt : (sCnt e M).wp N R B C Es = C e M := rfl
@[simp] theorem wp_sBad : (sBad e M).wp N R B C Es = False := rfl
@[simp] theorem wp_sIf (t : TF) (f g : SF) : (sIf t f g e M).wp N R B C Es = (t e M).wp (fun b M1 => if b = true then (f e M1).wp N R B C Es else (g e M1).wp N R B C Es) (fun x M1 => Es x e M1) := by
  unfold sIf; simp only [wp_toS]; congr 1; funext b M1; split <;> rfl
@[simp] theorem wp_gnx : (GO.nx e M).wp N Es = N e M := rfl
@[simp] theorem wp_gbad : (GO.bad).wp N Es = False := rfl
@[simp] theorem wp_sAsg (f : EF) (g : GF) : (sAsg f g e M).wp N R B C Es = (f e M).wp (fun x M1 => (g x e M1).wp N Es) (fun x M1 => Es x e M1) := by unfold sAsg; simp only [wp_toS, wp_gtoS, wp_snx]
@[simp] theorem wp_gNm (i : Nat) (x : Val) : (gNm i x e M).wp N Es = N (e.set i (some x)) M := rfl
theorem wp_gbind (o : GO) (k : Sl → Mem → GO) : (o.bind k).wp N Es = o.wp (fun a M => (k a M).wp N Es) Es := by cases o <;> rfl
@[simp] theorem wp_gTp (n : Nat) (gs : GsF) (l : List Val) : (gTp n gs (.tup l) e M).wp N Es = (l.length = n ∧ (gs l e M).wp N Es) := by
  unfold gTp; by_cases h : l.length = n <;> simp [h]
@[simp] theorem wp_gsNil : (gsNil [] e M).wp N Es = N e M := rfl
@[simp] theorem wp_gsCons (g : GF) (gs : GsF) (x : Val) (l : List Val) : (gsCons g gs (x :: l) e M).wp N Es = (g x e M).wp (fun e1 M1 => (gs l e1 M1).wp N Es) Es := by unfold gsCons; simp only [wp_gbind]
@[simp] theorem wp_gSb (fo fi : EF) (x : Val) : (gSb fo fi x e M).wp N Es = (fo e M).wp (fun o M1 => (fi e M1).wp (fun i M2 => ∃ M3, setV o i x M2 = some M3 ∧ N e M3) (fun y M2 => Es y e M2)) (fun y M1 => Es y e M1) := by
  unfold gSb
  cases fo e M with
  | ok o M1 =>
    simp only [wp_ok]
    cases fi e M1 with
    | ok i M2 => simp only [wp_ok]; cases setV o i x M2 <;> simp
    | ex _ _ => rfl
    | bad => rfl
  | ex _ _ => rfl
  | bad => rfl
@[simp] theorem wp_sPar (is : List Nat) (fa : AF) : (sPar is fa e M).wp N R B C Es = (fa e M).wp (fun l M1 => l.length = is.length ∧ N (setAll is l e) M1) (fun x M1 => Es x e M1) := by
  unfold sPar; simp only [wp_toS]; congr 1; funext l M1; by_cases h : l.length = is.length <;> simp [h]
@[simp] theorem setAll_nil (l : List Val) (e : Sl) : setAll [] l e = e := by cases l <;> rfl
@[simp] theorem setAll_cons (i : Nat) (is : List Nat) (x : Val) (l : List Val) (e : Sl) : setAll (i :: is) (x :: l) e = setAll is l (e.set i (some x)) := rfl
@[simp] theorem wp_sAug (i : Nat) (g : Val → Val → Mem → Out Val) (f : EF) : (sAug i g f e M).wp N R B C Es = ∃ x, sget e i = some x ∧ (f e M).wp (fun y M1 => (g x y M1).wp (fun z M2 => N (e.set i (some z)) M2) (fun x M1 => Es x e M1)) (fun x M1 => Es x e M1) := by
  unfold sAug sget
  cases h : e[i]? with
  | none => simp
  | some o => cases o <;> simp [wp_toS]
/-- a def, called -/
@[simp] theorem wp_fnS (np n : Nat) (body : SF) (l : List Val) : (fnS np n body l M).wp Qv E = (l.length = np ∧ (body (l.map some ++ List.replicate (n - np) none) M).wp (fun _ M => Qv .non M) Qv (fun _ _ => False) (fun _ _ => False) (fun x _ M => E x M)) := by
  unfold fnS
  by_cases h : l.length = np
  · rw [if_pos h]
    cases body (l.map some ++ List.replicate (n - np) none) M <;> simp [h]
  · simp [h]
/-! values -/
@[simp] theorem wp_add_ii (i j : Int) : (addV (.int i) (.int j) M).wp Qv E = Qv (.int (i + j)) M := rfl
@[simp] theorem wp_add_tt (a b : List Val) : (addV (.tup a) (.tup b) M).wp Qv E = (a.length + b.length ≤ sizeLine ∧ Qv (.tup (a ++ b)) M) := by unfold addV; simp only [wp_ite, wp_ok]
@[simp] theorem wp_add_ss (a b : Str) : (addV (.str a) (.str b) M).wp Qv E = (a.length + b.length ≤ sizeLine ∧ Qv (.str (a ++ b)) M) := by unfold addV; simp only [wp_ite, wp_ok]
@[simp] theorem wp_add_ll (m n : Nat) : (addV (.loc m) (.loc n) M).wp Qv E = ∃ a b, getL M m = some a ∧ getL M n = some b ∧ a.length + b.length ≤ sizeLine ∧ Qv (.loc M.length) (M ++ [.lst (a ++ b)]) := by
  cases h : getL M m with
  | none => simp [addV, h]
  | some a => cases h' : getL M n with
    | none => simp [addV, h, h']
    | some b => simp [addV, h, h', wp_ite]
@[simp] theorem wp_sub_ii (i j : Int) : (subV (.int i) (.int j) M).wp Qv E = Qv (.int (i - j)) M := rfl
@[simp] theorem wp_mul_ii (i j : Int) : (mulV (.int i) (.int j) M).wp Qv E = ((small64 i || small64 j) = true ∧ Qv (.int (i * j)) M) := by unfold mulV; simp only [wp_ite, wp_ok]
@[simp] theorem wp_mul_li (n : Nat) (k : Int) : (mulV (.loc n) (.int k) M).wp Qv E = ∃ l, getL M n = some l ∧ (-(2 ^ 63) ≤ k ∧ k < 2 ^ 63 ∧ l.length * k.toNat ≤ sizeLine) ∧ Qv (.loc M.length) (M ++ [.lst (List.replicate k.toNat l).flatten]) := by
  cases h : getL M n with
  | none => simp [mulV, h]
  | some a => simp [mulV, h, wp_ite]
@[simp] theorem wp_mul_ti (l : List Val) (k : Int) : (mulV (.tup l) (.int k) M).wp Qv E = ((l ≠ [] ∧ 2 ≤ k ∧ k ≤ 1000 ∧ l.length ≤ 1000) ∧ Qv (.tup (List.replicate k.toNat l).flatten) M) := by unfold mulV; simp only [wp_ite, wp_ok]
@[simp] theorem wp_div_ii (i j : Int) : (divV (.int i) (.int j) M).wp Qv E = ((0 < j ∧ j < 1073741824) ∧ Qv (.int (i / j)) M) := by unfold divV; simp only [wp_ite, wp_ok]
@[simp] theorem wp_mod_ii (i j : Int) : (modV (.int i) (.int j) M).wp Qv E = (0 < j ∧ Qv (.int (i % j)) M) := by unfold modV; simp only [wp_ite, wp_ok]
@[simp] theorem wp_pow_ii (i j : Int) : (powV (.int i) (.int j) M).wp Qv E = ((0 ≤ j ∧ j ≤ 1000000 ∧ i.natAbs < 2 ^ 64) ∧ Qv (.int (i ^ j.toNat)) M) := by unfold powV; simp only [wp_ite, wp_ok]
@[simp] theorem wp_cmp_ii (p : Int → Int → Bool) (i j : Int) : (cmpV p (.int i) (.int j) M).wp Qv E = Qv (.bl (p i j)) M := rfl
@[simp] theorem wp_neg_i (i : Int) : (negV (.int i) M).wp Qv E = Qv (.int (-i)) M := rfl
@[simp] theorem wp_isN (x : Val) : (isN x .non M).wp Qv E = Qv (.bl (isNon x)) M := rfl
@[simp] theorem wp_notN (x : Val) : (notN x .non M).wp Qv E = Qv (.bl (!isNon x)) M := rfl
@[simp] theorem isNon_non : isNon .non = true := rfl
@[simp] theorem isNon_int (i : Int) : isNon (.int i) = false := rfl
@[simp] theorem isNon_tup (l : List Val) : isNon (.tup l) = false := rfl
@[simp] theorem isNon_loc (l : Nat) : isNon (.loc l) = false := rfl
@[simp] theorem isNon_str (l : Str) : isNon (.str l) = false := rfl
@[simp] theorem isNon_bl (l : Bool) : isNon (.bl l) = false := rfl
@[simp] theorem wp_eqV (x y : Val) : (eqV x y M).wp Qv E = ∃ b, eqD x y M = some b ∧ Qv (.bl b) M := by unfold eqV; cases eqD x y M <;> simp
@[simp] theorem wp_neV (x y : Val) : (neV x y M).wp Qv E = ∃ b, eqD x y M = some b ∧ Qv (.bl (!b)) M := by unfold neV; cases eqD x y M <;> simp
@[simp] theorem eqD_ii (i j : Int) : eqD (.int i) (.int j) M = some (decide (i = j)) := rfl
@[simp] theorem eqD_ss (i j : Str) : eqD (.str i) (.str j) M = some (decide (i = j)) := rfl
@[simp] theorem eqD_bb (i j : Bool) : eqD (.bl i) (.bl j) M = some (decide (i = j)) := rfl
@[simp] theorem wp_inV (x y : Val) : (inV x y M).wp Qv E = ∃ b, inD x y M = some b ∧ Qv (.bl b) M := by unfold inV; cases inD x y M <;> simp
@[simp] theorem wp_notInV (x y : Val) : (notInV x y M).wp Qv E = ∃ b, inD x y M = some b ∧ Qv (.bl (!b)) M := by unfold notInV; cases inD x y M <;> simp
/-! subscripts -/
theorem wp_opt {γ : Type} (o : Option γ) (k : γ → Out α) : Out.wp (match o with | some v => k v | none => .bad) Q E = ∃ v, o = some v ∧ (k v).wp Q E := by cases o <;> simp
@[simp] theorem wp_ix_t (l : List Val) (i : Int) : (ixV (.tup l) (.int i) M).wp Qv E = ∃ v, atI l i = some v ∧ Qv v M := by unfold ixV; (repeat' split) <;> simp_all [wp_ite]
@[simp] theorem wp_ix_f (l : List Int) (i : Int) : (ixV (.frz l) (.int i) M).wp Qv E = ∃ v, atI l i = some v ∧ Qv (.int v) M := by unfold ixV; (repeat' split) <;> simp_all [wp_ite]
@[simp] theorem wp_ix_l (n : Nat) (i : Int) : (ixV (.loc n) (.int i) M).wp Qv E = ∃ l, getL M n = some l ∧ ∃ v, atI l i = some v ∧ Qv v M := by unfold ixV; (repeat' split) <;> simp_all [wp_ite]
@[simp] theorem atI_0 {γ : Type} (x : γ) (l : List γ) : atI (x :: l) 0 = some x := atI_nat (j := 0) rfl
@[simp] theorem atI_1 {γ : Type} (x y : γ) (l : List γ) : atI (x :: y :: l) 1 = some y := atI_nat (j := 1) rfl
@[simp] theorem atI_2 {γ : Type} (x y z : γ) (l : List γ) : atI (x :: y :: z :: l) 2 = some z := atI_nat (j := 2) rfl
@[simp] theorem atI_3 {γ : Type} (x y z w : γ) (l : List γ) : atI (x :: y :: z :: w :: l) 3 = some w := atI_nat (j := 3) rfl
theorem atI_ofNat {γ : Type} {l : List γ} {i : Nat} (h : i < l.length) : atI l (i : Int) = some l[i] := atI_nat (List.getElem?_eq_getElem h)
theorem atI_of {γ : Type} {l : List γ} {i : Int} (h0 : 0 ≤ i) (h : i < l.length) : atI l i = some (l[i.toNat]'(by omega)) := by
  have hh : i.toNat < l.length := by omega
  have e : (i.toNat : Int) = i := by omega
  have := atI_ofNat hh
  rw [e] at this
  exact this
@[simp] theorem wp_oNone {Qo : Option Int → Mem → Prop} : (oNone e M).wp Qo E = Qo none M := rfl
@[simp] theorem wp_oSome {Qo : Option Int → Mem → Prop} (f : EF) : (oSome f e M).wp Qo E = (f e M).wp (fun x M1 => ∃ i, x = .int i ∧ Qo (some i) M1) E := by
  unfold oSome; simp only [wp_bind]; congr 1; funext x M1; cases x <;> simp
@[simp] theorem wp_eSl (f : EF) (l h : OF) : (eSl f l h e M).wp Qv E = (f e M).wp (fun x M1 => (l e M1).wp (fun lo M2 => (h e M2).wp (fun hi M3 => (slV x lo hi M3).wp Qv E) E) E) E := by unfold eSl; simp only [wp_bind]
@[simp] theorem wp_sl_t (l : List Val) (lo hi : Option Int) : (slV (.tup l) lo hi M).wp Qv E = Qv (.tup (cutL l lo hi)) M := rfl
@[simp] theorem wp_sl_l (n : Nat) (lo hi : Option Int) : (slV (.loc n) lo hi M).wp Qv E = ∃ l, getL M n = some l ∧ Qv (.loc M.length) (M ++ [.lst (cutL l lo hi)]) := by unfold slV; (repeat' split) <;> simp_all [wp_ite]
/-! built-ins -/
@[simp] theorem wp_len_t (l : List Val) : (lenV [.tup l] M).wp Qv E = Qv (.int l.length) M := rfl
@[simp] theorem wp_len_f (l : List Int) : (lenV [.frz l] M).wp Qv E = Qv (.int l.length) M := rfl
@[simp] theorem wp_len_l (n : Nat) : (lenV [.loc n] M).wp Qv E = ∃ l, getL M n = some l ∧ Qv (.int l.length) M := by unfold lenV; (repeat' split) <;> simp_all [wp_ite]
@[simp] theorem wp_tuple_t (l : List Val) : (tupleV [.tup l] M).wp Qv E = Qv (.tup l) M := rfl
@[simp] theorem wp_tuple_l (n : Nat) : (tupleV [.loc n] M).wp Qv E = ∃ l, getL M n = some l ∧ Qv (.tup l) M := by unfold tupleV; (repeat' split) <;> simp_all [wp_ite]
@[simp] theorem wp_list_t (l : List Val) : (listV [.tup l] M).wp Qv E = Qv (.loc M.length) (M ++ [.lst l]) := rfl
@[simp] theorem wp_list_l (n : Nat) : (listV [.loc n] M).wp Qv E = ∃ l, getL M n = some l ∧ Qv (.loc M.length) (M ++ [.lst l]) := by unfold listV; (repeat' split) <;> simp_all [wp_ite]
@[simp] theorem wp_int_i (i : Int) : (intV [.int i] M).wp Qv E = Qv (.int i) M := rfl
@[simp] theorem wp_int_b (b : Bool) : (intV [.bl b] M).wp Qv E = Qv (.int (if b then 1 else 0)) M := rfl
@[simp] theorem wp_abs (i : Int) : (absV1 [.int i] M).wp Qv E = Qv (.int (if i < 0 then -i else i)) M := rfl
@[simp] theorem wp_max2 (i j : Int) : (max2V [.int i, .int j] M).wp Qv E = Qv (.int (if j > i then j else i)) M := rfl
@[simp] theorem wp_min2 (i j : Int) : (min2V [.int i, .int j] M).wp Qv E = Qv (.int (if j < i then j else i)) M := rfl
@[simp] theorem wp_sorted (n : Nat) : (sortedV [.loc n] M).wp Qv E = ∃ l, (getL M n).bind intsOf = some l ∧ l.length < 64 ∧ Qv (.loc M.length) (M ++ [.lst ((sortI l).map .int)]) := by unfold sortedV; dsimp only; generalize (getL M n).bind intsOf = o; cases o <;> simp [wp_ite]
@[simp] theorem wp_sum (n : Nat) : (sumV [.loc n] M).wp Qv E = ∃ l, (getL M n).bind intsOf = some l ∧ Qv (.int l.sum) M := by unfold sumV; dsimp only; generalize (getL M n).bind intsOf = o; cases o <;> simp [wp_ite]
@[simp] theorem wp_max (n : Nat) : (maxV [.loc n] M).wp Qv E = ∃ l, (getL M n).bind intsOf = some l ∧ 0 < l.length ∧ Qv (.int (maxL l)) M := by unfold maxV; dsimp only; generalize (getL M n).bind intsOf = o; cases o <;> simp [wp_ite]
@[simp] theorem wp_min (n : Nat) : (minV [.loc n] M).wp Qv E = ∃ l, (getL M n).bind intsOf = some l ∧ 0 < l.length ∧ Qv (.int (minL l)) M := by unfold minV; dsimp only; generalize (getL M n).bind intsOf = o; cases o <;> simp [wp_ite]
@[simp] theorem wp_any (n : Nat) : (anyV [.loc n] M).wp Qv E = ∃ l, (getL M n).bind boolsOf = some l ∧ Qv (.bl (l.any id)) M := by unfold anyV; dsimp only; generalize (getL M n).bind boolsOf = o; cases o <;> simp [wp_ite]
@[simp] theorem wp_all (n : Nat) : (allV [.loc n] M).wp Qv E = ∃ l, (getL M n).bind boolsOf = some l ∧ Qv (.bl (l.all id)) M := by unfold allV; dsimp only; generalize (getL M n).bind boolsOf = o; cases o <;> simp [wp_ite]
@[simp] theorem wp_eLr1 (f : EF) : (eLr1 f e M).wp Qv E = (f e M).wp (fun x M1 => ∃ n, x = .int n ∧ (-(2 ^ 62) ≤ n ∧ n < 2 ^ 62 ∧ n.toNat ≤ 2 ^ 24) ∧ Qv (.loc M1.length) (M1 ++ [.lst (rangeL 0 n)])) E := by
  unfold eLr1; simp only [wp_bind]; congr 1; funext x M1; cases x <;> simp [wp_ite]
@[simp] theorem wp_eIsi (ts : List Bt) (f : EF) : (eIsi ts f e M).wp Qv E = (f e M).wp (fun x M1 => (tyN x M1).isSome = true ∧ Qv (.bl (ts.any fun t => isT x t)) M1) E := by
  unfold eIsi; simp only [wp_bind]; congr 1; funext x M1; unfold isiV; cases tyN x M1 <;> simp
@[simp] theorem tyN_int (i : Int) : tyN (.int i) M = some "int" := rfl
@[simp] theorem tyN_tup (i : List Val) : tyN (.tup i) M = some "tuple" := rfl
@[simp] theorem tyN_bl (i : Bool) : tyN (.bl i) M = some "bool" := rfl
@[simp] theorem tyN_non : tyN .non M = some "NoneType" := rfl
@[simp] theorem tyN_str (i : Str) : tyN (.str i) M = some "str" := rfl
@[simp] theorem tyN_loc (n : Nat) : (tyN (.loc n) M).isSome = (getL M n).isSome := by unfold tyN; dsimp only; cases getL M n <;> rfl
/-! methods -/
@[simp] theorem wp_eMt (T : String) (g : MtF) (fo : EF) (fa : AF) : (eMt T g fo fa e M).wp Qv E = (fo e M).wp (fun x M1 => isTyM T x M1 = true ∧ (fa e M1).wp (fun l M2 => (g x l M2).wp Qv E) E) E := by unfold eMt; simp only [wp_bind, wp_ite]
@[simp] theorem isTyM_l (n : Nat) : isTyM "list" (.loc n) M = (getL M n).isSome := by simp [isTyM]
@[simp] theorem wp_append (n : Nat) (y : Val) : (appendV (.loc n) [y] M).wp Qv E = ∃ xs, getL M n = some xs ∧ xs.length < sizeLine ∧ Qv .non (M.set n (.lst (xs ++ [y]))) := by unfold appendV; dsimp only; generalize getL M n = o; cases o <;> simp [wp_ite]
@[simp] theorem wp_extend (n m : Nat) : (extendV (.loc n) [.loc m] M).wp Qv E = ∃ xs ys, getL M n = some xs ∧ getL M m = some ys ∧ xs.length + ys.length ≤ sizeLine ∧ Qv .non (M.set n (.lst (xs ++ ys))) := by
  cases h : getL M n with
  | none => simp [extendV, h]
  | some a => cases h' : getL M m with
    | none => simp [extendV, h, h']
    | some b => simp [extendV, h, h', wp_ite]
@[simp] theorem wp_pop (n : Nat) : (popV (.loc n) [] M).wp Qv E = ∃ xs, getL M n = some xs ∧ ∃ y, xs[xs.length - 1]? = some y ∧ Qv y (M.set n (.lst xs.dropLast)) := by unfold popV; (repeat' split) <;> simp_all [wp_ite]
@[simp] theorem wp_popAt (n : Nat) (i : Int) : (popAtV (.loc n) [.int i] M).wp Qv E = ∃ xs, getL M n = some xs ∧ (-(2 ^ 63) ≤ i ∧ i < 2 ^ 63) ∧ ∃ k, ixN xs.length i = some k ∧ ∃ y, xs[k]? = some y ∧ Qv y (M.set n (.lst (xs.eraseIdx k))) := by
  cases h : getL M n with
  | none => simp [popAtV, h]
  | some xs => cases hk : ixN xs.length i with
    | none => simp [popAtV, h, hk, wp_ite]
    | some k => cases hy : xs[k]? <;> simp [popAtV, h, hk, hy, wp_ite]
@[simp] theorem wp_ar (h : Int → Int → Int) (i j : Int) : (arI h (.int i) (.int j) M).wp Qv E = Qv (.int (h i j)) M := rfl
end
/-! the memory -/
theorem getL_append_new (M : Mem) (l : List Val) : getL (M ++ [.lst l]) M.length = some l := by simp [getL]
theorem getL_append {M : Mem} {c : Cell} {n : Nat} {l : List Val} (h : getL M n = some l) : getL (M ++ [c]) n = some l := by
  have h' := getL_ok h
  have hl := (List.getElem?_eq_some_iff.mp h').1
  unfold getL
  rw [List.getElem?_append_left hl, h']
theorem getL_lt {M : Mem} {n : Nat} {l : List Val} (h : getL M n = some l) : n < M.length := (List.getElem?_eq_some_iff.mp (getL_ok h)).1
theorem getL_set {M : Mem} {n : Nat} {l l' : List Val} (h : getL M n = some l) : getL (M.set n (.lst l')) n = some l' := by
  unfold getL
  rw [List.getElem?_set_self (getL_lt h)]
theorem getL_set_ne {M : Mem} {n m : Nat} {c : Cell} (h : m ≠ n) : getL (M.set n c) m = getL M m := by
  unfold getL
  rw [List.getElem?_set_ne (Ne.symm h)]
theorem getL_pre {M M' : Mem} {n : Nat} {l : List Val} (p : M <+: M') (h : getL M n = some l) : getL M' n = some l := by
  obtain ⟨t, rfl⟩ := p
  have h' := getL_ok h
  have hl := (List.getElem?_eq_some_iff.mp h').1
  unfold getL
  rw [List.getElem?_append_left hl, h']
theorem pre_append {M M' : Mem} (p : M <+: M') (t : List Cell) : M <+: M' ++ t := p.trans (List.prefix_append _ _)
theorem pre_set {M M' : Mem} {n : Nat} {c : Cell} (p : M <+: M') (h : M.length ≤ n) : M <+: M'.set n c := by
  obtain ⟨t, rfl⟩ := p
  refine ⟨t.set (n - M.length) c, ?_⟩
  rw [List.set_append_right _ _ h]
theorem pre_len {M M' : Mem} (p : M <+: M') : M.length ≤ M'.length := p.length_le
end Sm

namespace Sm
open PySem L2
section
variable {N B C : Sl → Mem → Prop} {R : Val → Mem → Prop} {Es : Ex → Sl → Mem → Prop} {E : Ex → Mem → Prop} {Qv : Val → Mem → Prop} {nxt : Nat → Mem → Option (Option Val)} {g : GF} {body : SF} {e : Sl} {M : Mem}
theorem wp_forG (l : List Val) (I : Nat → Sl → Mem → Prop) (hn : ∀ i e M, I i e M → nxt i M = some l[i]?)
    (hs : ∀ i x e M, l[i]? = some x → I i e M → (g x e M).wp (fun e1 M1 => (body e1 M1).wp (I (i + 1)) R N (I (i + 1)) Es) Es) (hd : ∀ e M, I l.length e M → N e M) :
    ∀ (m i : Nat) (e : Sl) (M : Mem), l.length < m + i → i ≤ l.length → I i e M → (forG nxt g body m i e M).wp N R B C Es
  | 0, i, e, M, h1, h2, _ => absurd h1 (by omega)
  | m + 1, i, e, M, h1, h2, hI => by
    unfold forG
    rw [hn i e M hI]
    cases hx : l[i]? with
    | none =>
      have : l.length ≤ i := List.getElem?_eq_none_iff.mp hx
      have e1 : i = l.length := by omega
      subst e1
      exact hd e M hI
    | some x =>
      have hlt : i < l.length := (List.getElem?_eq_some_iff.mp hx).1
      have := hs i x e M hx hI
      simp only [wp_gtoS]
      cases hg : g x e M with
      | nx e1 M1 =>
        rw [hg] at this
        simp only [wp_gnx] at this ⊢
        cases hb : body e1 M1 with
        | nx e2 M2 => rw [hb] at this; exact wp_forG l I hn hs hd m (i + 1) e2 M2 (by omega) (by omega) this
        | ct e2 M2 => rw [hb] at this; exact wp_forG l I hn hs hd m (i + 1) e2 M2 (by omega) (by omega) this
        | bk e2 M2 => rw [hb] at this; exact this
        | rt x M2 => rw [hb] at this; exact this
        | ex x e2 M2 => rw [hb] at this; exact this
        | bad => rw [hb] at this; exact this
      | ex x e1 M1 => rw [hg] at this; exact this
      | bad => rw [hg] at this; exact this
theorem wp_whG {t : TF} (I : Sl → Mem → Prop) (μ : Sl → Mem → Nat)
    (hs : ∀ e M, I e M → (t e M).wp (fun b M1 => if b = true then (body e M1).wp (fun e2 M2 => I e2 M2 ∧ μ e2 M2 < μ e M) R N (fun e2 M2 => I e2 M2 ∧ μ e2 M2 < μ e M) Es else N e M1) (fun x M => Es x e M)) :
    ∀ (m : Nat) (e : Sl) (M : Mem), μ e M < m → I e M → (whG t body m e M).wp N R B C Es
  | 0, e, M, h1, _ => absurd h1 (by omega)
  | m + 1, e, M, h1, hI => by
    unfold whG
    rw [wp_toS]
    refine Out.wp_mono (hs e M hI) (fun b M1 h => ?_) fun _ _ z => z
    by_cases hb : b = true
    · rw [if_pos hb] at h ⊢
      cases hbd : body e M1 with
      | nx e2 M2 => rw [hbd] at h; exact wp_whG I μ hs m e2 M2 (by have := h.2; omega) h.1
      | ct e2 M2 => rw [hbd] at h; exact wp_whG I μ hs m e2 M2 (by have := h.2; omega) h.1
      | bk e2 M2 => rw [hbd] at h; exact h
      | rt x M2 => rw [hbd] at h; exact h
      | ex x e2 M2 => rw [hbd] at h; exact h
      | bad => rw [hbd] at h; exact h
    · rw [if_neg hb] at h ⊢; exact h
theorem wp_while {n : Nat} {t : TF} (I : Sl → Mem → Prop) (μ : Sl → Mem → Nat) (h0 : I e M) (hm : μ e M < n)
    (hs : ∀ e M, I e M → (t e M).wp (fun b M1 => if b = true then (body e M1).wp (fun e2 M2 => I e2 M2 ∧ μ e2 M2 < μ e M) R N (fun e2 M2 => I e2 M2 ∧ μ e2 M2 < μ e M) Es else N e M1) (fun x M => Es x e M)) : (sWhile n t body e M).wp N R B C Es :=
  wp_whG I μ hs n e M hm h0
/-! what is walked -/
@[simp] theorem wp_sFor (f : IF) : (sFor f g body e M).wp N R B C Es = (f e M).wp (fun it M1 => (forG it.nxt g body it.fuel 0 e M1).wp N R B C Es) (fun x M1 => Es x e M1) := by unfold sFor; rw [wp_toS]
@[simp] theorem wp_iSq {Qi : Itr → Mem → Prop} (f : EF) : (iSq f e M).wp Qi E = (f e M).wp (fun x M1 => ∃ it, itSeq x M1 = some it ∧ Qi it M1) E := by
  unfold iSq iOf; simp only [wp_bind]; congr 1; funext x M1; cases itSeq x M1 <;> simp
@[simp] theorem wp_iEn {Qi : Itr → Mem → Prop} (f : EF) : (iEn f e M).wp Qi E = (f e M).wp (fun x M1 => ∃ it, itEnum x M1 = some it ∧ Qi it M1) E := by
  unfold iEn iOf; simp only [wp_bind]; congr 1; funext x M1; cases itEnum x M1 <;> simp
@[simp] theorem wp_iZp {Qi : Itr → Mem → Prop} (f f2 : EF) : (iZp f f2 e M).wp Qi E = (f e M).wp (fun x M1 => (f2 e M1).wp (fun y M2 => ∃ it, itZip x y M2 = some it ∧ Qi it M2) E) E := by
  unfold iZp; simp only [wp_bind]; congr 1; funext x M1; congr 1; funext y M2; cases itZip x y M2 <;> simp
@[simp] theorem wp_iR1 {Qi : Itr → Mem → Prop} (f : EF) : (iR1 f e M).wp Qi E = (f e M).wp (fun x M1 => ∃ j, x = .int j ∧ (-(2 ^ 62) ≤ j ∧ j < 2 ^ 62) ∧ Qi (itRng 0 j.toNat) M1) E := by
  unfold iR1; simp only [wp_bind]; congr 1; funext x M1; cases x <;> simp [wp_ite]
@[simp] theorem wp_iR2 {Qi : Itr → Mem → Prop} (f f2 : EF) : (iR2 f f2 e M).wp Qi E = (f e M).wp (fun x M1 => (f2 e M1).wp (fun y M2 => ∃ i j, x = .int i ∧ y = .int j ∧ (-(2 ^ 62) ≤ i ∧ i < 2 ^ 62 ∧ -(2 ^ 62) ≤ j ∧ j < 2 ^ 62) ∧ Qi (itRng i (j - i).toNat) M2) E) E := by
  unfold iR2; simp only [wp_bind]; congr 1; funext x M1; congr 1; funext y M2; cases x <;> cases y <;> simp [wp_ite]
theorem lenM_eq (n : Nat) : lenM n M = (getL M n).map List.length := by
  unfold lenM getL
  cases M[n]? with
  | none => rfl
  | some c => cases c <;> rfl
@[simp] theorem itSeq_t (l : List Val) : itSeq (.tup l) M = some (itTup l) := rfl
@[simp] theorem itSeq_f (l : List Int) : itSeq (.frz l) M = some (itFrz l) := rfl
@[simp] theorem itSeq_s (l : Str) : itSeq (.str l) M = some (itStr l) := rfl
theorem itSeq_l {n : Nat} {l : List Val} (h : getL M n = some l) : itSeq (.loc n) M = some (itLst n l.length) := by show (lenM n M).map _ = _; rw [lenM_eq, h]; rfl
@[simp] theorem itEnum_t (l : List Val) : itEnum (.tup l) M = some (itNum (itTup l)) := rfl
theorem itEnum_l {n : Nat} {l : List Val} (h : getL M n = some l) : itEnum (.loc n) M = some (itNum (itLst n l.length)) := by show (lenM n M).map _ = _; rw [lenM_eq, h]; rfl
@[simp] theorem itZip_t (l m : List Val) : itZip (.tup l) (.tup m) M = some (itZ (itTup l) (itTup m)) := rfl
theorem itZip_l {n k : Nat} {l m : List Val} (h : getL M n = some l) (h' : getL M k = some m) : itZip (.loc n) (.loc k) M = some (itZ (itLst n l.length) (itLst k m.length)) := by
  unfold itZip; dsimp only; rw [lenM_eq, lenM_eq, h, h']; rfl
/-- over a tuple -/
theorem wp_for_tup {l : List Val} (I : Nat → Sl → Mem → Prop) (h0 : I 0 e M)
    (hs : ∀ i x e M, l[i]? = some x → I i e M → (g x e M).wp (fun e1 M1 => (body e1 M1).wp (I (i + 1)) R N (I (i + 1)) Es) Es) (hd : ∀ e M, I l.length e M → N e M) : (forG (itTup l).nxt g body (itTup l).fuel 0 e M).wp N R B C Es :=
  wp_forG l I (fun _ _ _ _ => rfl) hs hd _ 0 e M (Nat.lt_succ_self _) (Nat.zero_le _) h0
/-- over a list that stays -/
theorem wp_for_lst {n b : Nat} {l : List Val} (I : Nat → Sl → Mem → Prop) (hb : l.length ≤ b) (hl : ∀ i e M, I i e M → getL M n = some l) (h0 : I 0 e M)
    (hs : ∀ i x e M, l[i]? = some x → I i e M → (g x e M).wp (fun e1 M1 => (body e1 M1).wp (I (i + 1)) R N (I (i + 1)) Es) Es) (hd : ∀ e M, I l.length e M → N e M) : (forG (itLst n b).nxt g body (itLst n b).fuel 0 e M).wp N R B C Es := by
  refine wp_forG l I (fun i e M h => ?_) hs hd _ 0 e M (by show _ < b + 1 + 0; omega) (Nat.zero_le _) h0
  have := getL_ok (hl i e M h)
  show (match M[n]? with | some (.lst l) => some l[i]? | _ => none) = _
  rw [this]
/-- the ints of a range -/
def rngL (lo : Int) (n : Nat) : List Val := (List.range n).map fun i => Val.int (lo + (i : Nat))
theorem rngL_get (lo : Int) (n i : Nat) : (rngL lo n)[i]? = if i < n then some (.int (lo + i)) else none := by
  unfold rngL
  by_cases h : i < n
  · simp [h]
  · simp [h]
@[simp] theorem rngL_length (lo : Int) (n : Nat) : (rngL lo n).length = n := by simp [rngL]
theorem wp_for_rng {lo : Int} {n : Nat} (I : Nat → Sl → Mem → Prop) (h0 : I 0 e M)
    (hs : ∀ i e M, i < n → I i e M → (g (.int (lo + i)) e M).wp (fun e1 M1 => (body e1 M1).wp (I (i + 1)) R N (I (i + 1)) Es) Es) (hd : ∀ e M, I n e M → N e M) : (forG (itRng lo n).nxt g body (itRng lo n).fuel 0 e M).wp N R B C Es := by
  refine wp_forG (rngL lo n) I (fun i e M _ => by rw [rngL_get]; rfl) (fun i x e M hx h => ?_) (fun e M h => hd e M (by simpa using h)) _ 0 e M (by rw [rngL_length]; exact Nat.lt_succ_self _) (Nat.zero_le _) h0
  rw [rngL_get] at hx
  split at hx
  · rename_i hi; cases hx; exact hs i e M hi h
  · cases hx
/-- over a list of the script -/
theorem wp_for_frz {l : List Int} (I : Nat → Sl → Mem → Prop) (h0 : I 0 e M)
    (hs : ∀ i x e M, l[i]? = some x → I i e M → (g (.int x) e M).wp (fun e1 M1 => (body e1 M1).wp (I (i + 1)) R N (I (i + 1)) Es) Es) (hd : ∀ e M, I l.length e M → N e M) : (forG (itFrz l).nxt g body (itFrz l).fuel 0 e M).wp N R B C Es := by
  refine wp_forG (l.map Val.int) I (fun i e M _ => by rw [List.getElem?_map]; rfl) (fun i x e M hx h => ?_) (fun e M h => hd e M (by simpa using h)) _ 0 e M (by rw [List.length_map]; exact Nat.lt_succ_self _) (Nat.zero_le _) h0
  rw [List.getElem?_map] at hx
  cases hi : l[i]? with
  | none => rw [hi] at hx; cases hx
  | some y => rw [hi] at hx; cases hx; exact hs i y e M hi h
/-- items with their numbers -/
def numL (l : List Val) : List Val := l.mapIdx fun i x => .tup [.int (i : Nat), x]
theorem numL_get (l : List Val) (i : Nat) : (numL l)[i]? = l[i]?.map fun x => Val.tup [.int (i : Nat), x] := by unfold numL; rw [List.getElem?_mapIdx]
@[simp] theorem numL_length (l : List Val) : (numL l).length = l.length := by simp [numL]
theorem wp_for_enumT {l : List Val} (I : Nat → Sl → Mem → Prop) (h0 : I 0 e M)
    (hs : ∀ i x e M, l[i]? = some x → I i e M → (g (.tup [.int (i : Nat), x]) e M).wp (fun e1 M1 => (body e1 M1).wp (I (i + 1)) R N (I (i + 1)) Es) Es) (hd : ∀ e M, I l.length e M → N e M) : (forG (itNum (itTup l)).nxt g body (itNum (itTup l)).fuel 0 e M).wp N R B C Es := by
  refine wp_forG (numL l) I (fun i e M _ => by rw [numL_get]; rfl) (fun i x e M hx h => ?_) (fun e M h => hd e M (by simpa using h)) _ 0 e M (by rw [numL_length]; exact Nat.lt_succ_self _) (Nat.zero_le _) h0
  rw [numL_get] at hx
  cases hi : l[i]? with
  | none => rw [hi] at hx; cases hx
  | some y => rw [hi] at hx; cases hx; exact hs i y e M hi h
theorem wp_for_enumL {n b : Nat} {l : List Val} (I : Nat → Sl → Mem → Prop) (hb : l.length ≤ b) (hl : ∀ i e M, I i e M → getL M n = some l) (h0 : I 0 e M)
    (hs : ∀ i x e M, l[i]? = some x → I i e M → (g (.tup [.int (i : Nat), x]) e M).wp (fun e1 M1 => (body e1 M1).wp (I (i + 1)) R N (I (i + 1)) Es) Es) (hd : ∀ e M, I l.length e M → N e M) : (forG (itNum (itLst n b)).nxt g body (itNum (itLst n b)).fuel 0 e M).wp N R B C Es := by
  refine wp_forG (numL l) I (fun i e M h => ?_) (fun i x e M hx h => ?_) (fun e M h => hd e M (by simpa using h)) _ 0 e M (by rw [numL_length]; show _ < b + 1 + 0; omega) (Nat.zero_le _) h0
  · have := getL_ok (hl i e M h)
    show Option.map _ (match M[n]? with | some (.lst l) => some l[i]? | _ => none) = _
    rw [this, numL_get]; rfl
  · rw [numL_get] at hx
    cases hi : l[i]? with
    | none => rw [hi] at hx; cases hx
    | some y => rw [hi] at hx; cases hx; exact hs i y e M hi h
theorem wp_for_zipT {l m : List Val} (hlm : l.length = m.length) (I : Nat → Sl → Mem → Prop) (h0 : I 0 e M)
    (hs : ∀ i x y e M, l[i]? = some x → m[i]? = some y → I i e M → (g (.tup [x, y]) e M).wp (fun e1 M1 => (body e1 M1).wp (I (i + 1)) R N (I (i + 1)) Es) Es) (hd : ∀ e M, I l.length e M → N e M) : (forG (itZ (itTup l) (itTup m)).nxt g body (itZ (itTup l) (itTup m)).fuel 0 e M).wp N R B C Es := by
  refine wp_forG ((l.zip m).map fun p => Val.tup [p.1, p.2]) I (fun i e M _ => ?_) (fun i x e M hx h => ?_) (fun e M h => hd e M (by simpa [hlm] using h)) _ 0 e M (by simp [hlm]; show _ < l.length + 1; omega) (Nat.zero_le _) h0
  · show (match some l[i]?, some m[i]? with
      | some (some x), some (some y) => some (some (Val.tup [x, y]))
      | some none, some _ => some none
      | some _, some none => some none
      | _, _ => none) = _
    by_cases hi : i < l.length
    · have hi' : i < m.length := by omega
      rw [List.getElem?_map, List.getElem?_eq_getElem (l := l.zip m) (by rw [List.length_zip]; omega), List.getElem_zip]
      simp [hi, hi']
    · have hi' : ¬ i < m.length := by omega
      rw [List.getElem?_map, List.getElem?_eq_none (l := l.zip m) (by rw [List.length_zip]; omega)]
      simp [hi, hi']
  · by_cases hi : i < l.length
    · have hi' : i < m.length := by omega
      rw [List.getElem?_map, List.getElem?_eq_getElem (by rw [List.length_zip]; omega), List.getElem_zip] at hx
      cases hx
      exact hs i l[i] m[i] e M (List.getElem?_eq_getElem hi) (List.getElem?_eq_getElem hi') h
    · rw [List.getElem?_map, List.getElem?_eq_none (l := l.zip m) (by rw [List.length_zip]; omega)] at hx
      cases hx
/-! comprehensions -/
@[simp] theorem wp_eLc (f : IF) (g : Tg) (t : TF) (el : EF) (vs : List Nat) : (eLc f g t el vs e M).wp Qv E = (f e M).wp (fun it M1 => (lcG it.nxt g t el M1.length (wipeS e vs) it.fuel 0 (M1 ++ [.lst []])).wp Qv E) E := by unfold eLc; rw [wp_bind]
theorem wp_lcG {g : Tg} {t : TF} {el : EF} {D : Nat} (l : List Val) (I : Nat → Mem → Prop) (hn : ∀ i M, I i M → nxt i M = some l[i]?)
    (hs : ∀ i x M, l[i]? = some x → I i M → ∃ e1, g.put x e = some e1 ∧ (t e1 M).wp (fun b M1 => if b = true then (el e1 M1).wp (fun y M2 => ∃ acc, getL M2 D = some acc ∧ acc.length < sizeLine ∧ I (i + 1) (M2.set D (.lst (acc ++ [y])))) noE else I (i + 1) M1) noE)
    (hd : ∀ M, I l.length M → Qv (.loc D) M) : ∀ (m i : Nat) (M : Mem), l.length < m + i → i ≤ l.length → I i M → (lcG nxt g t el D e m i M).wp Qv E
  | 0, i, M, h1, h2, _ => absurd h1 (by omega)
  | m + 1, i, M, h1, h2, hI => by
    unfold lcG
    rw [hn i M hI]
    cases hx : l[i]? with
    | none =>
      have : l.length ≤ i := List.getElem?_eq_none_iff.mp hx
      have e1 : i = l.length := by omega
      subst e1
      exact hd M hI
    | some x =>
      have hlt : i < l.length := (List.getElem?_eq_some_iff.mp hx).1
      obtain ⟨e1, hp, h⟩ := hs i x M hx hI
      dsimp only
      rw [hp]
      dsimp only
      cases ht : t e1 M with
      | bad => rw [ht] at h; exact h.elim
      | ex _ _ => rw [ht] at h; exact h.elim
      | ok b M1 =>
        rw [ht] at h
        simp only [wp_ok] at h
        dsimp only
        by_cases hb : b = true
        · rw [if_pos hb] at h ⊢
          cases hl : el e1 M1 with
          | bad => rw [hl] at h; exact h.elim
          | ex _ _ => rw [hl] at h; exact h.elim
          | ok y M2 =>
            rw [hl] at h
            simp only [wp_ok] at h
            obtain ⟨acc, ha, hz, hI'⟩ := h
            dsimp only
            rw [getL_ok ha]
            dsimp only
            rw [if_pos hz]
            exact wp_lcG l I hn hs hd m (i + 1) _ (by omega) (by omega) hI'
        · rw [if_neg hb] at h ⊢
          exact wp_lcG l I hn hs hd m (i + 1) _ (by omega) (by omega) h
/-- one whose elements and tests are functions of the item -/
theorem wp_lc_fun {g : Tg} {t : TF} {el : EF} {M1 : Mem} {b : Nat} (l : List Val) (p : Val → Bool) (f : Val → Val) (hb : l.length ≤ b) (hz : l.length ≤ sizeLine) (hn : ∀ (i : Nat) M, M1 <+: M → nxt i M = some l[i]?)
    (hs : ∀ (i : Nat) x M, l[i]? = some x → M1 <+: M → ∃ e1, g.put x e = some e1 ∧ (t e1 M).wp (fun b M' => b = p x ∧ M <+: M' ∧ (p x = true → (el e1 M').wp (fun y M'' => y = f x ∧ M' <+: M'') noE)) noE)
    (hd : ∀ M, M1 <+: M → getL M M1.length = some ((l.filter p).map f) → Qv (.loc M1.length) M) : (lcG nxt g t el M1.length e (b + 1) 0 (M1 ++ [.lst []])).wp Qv E := by
  refine wp_lcG l (fun i M => M1 <+: M ∧ getL M M1.length = some (((l.take i).filter p).map f)) (fun i M h => hn i M h.1) (fun i x M hx h => ?_) (fun M h => ?_) _ 0 _ (by omega) (Nat.zero_le _) ⟨List.prefix_append _ _, by simpa using getL_append_new M1 []⟩
  · obtain ⟨e1, h1, h2⟩ := hs i x M hx h.1
    have hi : i < l.length := (List.getElem?_eq_some_iff.mp hx).1
    have htk : l.take (i + 1) = l.take i ++ [x] := by
      rw [List.take_add_one, hx]; rfl
    refine ⟨e1, h1, Out.wp_mono h2 (fun b M' ⟨hb', hp, hel⟩ => ?_) fun _ _ z => z⟩
    subst hb'
    by_cases hpx : p x = true
    · rw [if_pos hpx]
      refine Out.wp_mono (hel hpx) (fun y M'' ⟨hy, hp2⟩ => ?_) fun _ _ z => z
      subst hy
      have hg := getL_pre (hp.trans hp2) h.2
      refine ⟨_, hg, ?_, pre_set ((h.1.trans hp).trans hp2) (Nat.le_refl _), ?_⟩
      · have h1 : ((l.take i).filter p).length ≤ (l.take i).length := List.length_filter_le _ _
        rw [List.length_map]
        rw [List.length_take] at h1
        omega
      · rw [getL_set hg, htk, List.filter_append, List.map_append]
        simp [hpx]
    · rw [if_neg hpx]
      refine ⟨h.1.trans hp, ?_⟩
      rw [getL_pre hp h.2, htk, List.filter_append, List.map_append]
      simp [hpx]
  · refine hd M h.1 ?_
    rw [h.2, List.take_length]
end
end Sm

namespace Sm
open PySem L2
/-- all but r (and what is new) stands -/
structure Kp (r : Nat) (M M' : Mem) : Prop where
  len : M.length ≤ M'.length
  at_ : ∀ i, i < M.length → i ≠ r → M'[i]? = M[i]?
theorem Kp.refl (r : Nat) (M : Mem) : Kp r M M := ⟨Nat.le_refl _, fun _ _ _ => rfl⟩
theorem Kp.trans {r : Nat} {M M1 M2 : Mem} (a : Kp r M M1) (b : Kp r M1 M2) : Kp r M M2 :=
  ⟨Nat.le_trans a.len b.len, fun i h1 h2 => (b.at_ i (Nat.lt_of_lt_of_le h1 a.len) h2).trans (a.at_ i h1 h2)⟩
theorem Kp.set {r : Nat} {M : Mem} {c : Cell} : Kp r M (M.set r c) := ⟨by simp, fun i h1 h2 => List.getElem?_set_ne (Ne.symm h2)⟩
theorem Kp.pre {r : Nat} {M M' : Mem} (p : M <+: M') : Kp r M M' := ⟨pre_len p, fun i h1 _ => by obtain ⟨t, rfl⟩ := p; rw [List.getElem?_append_left h1]⟩
theorem Kp.app {r : Nat} {M M' : Mem} (a : Kp r M M') (t : List Cell) : Kp r M (M' ++ t) := a.trans (.pre (List.prefix_append _ _))
theorem Kp.getL {r n : Nat} {M M' : Mem} {l : List Val} (k : Kp r M M') (h : getL M n = some l) (hn : n ≠ r) : getL M' n = some l := by
  unfold Sm.getL
  rw [k.at_ n (getL_lt h) hn, getL_ok h]
/-- a write beyond -/
theorem Kp.setN {r n : Nat} {M M' : Mem} {c : Cell} (k : Kp r M M') (h : M.length ≤ n) : Kp r M (M'.set n c) :=
  ⟨by simpa using k.len, fun i h1 h2 => by rw [List.getElem?_set_ne (by omega)]; exact k.at_ i h1 h2⟩
@[simp] theorem setV_get (n : Nat) (k : Int) (x : Val) (M : Mem) : setV (.loc n) (.int k) x M = (getL M n).bind fun l => (ixN l.length k).map fun j => M.set n (.lst (l.set j x)) := by
  unfold setV getL
  dsimp only
  cases M[n]? with
  | none => rfl
  | some c => cases c with
    | lst l => dsimp only; rw [Option.bind_some]; cases ixN l.length k <;> rfl
    | _ => rfl
theorem ixN_nat {n : Nat} {j : Nat} (h : j < n) : ixN n (j : Int) = some j := by
  unfold ixN
  rw [if_pos (by omega), if_pos (by omega)]; simp
theorem ixN_of {n : Nat} {i : Int} (h0 : 0 ≤ i) (h : i < n) : ixN n i = some i.toNat := by
  unfold ixN
  rw [if_pos h0, if_pos h]
@[simp] theorem small64_lit1 : small64 48271 = true := by decide
@[simp] theorem wipeS_nil (e : Sl) : wipeS e [] = e := rfl
@[simp] theorem wipeS_cons (e : Sl) (v : Nat) (vs : List Nat) : wipeS e (v :: vs) = (wipeS e vs).set v none := rfl
@[simp] theorem put_one (i : Nat) (x : Val) (e : Sl) : (Tg.one i).put x e = some (e.set i (some x)) := rfl
@[simp] theorem put_many (is : List Nat) (l : List Val) (e : Sl) : (Tg.many is).put (.tup l) e = if l.length = is.length then some (setAll is l e) else none := rfl
end Sm

namespace Sm
open PySem L2
/-! wp, held shut -/
@[irreducible] def owp {α : Type} (o : Out α) (Q : α → Mem → Prop) (E : Ex → Mem → Prop) : Prop := o.wp Q E
@[irreducible] def swp (o : SO) (N : Sl → Mem → Prop) (R : Val → Mem → Prop) (B C : Sl → Mem → Prop) (E : Ex → Sl → Mem → Prop) : Prop := o.wp N R B C E
@[irreducible] def gwp (o : GO) (N : Sl → Mem → Prop) (E : Ex → Sl → Mem → Prop) : Prop := o.wp N E
theorem owp_eq {α : Type} {o : Out α} {Q : α → Mem → Prop} {E : Ex → Mem → Prop} : owp o Q E = o.wp Q E := by unfold owp; rfl
theorem swp_eq {o : SO} {N : Sl → Mem → Prop} {R : Val → Mem → Prop} {B C : Sl → Mem → Prop} {E : Ex → Sl → Mem → Prop} : swp o N R B C E = o.wp N R B C E := by unfold swp; rfl
theorem gwp_eq {o : GO} {N : Sl → Mem → Prop} {E : Ex → Sl → Mem → Prop} : gwp o N E = o.wp N E := by unfold gwp; rfl
theorem wp_eDc0 (f : IF) (g : Tg) (t : TF) (ek ev : EF) (vs : List Nat) {e : Sl} {M : Mem} {Qv : Val → Mem → Prop} {E : Ex → Mem → Prop} : (eDc f g t ek ev vs e M).wp Qv E = (f e M).wp (fun it M1 => (dcG it.nxt g t ek ev M1.length (wipeS e vs) it.fuel 0 (M1 ++ [.dK []])).wp Qv E) E := by unfold eDc; rw [wp_bind]
namespace Kt
section
variable {α β : Type} {Q : α → Mem → Prop} {Qv : Val → Mem → Prop} {Qb : Bool → Mem → Prop} {Ql : List Val → Mem → Prop} {E : Ex → Mem → Prop} {e : Sl} {M : Mem} {N B C : Sl → Mem → Prop} {R : Val → Mem → Prop} {Es : Ex → Sl → Mem → Prop}
@[simp] theorem owp_ok (a : α) : owp (Out.ok a M) Q E = Q a M := by simp only [owp_eq, swp_eq, gwp_eq, wp_ok]
@[simp] theorem owp_ex (x : Ex) : owp (Out.ex x M : Out α) Q E = E x M := by simp only [owp_eq, swp_eq, gwp_eq, wp_ex]
@[simp] theorem owp_bad : owp (Out.bad : Out α) Q E = False := by simp only [owp_eq, swp_eq, gwp_eq, wp_bad]
@[simp] theorem owp_snx : swp (SO.nx e M) N R B C Es = N e M := by simp only [owp_eq, swp_eq, gwp_eq, wp_snx]
@[simp] theorem owp_srt (x : Val) : swp (SO.rt x M) N R B C Es = R x M := by simp only [owp_eq, swp_eq, gwp_eq, wp_srt]
@[simp] theorem owp_sbk : swp (SO.bk e M) N R B C Es = B e M := by simp only [owp_eq, swp_eq, gwp_eq, wp_sbk]
@[simp] theorem owp_sct : swp (SO.ct e M) N R B C Es = C e M := by simp only [owp_eq, swp_eq, gwp_eq, wp_sct]
@[simp] theorem owp_sex (x : Ex) : swp (SO.ex x e M) N R B C Es = Es x e M := by simp only [owp_eq, swp_eq, gwp_eq, wp_sex]
@[simp] theorem owp_sbad : swp (SO.bad) N R B C Es = False := by simp only [owp_eq, swp_eq, gwp_eq, wp_sbad]
@[simp] theorem owp_eC (x : Val) : owp (eC x e M) Qv E = Qv x M := by simp only [owp_eq, swp_eq, gwp_eq, wp_eC]
@[simp] theorem owp_eVar (i : Nat) : owp (eVar i e M) Qv E = ∃ x, sget e i = some x ∧ Qv x M := by simp only [owp_eq, swp_eq, gwp_eq, wp_eVar]
@[simp] theorem owp_aNil : owp (aNil e M) Ql E = Ql [] M := by simp only [owp_eq, swp_eq, gwp_eq, wp_aNil]
@[simp] theorem owp_tTrue : owp (tTrue e M) Qb E = Qb true M := by simp only [owp_eq, swp_eq, gwp_eq, wp_tTrue]
@[simp] theorem owp_sNil : swp (sNil e M) N R B C Es = N e M := by simp only [owp_eq, swp_eq, gwp_eq, wp_sNil]
@[simp] theorem owp_sRetN : swp (sRetN e M) N R B C Es = R .non M := by simp only [owp_eq, swp_eq, gwp_eq, wp_sRetN]
@[simp] theorem owp_sBrk : swp (sBrk e M) N R B C Es = B e M := by simp only [owp_eq, swp_eq, gwp_eq, wp_sBrk]
@[simp] theorem owp_sCnt : swp (sCnt e M) N R B C Es = C e M := by simp only [owp_eq, swp_eq, gwp_eq, wp_sCnt]
@[simp] theorem owp_sBad : swp (sBad e M) N R B C Es = False := by simp only [owp_eq, swp_eq, gwp_eq, wp_sBad]
@[simp] theorem owp_gnx : gwp (GO.nx e M) N Es = N e M := by simp only [owp_eq, swp_eq, gwp_eq, wp_gnx]
@[simp] theorem owp_gbad : gwp (GO.bad) N Es = False := by simp only [owp_eq, swp_eq, gwp_eq, wp_gbad]
@[simp] theorem owp_gNm (i : Nat) (x : Val) : gwp (gNm i x e M) N Es = N (e.set i (some x)) M := by simp only [owp_eq, swp_eq, gwp_eq, wp_gNm]
@[simp] theorem owp_gTp (n : Nat) (gs : GsF) (l : List Val) : gwp (gTp n gs (.tup l) e M) N Es = (l.length = n ∧ gwp (gs l e M) N Es) := by simp only [owp_eq, swp_eq, gwp_eq, wp_gTp]
@[simp] theorem owp_gsNil : gwp (gsNil [] e M) N Es = N e M := by simp only [owp_eq, swp_eq, gwp_eq, wp_gsNil]
@[simp] theorem owp_add_ii (i j : Int) : owp (addV (.int i) (.int j) M) Qv E = Qv (.int (i + j)) M := by simp only [owp_eq, swp_eq, gwp_eq, wp_add_ii]
@[simp] theorem owp_add_tt (a b : List Val) : owp (addV (.tup a) (.tup b) M) Qv E = (a.length + b.length ≤ sizeLine ∧ Qv (.tup (a ++ b)) M) := by simp only [owp_eq, swp_eq, gwp_eq, wp_add_tt]
@[simp] theorem owp_add_ss (a b : Str) : owp (addV (.str a) (.str b) M) Qv E = (a.length + b.length ≤ sizeLine ∧ Qv (.str (a ++ b)) M) := by simp only [owp_eq, swp_eq, gwp_eq, wp_add_ss]
@[simp] theorem owp_add_ll (m n : Nat) : owp (addV (.loc m) (.loc n) M) Qv E = ∃ a b, getL M m = some a ∧ getL M n = some b ∧ a.length + b.length ≤ sizeLine ∧ Qv (.loc M.length) (M ++ [.lst (a ++ b)]) := by simp only [owp_eq, swp_eq, gwp_eq, wp_add_ll]
@[simp] theorem owp_sub_ii (i j : Int) : owp (subV (.int i) (.int j) M) Qv E = Qv (.int (i - j)) M := by simp only [owp_eq, swp_eq, gwp_eq, wp_sub_ii]
@[simp] theorem owp_mul_ii (i j : Int) : owp (mulV (.int i) (.int j) M) Qv E = ((small64 i || small64 j) = true ∧ Qv (.int (i * j)) M) := by simp only [owp_eq, swp_eq, gwp_eq, wp_mul_ii]
@[simp] theorem owp_mul_li (n : Nat) (k : Int) : owp (mulV (.loc n) (.int k) M) Qv E = ∃ l, getL M n = some l ∧ (-(2 ^ 63) ≤ k ∧ k < 2 ^ 63 ∧ l.length * k.toNat ≤ sizeLine) ∧ Qv (.loc M.length) (M ++ [.lst (List.replicate k.toNat l).flatten]) := by simp only [owp_eq, swp_eq, gwp_eq, wp_mul_li]
@[simp] theorem owp_mul_ti (l : List Val) (k : Int) : owp (mulV (.tup l) (.int k) M) Qv E = ((l ≠ [] ∧ 2 ≤ k ∧ k ≤ 1000 ∧ l.length ≤ 1000) ∧ Qv (.tup (List.replicate k.toNat l).flatten) M) := by simp only [owp_eq, swp_eq, gwp_eq, wp_mul_ti]
@[simp] theorem owp_div_ii (i j : Int) : owp (divV (.int i) (.int j) M) Qv E = ((0 < j ∧ j < 1073741824) ∧ Qv (.int (i / j)) M) := by simp only [owp_eq, swp_eq, gwp_eq, wp_div_ii]
@[simp] theorem owp_mod_ii (i j : Int) : owp (modV (.int i) (.int j) M) Qv E = (0 < j ∧ Qv (.int (i % j)) M) := by simp only [owp_eq, swp_eq, gwp_eq, wp_mod_ii]
@[simp] theorem owp_pow_ii (i j : Int) : owp (powV (.int i) (.int j) M) Qv E = ((0 ≤ j ∧ j ≤ 1000000 ∧ i.natAbs < 2 ^ 64) ∧ Qv (.int (i ^ j.toNat)) M) := by simp only [owp_eq, swp_eq, gwp_eq, wp_pow_ii]
@[simp] theorem owp_cmp_ii (p : Int → Int → Bool) (i j : Int) : owp (cmpV p (.int i) (.int j) M) Qv E = Qv (.bl (p i j)) M := by simp only [owp_eq, swp_eq, gwp_eq, wp_cmp_ii]
@[simp] theorem owp_neg_i (i : Int) : owp (negV (.int i) M) Qv E = Qv (.int (-i)) M := by simp only [owp_eq, swp_eq, gwp_eq, wp_neg_i]
@[simp] theorem owp_isN (x : Val) : owp (isN x .non M) Qv E = Qv (.bl (isNon x)) M := by simp only [owp_eq, swp_eq, gwp_eq, wp_isN]
@[simp] theorem owp_notN (x : Val) : owp (notN x .non M) Qv E = Qv (.bl (!isNon x)) M := by simp only [owp_eq, swp_eq, gwp_eq, wp_notN]
@[simp] theorem owp_eqV (x y : Val) : owp (eqV x y M) Qv E = ∃ b, eqD x y M = some b ∧ Qv (.bl b) M := by simp only [owp_eq, swp_eq, gwp_eq, wp_eqV]
@[simp] theorem owp_neV (x y : Val) : owp (neV x y M) Qv E = ∃ b, eqD x y M = some b ∧ Qv (.bl (!b)) M := by simp only [owp_eq, swp_eq, gwp_eq, wp_neV]
@[simp] theorem owp_inV (x y : Val) : owp (inV x y M) Qv E = ∃ b, inD x y M = some b ∧ Qv (.bl b) M := by simp only [owp_eq, swp_eq, gwp_eq, wp_inV]
@[simp] theorem owp_notInV (x y : Val) : owp (notInV x y M) Qv E = ∃ b, inD x y M = some b ∧ Qv (.bl (!b)) M := by simp only [owp_eq, swp_eq, gwp_eq, wp_notInV]
@[simp] theorem owp_ix_t (l : List Val) (i : Int) : owp (ixV (.tup l) (.int i) M) Qv E = ∃ v, atI l i = some v ∧ Qv v M := by simp only [owp_eq, swp_eq, gwp_eq, wp_ix_t]
@[simp] theorem owp_ix_f (l : List Int) (i : Int) : owp (ixV (.frz l) (.int i) M) Qv E = ∃ v, atI l i = some v ∧ Qv (.int v) M := by simp only [owp_eq, swp_eq, gwp_eq, wp_ix_f]
@[simp] theorem owp_ix_l (n : Nat) (i : Int) : owp (ixV (.loc n) (.int i) M) Qv E = ∃ l, getL M n = some l ∧ ∃ v, atI l i = some v ∧ Qv v M := by simp only [owp_eq, swp_eq, gwp_eq, wp_ix_l]
@[simp] theorem owp_oNone {Qo : Option Int → Mem → Prop} : owp (oNone e M) Qo E = Qo none M := by simp only [owp_eq, swp_eq, gwp_eq, wp_oNone]
@[simp] theorem owp_sl_t (l : List Val) (lo hi : Option Int) : owp (slV (.tup l) lo hi M) Qv E = Qv (.tup (cutL l lo hi)) M := by simp only [owp_eq, swp_eq, gwp_eq, wp_sl_t]
@[simp] theorem owp_sl_l (n : Nat) (lo hi : Option Int) : owp (slV (.loc n) lo hi M) Qv E = ∃ l, getL M n = some l ∧ Qv (.loc M.length) (M ++ [.lst (cutL l lo hi)]) := by simp only [owp_eq, swp_eq, gwp_eq, wp_sl_l]
@[simp] theorem owp_len_t (l : List Val) : owp (lenV [.tup l] M) Qv E = Qv (.int l.length) M := by simp only [owp_eq, swp_eq, gwp_eq, wp_len_t]
@[simp] theorem owp_len_f (l : List Int) : owp (lenV [.frz l] M) Qv E = Qv (.int l.length) M := by simp only [owp_eq, swp_eq, gwp_eq, wp_len_f]
@[simp] theorem owp_len_l (n : Nat) : owp (lenV [.loc n] M) Qv E = ∃ l, getL M n = some l ∧ Qv (.int l.length) M := by simp only [owp_eq, swp_eq, gwp_eq, wp_len_l]
@[simp] theorem owp_tuple_t (l : List Val) : owp (tupleV [.tup l] M) Qv E = Qv (.tup l) M := by simp only [owp_eq, swp_eq, gwp_eq, wp_tuple_t]
@[simp] theorem owp_tuple_l (n : Nat) : owp (tupleV [.loc n] M) Qv E = ∃ l, getL M n = some l ∧ Qv (.tup l) M := by simp only [owp_eq, swp_eq, gwp_eq, wp_tuple_l]
@[simp] theorem owp_list_t (l : List Val) : owp (listV [.tup l] M) Qv E = Qv (.loc M.length) (M ++ [.lst l]) := by simp only [owp_eq, swp_eq, gwp_eq, wp_list_t]
@[simp] theorem owp_list_l (n : Nat) : owp (listV [.loc n] M) Qv E = ∃ l, getL M n = some l ∧ Qv (.loc M.length) (M ++ [.lst l]) := by simp only [owp_eq, swp_eq, gwp_eq, wp_list_l]
@[simp] theorem owp_int_i (i : Int) : owp (intV [.int i] M) Qv E = Qv (.int i) M := by simp only [owp_eq, swp_eq, gwp_eq, wp_int_i]
@[simp] theorem owp_int_b (b : Bool) : owp (intV [.bl b] M) Qv E = Qv (.int (if b then 1 else 0)) M := by simp only [owp_eq, swp_eq, gwp_eq, wp_int_b]
@[simp] theorem owp_abs (i : Int) : owp (absV1 [.int i] M) Qv E = Qv (.int (if i < 0 then -i else i)) M := by simp only [owp_eq, swp_eq, gwp_eq, wp_abs]
@[simp] theorem owp_max2 (i j : Int) : owp (max2V [.int i, .int j] M) Qv E = Qv (.int (if j > i then j else i)) M := by simp only [owp_eq, swp_eq, gwp_eq, wp_max2]
@[simp] theorem owp_min2 (i j : Int) : owp (min2V [.int i, .int j] M) Qv E = Qv (.int (if j < i then j else i)) M := by simp only [owp_eq, swp_eq, gwp_eq, wp_min2]
@[simp] theorem owp_sorted (n : Nat) : owp (sortedV [.loc n] M) Qv E = ∃ l, (getL M n).bind intsOf = some l ∧ l.length < 64 ∧ Qv (.loc M.length) (M ++ [.lst ((sortI l).map .int)]) := by simp only [owp_eq, swp_eq, gwp_eq, wp_sorted]
@[simp] theorem owp_sum (n : Nat) : owp (sumV [.loc n] M) Qv E = ∃ l, (getL M n).bind intsOf = some l ∧ Qv (.int l.sum) M := by simp only [owp_eq, swp_eq, gwp_eq, wp_sum]
@[simp] theorem owp_max (n : Nat) : owp (maxV [.loc n] M) Qv E = ∃ l, (getL M n).bind intsOf = some l ∧ 0 < l.length ∧ Qv (.int (maxL l)) M := by simp only [owp_eq, swp_eq, gwp_eq, wp_max]
@[simp] theorem owp_min (n : Nat) : owp (minV [.loc n] M) Qv E = ∃ l, (getL M n).bind intsOf = some l ∧ 0 < l.length ∧ Qv (.int (minL l)) M := by simp only [owp_eq, swp_eq, gwp_eq, wp_min]
@[simp] theorem owp_any (n : Nat) : owp (anyV [.loc n] M) Qv E = ∃ l, (getL M n).bind boolsOf = some l ∧ Qv (.bl (l.any id)) M := by simp only [owp_eq, swp_eq, gwp_eq, wp_any]
@[simp] theorem owp_all (n : Nat) : owp (allV [.loc n] M) Qv E = ∃ l, (getL M n).bind boolsOf = some l ∧ Qv (.bl (l.all id)) M := by simp only [owp_eq, swp_eq, gwp_eq, wp_all]
@[simp] theorem owp_append (n : Nat) (y : Val) : owp (appendV (.loc n) [y] M) Qv E = ∃ xs, getL M n = some xs ∧ xs.length < sizeLine ∧ Qv .non (M.set n (.lst (xs ++ [y]))) := by simp only [owp_eq, swp_eq, gwp_eq, wp_append]
@[simp] theorem owp_extend (n m : Nat) : owp (extendV (.loc n) [.loc m] M) Qv E = ∃ xs ys, getL M n = some xs ∧ getL M m = some ys ∧ xs.length + ys.length ≤ sizeLine ∧ Qv .non (M.set n (.lst (xs ++ ys))) := by simp only [owp_eq, swp_eq, gwp_eq, wp_extend]
@[simp] theorem owp_pop (n : Nat) : owp (popV (.loc n) [] M) Qv E = ∃ xs, getL M n = some xs ∧ ∃ y, xs[xs.length - 1]? = some y ∧ Qv y (M.set n (.lst xs.dropLast)) := by simp only [owp_eq, swp_eq, gwp_eq, wp_pop]
@[simp] theorem owp_popAt (n : Nat) (i : Int) : owp (popAtV (.loc n) [.int i] M) Qv E = ∃ xs, getL M n = some xs ∧ (-(2 ^ 63) ≤ i ∧ i < 2 ^ 63) ∧ ∃ k, ixN xs.length i = some k ∧ ∃ y, xs[k]? = some y ∧ Qv y (M.set n (.lst (xs.eraseIdx k))) := by simp only [owp_eq, swp_eq, gwp_eq, wp_popAt]
@[simp] theorem owp_ar (h : Int → Int → Int) (i j : Int) : owp (arI h (.int i) (.int j) M) Qv E = Qv (.int (h i j)) M := by simp only [owp_eq, swp_eq, gwp_eq, wp_ar]
end
/-! what follows, without binders: with these open, simp steps at the head alone -/
abbrev PV := Val → Mem → Prop
abbrev PB := Bool → Mem → Prop
abbrev PL := List Val → Mem → Prop
abbrev PS := Sl → Mem → Prop
abbrev PX := Ex → Mem → Prop
abbrev PXs := Ex → Sl → Mem → Prop
abbrev G2 := Val → Val → Mem → Out Val
def kB (g : G2) (x : Val) (Q : PV) (E : PX) : PV := fun y M => owp (g x y M) Q E
def kA (g : G2) (fb : EF) (e : Sl) (Q : PV) (E : PX) : PV := fun x M => owp (fb e M) (kB g x Q E) E
def kU (g : Val → Mem → Out Val) (Q : PV) (E : PX) : PV := fun x M => owp (g x M) Q E
def kD (x : Val) (Q : PL) : PL := fun l M => Q (x :: l) M
def kC (fr : AF) (e : Sl) (Q : PL) (E : PX) : PV := fun x M => owp (fr e M) (kD x Q) E
def kT (Q : PV) : PL := fun l M => l.length ≤ sizeLine ∧ Q (.tup l) M
def kL (Q : PV) : PL := fun l M => l.length ≤ sizeLine ∧ Q (.loc M.length) (M ++ [.lst l])
def kF (F : FnS) (Q : PV) (E : PX) : PL := fun l M => owp (F l M) Q E
def kN (np : Nat) (F : FnS) (Q : PV) (E : PX) : PL := fun l M => l.length = np ∧ owp (F l M) Q E
def kI (fa fb : EF) (e : Sl) (Q : PV) (E : PX) : PB := fun b M => if b = true then owp (fa e M) Q E else owp (fb e M) Q E
def kX (Q : PB) : PV := fun z M => ∃ b, z = .bl b ∧ Q b M
def kTr (Q : PB) : PV := fun z M => ∃ b, truV z M = some b ∧ Q b M
def kNt (Q : PB) : PB := fun b M => Q (!b) M
def kAn (u : TF) (e : Sl) (Q : PB) (E : PX) : PB := fun b M => if b = true then owp (u e M) Q E else Q false M
def kOr (u : TF) (e : Sl) (Q : PB) (E : PX) : PB := fun b M => if b = true then Q true M else owp (u e M) Q E
def kEa (u : EF) (e : Sl) (Q : PV) (E : PX) : PB := fun b M => if b = true then owp (u e M) Q E else Q (.bl false) M
def kEo (u : EF) (e : Sl) (Q : PV) (E : PX) : PB := fun b M => if b = true then Q (.bl true) M else owp (u e M) Q E
def kEn (Q : PV) : PB := fun b M => Q (.bl (!b)) M
def kCd (g' : G2) (y : Val) (fc : EF) (e : Sl) (Q : PV) (E : PX) : PB := fun b M => if b = true then owp (fc e M) (kB g' y Q E) E else Q (.bl false) M
def kCc (g g' : G2) (x : Val) (fc : EF) (e : Sl) (Q : PV) (E : PX) : PV := fun y M => owp (g x y M) (kX (kCd g' y fc e Q E)) E
def kCb (g g' : G2) (fb fc : EF) (e : Sl) (Q : PV) (E : PX) : PV := fun x M => owp (fb e M) (kCc g g' x fc e Q E) E
def kS (g : SF) (N : PS) (R : PV) (B C : PS) (Es : PXs) : PS := fun e M => swp (g e M) N R B C Es
def kEr (Es : PXs) (e : Sl) : PX := fun x M => Es x e M
def kEx (e : Sl) (N : PS) : PV := fun _ M => N e M
def kIf (f g : SF) (e : Sl) (N : PS) (R : PV) (B C : PS) (Es : PXs) : PB := fun b M => if b = true then swp (f e M) N R B C Es else swp (g e M) N R B C Es
def kAs (g : GF) (e : Sl) (N : PS) (Es : PXs) : PV := fun x M => gwp (g x e M) N Es
def kGs (gs : GsF) (l : List Val) (N : PS) (Es : PXs) : PS := fun e M => gwp (gs l e M) N Es
def kSc (o x : Val) (e : Sl) (N : PS) : PV := fun i M => ∃ M3, setV o i x M = some M3 ∧ N e M3
def kSb (fi : EF) (x : Val) (e : Sl) (N : PS) (Es : PXs) : PV := fun o M => owp (fi e M) (kSc o x e N) (kEr Es e)
def kPa (is : List Nat) (e : Sl) (N : PS) : PL := fun l M => l.length = is.length ∧ N (setAll is l e) M
def kAh (i : Nat) (e : Sl) (N : PS) : PV := fun z M => N (e.set i (some z)) M
def kAg (g : G2) (x : Val) (i : Nat) (e : Sl) (N : PS) (Es : PXs) : PV := fun y M => owp (g x y M) (kAh i e N) (kEr Es e)
def kRn (Q : PV) : PS := fun _ M => Q .non M
def kFF : PS := fun _ _ => False
def kE1 (E : PX) : PXs := fun x _ M => E x M
def kFo (g : GF) (body : SF) (e : Sl) (N : PS) (R : PV) (B C : PS) (Es : PXs) : Itr → Mem → Prop := fun it M => swp (forG it.nxt g body it.fuel 0 e M) N R B C Es
def kIs (Q : Itr → Mem → Prop) : PV := fun x M => ∃ it, itSeq x M = some it ∧ Q it M
def kIe (Q : Itr → Mem → Prop) : PV := fun x M => ∃ it, itEnum x M = some it ∧ Q it M
def kIz (x : Val) (Q : Itr → Mem → Prop) : PV := fun y M => ∃ it, itZip x y M = some it ∧ Q it M
def kIy (f : EF) (e : Sl) (Q : Itr → Mem → Prop) (E : PX) : PV := fun x M => owp (f e M) (kIz x Q) E
def kI1 (Q : Itr → Mem → Prop) : PV := fun x M => ∃ j, x = .int j ∧ (-(2 ^ 62) ≤ j ∧ j < 2 ^ 62) ∧ Q (itRng 0 j.toNat) M
def kI3 (x : Val) (Q : Itr → Mem → Prop) : PV := fun y M => ∃ i j, x = .int i ∧ y = .int j ∧ (-(2 ^ 62) ≤ i ∧ i < 2 ^ 62 ∧ -(2 ^ 62) ≤ j ∧ j < 2 ^ 62) ∧ Q (itRng i (j - i).toNat) M
def kI2 (f : EF) (e : Sl) (Q : Itr → Mem → Prop) (E : PX) : PV := fun x M => owp (f e M) (kI3 x Q) E
def kLc (g : Tg) (t : TF) (el : EF) (vs : List Nat) (e : Sl) (Q : PV) (E : PX) : Itr → Mem → Prop := fun it M => owp (lcG it.nxt g t el M.length (wipeS e vs) it.fuel 0 (M ++ [.lst []])) Q E
def kDc (g : Tg) (t : TF) (ek ev : EF) (vs : List Nat) (e : Sl) (Q : PV) (E : PX) : Itr → Mem → Prop := fun it M => owp (dcG it.nxt g t ek ev M.length (wipeS e vs) it.fuel 0 (M ++ [.dK []])) Q E
def kOs (Q : Option Int → Mem → Prop) : PV := fun x M => ∃ i, x = .int i ∧ Q (some i) M
def kSd (x : Val) (lo : Option Int) (Q : PV) (E : PX) : Option Int → Mem → Prop := fun hi M => owp (slV x lo hi M) Q E
def kSe (x : Val) (h : OF) (e : Sl) (Q : PV) (E : PX) : Option Int → Mem → Prop := fun lo M => owp (h e M) (kSd x lo Q E) E
def kSl (l h : OF) (e : Sl) (Q : PV) (E : PX) : PV := fun x M => owp (l e M) (kSe x h e Q E) E
def kR1 (Q : PV) : PV := fun x M => ∃ n, x = .int n ∧ (-(2 ^ 62) ≤ n ∧ n < 2 ^ 62 ∧ n.toNat ≤ 2 ^ 24) ∧ Q (.loc M.length) (M ++ [.lst (rangeL 0 n)])
def kTy (ts : List Bt) (Q : PV) : PV := fun x M => (tyN x M).isSome = true ∧ Q (.bl (ts.any fun t => isT x t)) M
def kMb (x : Val) (g : MtF) (Q : PV) (E : PX) : PL := fun l M => owp (g x l M) Q E
def kMt (T : String) (g : MtF) (fa : AF) (e : Sl) (Q : PV) (E : PX) : PV := fun x M => isTyM T x M = true ∧ owp (fa e M) (kMb x g Q E) E
section
variable {Q : PV} {Qb : PB} {Ql : PL} {E : PX} {e : Sl} {M : Mem} {N B C : PS} {R : PV} {Es : PXs} {x y : Val} {l : List Val} {b : Bool} {g g' : G2} {fa fb fc : EF} {af : AF} {t u : TF} {f h : SF} {Qi : Itr → Mem → Prop} {it : Itr} {Qo : Option Int → Mem → Prop} {lo : Option Int}
@[simp] theorem kB_ap : kB g x Q E y M = owp (g x y M) Q E := rfl
@[simp] theorem kA_ap : kA g fb e Q E x M = owp (fb e M) (kB g x Q E) E := rfl
@[simp] theorem kU_ap {g} : kU g Q E x M = owp (g x M) Q E := rfl
@[simp] theorem kD_ap : kD x Ql l M = Ql (x :: l) M := rfl
@[simp] theorem kC_ap : kC af e Ql E x M = owp (af e M) (kD x Ql) E := rfl
@[simp] theorem kT_ap : kT Q l M = (l.length ≤ sizeLine ∧ Q (.tup l) M) := rfl
@[simp] theorem kL_ap : kL Q l M = (l.length ≤ sizeLine ∧ Q (.loc M.length) (M ++ [.lst l])) := rfl
@[simp] theorem kF_ap {F} : kF F Q E l M = owp (F l M) Q E := rfl
@[simp] theorem kN_ap {np F} : kN np F Q E l M = (l.length = np ∧ owp (F l M) Q E) := rfl
@[simp] theorem kI_ap : kI fa fb e Q E b M = (if b = true then owp (fa e M) Q E else owp (fb e M) Q E) := rfl
@[simp] theorem kX_ap : kX Qb x M = (∃ b, x = .bl b ∧ Qb b M) := rfl
@[simp] theorem kTr_ap : kTr Qb x M = (∃ b, truV x M = some b ∧ Qb b M) := rfl
@[simp] theorem kNt_ap : kNt Qb b M = Qb (!b) M := rfl
@[simp] theorem kAn_ap : kAn u e Qb E b M = (if b = true then owp (u e M) Qb E else Qb false M) := rfl
@[simp] theorem kOr_ap : kOr u e Qb E b M = (if b = true then Qb true M else owp (u e M) Qb E) := rfl
@[simp] theorem kEa_ap : kEa fa e Q E b M = (if b = true then owp (fa e M) Q E else Q (.bl false) M) := rfl
@[simp] theorem kEo_ap : kEo fa e Q E b M = (if b = true then Q (.bl true) M else owp (fa e M) Q E) := rfl
@[simp] theorem kEn_ap : kEn Q b M = Q (.bl (!b)) M := rfl
@[simp] theorem kCd_ap : kCd g' y fc e Q E b M = (if b = true then owp (fc e M) (kB g' y Q E) E else Q (.bl false) M) := rfl
@[simp] theorem kCc_ap : kCc g g' x fc e Q E y M = owp (g x y M) (kX (kCd g' y fc e Q E)) E := rfl
@[simp] theorem kCb_ap : kCb g g' fb fc e Q E x M = owp (fb e M) (kCc g g' x fc e Q E) E := rfl
@[simp] theorem kS_ap : kS f N R B C Es e M = swp (f e M) N R B C Es := rfl
@[simp] theorem kEr_ap {x} : kEr Es e x M = Es x e M := rfl
@[simp] theorem kEx_ap : kEx e N x M = N e M := rfl
@[simp] theorem kIf_ap : kIf f h e N R B C Es b M = (if b = true then swp (f e M) N R B C Es else swp (h e M) N R B C Es) := rfl
@[simp] theorem kAs_ap {g} : kAs g e N Es x M = gwp (g x e M) N Es := rfl
@[simp] theorem kGs_ap {gs} : kGs gs l N Es e M = gwp (gs l e M) N Es := rfl
@[simp] theorem kSc_ap : kSc x y e N i M = (∃ M3, setV x i y M = some M3 ∧ N e M3) := rfl
@[simp] theorem kSb_ap : kSb fa y e N Es x M = owp (fa e M) (kSc x y e N) (kEr Es e) := rfl
@[simp] theorem kPa_ap {is} : kPa is e N l M = (l.length = is.length ∧ N (setAll is l e) M) := rfl
@[simp] theorem kAh_ap {i} : kAh i e N x M = N (e.set i (some x)) M := rfl
@[simp] theorem kAg_ap {i} : kAg g x i e N Es y M = owp (g x y M) (kAh i e N) (kEr Es e) := rfl
@[simp] theorem kRn_ap : kRn Q e M = Q .non M := rfl
@[simp] theorem kFF_ap : kFF e M = False := rfl
@[simp] theorem kE1_ap {x} : kE1 E x e M = E x M := rfl
@[simp] theorem kFo_ap {g} : kFo g f e N R B C Es it M = swp (forG it.nxt g f it.fuel 0 e M) N R B C Es := rfl
@[simp] theorem kIs_ap : kIs Qi x M = (∃ it, itSeq x M = some it ∧ Qi it M) := rfl
@[simp] theorem kIe_ap : kIe Qi x M = (∃ it, itEnum x M = some it ∧ Qi it M) := rfl
@[simp] theorem kIz_ap : kIz x Qi y M = (∃ it, itZip x y M = some it ∧ Qi it M) := rfl
@[simp] theorem kIy_ap : kIy fa e Qi E x M = owp (fa e M) (kIz x Qi) E := rfl
@[simp] theorem kI1_ap : kI1 Qi x M = (∃ j, x = .int j ∧ (-(2 ^ 62) ≤ j ∧ j < 2 ^ 62) ∧ Qi (itRng 0 j.toNat) M) := rfl
@[simp] theorem kI3_ap : kI3 x Qi y M = (∃ i j, x = .int i ∧ y = .int j ∧ (-(2 ^ 62) ≤ i ∧ i < 2 ^ 62 ∧ -(2 ^ 62) ≤ j ∧ j < 2 ^ 62) ∧ Qi (itRng i (j - i).toNat) M) := rfl
@[simp] theorem kI2_ap : kI2 fa e Qi E x M = owp (fa e M) (kI3 x Qi) E := rfl
@[simp] theorem kLc_ap {g vs} : kLc g t fa vs e Q E it M = owp (lcG it.nxt g t fa M.length (wipeS e vs) it.fuel 0 (M ++ [.lst []])) Q E := rfl
@[simp] theorem kDc_ap {g vs} : kDc g t fa fb vs e Q E it M = owp (dcG it.nxt g t fa fb M.length (wipeS e vs) it.fuel 0 (M ++ [.dK []])) Q E := rfl
@[simp] theorem kOs_ap : kOs Qo x M = (∃ i, x = .int i ∧ Qo (some i) M) := rfl
@[simp] theorem kSd_ap {hi} : kSd x lo Q E hi M = owp (slV x lo hi M) Q E := rfl
@[simp] theorem kSe_ap {h} : kSe x h e Q E lo M = owp (h e M) (kSd x lo Q E) E := rfl
@[simp] theorem kSl_ap {l h} : kSl l h e Q E x M = owp (l e M) (kSe x h e Q E) E := rfl
@[simp] theorem kR1_ap : kR1 Q x M = (∃ n, x = .int n ∧ (-(2 ^ 62) ≤ n ∧ n < 2 ^ 62 ∧ n.toNat ≤ 2 ^ 24) ∧ Q (.loc M.length) (M ++ [.lst (rangeL 0 n)])) := rfl
@[simp] theorem kTy_ap {ts} : kTy ts Q x M = ((tyN x M).isSome = true ∧ Q (.bl (ts.any fun t => isT x t)) M) := rfl
@[simp] theorem kMb_ap {g} : kMb x g Q E l M = owp (g x l M) Q E := rfl
@[simp] theorem kMt_ap {T g} : kMt T g af e Q E x M = (isTyM T x M = true ∧ owp (af e M) (kMb x g Q E) E) := rfl
@[simp] theorem w_eOp2 : owp (eOp2 g fa fb e M) Q E = owp (fa e M) (kA g fb e Q E) E := by simp only [owp_eq, swp_eq, gwp_eq, wp_eOp2]; (try rfl); (try delta kA); (try delta kB); (try simp only [owp_eq, swp_eq, gwp_eq]); (try rfl)
@[simp] theorem w_eOp1 {g} : owp (eOp1 g fa e M) Q E = owp (fa e M) (kU g Q E) E := by simp only [owp_eq, swp_eq, gwp_eq, wp_eOp1]; (try rfl); (try delta kU); (try simp only [owp_eq, swp_eq, gwp_eq]); (try rfl)
@[simp] theorem w_aCons : owp (aCons fa af e M) Ql E = owp (fa e M) (kC af e Ql E) E := by simp only [owp_eq, swp_eq, gwp_eq, wp_aCons]; (try rfl); (try delta kC); (try delta kD); (try simp only [owp_eq, swp_eq, gwp_eq]); (try rfl)
@[simp] theorem w_eTup : owp (eTup af e M) Q E = owp (af e M) (kT Q) E := by simp only [owp_eq, swp_eq, gwp_eq, wp_eTup]; (try rfl); (try delta kT); (try simp only [owp_eq, swp_eq, gwp_eq]); (try rfl)
@[simp] theorem w_eLst : owp (eLst af e M) Q E = owp (af e M) (kL Q) E := by simp only [owp_eq, swp_eq, gwp_eq, wp_eLst]; (try rfl); (try delta kL); (try simp only [owp_eq, swp_eq, gwp_eq]); (try rfl)
@[simp] theorem w_eCall {F} : owp (eCall F af e M) Q E = owp (af e M) (kF F Q E) E := by simp only [owp_eq, swp_eq, gwp_eq, wp_eCall]; (try rfl); (try delta kF); (try simp only [owp_eq, swp_eq, gwp_eq]); (try rfl)
@[simp] theorem w_eFn {np F} : owp (eFn np F af e M) Q E = owp (af e M) (kN np F Q E) E := by simp only [owp_eq, swp_eq, gwp_eq, wp_eFn]; (try rfl); (try delta kN); (try simp only [owp_eq, swp_eq, gwp_eq]); (try rfl)
@[simp] theorem w_eIf : owp (eIf t fa fb e M) Q E = owp (t e M) (kI fa fb e Q E) E := by simp only [owp_eq, swp_eq, gwp_eq, wp_eIf]; (try rfl); (try delta kI); (try simp only [owp_eq, swp_eq, gwp_eq]); (try rfl)
@[simp] theorem w_tCmp2 : owp (tCmp2 g fa fb e M) Qb E = owp (fa e M) (kA g fb e (kX Qb) E) E := by simp only [owp_eq, swp_eq, gwp_eq, wp_tCmp2]; (try rfl); (try delta kA); (try delta kB); (try delta kX); (try simp only [owp_eq, swp_eq, gwp_eq]); (try rfl)
@[simp] theorem w_tOfE : owp (tOfE fa e M) Qb E = owp (fa e M) (kX Qb) E := by simp only [owp_eq, swp_eq, gwp_eq, wp_tOfE]; (try rfl); (try delta kX); (try simp only [owp_eq, swp_eq, gwp_eq]); (try rfl)
@[simp] theorem w_tTru : owp (tTru fa e M) Qb E = owp (fa e M) (kTr Qb) E := by simp only [owp_eq, swp_eq, gwp_eq, wp_tTru]; (try rfl); (try delta kTr); (try simp only [owp_eq, swp_eq, gwp_eq]); (try rfl)
@[simp] theorem w_tNotF : owp (tNotF t e M) Qb E = owp (t e M) (kNt Qb) E := by simp only [owp_eq, swp_eq, gwp_eq, wp_tNotF]; (try rfl); (try delta kNt); (try simp only [owp_eq, swp_eq, gwp_eq]); (try rfl)
@[simp] theorem w_tAndF : owp (tAndF t u e M) Qb E = owp (t e M) (kAn u e Qb E) E := by simp only [owp_eq, swp_eq, gwp_eq, wp_tAndF]; (try rfl); (try delta kAn); (try simp only [owp_eq, swp_eq, gwp_eq]); (try rfl)
@[simp] theorem w_tOrF : owp (tOrF t u e M) Qb E = owp (t e M) (kOr u e Qb E) E := by simp only [owp_eq, swp_eq, gwp_eq, wp_tOrF]; (try rfl); (try delta kOr); (try simp only [owp_eq, swp_eq, gwp_eq]); (try rfl)
@[simp] theorem w_eAnd : owp (eAnd fa fb e M) Q E = owp (fa e M) (kX (kEa fb e Q E)) E := by simp only [owp_eq, swp_eq, gwp_eq, wp_eAnd]; (try rfl); (try delta kEa); (try delta kX); (try simp only [owp_eq, swp_eq, gwp_eq]); (try rfl)
@[simp] theorem w_eOr : owp (eOr fa fb e M) Q E = owp (fa e M) (kX (kEo fb e Q E)) E := by simp only [owp_eq, swp_eq, gwp_eq, wp_eOr]; (try rfl); (try delta kEo); (try delta kX); (try simp only [owp_eq, swp_eq, gwp_eq]); (try rfl)
@[simp] theorem w_eNot : owp (eNot fa e M) Q E = owp (fa e M) (kX (kEn Q)) E := by simp only [owp_eq, swp_eq, gwp_eq, wp_eNot]; (try rfl); (try delta kEn); (try delta kX); (try simp only [owp_eq, swp_eq, gwp_eq]); (try rfl)
@[simp] theorem w_eChain : owp (eChain g g' fa fb fc e M) Q E = owp (fa e M) (kCb g g' fb fc e Q E) E := by simp only [owp_eq, swp_eq, gwp_eq, wp_eChain]; (try rfl); (try delta kCb); (try delta kCc); (try delta kX); (try delta kCd); (try delta kB); (try simp only [owp_eq, swp_eq, gwp_eq]); (try rfl)
@[simp] theorem w_sSeq : swp (sSeq f h e M) N R B C Es = swp (f e M) (kS h N R B C Es) R B C Es := by simp only [owp_eq, swp_eq, gwp_eq, wp_sSeq]; (try rfl); (try delta kS); (try simp only [owp_eq, swp_eq, gwp_eq]); (try rfl)
@[simp] theorem w_sExpr : swp (sExpr fa e M) N R B C Es = owp (fa e M) (kEx e N) (kEr Es e) := by simp only [owp_eq, swp_eq, gwp_eq, wp_sExpr]; (try rfl); (try delta kEr); (try delta kEx); (try simp only [owp_eq, swp_eq, gwp_eq]); (try rfl)
@[simp] theorem w_sRet : swp (sRet fa e M) N R B C Es = owp (fa e M) R (kEr Es e) := by simp only [owp_eq, swp_eq, gwp_eq, wp_sRet]; (try rfl); (try delta kEr); (try simp only [owp_eq, swp_eq, gwp_eq]); (try rfl)
@[simp] theorem w_sIf : swp (sIf t f h e M) N R B C Es = owp (t e M) (kIf f h e N R B C Es) (kEr Es e) := by simp only [owp_eq, swp_eq, gwp_eq, wp_sIf]; (try rfl); (try delta kEr); (try delta kIf); (try simp only [owp_eq, swp_eq, gwp_eq]); (try rfl)
@[simp] theorem w_sAsg {g} : swp (sAsg fa g e M) N R B C Es = owp (fa e M) (kAs g e N Es) (kEr Es e) := by simp only [owp_eq, swp_eq, gwp_eq, wp_sAsg]; (try rfl); (try delta kAs); (try delta kEr); (try simp only [owp_eq, swp_eq, gwp_eq]); (try rfl)
@[simp] theorem w_gsCons {g gs} : gwp (gsCons g gs (x :: l) e M) N Es = gwp (g x e M) (kGs gs l N Es) Es := by simp only [owp_eq, swp_eq, gwp_eq, wp_gsCons]; (try rfl); (try delta kGs); (try simp only [owp_eq, swp_eq, gwp_eq]); (try rfl)
@[simp] theorem w_gSb : gwp (gSb fa fb x e M) N Es = owp (fa e M) (kSb fb x e N Es) (kEr Es e) := by simp only [owp_eq, swp_eq, gwp_eq, wp_gSb]; (try rfl); (try delta kEr); (try delta kSb); (try delta kSc); (try simp only [owp_eq, swp_eq, gwp_eq]); (try rfl)
@[simp] theorem w_sPar {is} : swp (sPar is af e M) N R B C Es = owp (af e M) (kPa is e N) (kEr Es e) := by simp only [owp_eq, swp_eq, gwp_eq, wp_sPar]; (try rfl); (try delta kEr); (try delta kPa); (try simp only [owp_eq, swp_eq, gwp_eq]); (try rfl)
@[simp] theorem w_sAug {i} : swp (sAug i g fa e M) N R B C Es = ∃ x, sget e i = some x ∧ owp (fa e M) (kAg g x i e N Es) (kEr Es e) := by simp only [owp_eq, swp_eq, gwp_eq, wp_sAug]; (try rfl); (try delta kAg); (try delta kAh); (try delta kEr); (try simp only [owp_eq, swp_eq, gwp_eq]); (try rfl)
@[simp] theorem w_fnS {np n} : owp (fnS np n f l M) Q E = (l.length = np ∧ swp (f (l.map some ++ List.replicate (n - np) none) M) (kRn Q) Q kFF kFF (kE1 E)) := by simp only [owp_eq, swp_eq, gwp_eq, wp_fnS]; (try rfl); (try delta kE1); (try delta kFF); (try delta kRn); (try simp only [owp_eq, swp_eq, gwp_eq]); (try rfl)
@[simp] theorem w_sFor {g} {i : IF} : swp (sFor i g f e M) N R B C Es = owp (i e M) (kFo g f e N R B C Es) (kEr Es e) := by simp only [owp_eq, swp_eq, gwp_eq, wp_sFor]; (try rfl); (try delta kEr); (try delta kFo); (try simp only [owp_eq, swp_eq, gwp_eq]); (try rfl)
@[simp] theorem w_iSq : owp (iSq fa e M) Qi E = owp (fa e M) (kIs Qi) E := by simp only [owp_eq, swp_eq, gwp_eq, wp_iSq]; (try rfl); (try delta kIs); (try simp only [owp_eq, swp_eq, gwp_eq]); (try rfl)
@[simp] theorem w_iEn : owp (iEn fa e M) Qi E = owp (fa e M) (kIe Qi) E := by simp only [owp_eq, swp_eq, gwp_eq, wp_iEn]; (try rfl); (try delta kIe); (try simp only [owp_eq, swp_eq, gwp_eq]); (try rfl)
@[simp] theorem w_iZp : owp (iZp fa fb e M) Qi E = owp (fa e M) (kIy fb e Qi E) E := by simp only [owp_eq, swp_eq, gwp_eq, wp_iZp]; (try rfl); (try delta kIy); (try delta kIz); (try simp only [owp_eq, swp_eq, gwp_eq]); (try rfl)
@[simp] theorem w_iR1 : owp (iR1 fa e M) Qi E = owp (fa e M) (kI1 Qi) E := by simp only [owp_eq, swp_eq, gwp_eq, wp_iR1]; (try rfl); (try delta kI1); (try simp only [owp_eq, swp_eq, gwp_eq]); (try rfl)
@[simp] theorem w_iR2 : owp (iR2 fa fb e M) Qi E = owp (fa e M) (kI2 fb e Qi E) E := by simp only [owp_eq, swp_eq, gwp_eq, wp_iR2]; (try rfl); (try delta kI2); (try delta kI3); (try simp only [owp_eq, swp_eq, gwp_eq]); (try rfl)
@[simp] theorem w_eLc {i : IF} {g vs} : owp (eLc i g t fa vs e M) Q E = owp (i e M) (kLc g t fa vs e Q E) E := by simp only [owp_eq, swp_eq, gwp_eq, wp_eLc]; (try rfl); (try delta kLc); (try simp only [owp_eq, swp_eq, gwp_eq]); (try rfl)
@[simp] theorem w_eDc {i : IF} {g vs} : owp (eDc i g t fa fb vs e M) Q E = owp (i e M) (kDc g t fa fb vs e Q E) E := by simp only [owp_eq, swp_eq, gwp_eq, wp_eDc0]; (try rfl); (try delta kDc); (try simp only [owp_eq, swp_eq, gwp_eq]); (try rfl)
@[simp] theorem w_oSome : owp (oSome fa e M) Qo E = owp (fa e M) (kOs Qo) E := by simp only [owp_eq, swp_eq, gwp_eq, wp_oSome]; (try rfl); (try delta kOs); (try simp only [owp_eq, swp_eq, gwp_eq]); (try rfl)
@[simp] theorem w_eSl {l h} : owp (eSl fa l h e M) Q E = owp (fa e M) (kSl l h e Q E) E := by simp only [owp_eq, swp_eq, gwp_eq, wp_eSl]; (try rfl); (try delta kSl); (try delta kSe); (try delta kSd); (try simp only [owp_eq, swp_eq, gwp_eq]); (try rfl)
@[simp] theorem w_eLr1 : owp (eLr1 fa e M) Q E = owp (fa e M) (kR1 Q) E := by simp only [owp_eq, swp_eq, gwp_eq, wp_eLr1]; (try rfl); (try delta kR1); (try simp only [owp_eq, swp_eq, gwp_eq]); (try rfl)
@[simp] theorem w_eIsi {ts} : owp (eIsi ts fa e M) Q E = owp (fa e M) (kTy ts Q) E := by simp only [owp_eq, swp_eq, gwp_eq, wp_eIsi]; (try rfl); (try delta kTy); (try simp only [owp_eq, swp_eq, gwp_eq]); (try rfl)
@[simp] theorem w_eMt {T g} : owp (eMt T g fa af e M) Q E = owp (fa e M) (kMt T g af e Q E) E := by simp only [owp_eq, swp_eq, gwp_eq, wp_eMt]; (try rfl); (try delta kMt); (try delta kMb); (try simp only [owp_eq, swp_eq, gwp_eq]); (try rfl)
end
end Kt
/-! specs, shut, and their use -/
structure Oq (o : Out Val) (Q : Val → Mem → Prop) : Prop where
  h : owp o Q noE
theorem owp_imp {α : Type} {o : Out α} {Q Q' : α → Mem → Prop} {E E' : Ex → Mem → Prop} (h : owp o Q E) (hq : ∀ a M, Q a M → Q' a M) (he : ∀ x M, E x M → E' x M) : owp o Q' E' := by
  rw [owp_eq] at *; exact Out.wp_mono h hq he
theorem Oq.use {o : Out Val} {Q Q' : Val → Mem → Prop} {E' : Ex → Mem → Prop} (h : Oq o Q) (hq : ∀ a M, Q a M → Q' a M) : owp o Q' E' := owp_imp h.h hq fun _ _ z => z.elim
theorem Oq.imp {o : Out Val} {Q Q' : Val → Mem → Prop} (h : Oq o Q) (hq : ∀ a M, Q a M → Q' a M) : Oq o Q' := ⟨h.use hq⟩
theorem Oq.ofW {o : Out Val} {Q : Val → Mem → Prop} (h : o.wp Q noE) : Oq o Q := ⟨by rw [owp_eq]; exact h⟩
theorem Oq.toW {o : Out Val} {Q : Val → Mem → Prop} (h : Oq o Q) : o.wp Q noE := by rw [← owp_eq]; exact h.h
theorem Oq.get {o : Out Val} {Q : Val → Mem → Prop} (h : Oq o Q) : ∃ a M, o = .ok a M ∧ Q a M := Out.wp_ok h.toW
theorem swp_imp {o : SO} {N N' : Sl → Mem → Prop} {R R' : Val → Mem → Prop} {B B' C C' : Sl → Mem → Prop} {E E' : Ex → Sl → Mem → Prop} (h : swp o N R B C E) (h1 : ∀ e M, N e M → N' e M) (h2 : ∀ x M, R x M → R' x M) (h3 : ∀ e M, B e M → B' e M) (h4 : ∀ e M, C e M → C' e M)
    (h5 : ∀ x e M, E x e M → E' x e M) : swp o N' R' B' C' E' := by
  rw [swp_eq] at *; exact SO.wp_mono h h1 h2 h3 h4 h5
section
variable {N B C : Sl → Mem → Prop} {R : Val → Mem → Prop} {Es : Ex → Sl → Mem → Prop} {E : Ex → Mem → Prop} {Qv : Val → Mem → Prop} {nxt : Nat → Mem → Option (Option Val)} {g : GF} {body : SF} {e : Sl} {M : Mem}
/-! loops -/
theorem o_forG (l : List Val) (I : Nat → Sl → Mem → Prop) (hn : ∀ i e M, I i e M → nxt i M = some l[i]?)
    (hs : ∀ i x e M, l[i]? = some x → I i e M → gwp (g x e M) (fun e1 M1 => swp (body e1 M1) (I (i + 1)) R N (I (i + 1)) Es) Es) (hd : ∀ e M, I l.length e M → N e M)
    (m : Nat) (h1 : l.length < m) (hI : I 0 e M) : swp (forG nxt g body m 0 e M) N R B C Es := by
  rw [swp_eq]
  simp only [gwp_eq, swp_eq] at hs
  exact wp_forG l I hn hs hd m 0 e M (by omega) (Nat.zero_le _) hI
theorem o_while {n : Nat} {t : TF} (I : Sl → Mem → Prop) (μ : Sl → Mem → Nat) (h0 : I e M) (hm : μ e M < n)
    (hs : ∀ e M, I e M → owp (t e M) (fun b M1 => if b = true then swp (body e M1) (fun e2 M2 => I e2 M2 ∧ μ e2 M2 < μ e M) R N (fun e2 M2 => I e2 M2 ∧ μ e2 M2 < μ e M) Es else N e M1) (fun x M => Es x e M)) : swp (sWhile n t body e M) N R B C Es := by
  rw [swp_eq]
  simp only [owp_eq, swp_eq] at hs
  exact wp_while I μ h0 hm hs
theorem o_for_tup {l : List Val} (I : Nat → Sl → Mem → Prop) (h0 : I 0 e M)
    (hs : ∀ i x e M, l[i]? = some x → I i e M → gwp (g x e M) (fun e1 M1 => swp (body e1 M1) (I (i + 1)) R N (I (i + 1)) Es) Es) (hd : ∀ e M, I l.length e M → N e M) : swp (forG (itTup l).nxt g body (itTup l).fuel 0 e M) N R B C Es := by
  rw [swp_eq]; simp only [gwp_eq, swp_eq] at hs; exact wp_for_tup I h0 hs hd
theorem o_for_lst {n b : Nat} {l : List Val} (I : Nat → Sl → Mem → Prop) (hb : l.length ≤ b) (hl : ∀ i e M, I i e M → getL M n = some l) (h0 : I 0 e M)
    (hs : ∀ i x e M, l[i]? = some x → I i e M → gwp (g x e M) (fun e1 M1 => swp (body e1 M1) (I (i + 1)) R N (I (i + 1)) Es) Es) (hd : ∀ e M, I l.length e M → N e M) : swp (forG (itLst n b).nxt g body (itLst n b).fuel 0 e M) N R B C Es := by
  rw [swp_eq]; simp only [gwp_eq, swp_eq] at hs; exact wp_for_lst I hb hl h0 hs hd
theorem o_for_rng {lo : Int} {n : Nat} (I : Nat → Sl → Mem → Prop) (h0 : I 0 e M)
    (hs : ∀ i e M, i < n → I i e M → gwp (g (.int (lo + i)) e M) (fun e1 M1 => swp (body e1 M1) (I (i + 1)) R N (I (i + 1)) Es) Es) (hd : ∀ e M, I n e M → N e M) : swp (forG (itRng lo n).nxt g body (itRng lo n).fuel 0 e M) N R B C Es := by
  rw [swp_eq]; simp only [gwp_eq, swp_eq] at hs; exact wp_for_rng I h0 hs hd
theorem o_for_frz {l : List Int} (I : Nat → Sl → Mem → Prop) (h0 : I 0 e M)
    (hs : ∀ i x e M, l[i]? = some x → I i e M → gwp (g (.int x) e M) (fun e1 M1 => swp (body e1 M1) (I (i + 1)) R N (I (i + 1)) Es) Es) (hd : ∀ e M, I l.length e M → N e M) : swp (forG (itFrz l).nxt g body (itFrz l).fuel 0 e M) N R B C Es := by
  rw [swp_eq]; simp only [gwp_eq, swp_eq] at hs; exact wp_for_frz I h0 hs hd
theorem o_for_enumT {l : List Val} (I : Nat → Sl → Mem → Prop) (h0 : I 0 e M)
    (hs : ∀ i x e M, l[i]? = some x → I i e M → gwp (g (.tup [.int (i : Nat), x]) e M) (fun e1 M1 => swp (body e1 M1) (I (i + 1)) R N (I (i + 1)) Es) Es) (hd : ∀ e M, I l.length e M → N e M) : swp (forG (itNum (itTup l)).nxt g body (itNum (itTup l)).fuel 0 e M) N R B C Es := by
  rw [swp_eq]; simp only [gwp_eq, swp_eq] at hs; exact wp_for_enumT I h0 hs hd
theorem o_for_enumL {n b : Nat} {l : List Val} (I : Nat → Sl → Mem → Prop) (hb : l.length ≤ b) (hl : ∀ i e M, I i e M → getL M n = some l) (h0 : I 0 e M)
    (hs : ∀ i x e M, l[i]? = some x → I i e M → gwp (g (.tup [.int (i : Nat), x]) e M) (fun e1 M1 => swp (body e1 M1) (I (i + 1)) R N (I (i + 1)) Es) Es) (hd : ∀ e M, I l.length e M → N e M) : swp (forG (itNum (itLst n b)).nxt g body (itNum (itLst n b)).fuel 0 e M) N R B C Es := by
  rw [swp_eq]; simp only [gwp_eq, swp_eq] at hs; exact wp_for_enumL I hb hl h0 hs hd
theorem o_for_zipT {l m : List Val} (hlm : l.length = m.length) (I : Nat → Sl → Mem → Prop) (h0 : I 0 e M)
    (hs : ∀ i x y e M, l[i]? = some x → m[i]? = some y → I i e M → gwp (g (.tup [x, y]) e M) (fun e1 M1 => swp (body e1 M1) (I (i + 1)) R N (I (i + 1)) Es) Es) (hd : ∀ e M, I l.length e M → N e M) : swp (forG (itZ (itTup l) (itTup m)).nxt g body (itZ (itTup l) (itTup m)).fuel 0 e M) N R B C Es := by
  rw [swp_eq]; simp only [gwp_eq, swp_eq] at hs; exact wp_for_zipT hlm I h0 hs hd
theorem o_lcG {g : Tg} {t : TF} {el : EF} {D : Nat} (l : List Val) (I : Nat → Mem → Prop) (hn : ∀ i M, I i M → nxt i M = some l[i]?)
    (hs : ∀ i x M, l[i]? = some x → I i M → ∃ e1, g.put x e = some e1 ∧ owp (t e1 M) (fun b M1 => if b = true then owp (el e1 M1) (fun y M2 => ∃ acc, getL M2 D = some acc ∧ acc.length < sizeLine ∧ I (i + 1) (M2.set D (.lst (acc ++ [y])))) noE else I (i + 1) M1) noE)
    (hd : ∀ M, I l.length M → Qv (.loc D) M) (m : Nat) (h1 : l.length < m) (hI : I 0 M) : owp (lcG nxt g t el D e m 0 M) Qv E := by
  rw [owp_eq]
  simp only [owp_eq] at hs
  exact wp_lcG l I hn hs hd m 0 M (by omega) (Nat.zero_le _) hI
/-- one whose elements and tests are functions of the item -/
theorem o_lc_fun {g : Tg} {t : TF} {el : EF} {M1 : Mem} {b : Nat} (l : List Val) (p : Val → Bool) (f : Val → Val) (hb : l.length ≤ b) (hz : l.length ≤ sizeLine) (hn : ∀ (i : Nat) M, M1 <+: M → nxt i M = some l[i]?)
    (hs : ∀ (i : Nat) x M, l[i]? = some x → M1 <+: M → ∃ e1, g.put x e = some e1 ∧ owp (t e1 M) (fun b M' => b = p x ∧ M <+: M' ∧ (p x = true → owp (el e1 M') (fun y M'' => y = f x ∧ M' <+: M'') noE)) noE)
    (hd : ∀ M, M1 <+: M → getL M M1.length = some ((l.filter p).map f) → Qv (.loc M1.length) M) : owp (lcG nxt g t el M1.length e (b + 1) 0 (M1 ++ [.lst []])) Qv E := by
  rw [owp_eq]; simp only [owp_eq] at hs; exact wp_lc_fun l p f hb hz hn hs hd
theorem wp_dcG0 {g : Tg} {t : TF} {ek ev : EF} {D : Nat} (l : List Val) (I : Nat → Mem → Prop) (hn : ∀ i M, I i M → nxt i M = some l[i]?)
    (hs : ∀ i x M, l[i]? = some x → I i M → ∃ e1, g.put x e = some e1 ∧ (t e1 M).wp (fun b M1 => if b = true then (ek e1 M1).wp (fun y M2 => (ev e1 M2).wp (fun z M3 => ∃ k kvs, keyOf y = some k ∧ M3[D]? = some (.dK kvs) ∧ kvs.length < sizeLine ∧ I (i + 1) (M3.set D (.dK (putV kvs k z)))) noE) noE else I (i + 1) M1) noE)
    (hd : ∀ M, I l.length M → Qv (.loc D) M) : ∀ (m i : Nat) (M : Mem), l.length < m + i → i ≤ l.length → I i M → (dcG nxt g t ek ev D e m i M).wp Qv E
  | 0, i, M, h1, h2, _ => absurd h1 (by omega)
  | m + 1, i, M, h1, h2, hI => by
    unfold dcG
    rw [hn i M hI]
    cases hx : l[i]? with
    | none =>
      have : l.length ≤ i := List.getElem?_eq_none_iff.mp hx
      have e1 : i = l.length := by omega
      subst e1
      exact hd M hI
    | some x =>
      have hlt : i < l.length := (List.getElem?_eq_some_iff.mp hx).1
      obtain ⟨e1, hp, h⟩ := hs i x M hx hI
      dsimp only
      rw [hp]
      dsimp only
      cases ht : t e1 M with
      | bad => rw [ht] at h; exact h.elim
      | ex _ _ => rw [ht] at h; exact h.elim
      | ok b M1 =>
        rw [ht] at h
        simp only [wp_ok] at h
        dsimp only
        by_cases hb : b = true
        · rw [if_pos hb] at h ⊢
          cases hk : ek e1 M1 with
          | bad => rw [hk] at h; exact h.elim
          | ex _ _ => rw [hk] at h; exact h.elim
          | ok y M2 =>
            rw [hk] at h
            simp only [wp_ok] at h
            dsimp only
            cases hv : ev e1 M2 with
            | bad => rw [hv] at h; exact h.elim
            | ex _ _ => rw [hv] at h; exact h.elim
            | ok z M3 =>
              rw [hv] at h
              simp only [wp_ok] at h
              obtain ⟨k, kvs, h1', h2', h3', h4'⟩ := h
              dsimp only
              rw [h1']
              dsimp only
              rw [h2']
              dsimp only
              rw [if_pos h3']
              exact wp_dcG0 l I hn hs hd m (i + 1) _ (by omega) (by omega) h4'
        · rw [if_neg hb] at h ⊢
          exact wp_dcG0 l I hn hs hd m (i + 1) _ (by omega) (by omega) h
theorem o_dcG {g : Tg} {t : TF} {ek ev : EF} {D : Nat} (l : List Val) (I : Nat → Mem → Prop) (hn : ∀ i M, I i M → nxt i M = some l[i]?)
    (hs : ∀ i x M, l[i]? = some x → I i M → ∃ e1, g.put x e = some e1 ∧ owp (t e1 M) (fun b M1 => if b = true then owp (ek e1 M1) (fun y M2 => owp (ev e1 M2) (fun z M3 => ∃ k kvs, keyOf y = some k ∧ M3[D]? = some (.dK kvs) ∧ kvs.length < sizeLine ∧ I (i + 1) (M3.set D (.dK (putV kvs k z)))) noE) noE else I (i + 1) M1) noE)
    (hd : ∀ M, I l.length M → Qv (.loc D) M) (m : Nat) (h1 : l.length < m) (hI : I 0 M) : owp (dcG nxt g t ek ev D e m 0 M) Qv E := by
  rw [owp_eq]
  simp only [owp_eq] at hs
  exact wp_dcG0 l I hn hs hd m 0 M (by omega) (Nat.zero_le _) hI
@[simp] theorem o_inKV (x y : Val) : owp (inKV x y M) Qv E = ∃ b, inKD x y M = some b ∧ Qv (.bl b) M := by rw [owp_eq]; unfold inKV; cases inKD x y M <;> simp
@[simp] theorem o_notInKV (x y : Val) : owp (notInKV x y M) Qv E = ∃ b, inKD x y M = some b ∧ Qv (.bl (!b)) M := by rw [owp_eq]; unfold notInKV; cases inKD x y M <;> simp
end
end Sm

namespace Lw
open PySem L2 Sm
/-- a row of draws at r -/
structure RowAt (M : Mem) (r : Nat) : Prop where
  ex : ∃ (ns : List Int) (a b c : Int), getL M r = some [.frz ns, .int a, .int b, .int c] ∧ 0 ≤ a ∧ 0 ≤ b ∧ 0 ≤ c
theorem emod_b {x k : Int} (hk : 0 < k) : 0 ≤ x % k ∧ x % k < k := ⟨Int.emod_nonneg _ (by omega), Int.emod_lt_of_pos _ hk⟩
theorem RowAt.mk' {M : Mem} {r : Nat} {l0 : List Val} {ns : List Int} {a b c : Int} (h : getL M r = some l0) (ha : 0 ≤ a) (hb : 0 ≤ b) (hc : 0 ≤ c) : RowAt (M.set r (.lst [.frz ns, .int a, .int b, .int c])) r := ⟨ns, a, b, c, getL_set h, ha, hb, hc⟩
theorem RowAt.kp {M M' : Mem} {r : Nat} (h : RowAt M r) (p : M <+: M') : RowAt M' r := by
  obtain ⟨ns, a, b, c, h, h1⟩ := h
  exact ⟨ns, a, b, c, getL_pre p h, h1⟩
theorem RowAt.lt {M : Mem} {r : Nat} (h : RowAt M r) : r < M.length := by
  obtain ⟨ns, a, b, c, h, h1⟩ := h
  exact getL_lt h
theorem RowAt.setN {M : Mem} {r n : Nat} {c : Cell} (h : RowAt M r) (hn : n ≠ r) : RowAt (M.set n c) r := by
  obtain ⟨ns, a, b, c, h, h1⟩ := h
  exact ⟨ns, a, b, c, by rw [getL_set_ne (Ne.symm hn)]; exact h, h1⟩
theorem row_spec {M : Mem} {ns : List Int} : (F__law_row [.frz ns] M).wp (fun v M' => v = .loc M.length ∧ RowAt M' M.length ∧ M <+: M') noE := by
  unfold F__law_row
  simp
  refine wp_for_frz (fun _ e M' => M' = M ∧ ∃ z i, e = [some (.frz ns), some (.int z), i] ∧ 0 ≤ z) ⟨rfl, _, _, rfl, by decide⟩ (fun i x e M' hx ⟨h1, z, o, h2, h3⟩ => ?_) (fun e M' ⟨h1, z, o, h2, h3⟩ => ?_)
  · subst h1 h2
    simp
    exact Int.emod_nonneg _ (by omega)
  · subst h1 h2
    simp
    exact ⟨ns, 0, 0, z, getL_append_new _ _, by omega, by omega, h3⟩
theorem taken_spec {M : Mem} {r : Nat} {k : Int} (h : RowAt M r) (hk : 0 < k) (hk2 : k < 10000) :
    (F__law_taken [.loc r, .int k] M).wp (fun v M' => ∃ i, v = .int i ∧ 0 ≤ i ∧ i < k ∧ RowAt M' r ∧ Kp r M M' ∧ M'.length = M.length) noE := by
  obtain ⟨ns, a, b, c, h, ha, hb, hc⟩ := h
  unfold F__law_taken
  by_cases hb0 : 0 < b
  · simp [h, hb0, hk, show k < 1073741824 by omega, ixN, emod_b hk, Kp.set]
    exact .mk' h ha (Int.ediv_nonneg hb (by omega)) hc
  · by_cases ha0 : a < ns.length
    · simp [h, hb0, hk, ha0, show k < 1073741824 by omega, ixN, emod_b hk, Kp.set, atI_of ha ha0, getL_set h]
      by_cases hx : (1000000000000000000 : Int) ≤ ns[a.toNat]'(by omega)
      · simp [hx, hk, show k < 1073741824 by omega, ixN, emod_b hk, Kp.set, getL_set h]
        exact .inr (RowAt.mk' h (by omega) (Int.ediv_nonneg (by omega) (by omega)) hc)
      · simp [hx, hk, show k < 1073741824 by omega, ixN, emod_b hk, Kp.set, getL_set h]
        exact ⟨by omega, RowAt.mk' h (by omega) hb hc⟩
    · simp [h, hb0, hk, ha0, show k < 1073741824 by omega, ixN, emod_b hk, Kp.set, getL_set h]
      exact .mk' h ha hb (Int.emod_nonneg _ (by omega))
/-- what is wanted behind a draw -/
theorem taken_k {M : Mem} {r : Nat} {k : Int} {Q : Val → Mem → Prop} {E : Ex → Mem → Prop} (h : RowAt M r) (hk : 0 < k) (hk2 : k < 10000)
    (hq : ∀ i M', 0 ≤ i → i < k → RowAt M' r → Kp r M M' → M'.length = M.length → Q (.int i) M') : (F__law_taken [.loc r, .int k] M).wp Q E :=
  Out.wp_imp (taken_spec h hk hk2) fun v M' ⟨i, e, h1, h2, h3, h4, h5⟩ => by subst e; exact hq i M' h1 h2 h3 h4 h5
structure Street where
  f : Int
  s : Int
  l : Int
  o : Int
def encS (t : Street) : Val := .tup [.int t.f, .int t.s, .int t.l, .int t.o]
structure StreetOk (n : Int) (t : Street) : Prop where
  f0 : 0 ≤ t.f
  f1 : t.f < n
  s0 : 0 ≤ t.s
  s1 : t.s < n
  ne : t.f ≠ t.s
  l0 : 1 ≤ t.l
  l1 : t.l ≤ 99
  o : t.o = 0 ∨ t.o = 1
def encT (n : Int) (ss : List Street) : Val := .tup [.int n, .tup (ss.map encS)]
structure TownOk (n : Int) (ss : List Street) : Prop where
  n0 : 1 ≤ n
  n1 : n ≤ 9
  len : ss.length ≤ 16
  all : ∀ t ∈ ss, StreetOk n t
theorem street_spec {M : Mem} {r : Nat} {n kind : Int} (h : RowAt M r) (hn : 2 ≤ n) (hn2 : n ≤ 9) (hk : 0 ≤ kind) (hk2 : kind ≤ 2) :
    (F__law_street [.loc r, .int n, .int kind] M).wp (fun v M' => ∃ t, v = encS t ∧ StreetOk n t ∧ (kind ≤ 1 → t.o = kind) ∧ RowAt M' r ∧ Kp r M M') noE := by
  unfold F__law_street
  simp [-wp_eIf]
  refine taken_k h (by omega) (by omega) fun f M1 f0 f1 r1 k1 l1 => ?_
  simp [-wp_eIf]
  refine taken_k r1 (by omega) (by omega) fun g M2 g0 g1 r2 k2 l2 => ?_
  simp [-wp_eIf]
  refine ⟨by omega, ?_⟩
  have hs : 0 ≤ (f + 1 + g) % n ∧ (f + 1 + g) % n < n := emod_b (by omega)
  have hne : f ≠ (f + 1 + g) % n := by
    by_cases hw : f + 1 + g < n
    · rw [Int.emod_eq_of_lt (by omega) hw]; omega
    · have e : f + 1 + g = (f + 1 + g - n) + n * 1 := by omega
      rw [e, Int.add_mul_emod_self_left, Int.emod_eq_of_lt (by omega) (by omega)]; omega
  refine Out.wp_mono (Q := fun v M3 => ∃ o, v = .int o ∧ (o = 0 ∨ o = 1) ∧ (kind ≤ 1 → o = kind) ∧ RowAt M3 r ∧ Kp r M M3) (E := noE) ?_ (fun v M3 ⟨o, ev, ho, hok, r3, k3⟩ => ?_) fun _ _ z => z.elim
  · by_cases hk3 : kind = 2
    · subst hk3
      simp
      exact taken_k r2 (by omega) (by omega) fun o M3 o0 o1 r3 k3 l3 => ⟨o, rfl, by omega, r3, k1.trans (k2.trans k3)⟩
    · simp [hk3]
      exact ⟨by omega, r2, k1.trans k2⟩
  · subst ev
    have hne3 : M3.length ≠ r := Nat.ne_of_gt r3.lt
    refine taken_k (r3.kp (List.prefix_append _ _)) (by omega) (by omega) fun i M4 i0 i1 r4 k4 l4 => ?_
    have hg : getL M4 M3.length = some [.int 3, .int 9, .int 99] := k4.getL (getL_append_new _ _) hne3
    have hw : ∃ w : Int, atI [Val.int 3, .int 9, .int 99] i = some (.int w) ∧ 3 ≤ w ∧ w ≤ 99 := by
      have : i = 0 ∨ i = 1 ∨ i = 2 := by omega
      rcases this with rfl | rfl | rfl
      · exact ⟨3, rfl, by omega, by omega⟩
      · exact ⟨9, rfl, by omega, by omega⟩
      · exact ⟨99, rfl, by omega, by omega⟩
    obtain ⟨w, hw, w0, w1⟩ := hw
    simp [hg, hw]
    refine taken_k r4 (by omega) (by omega) fun j M5 j0 j1 r5 k5 l5 => ?_
    simp
    exact ⟨⟨f, (f + 1 + g) % n, 1 + j, o⟩, rfl, ⟨f0, f1, hs.1, hs.2, hne, by show 1 ≤ 1 + j; omega, by show 1 + j ≤ 99; omega, ho⟩, hok, r5, (k3.trans (Kp.pre (List.prefix_append _ _))).trans (k4.trans k5)⟩
theorem town_spec {M : Mem} {r : Nat} {cs sn kind : Int} (h : RowAt M r) (hc : 1 ≤ cs) (hc2 : cs ≤ 9) (hs : 0 ≤ sn) (hs2 : sn ≤ 16) (hk : 0 ≤ kind) (hk2 : kind ≤ 2) :
    (F__law_town [.loc r, .int cs, .int sn, .int kind] M).wp (fun v M' => ∃ n ss, v = encT n ss ∧ TownOk n ss ∧ n ≤ cs ∧ ss.length ≤ sn ∧ (kind ≤ 1 → ∀ t ∈ ss, t.o = kind) ∧ RowAt M' r ∧ Kp r M M') noE := by
  unfold F__law_town
  simp
  refine taken_k h (by omega) (by omega) fun m M1 m0 m1 r1 k1 l1 => ?_
  by_cases hm : m = 0
  · subst hm
    simp
    exact ⟨1, [], rfl, ⟨by omega, by omega, by simp, by simp⟩, by omega, by simpa using hs, by simp, r1, k1⟩
  · simp [show ¬ (1 + m = 1) by omega]
    refine taken_k r1 (by omega) (by omega) fun j M2 j0 j1 r2 k2 l2 => ?_
    simp
    refine ⟨by omega, ?_⟩
    have hne2 : M2.length ≠ r := Nat.ne_of_gt r2.lt
    refine wp_lcG (rngL 0 j.toNat) (fun i M' => RowAt M' r ∧ Kp r M M' ∧ ∃ ss : List Street, getL M' M2.length = some (ss.map encS) ∧ ss.length = i ∧ (∀ t ∈ ss, StreetOk (1 + m) t ∧ (kind ≤ 1 → t.o = kind))) (fun i M' _ => by rw [rngL_get]; rfl) (fun i x M' hx ⟨ra, ka, ss, ga, la, pa⟩ => ?_) (fun M' ⟨ra, ka, ss, ga, la, pa⟩ => ?_) _ 0 _ (by simp [itRng]) (Nat.zero_le _) ⟨r2.kp (List.prefix_append _ _), (k1.trans k2).app _, [], by simpa using getL_append_new M2 [], rfl, by simp⟩
    · rw [rngL_get] at hx
      split at hx
      · rename_i hi
        cases hx
        refine ⟨_, rfl, ?_⟩
        simp
        refine Out.wp_imp (street_spec (n := 1 + m) ra (by omega) (by omega) hk hk2) fun v M3 ⟨t, ev, to, tk, r3, k3⟩ => ?_
        subst ev
        have g3 := k3.getL ga hne2
        refine ⟨ss.map encS, g3, by simp; omega, r3.setN hne2, ?_, ss ++ [t], by rw [getL_set g3]; simp, by simp [la], fun u hu => ?_⟩
        · exact (ka.trans k3).setN (by have := k1.len; have := k2.len; omega)
        · rcases List.mem_append.mp hu with hu | hu
          · exact pa u hu
          · have : u = t := by simpa using hu
            subst this
            exact ⟨to, tk⟩
      · cases hx
    · simp [ga]
      refine ⟨1 + m, ss, rfl, ⟨by omega, by omega, ?_, fun t ht => (pa t ht).1⟩, by omega, ?_, fun hk1 t ht => (pa t ht).2 hk1, ra, ka⟩
      · simp at la; omega
      · simp at la; omega

/-! numbers as texts -/
def numI (i : Int) : Str := ((toString i : String) : Str)
def numZ (n : Nat) : Str := numI (n : Int)
structure NumOk (z : Str) (n : Int) : Prop where
  int : PySem.intText? z = some n
  lo : 1 ≤ z.cps.toList.length
  hi : z.cps.toList.length ≤ 2
  dig : ∀ c ∈ z.cps.toList, 48 ≤ c ∧ c ≤ 57
  zero : z.cps.toList.head? = some 48 → z.cps.toList = [48]
def numOkB (n : Nat) : Bool := decide (PySem.intText? (numZ n) = some (n : Int)) && (decide (1 ≤ (numZ n).cps.toList.length) && (decide ((numZ n).cps.toList.length ≤ 2) && (((numZ n).cps.toList.all fun c => decide (48 ≤ c) && decide (c ≤ 57)) && (!decide ((numZ n).cps.toList.head? = some 48) || decide ((numZ n).cps.toList = [48])))))
theorem numOk_all : (List.range 100).all numOkB = true := by decide +kernel
theorem numOk {n : Nat} (h : n < 100) : NumOk (numZ n) n := by
  have := List.all_eq_true.mp numOk_all n (List.mem_range.mpr h)
  unfold numOkB at this
  simp only [Bool.and_eq_true, decide_eq_true_eq, Bool.or_eq_true, Bool.not_eq_true', decide_eq_false_iff_not, List.all_eq_true] at this
  obtain ⟨h1, h2, h3, h4, h5⟩ := this
  exact ⟨h1, h2, h3, h4, fun e => h5.resolve_left fun z => z e⟩
def figs : List Nat := [48, 49, 50, 51, 52, 53, 54, 55, 56, 57]
theorem figs_eq : (Str.ofString "0123456789").cps.toList = figs := by decide +kernel
theorem in_sign (c : Nat) (z : Str) (M : Mem) : inD (.str ⟨#[c]⟩) (.str z) M = some (decide (c ∈ z.cps.toList)) := by
  show some (!(Builtin.Str.occurrences z ⟨#[c]⟩ 0 z.length 1).isEmpty) = _
  rw [PySem.StrLaws.found_one]
theorem mem_figs {c : Nat} (h : 48 ≤ c ∧ c ≤ 57) : c ∈ figs := by
  have : c = 48 ∨ c = 49 ∨ c = 50 ∨ c = 51 ∨ c = 52 ∨ c = 53 ∨ c = 54 ∨ c = 55 ∨ c = 56 ∨ c = 57 := by omega
  rcases this with e | e | e | e | e | e | e | e | e | e <;> subst e <;> decide
def boolL (l : List Bool) : List Val := l.map .bl
theorem boolsOf_map : ∀ l : List Bool, boolsOf (l.map Val.bl) = some l
  | [] => rfl
  | b :: l => by
    have := boolsOf_map l
    simp [boolsOf] at this ⊢
    exact this
theorem len_z (z : Str) : z.length = z.cps.toList.length := by simp [Str.length]
@[simp] theorem owp_len_s {Qv : Val → Mem → Prop} {E : Ex → Mem → Prop} {M : Mem} (z : Str) : owp (lenV [.str z] M) Qv E = (z.length ≤ sizeLine ∧ Qv (.int z.length) M) := by
  rw [owp_eq]
  unfold lenV
  split <;> simp_all [wp_ite]
@[simp] theorem owp_ix_s {Qv : Val → Mem → Prop} {E : Ex → Mem → Prop} {M : Mem} (z : Str) (i : Int) : owp (ixV (.str z) (.int i) M) Qv E = (z.length ≤ sizeLine ∧ ∃ c, atI z.cps.toList i = some c ∧ Qv (.str ⟨#[c]⟩) M) := by
  rw [owp_eq]
  show (if z.length ≤ sizeLine then (match atI z.cps.toList i with
    | some c => Out.ok (Val.str ⟨#[c]⟩) M
    | none => .bad) else .bad).wp Qv E = _
  rw [wp_ite]
  cases atI z.cps.toList i <;> simp
@[simp] theorem owp_str_i {Qv : Val → Mem → Prop} {E : Ex → Mem → Prop} {M : Mem} (i : Int) : owp (strV [.int i] M) Qv E = (i.natAbs.log2 < 1920 ∧ Qv (.str (numI i)) M) := by
  rw [owp_eq]; unfold strV; simp only [wp_ite, wp_ok]; rfl
@[simp] theorem owp_int_s {Qv : Val → Mem → Prop} {E : Ex → Mem → Prop} {M : Mem} (z : Str) : owp (intSV [.str z] M) Qv E = (∃ n, PySem.intText? z = some n ∧ z.length ≤ 640 ∧ Qv (.int n) M) := by
  rw [owp_eq]
  unfold intSV
  dsimp only
  cases PySem.intText? z <;> simp [wp_ite]
@[simp] theorem owp_join {Qv : Val → Mem → Prop} {E : Ex → Mem → Prop} {M : Mem} (a : Str) (n : Nat) : owp (joinV (.str a) [.loc n] M) Qv E = (∃ ys, (getL M n).bind strsOf = some ys ∧ (ys.map (·.length)).sum + ys.length * a.length ≤ 16777216 ∧ Qv (.str (Txt.join a ys)) M) := by
  rw [owp_eq]
  unfold joinV
  dsimp only
  generalize (getL M n).bind strsOf = o
  cases o <;> simp [wp_ite]
@[simp] theorem owp_split {Qv : Val → Mem → Prop} {E : Ex → Mem → Prop} {M : Mem} (a b : Str) : owp (splitV (.str a) [.str b] M) Qv E = (((b.length == 0) = false ∧ a.length + 2 ≤ sizeLine) ∧ Qv (.loc M.length) (M ++ [Cell.lst ((Txt.split a b).map Val.str)])) := by
  rw [owp_eq]; unfold splitV; simp only [wp_ite, wp_ok]
@[simp] theorem owp_eSgIx {Qv : Val → Mem → Prop} {E : Ex → Mem → Prop} {M : Mem} {e : Sl} (ys : List Str) (f : EF) : owp (eSgIx ys f e M) Qv E = owp (f e M) (fun x M1 => ∃ z j, x = .str z ∧ posOf ys z = some j ∧ Qv (.int (j : Nat)) M1) E := by
  simp only [owp_eq]
  unfold eSgIx
  rw [wp_bind]
  congr 1
  funext x M1
  cases x with
  | str z => cases h : posOf ys z <;> simp [h]
  | _ => simp
@[simp] theorem isTyM_s {M : Mem} (z : Str) : isTyM "str" (.str z) M = true := by simp [isTyM]
theorem strsOf_map : ∀ ys : List Str, strsOf (ys.map Val.str) = some ys
  | [] => rfl
  | y :: ys => by rw [List.map_cons, strsOf, strsOf_map ys]; rfl
/-- a number's text read -/
theorem number_of_ok {M : Mem} {z : Str} {n : Int} {row : Val} (h : NumOk z n) : Oq (F_number_of [.str z, row] M) (fun v M' => v = .int n ∧ M <+: M') := by
  constructor
  have hl := len_z z
  have h1 := h.lo
  have h2 := h.hi
  unfold F_number_of
  simp [-t_number_of_0_ap]
  refine ⟨by omega, ?_⟩
  have c1 : 1 ≤ z.length := by omega
  have c2 : (z.length : Int) ≤ 2 := by omega
  have c3 : (1 : Int) ≤ z.length := by omega
  simp [c1, c2, c3, -t_number_of_0_ap]
  refine o_lc_fun (z.cps.toList.map fun c => Val.str ⟨#[c]⟩) (fun _ => true) (fun _ => .bl false) (b := z.cps.size) (by simp) (by rw [List.length_map]; show _ ≤ 16777216; omega) (fun i M _ => ?_) (fun i x M1 hx hp => ?_) (fun M1 hp hg => ?_)
  · show some (z.cps[i]?.map fun c => Val.str ⟨#[c]⟩) = _
    rw [List.getElem?_map]; simp
  · rw [List.getElem?_map] at hx
    cases hc : z.cps.toList[i]? with
    | none => rw [hc] at hx; cases hx
    | some c =>
      rw [hc] at hx
      cases hx
      refine ⟨_, rfl, ?_⟩
      have hm : c ∈ (Str.ofString "0123456789").cps.toList := by rw [figs_eq]; exact mem_figs (h.dig c (List.mem_of_getElem? hc))
      simp [in_sign]
      simpa using hm
  · have hg' : getL M1 M.length = some ((z.cps.toList.map fun _ => false).map Val.bl) := by
      rw [hg, List.filter_eq_self.mpr (fun _ _ => rfl), List.map_map, List.map_map]; rfl
    have hany : ((z.cps.toList.map fun _ => false).any id) = false := by simp
    simp [hg', boolsOf_map, hany, -t_number_of_0_ap, -List.map_map]
    have hz : 0 < z.cps.toList.length := by omega
    have hat : atI z.cps.toList 0 = some (z.cps.toList[0]) := atI_nat (j := 0) (List.getElem?_eq_getElem hz)
    have hres : ∃ n_1, PySem.intText? z = some n_1 ∧ z.length ≤ 640 ∧ n_1 = n ∧ M <+: M1 := ⟨n, h.int, by omega, rfl, hp⟩
    have hzz : ({ cps := #[z.cps.toList[0]] } : Str) = Str.ofString "0" → z = Str.ofString "0" := fun e => by
      have e0 : (Str.ofString "0").cps.toList = [48] := by decide +kernel
      have e1 : [z.cps.toList[0]] = [48] := by rw [← e0, ← e]
      have e2 : z.cps.toList[0] = 48 := by simpa using e1
      have e3 : z.cps.toList = [48] := h.zero (by rw [List.head?_eq_getElem?, List.getElem?_eq_getElem hz, e2])
      cases z with
      | mk cps =>
        cases hs : Str.ofString "0" with
        | mk cps2 =>
          rw [hs] at e0
          congr 1
          exact Array.toList_inj.mp (e3.trans e0.symm)
    simp only [Array.getElem_toList] at hzz hat
    simp [hat]
    refine ⟨rfl, by omega, ?_⟩
    split
    · rename_i e
      exact ⟨hzz e, hres⟩
    · exact hres

/-! split undoes join -/
theorem cut_inj {c : Nat} : ∀ {a b x y : List Nat}, c ∉ a → c ∉ b → a ++ c :: x = b ++ c :: y → a = b ∧ x = y
  | [], [], x, y, _, _, e => by simpa using e
  | [], b0 :: b, x, y, _, hb, e => by
    simp at e
    exact absurd e.1 (fun z => hb (by rw [← z]; simp))
  | a0 :: a, [], x, y, ha, _, e => by
    simp at e
    exact absurd e.1 (fun z => ha (by rw [z]; simp))
  | a0 :: a, b0 :: b, x, y, ha, hb, e => by
    simp at e
    obtain ⟨e0, e1⟩ := e
    obtain ⟨h1, h2⟩ := cut_inj (fun z => ha (List.mem_cons_of_mem _ z)) (fun z => hb (List.mem_cons_of_mem _ z)) e1
    exact ⟨by rw [e0, h1], h2⟩
theorem str_ext {a b : Str} (h : a.cps.toList = b.cps.toList) : a = b := by
  cases a; cases b
  congr 1
  exact Array.toList_inj.mp h
theorem str_app (a b : Str) : (a ++ b).cps.toList = a.cps.toList ++ b.cps.toList := by
  show (a.cps ++ b.cps).toList = _
  simp
theorem join_inj {c : Nat} : ∀ {l m : List Str}, l ≠ [] → m ≠ [] → (∀ p ∈ l, c ∉ p.cps.toList) → (∀ p ∈ m, c ∉ p.cps.toList) → Str.join ⟨#[c]⟩ l = Str.join ⟨#[c]⟩ m → l = m
  | [], _, h, _, _, _, _ => absurd rfl h
  | _ :: _, [], _, h, _, _, _ => absurd rfl h
  | [a], [b], _, _, _, _, e => by rw [show a = b from e]
  | [a], b :: b2 :: r, _, _, ha, _, e => by
    have e' : a = b ++ ⟨#[c]⟩ ++ Str.join ⟨#[c]⟩ (b2 :: r) := e
    refine absurd ?_ (ha a (by simp))
    rw [e', str_app, str_app]
    simp
  | a :: a2 :: r, [b], _, _, _, hb, e => by
    have e' : a ++ ⟨#[c]⟩ ++ Str.join ⟨#[c]⟩ (a2 :: r) = b := e
    refine absurd ?_ (hb b (by simp))
    rw [← e', str_app, str_app]
    simp
  | a :: a2 :: r, b :: b2 :: q, _, _, ha, hb, e => by
    have e' : a ++ ⟨#[c]⟩ ++ Str.join ⟨#[c]⟩ (a2 :: r) = b ++ ⟨#[c]⟩ ++ Str.join ⟨#[c]⟩ (b2 :: q) := e
    have e2 := congrArg (fun z : Str => z.cps.toList) e'
    simp only [str_app, List.append_assoc] at e2
    obtain ⟨h1, h2⟩ := cut_inj (ha a (by simp)) (hb b (by simp)) (by simpa using e2)
    rw [str_ext h1, join_inj (by simp) (by simp) (fun p hp => ha p (List.mem_cons_of_mem _ hp)) (fun p hp => hb p (List.mem_cons_of_mem _ hp)) (str_ext h2)]
theorem join_eq (a : Str) (l : List Str) : Txt.join a l = Str.join a l := PySem.StrLaws.glued_eq_join a l
theorem split_ne (x : Str) (c : Nat) : Txt.split x ⟨#[c]⟩ ≠ [] := by
  unfold Txt.split
  split
  · simp
  · split
    · simp
    · rw [PySem.StrLaws.partsBetween_eq]
      obtain ⟨p, r, e⟩ := PySem.StrLaws.partsFrom_ne x (⟨#[c]⟩ : Str).length 0 (Builtin.Str.occurrences x ⟨#[c]⟩ 0 x.length (x.length + 1))
      rw [e]; simp
theorem split_join {c : Nat} {l : List Str} (hne : l ≠ []) (hf : ∀ p ∈ l, c ∉ p.cps.toList) : Txt.split (Txt.join ⟨#[c]⟩ l) ⟨#[c]⟩ = l := by
  refine join_inj (split_ne _ c) hne (PySem.StrLaws.split_free _ c) hf ?_
  rw [PySem.StrLaws.join_split, join_eq]
theorem join_len (c : Nat) : ∀ l : List Str, (Str.join ⟨#[c]⟩ l).length ≤ (l.map (·.length)).sum + l.length
  | [] => Nat.zero_le _
  | [x] => by show x.length ≤ _; simp
  | x :: y :: r => by
    have ih := join_len c (y :: r)
    show (x ++ ⟨#[c]⟩ ++ Str.join ⟨#[c]⟩ (y :: r)).length ≤ _
    have : (x ++ ⟨#[c]⟩ ++ Str.join ⟨#[c]⟩ (y :: r)).length = x.length + 1 + (Str.join ⟨#[c]⟩ (y :: r)).length := by
      rw [len_z, len_z, len_z, str_app, str_app]; simp; omega
    rw [this]
    simp only [List.map_cons, List.sum_cons, List.length_cons] at ih ⊢
    omega
theorem blank_eq : (Str.ofString " ") = ⟨#[32]⟩ := by decide +kernel
theorem line_eq : (Str.ofString "\n") = ⟨#[10]⟩ := by decide +kernel
def signZ (o : Int) : Str := if o = 0 then Str.ofString "=" else Str.ofString ">"
def wordsZ (t : Street) : List Str := [numI t.f, signZ t.o, numI t.s, numI t.l]
def rowZ (t : Street) : Str := Str.join ⟨#[32]⟩ (wordsZ t)
def headW (n : Int) : List Str := [Str.ofString "town", numI n]
def headZ (n : Int) : Str := Str.join ⟨#[32]⟩ (headW n)
def rowsZ (n : Int) (ss : List Street) : List Str := headZ n :: ss.map rowZ
def textZ (n : Int) (ss : List Street) : Str := Str.join ⟨#[10]⟩ (rowsZ n ss)
theorem numI_ok {i : Int} (h0 : 0 ≤ i) (h : i < 100) : NumOk (numI i) i := by
  obtain ⟨n, rfl⟩ := Int.eq_ofNat_of_zero_le h0
  exact numOk (by omega)
theorem NumOk.free {z : Str} {i : Int} (h : NumOk z i) {c : Nat} (hc : c < 48) : c ∉ z.cps.toList := fun hm => by have := h.dig c hm; omega
theorem sign_free {o : Int} {c : Nat} (hc : c < 48) : c ∉ (signZ o).cps.toList := by
  have e1 : (Str.ofString "=").cps.toList = [61] := by decide +kernel
  have e2 : (Str.ofString ">").cps.toList = [62] := by decide +kernel
  unfold signZ
  split
  · rw [e1]; simp; omega
  · rw [e2]; simp; omega
theorem town_free {c : Nat} (hc : c < 48) : c ∉ (Str.ofString "town").cps.toList := by
  have e1 : (Str.ofString "town").cps.toList = [116, 111, 119, 110] := by decide +kernel
  rw [e1]; simp; omega
structure StreetZ (t : Street) : Prop where
  f : 0 ≤ t.f ∧ t.f < 100
  s : 0 ≤ t.s ∧ t.s < 100
  l : 0 ≤ t.l ∧ t.l < 100
theorem StreetOk.z {n : Int} {t : Street} (hn : n ≤ 9) (h : StreetOk n t) : StreetZ t := ⟨⟨h.f0, by have := h.f1; omega⟩, ⟨h.s0, by have := h.s1; omega⟩, by have := h.l0; omega, by have := h.l1; omega⟩
theorem words_free {t : Street} (h : StreetZ t) {c : Nat} (hc : c < 48) : ∀ p ∈ wordsZ t, c ∉ p.cps.toList := by
  intro p hp
  simp only [wordsZ, List.mem_cons, List.not_mem_nil, or_false] at hp
  rcases hp with e | e | e | e <;> subst e
  · exact (numI_ok h.f.1 h.f.2).free hc
  · exact sign_free hc
  · exact (numI_ok h.s.1 h.s.2).free hc
  · exact (numI_ok h.l.1 h.l.2).free hc
theorem headW_free {n : Int} (h0 : 0 ≤ n) (h : n < 100) {c : Nat} (hc : c < 48) : ∀ p ∈ headW n, c ∉ p.cps.toList := by
  intro p hp
  simp only [headW, List.mem_cons, List.not_mem_nil, or_false] at hp
  rcases hp with e | e <;> subst e
  · exact town_free hc
  · exact (numI_ok h0 h).free hc
theorem join_free {c d : Nat} (hcd : c ≠ d) : ∀ {l : List Str}, (∀ p ∈ l, c ∉ p.cps.toList) → c ∉ (Str.join ⟨#[d]⟩ l).cps.toList
  | [], _ => by simp [Str.join, Str.empty]
  | [x], h => h x (by simp)
  | x :: y :: r, h => by
    show c ∉ (x ++ ⟨#[d]⟩ ++ Str.join ⟨#[d]⟩ (y :: r)).cps.toList
    rw [str_app, str_app]
    have h1 := h x (by simp)
    have h2 := join_free hcd (fun p hp => h p (List.mem_cons_of_mem _ hp) : ∀ p ∈ y :: r, c ∉ p.cps.toList)
    simp only [List.mem_append, List.mem_singleton, not_or]
    exact ⟨⟨h1, hcd⟩, h2⟩
theorem NumOk.len {z : Str} {i : Int} (h : NumOk z i) : z.length ≤ 2 := by rw [len_z]; exact h.hi
theorem rowZ_len {t : Street} (h : StreetZ t) : (rowZ t).length ≤ 20 := by
  have := join_len 32 (wordsZ t)
  have h1 := (numI_ok h.f.1 h.f.2).len
  have h2 := (numI_ok h.s.1 h.s.2).len
  have h3 := (numI_ok h.l.1 h.l.2).len
  have h4 : (signZ t.o).length ≤ 1 := by
    have e1 : (Str.ofString "=").length = 1 := by decide +kernel
    have e2 : (Str.ofString ">").length = 1 := by decide +kernel
    unfold signZ; split <;> omega
  simp [wordsZ] at this
  unfold rowZ
  simp [wordsZ]
  omega
theorem headZ_len {n : Int} (h0 : 0 ≤ n) (h : n < 100) : (headZ n).length ≤ 20 := by
  have := join_len 32 (headW n)
  have h1 := (numI_ok h0 h).len
  have h4 : (Str.ofString "town").length = 4 := by decide +kernel
  simp [headW] at this
  unfold headZ
  simp [headW]
  omega
theorem rowsZ_len {n : Int} {ss : List Street} (h0 : 0 ≤ n) (h : n < 100) (hz : ∀ t ∈ ss, StreetZ t) : ∀ p ∈ rowsZ n ss, p.length ≤ 20 := by
  intro p hp
  rcases List.mem_cons.mp hp with e | hp
  · subst e; exact headZ_len h0 h
  · obtain ⟨t, ht, rfl⟩ := List.mem_map.mp hp
    exact rowZ_len (hz t ht)
theorem sum_le {l : List Nat} {b : Nat} (h : ∀ x ∈ l, x ≤ b) : l.sum ≤ l.length * b := by
  induction l with
  | nil => simp
  | cons x l ih =>
    have h1 := h x (by simp)
    have h2 := ih fun y hy => h y (by simp [hy])
    rw [List.sum_cons, List.length_cons, Nat.succ_mul]
    omega
theorem rowsZ_sum {n : Int} {ss : List Street} (h0 : 0 ≤ n) (h : n < 100) (hz : ∀ t ∈ ss, StreetZ t) (hl : ss.length ≤ 100) : ((rowsZ n ss).map (·.length)).sum ≤ 2020 := by
  have := sum_le (l := (rowsZ n ss).map (·.length)) (b := 20) (fun x hx => by
    obtain ⟨p, hp, rfl⟩ := List.mem_map.mp hx
    exact rowsZ_len h0 h hz p hp)
  have e : ((rowsZ n ss).map (·.length)).length = ss.length + 1 := by simp [rowsZ]
  rw [e] at this
  omega
theorem rowsZ_free {n : Int} {ss : List Street} (h0 : 0 ≤ n) (h : n < 100) (hz : ∀ t ∈ ss, StreetZ t) : ∀ p ∈ rowsZ n ss, 10 ∉ p.cps.toList := by
  intro p hp
  rcases List.mem_cons.mp hp with e | hp
  · subst e; exact join_free (by decide) (headW_free h0 h (by decide))
  · obtain ⟨t, ht, rfl⟩ := List.mem_map.mp hp
    exact join_free (by decide) (words_free (hz t ht) (by decide))
theorem text_split {n : Int} {ss : List Street} (h0 : 0 ≤ n) (h : n < 100) (hz : ∀ t ∈ ss, StreetZ t) : Txt.split (textZ n ss) (Str.ofString "\n") = rowsZ n ss := by
  rw [line_eq]
  have := split_join (c := 10) (l := rowsZ n ss) (by simp [rowsZ]) (rowsZ_free h0 h hz)
  rwa [join_eq] at this
theorem row_split {t : Street} (h : StreetZ t) : Txt.split (rowZ t) (Str.ofString " ") = wordsZ t := by
  rw [blank_eq]
  have := split_join (c := 32) (l := wordsZ t) (by simp [wordsZ]) (words_free h (by decide))
  rwa [join_eq] at this
theorem head_split {n : Int} (h0 : 0 ≤ n) (h : n < 100) : Txt.split (headZ n) (Str.ofString " ") = headW n := by
  rw [blank_eq]
  have := split_join (c := 32) (l := headW n) (by simp [headW]) (headW_free h0 h (by decide))
  rwa [join_eq] at this

@[simp] theorem getL_cons0 (l : List Val) (t : Mem) : getL (.lst l :: t) 0 = some l := rfl
@[simp] theorem getL_consS (c : Cell) (t : Mem) (k : Nat) : getL (c :: t) (k + 1) = getL t k := by simp [getL]
theorem getL_appk (M t : Mem) (k : Nat) : getL (M ++ t) (M.length + k) = getL t k := by
  unfold getL; rw [List.getElem?_append_right (by omega)]; simp
theorem getL_app0 (M t : Mem) : getL (M ++ t) M.length = getL t 0 := getL_appk M t 0
@[simp] theorem getL_snoc (M : Mem) (c : Cell) : getL (M ++ [c]) M.length = getL [c] 0 := getL_app0 M [c]
@[simp] theorem truV_bl (b : Bool) (M : Mem) : truV (.bl b) M = some b := rfl
theorem need_town_k {M : Mem} {n : Int} {ss : List Street} {Q : Val → Mem → Prop} {E : Ex → Mem → Prop} (h : TownOk n ss) (hq : Q .non M) : (F_need_town [encT n ss] M).wp Q E := by
  have h0 := h.n0; have h1 := h.n1; have hl := h.len
  unfold F_need_town encT
  simp [F_is_number, tyN, isT, h0, h1]
  refine wp_for_enumT (fun _ e M' => M' = M ∧ ∃ x y, e = [some (.tup [.int n, .tup (ss.map encS)]), x, y]) ⟨rfl, _, _, rfl⟩ (fun i x e M' hx ⟨hM, a, b, he⟩ => ?_) (fun e M' ⟨hM, a, b, he⟩ => ?_)
  · subst hM he
    rw [List.getElem?_map] at hx
    cases ht : ss[i]? with
    | none => rw [ht] at hx; cases hx
    | some t =>
      rw [ht] at hx
      cases hx
      have hi : i < ss.length := (List.getElem?_eq_some_iff.mp ht).1
      have ok := h.all t (List.mem_of_getElem? ht)
      have := ok.f0; have := ok.f1; have := ok.s0; have := ok.s1; have := ok.ne; have := ok.l0; have := ok.l1
      have ho : 0 ≤ t.o ∧ t.o ≤ 1 := by have := ok.o; omega
      simp [F_is_street, F_is_number, encS, tyN, isT, ok.f0, ok.s0, ok.ne, ok.l0, ok.l1, ho, show ¬ ((i : Int) = 16) by omega, show t.f ≤ n - 1 by omega, show t.s ≤ n - 1 by omega]
  · subst hM he
    exact hq

theorem need_townO {M : Mem} {n : Int} {ss : List Street} (h : TownOk n ss) : Oq (F_need_town [encT n ss] M) (fun v M' => v = .non ∧ M' = M) := Oq.ofW (need_town_k (E := noE) (Q := fun v M' => v = .non ∧ M' = M) h ⟨rfl, rfl⟩)
theorem log2_small {i : Int} (h0 : 0 ≤ i) (h : i < 100) : i.natAbs.log2 < 1920 := by
  have h1 := Nat.log2_le_self i.natAbs
  omega
theorem town_blank (n : Int) : (Str.ofString "town") ++ (Str.ofString " ") ++ numI n = headZ n := by
  refine str_ext ?_
  unfold headZ headW
  show _ = ((Str.ofString "town") ++ ⟨#[32]⟩ ++ numI n).cps.toList
  rw [blank_eq]
theorem town_blank2 (n : Int) : (Str.ofString "town ") ++ numI n = headZ n := by
  rw [← town_blank]
  have : (Str.ofString "town ") = (Str.ofString "town") ++ (Str.ofString " ") := by decide +kernel
  rw [this]
theorem signs_at {o : Int} (h : o = 0 ∨ o = 1) : atI [Val.str (Str.ofString "="), Val.str (Str.ofString ">")] o = some (.str (signZ o)) := by
  rcases h with e | e <;> subst e <;> rfl
theorem signs_at2 {o : Int} (h : o = 0 ∨ o = 1) : ∃ c, atI (Str.ofString "=>").cps.toList o = some c ∧ (⟨#[c]⟩ : Str) = signZ o := by
  have e1 : (Str.ofString "=>").cps.toList = [61, 62] := by decide +kernel
  rw [e1]
  rcases h with e | e <;> subst e
  · exact ⟨61, rfl, by decide +kernel⟩
  · exact ⟨62, rfl, by decide +kernel⟩
theorem rowZ_app (t : Street) : numI t.f ++ (Str.ofString " ") ++ signZ t.o ++ (Str.ofString " ") ++ numI t.s ++ (Str.ofString " ") ++ numI t.l = rowZ t := by
  refine str_ext ?_
  unfold rowZ wordsZ
  show _ = (numI t.f ++ ⟨#[32]⟩ ++ (signZ t.o ++ ⟨#[32]⟩ ++ (numI t.s ++ ⟨#[32]⟩ ++ numI t.l))).cps.toList
  rw [blank_eq]
  simp only [str_app, List.append_assoc]
/-- rows so far, at d -/
def RwI (M : Mem) (d : Nat) (n : Int) (ss : List Street) (i : Nat) (M' : Mem) : Prop := M <+: M' ∧ M.length ≤ d ∧ getL M' d = some ((rowsZ n (ss.take i)).map Val.str)
theorem RwI.next {M M' M2 : Mem} {d : Nat} {n : Int} {ss : List Street} {i : Nat} {t : Street} (h : RwI M d n ss i M') (ht : ss[i]? = some t) (hp : M' <+: M2) : RwI M d n ss (i + 1) (M2.set d (.lst ((rowsZ n (ss.take i)).map Val.str ++ [.str (rowZ t)]))) := by
  obtain ⟨h1, h2, h3⟩ := h
  refine ⟨pre_set (h1.trans hp) h2, h2, ?_⟩
  rw [getL_set (getL_pre hp h3), List.take_add_one, ht]
  simp [rowsZ]
def WrI (M : Mem) (n : Int) (ss : List Street) (i : Nat) (e : Sl) (M' : Mem) : Prop := RwI M M.length n ss i M' ∧ ∃ a b c d, e = [some (encT n ss), some (.loc M.length), a, b, c, d]
theorem written_spec {M : Mem} {n : Int} {ss : List Street} (h : TownOk n ss) : Oq (F_written [encT n ss] M) (fun v M' => v = .str (textZ n ss) ∧ M <+: M') := by
  have hn0 := h.n0; have hn1 := h.n1; have hln := h.len
  have hz : ∀ t ∈ ss, StreetZ t := fun t ht => (h.all t ht).z hn1
  constructor
  unfold F_written
  simp [-t_written_1_ap]
  refine (need_townO h).use fun v M' hv => ?_
  obtain ⟨ev, em⟩ := hv
  subst ev em
  have l1 : (Str.ofString "town").length = 4 := by decide +kernel
  have l2 : (Str.ofString " ").length = 1 := by decide +kernel
  have l3 : ((Str.ofString "town") ++ (Str.ofString " ")).length = 5 := by decide +kernel
  have l4 := (numI_ok (i := n) (by omega) (by omega)).len
  have lg := log2_small (i := n) (by omega) (by omega)
  have tb := town_blank n
  simp [encT, l1, l2, l3, lg, tb, -b_written_0_ap]
  refine ⟨by omega, ?_⟩
  refine o_for_tup (WrI M' n ss) ⟨⟨List.prefix_append _ _, Nat.le_refl _, getL_append_new M' _⟩, _, _, _, _, rfl⟩ (fun i x e M1 hx hI => ?_) (fun e M1 hI => ?_)
  · obtain ⟨hI, a, b, c, d, he⟩ := hI
    subst he
    rw [List.getElem?_map] at hx
    cases ht : ss[i]? with
    | none => rw [ht] at hx; cases hx
    | some t =>
      rw [ht] at hx
      cases hx
      have hi : i < ss.length := (List.getElem?_eq_some_iff.mp ht).1
      have ok := h.all t (List.mem_of_getElem? ht)
      have z := ok.z hn1
      have g := hI.2.2
      have w1 := log2_small z.f.1 z.f.2
      have w2 := log2_small z.s.1 z.s.2
      have w3 := log2_small z.l.1 z.l.2
      have hso : strsOf [Val.str (numI t.f), .str (signZ t.o), .str (numI t.s), .str (numI t.l)] = some (wordsZ t) := strsOf_map (wordsZ t)
      have hjn : Txt.join (Str.ofString " ") (wordsZ t) = rowZ t := by rw [blank_eq, join_eq]; rfl
      have k1 := (numI_ok z.f.1 z.f.2).len
      have k2 := (numI_ok z.s.1 z.s.2).len
      have k3 := (numI_ok z.l.1 z.l.2).len
      have k4 : (signZ t.o).length ≤ 1 := by
        have e1 : (Str.ofString "=").length = 1 := by decide +kernel
        have e2 : (Str.ofString ">").length = 1 := by decide +kernel
        unfold signZ; split <;> omega
      have hsum : ((wordsZ t).map (·.length)).sum + (wordsZ t).length * (Str.ofString " ").length ≤ 16777216 := by
        rw [l2]; simp [wordsZ]; omega
      have hgt : ∀ u, getL (M1 ++ u) M'.length = some ((rowsZ n (ss.take i)).map Val.str) := fun u => getL_pre (List.prefix_append _ _) g
      simp [encS, g, hgt, w1, w2, w3, signs_at ok.o]
      refine ⟨wordsZ t, hso, hsum, ?_⟩
      rw [hjn]
      exact ⟨by simp [rowsZ]; omega, hI.next ht (List.prefix_append _ _), _, _, _, _, rfl⟩
  · obtain ⟨⟨hp, _, hg⟩, a, b, c, d, he⟩ := hI
    subst he
    rw [List.length_map, List.take_length] at hg
    have hsum : ((rowsZ n ss).map (·.length)).sum + (rowsZ n ss).length * (Str.ofString "\n").length ≤ 16777216 := by
      have e1 : (Str.ofString "\n").length = 1 := by decide +kernel
      have := rowsZ_sum (n := n) (ss := ss) (by omega) (by omega) hz (by omega)
      rw [e1]
      simp [rowsZ] at this ⊢
      omega
    simp [hg, strsOf_map]
    refine ⟨by simpa using hsum, ?_, hp⟩
    rw [line_eq, join_eq]; rfl

/-- held shut, else the conclusion is run -/
structure Wq (o : Out Val) (Q : Val → Mem → Prop) : Prop where
  h : o.wp Q noE
theorem Wq.imp {o : Out Val} {Q Q' : Val → Mem → Prop} {E' : Ex → Mem → Prop} (h : Wq o Q) (hq : ∀ a M, Q a M → Q' a M) : o.wp Q' E' := Out.wp_mono h.h hq fun _ _ z => z.elim

def natV (k : Nat) : Val := .int (k : Int)
theorem inD_nat {M : Mem} {d k : Nat} {L : List Nat} (h : getL M d = some (L.map natV)) : inD (.int (k : Int)) (.loc d) M = some (decide (k ∈ L)) := by
  have hf : (L.map natV).all flat = true := by simp [natV, flat]
  unfold inD
  simp only [h, hf, flat]
  simp
  rw [Bool.eq_iff_iff]
  simp [natV, eqF]
  constructor
  · rintro ⟨x, hx, e⟩
    have : x = k := by omega
    exact this ▸ hx
  · exact fun hk => ⟨k, hk, rfl⟩
theorem inD_natT {M : Mem} {k : Nat} {L : List Nat} : inD (.int (k : Int)) (.tup (L.map natV)) M = some (decide (k ∈ L)) := by
  have hf : (L.map natV).all flat = true := by simp [natV, flat]
  unfold inD
  simp only [hf, flat]
  simp
  rw [Bool.eq_iff_iff]
  simp [natV, eqF]
  constructor
  · rintro ⟨x, hx, e⟩
    have : x = k := by omega
    exact this ▸ hx
  · exact fun hk => ⟨k, hk, rfl⟩
theorem natV_at {L : List Nat} {k x : Nat} (h : L[k]? = some x) : atI (L.map natV) (k : Int) = some (.int (x : Int)) := atI_nat (by rw [List.getElem?_map, h]; rfl)

/-! data of ints -/
def dN (L : List Nat) : List PyData := L.map fun k : Nat => PyData.int (k : Int)
theorem mapM_nat (M : Mem) (k : Nat) : ∀ L : List Nat, (L.map natV).mapM (toD M (k + 1)) = some (dN L)
  | [] => rfl
  | x :: L => by
    rw [List.map_cons, List.mapM_cons, mapM_nat M k L]
    rfl
theorem lay_dN : ∀ L : List Nat, PyData.canLayAll0 (dN L) = true
  | [] => rfl
  | x :: L => by show (true && PyData.canLayAll0 (dN L)) = true; rw [lay_dN L]; rfl
theorem depth_dN : ∀ L : List Nat, PyData.depthAll (dN L) = 0
  | [] => rfl
  | x :: L => by show max 0 (PyData.depthAll (dN L)) = 0; rw [depth_dN L]; rfl
theorem eqv_dN : ∀ L L' : List Nat, PyData.eqvAll (dN L) (dN L') = decide (L = L')
  | [], [] => rfl
  | [], y :: L' => by simp [dN, PyData.eqvAll]
  | x :: L, [] => by simp [dN, PyData.eqvAll]
  | x :: L, y :: L' => by
    show (((x : Int) == (y : Int)) && PyData.eqvAll (dN L) (dN L')) = _
    rw [eqv_dN L L', Bool.eq_iff_iff]
    simp
    omega
theorem shaped_list (L : List Nat) : SeqAt.shaped (.list (dN L)) = true := by
  show (PyData.canLayAll0 (dN L) && decide (PyData.depthAll (dN L) + 1 ≤ 64)) = true
  rw [lay_dN, depth_dN]; rfl
theorem shaped_tuple (L : List Nat) : SeqAt.shaped (.tuple (dN L)) = true := by
  show (PyData.canLayAll0 (dN L) && decide (PyData.depthAll (dN L) + 1 ≤ 64)) = true
  rw [lay_dN, depth_dN]; rfl
theorem eqD_natL {M : Mem} {a b : Nat} {L L' : List Nat} (h : getL M a = some (L.map natV)) (h' : getL M b = some (L'.map natV)) : eqD (.loc a) (.loc b) M = some (decide (L = L')) := by
  have e : ∀ c (K : List Nat), getL M c = some (K.map natV) → toD M 8 (.loc c) = some (.list (dN K)) := fun c K hc => by
    show (match getL M c with
      | some l => (l.mapM (toD M 7)).map PyData.list
      | none => none) = _
    rw [hc]
    show ((K.map natV).mapM (toD M 7)).map PyData.list = _
    rw [mapM_nat]; rfl
  show (match toD M 8 (.loc a), toD M 8 (.loc b) with
    | some d, some e => if SeqAt.shaped d && SeqAt.shaped e then some (PyData.eqv d e) else none
    | _, _ => none) = _
  rw [e a L h, e b L' h']
  show (if (SeqAt.shaped (.list (dN L)) && SeqAt.shaped (.list (dN L'))) = true then some (PyData.eqvAll (dN L) (dN L')) else none) = _
  rw [shaped_list, shaped_list, eqv_dN]; rfl
def valP (l : List Nat) : Val := .tup (l.map natV)
def dP (P : List (List Nat)) : List PyData := P.map fun l => PyData.tuple (dN l)
theorem toD_valP (M : Mem) (k : Nat) (l : List Nat) : toD M (k + 2) (valP l) = some (.tuple (dN l)) := by
  show ((l.map natV).mapM (toD M (k + 1))).map PyData.tuple = _
  rw [mapM_nat]; rfl
theorem mapM_valP (M : Mem) (k : Nat) : ∀ P : List (List Nat), (P.map valP).mapM (toD M (k + 2)) = some (dP P)
  | [] => rfl
  | l :: P => by
    rw [List.map_cons, List.mapM_cons, mapM_valP M k P, toD_valP]
    rfl
theorem lay_dP : ∀ P : List (List Nat), PyData.canLayAll0 (dP P) = true
  | [] => rfl
  | l :: P => by show (PyData.canLayAll0 (dN l) && PyData.canLayAll0 (dP P)) = true; rw [lay_dN, lay_dP P]; rfl
theorem depth_dP : ∀ P : List (List Nat), PyData.depthAll (dP P) ≤ 1
  | [] => Nat.zero_le _
  | l :: P => by show max (PyData.depthAll (dN l) + 1) (PyData.depthAll (dP P)) ≤ 1; rw [depth_dN]; have := depth_dP P; omega
theorem inD_valP {M : Mem} {d : Nat} {l : List Nat} {P : List (List Nat)} (h : getL M d = some (P.map valP)) : inD (valP l) (.loc d) M = some (decide (l ∈ P)) := by
  unfold inD
  simp only [h]
  rw [if_neg (by simp [valP, flat])]
  rw [show (8 : Nat) = 6 + 2 from rfl, show (7 : Nat) = 5 + 2 from rfl, toD_valP, mapM_valP]
  have h1 : SeqAt.shaped (.list (dP P)) = true := by
    show (PyData.canLayAll0 (dP P) && decide (PyData.depthAll (dP P) + 1 ≤ 64)) = true
    rw [lay_dP]; have := depth_dP P; simp; omega
  simp only [shaped_tuple, h1, Bool.and_self, if_true]
  congr 1
  unfold dP
  rw [List.any_map, Bool.eq_iff_iff]
  simp only [List.any_eq_true, decide_eq_true_eq, Function.comp]
  constructor
  · rintro ⟨m, hm, he⟩
    have : decide (m = l) = true := by rw [← eqv_dN]; exact he
    exact (of_decide_eq_true this) ▸ hm
  · exact fun hm => ⟨l, hm, by show PyData.eqvAll (dN l) (dN l) = true; rw [eqv_dN]; simp⟩
theorem nxt_lst {n b i : Nat} {l : List Val} {M : Mem} (h : getL M n = some l) : (itLst n b).nxt i M = some l[i]? := by
  have := getL_ok h
  show (match M[n]? with | some (.lst l) => some l[i]? | _ => none) = _
  rw [this]
theorem natF {C : List Nat} {p : Val → Bool} {f : Val → Val} {q : Nat → Bool} (hp : ∀ c ∈ C, p (natV c) = q c) (hf : ∀ c ∈ C, f (natV c) = natV c) : ((C.map natV).filter p).map f = (C.filter q).map natV := by
  induction C with
  | nil => rfl
  | cons c C ih =>
    have h1 := hp c (by simp)
    have h2 := ih (fun x hx => hp x (by simp [hx])) fun x hx => hf x (by simp [hx])
    rw [List.map_cons, List.filter_cons, List.filter_cons, h1]
    cases q c with
    | true => simp [hf c (by simp), h2]
    | false => simpa using h2

/-! alike -/
def Same (M : Mem) : Nat → Val → Val → Prop
  | 0, _, _ => False
  | k + 1, x, y => (x = y ∧ ((∃ i, x = .int i) ∨ (∃ z, x = .str z) ∨ x = .non)) ∨
    (∃ l l' : List Val, ((x = .tup l ∧ y = .tup l') ∨ ∃ a b, x = .loc a ∧ y = .loc b ∧ getL M a = some l ∧ getL M b = some l') ∧ l.length = l'.length ∧ l.length ≤ 1000 ∧ ∀ (i : Nat) (u v : Val), l[i]? = some u → l'[i]? = some v → Same M k u v)
theorem Same.pre {M M' : Mem} (p : M <+: M') : ∀ {k : Nat} {x y : Val}, Same M k x y → Same M' k x y
  | k + 1, x, y, .inl h => .inl h
  | k + 1, x, y, .inr ⟨l, l', h1, h2, h3, h4⟩ => by
    refine .inr ⟨l, l', ?_, h2, h3, fun i u v hu hv => (h4 i u v hu hv).pre p⟩
    rcases h1 with h1 | ⟨a, b, e1, e2, g1, g2⟩
    · exact .inl h1
    · exact .inr ⟨a, b, e1, e2, getL_pre p g1, getL_pre p g2⟩
theorem alike_spec : ∀ (k : Nat) {M : Mem} {x y : Val}, Same M k x y → Wq (F__law_alike k [x, y] M) (fun v M' => v = .bl true ∧ M <+: M')
  | 0, _, _, _, h => h.elim
  | k + 1, M, x, y, .inl ⟨e, h⟩ => by
    constructor
    subst e
    unfold F__law_alike
    rcases h with ⟨i, e⟩ | ⟨z, e⟩ | e <;> subst e <;> simp [tyN, isT]
  | k + 1, M, x, y, .inr ⟨l, l', .inl ⟨e1, e2⟩, hl, hl2, hs⟩ => by
    constructor
    subst e1 e2
    unfold F__law_alike
    simp [tyN, isT, hl]
    refine ⟨by omega, ?_⟩
    refine wp_lc_fun (rngL 0 l'.length) (fun _ => false) id (b := l'.length) (by simp) (by simp; omega) (fun j M _ => by rw [rngL_get]; rfl) (fun j x M3 hx hp3 => ?_) (fun M3 hp3 hg3 => ?_)
    · rw [rngL_get] at hx
      split at hx
      · rename_i hj
        cases hx
        refine ⟨_, rfl, ?_⟩
        have hj1 : j < l.length := by omega
        simp [atI_ofNat hj, atI_ofNat hj1]
        refine Wq.imp (alike_spec k ((hs j _ _ (List.getElem?_eq_getElem hj1) (List.getElem?_eq_getElem hj)).pre hp3)) fun v M4 ⟨ev, hp4⟩ => ?_
        subst ev
        simp
        exact hp4
      · cases hx
    · have hg3' : getL M3 M.length = some (([] : List Nat).map natV) := by rw [hg3]; simp
      refine ⟨?_, pre_append hp3 _⟩
      rw [eqD_natL (L := []) (L' := []) (getL_pre (List.prefix_append _ _) hg3') (by rw [getL_snoc]; rfl)]
      rfl
  | k + 1, M, x, y, .inr ⟨l, l', .inr ⟨a, b, e1, e2, g1, g2⟩, hl, hl2, hs⟩ => by
    constructor
    subst e1 e2
    unfold F__law_alike
    simp [tyN, isT, hl, g1, g2]
    refine ⟨by omega, ?_⟩
    refine wp_lc_fun (rngL 0 l'.length) (fun _ => false) id (b := l'.length) (by simp) (by simp; omega) (fun j M _ => by rw [rngL_get]; rfl) (fun j x M3 hx hp3 => ?_) (fun M3 hp3 hg3 => ?_)
    · rw [rngL_get] at hx
      split at hx
      · rename_i hj
        cases hx
        refine ⟨_, rfl, ?_⟩
        have hj1 : j < l.length := by omega
        simp [getL_pre hp3 g1, getL_pre hp3 g2, atI_ofNat hj, atI_ofNat hj1]
        refine Wq.imp (alike_spec k ((hs j _ _ (List.getElem?_eq_getElem hj1) (List.getElem?_eq_getElem hj)).pre hp3)) fun v M4 ⟨ev, hp4⟩ => ?_
        subst ev
        simp
        exact hp4
      · cases hx
    · have hg3' : getL M3 M.length = some (([] : List Nat).map natV) := by rw [hg3]; simp
      refine ⟨?_, pre_append hp3 _⟩
      rw [eqD_natL (L := []) (L' := []) (getL_pre (List.prefix_append _ _) hg3') (by rw [getL_snoc]; rfl)]
      rfl

/-! reading -/
theorem signs_pos {o : Int} (h : o = 0 ∨ o = 1) : posOf [Str.ofString "=", Str.ofString ">"] (signZ o) = some o.toNat := by
  rcases h with e | e <;> subst e <;> decide +kernel
theorem signs_in {o : Int} (h : o = 0 ∨ o = 1) (M : Mem) : inD (.str (signZ o)) (.tup [Val.str (Str.ofString "="), Val.str (Str.ofString ">")]) M = some true := by
  rcases h with e | e <;> subst e <;> rfl
def ReI (n : Int) (ss : List Street) (z : Val) (d : Nat) (rows : List Val) (M0 : Mem) (i : Nat) (e : Sl) (M : Mem) : Prop :=
  M0 <+: M ∧ getL M d = some rows ∧ (∃ c : Int, (0 < i → c = n) ∧ ∃ a3 a4 a5 a6, e = [some z, some (.int c), some (.tup ((ss.take (i - 1)).map encS)), a3, a4, a5, a6, none, none])
def nums3 (t : Street) : List Int := [t.f, t.s, t.l]
theorem numbers_ok {M : Mem} {z : Option Val} {t : Street} (h : StreetZ t) {a1 a2 a4 a5 a6 : Option Val} {row : Val} {Q : Val → Mem → Prop} {E : Ex → Mem → Prop} (hQ : ∀ M' d, M <+: M' → M.length ≤ d → getL M' d = some [Val.int t.f, Val.int t.s, Val.int t.l] → Q (.loc d) M') :
    owp (lcG (itTup [Val.str (numI t.f), Val.str (numI t.s), Val.str (numI t.l)]).nxt (.one 8) tTrue (eFn 2 F_number_of (aCons (eVar 8) (aCons (eVar 3) aNil))) M.length [z, a1, a2, some row, a4, a5, a6, none, none] (itTup [Val.str (numI t.f), Val.str (numI t.s), Val.str (numI t.l)]).fuel 0 (M ++ [.lst []])) Q E := by
  have hnum : ∀ (i : Nat) (x : Val), [Val.str (numI t.f), Val.str (numI t.s), Val.str (numI t.l)][i]? = some x → ∃ k : Int, x = Val.str (numI k) ∧ NumOk (numI k) k ∧ (nums3 t)[i]? = some k := fun i x hx => by
    have hi : i < 3 := (List.getElem?_eq_some_iff.mp hx).1
    have : i = 0 ∨ i = 1 ∨ i = 2 := by omega
    rcases this with e | e | e <;> subst e <;> cases hx
    · exact ⟨_, rfl, numI_ok h.f.1 h.f.2, rfl⟩
    · exact ⟨_, rfl, numI_ok h.s.1 h.s.2, rfl⟩
    · exact ⟨_, rfl, numI_ok h.l.1 h.l.2, rfl⟩
  refine o_lcG [Val.str (numI t.f), Val.str (numI t.s), Val.str (numI t.l)] (fun i M' => M <+: M' ∧ getL M' M.length = some (((nums3 t).take i).map Val.int)) (fun i M' _ => rfl) (fun i x M' hx hI => ?_) (fun M' hI => ?_) _ (by simp [itTup]) ⟨List.prefix_append _ _, getL_append_new M []⟩
  · obtain ⟨hp, hg⟩ := hI
    obtain ⟨k, ex, ok, hk⟩ := hnum i x hx
    subst ex
    refine ⟨_, rfl, ?_⟩
    simp [-List.map_take]
    refine (number_of_ok ok).use fun v M2 hv => ?_
    obtain ⟨ev, hp2⟩ := hv
    subst ev
    have hi : i < 3 := (List.getElem?_eq_some_iff.mp hx).1
    refine ⟨_, getL_pre hp2 hg, by simp; omega, pre_set (hp.trans hp2) (Nat.le_refl _), ?_⟩
    rw [getL_set (getL_pre hp2 hg), List.take_add_one, hk]
    simp
  · exact hQ M' _ hI.1 (Nat.le_refl _) (by rw [hI.2]; rfl)
theorem read_spec {M : Mem} {n : Int} {ss : List Street} (h : TownOk n ss) : Oq (F_read [.str (textZ n ss)] M) (fun v M' => v = encT n ss ∧ M <+: M') := by
  have hn0 := h.n0; have hn1 := h.n1; have hln := h.len
  have hz : ∀ t ∈ ss, StreetZ t := fun t ht => (h.all t ht).z hn1
  have hsp := text_split (n := n) (ss := ss) (by omega) (by omega) hz
  have hlt : (textZ n ss).length + 2 ≤ 16777216 := by
    have h1 := join_len 10 (rowsZ n ss)
    have h2 := rowsZ_sum (n := n) (ss := ss) (by omega) (by omega) hz (by omega)
    have h3 : (rowsZ n ss).length = ss.length + 1 := by simp [rowsZ]
    unfold textZ
    omega
  have ln : (Str.ofString "\n").length = 1 := by decide +kernel
  have lb : (Str.ofString " ").length = 1 := by decide +kernel
  have lt : (Str.ofString "town").length = 4 := by decide +kernel
  constructor
  unfold F_read
  simp [ln, hsp, hlt, -b_read_2_ap]
  rw [itEnum_l (l := (rowsZ n ss).map Val.str) (by rw [getL_snoc]; rfl)]
  refine ⟨_, rfl, ?_⟩
  refine o_for_enumL (l := (rowsZ n ss).map Val.str) (ReI n ss (.str (textZ n ss)) M.length ((rowsZ n ss).map Val.str) M) (Nat.le_refl _) (fun i e M' hI => hI.2.1) ⟨List.prefix_append _ _, getL_append_new _ _, 0, by omega, _, _, _, _, rfl⟩ (fun i x e M1 hx hI => ?_) (fun e M1 hI => ?_)
  · obtain ⟨hp, hg, c, hc, a3, a4, a5, a6, he⟩ := hI
    subst he
    match i, hx with
    | 0, hx =>
      cases hx
      have hsplit := head_split (n := n) (by omega) (by omega)
      have hlh := headZ_len (n := n) (by omega) (by omega)
      simp [lb, hsplit, headW, show (headZ n).length + 2 ≤ 16777216 by omega]
      refine (number_of_ok (numI_ok (i := n) (by omega) (by omega))).use fun v M2 hv => ?_
      obtain ⟨ev, hp2⟩ := hv
      subst ev
      simp
      refine ⟨(hp.trans (List.prefix_append _ _)).trans hp2, getL_pre hp2 (getL_pre (List.prefix_append _ _) hg), n, fun _ => rfl, _, _, _, _, rfl⟩
    | i + 1, hx =>
      have hc := hc (by omega)
      subst hc
      have hx' : ((ss.map rowZ).map Val.str)[i]? = some x := hx
      rw [List.getElem?_map, List.getElem?_map] at hx'
      cases ht : ss[i]? with
      | none => rw [ht] at hx'; cases hx'
      | some t =>
        rw [ht] at hx'
        cases hx'
        have hi : i < ss.length := (List.getElem?_eq_some_iff.mp ht).1
        have ok := h.all t (List.mem_of_getElem? ht)
        have z := ok.z hn1
        have hrl := rowZ_len z
        have hne : ¬ ((i : Int) + 1 = 0) := by omega
        simp [lb, row_split z, wordsZ, hne, signs_in ok.o, show (rowZ t).length + 2 ≤ 16777216 by omega, -b_read_1_ap]
        simp [-List.append_assoc, -List.length_append, -List.map_take]
        refine numbers_ok z fun M2 d hp2 hd g2 => ?_
        have hcat : List.map encS (ss.take i) ++ [encS t] = List.map encS (ss.take (i + 1)) := by
          rw [List.take_add_one, ht]; simp

        have gw : getL M2 M1.length = some [Val.str (numI t.f), Val.str (signZ t.o), Val.str (numI t.s), Val.str (numI t.l)] := getL_pre hp2 (getL_append_new M1 _)
        have hoI : ((t.o.toNat : Nat) : Int) = t.o := by rcases ok.o with e | e <;> rw [e] <;> rfl
        simp [g2, gw, signs_pos ok.o, hoI]
        refine ⟨by omega, (hp.trans (List.prefix_append _ _)).trans hp2, getL_pre hp2 (getL_pre (List.prefix_append _ _) hg), c, fun _ => rfl, some (.int ((i : Int) + 1)), some (.str (rowZ t)), some (.loc M1.length), some (.loc d), ?_⟩
        rw [show i + 1 + 1 - 1 = i + 1 from rfl, ← hcat]
        simp [encS]
  · obtain ⟨hp, hg, c, hc, a3, a4, a5, a6, he⟩ := hI
    have hlr : ((rowsZ n ss).map Val.str).length = ss.length + 1 := by simp [rowsZ]
    have hc := hc (by rw [hlr]; omega)
    subst he hc
    rw [hlr, show ss.length + 1 - 1 = ss.length from rfl, List.take_length]
    simp
    refine (need_townO h).use fun v M' hv => ?_
    obtain ⟨ev, em⟩ := hv
    subst ev em
    simp [encT]
    exact hp
theorem sameS (M : Mem) (z : Str) : Same M 6 (.str z) (.str z) := .inl ⟨rfl, .inr (.inl ⟨_, rfl⟩)⟩
theorem sameT (M : Mem) (n : Int) (ss : List Street) (h : ss.length ≤ 1000) : Same M 6 (encT n ss) (encT n ss) := by
  have si : ∀ k (i : Int), Same M (k + 1) (.int i) (.int i) := fun k i => .inl ⟨rfl, .inl ⟨_, rfl⟩⟩
  refine .inr ⟨_, _, .inl ⟨rfl, rfl⟩, rfl, by simp, fun i u v hu hv => ?_⟩
  rw [hu] at hv
  cases hv
  match i, hu with
  | 0, hu => cases hu; exact si _ _
  | 1, hu =>
    cases hu
    refine .inr ⟨_, _, .inl ⟨rfl, rfl⟩, rfl, by simpa using h, fun i u v hu hv => ?_⟩
    rw [hu] at hv
    cases hv
    rw [List.getElem?_map] at hu
    cases ht : ss[i]? with
    | none => rw [ht] at hu; cases hu
    | some t =>
      rw [ht] at hu
      cases hu
      refine .inr ⟨_, _, .inl ⟨rfl, rfl⟩, rfl, by simp, fun i u v hu hv => ?_⟩
      rw [hu] at hv
      cases hv
      match i, hu with
      | 0, hu => cases hu; exact si _ _
      | 1, hu => cases hu; exact si _ _
      | 2, hu => cases hu; exact si _ _
      | 3, hu => cases hu; exact si _ _

@[simp] theorem owp_encT0 {Qv : Val → Mem → Prop} {E : Ex → Mem → Prop} {M : Mem} (n : Int) (ss : List Street) : owp (ixV (encT n ss) (.int 0) M) Qv E = Qv (.int n) M := by simp [encT]
@[simp] theorem owp_encT1 {Qv : Val → Mem → Prop} {E : Ex → Mem → Prop} {M : Mem} (n : Int) (ss : List Street) : owp (ixV (encT n ss) (.int 1) M) Qv E = Qv (.tup (ss.map encS)) M := by simp [encT]

theorem Wq.o {o : Out Val} {Q : Val → Mem → Prop} (h : Wq o Q) : Oq o Q := by
  obtain ⟨h⟩ := h
  exact ⟨by rw [owp_eq]; exact h⟩

/-! the law k14 -/
def L14 (z : Option Val) (r : Nat) (n : Int) (ss : List Street) (a2 : Option Val) (d : Nat) (M : Mem) (i : Nat) (e : Sl) (M' : Mem) : Prop :=
  RowAt M' r ∧ RwI M d n ss i M' ∧ ∃ a5 a6 a7 a8 a9, e = [z, some (.loc r), a2, some (encT n ss), some (.loc d), a5, a6, a7, a8, a9]
theorem owp_addS {Qv : Val → Mem → Prop} {E : Ex → Mem → Prop} {M : Mem} (a b : Str) (h : a.length + b.length ≤ 1000) (hq : Qv (.str (a ++ b)) M) : owp (addV (.str a) (.str b) M) Qv E := by
  have := Kt.owp_add_ss (Qv := Qv) (E := E) (M := M) a b
  rw [this]
  exact ⟨by simp; omega, hq⟩
theorem app_len (a b : Str) : (a ++ b).length = a.length + b.length := by rw [len_z, len_z, len_z, str_app, List.length_append]
theorem law14_body {M : Mem} {r : Nat} {n : Int} {ss : List Street} (h : TownOk n ss) (hr : RowAt M r) {z a2 a4 a5 a6 a7 a8 a9 : Option Val} {N B C : Sl → Mem → Prop} {R : Val → Mem → Prop} {Es : Ex → Sl → Mem → Prop}
    (hN : ∀ M' b2 b3 b4 b5 b6 b7 b8 b9, RowAt M' r → N [z, some (.loc r), b2, b3, b4, b5, b6, b7, b8, b9] M') :
    swp (t_law_3 [z, some (.loc r), a2, some (encT n ss), a4, a5, a6, a7, a8, a9] M) N R B C Es := by
  have hn0 := h.n0; have hn1 := h.n1; have hln := h.len
  have hz : ∀ t ∈ ss, StreetZ t := fun t ht => (h.all t ht).z hn1
  have l5 : (Str.ofString "town ").length = 5 := by decide +kernel
  have lb : (Str.ofString " ").length = 1 := by decide +kernel
  have lg := log2_small (i := n) (by omega) (by omega)
  have l4 := (numI_ok (i := n) (by omega) (by omega)).len
  simp [l5, lg, town_blank2, -b_law_0_ap, -t_law_1_ap]
  refine ⟨by omega, ?_⟩
  refine o_for_tup (L14 z r n ss a2 M.length M) ⟨hr.kp (List.prefix_append _ _), ⟨List.prefix_append _ _, Nat.le_refl _, getL_append_new M _⟩, _, _, _, _, _, rfl⟩ (fun i x e M1 hx hI => ?_) (fun e M1 hI => ?_)
  · obtain ⟨hr1, hI, b5, b6, b7, b8, b9, he⟩ := hI
    subst he
    rw [List.getElem?_map] at hx
    cases ht : ss[i]? with
    | none => rw [ht] at hx; cases hx
    | some t =>
      rw [ht] at hx
      cases hx
      have hi : i < ss.length := (List.getElem?_eq_some_iff.mp ht).1
      have ok := h.all t (List.mem_of_getElem? ht)
      have z' := ok.z hn1
      have g := hI.2.2
      have w1 := log2_small z'.f.1 z'.f.2
      have w2 := log2_small z'.s.1 z'.s.2
      have w3 := log2_small z'.l.1 z'.l.2
      obtain ⟨c, hc, ec⟩ := signs_at2 ok.o
      have k1 := (numI_ok z'.f.1 z'.f.2).len
      have k2 := (numI_ok z'.s.1 z'.s.2).len
      have k3 := (numI_ok z'.l.1 z'.l.2).len
      have k4 : (signZ t.o).length ≤ 1 := by
        have e1 : (Str.ofString "=").length = 1 := by decide +kernel
        have e2 : (Str.ofString ">").length = 1 := by decide +kernel
        unfold signZ; split <;> omega
      have l2 : (Str.ofString "=>").length = 2 := by decide +kernel
      have hc' : atI (Str.ofString "=>").cps.toList t.o = some c := hc
      simp only [encS]
      simp [g, w1, w2, w3, lb, l2, hc', ec, app_len]
      rw [rowZ_app]
      have hne : M.length ≠ r := Nat.ne_of_gt hr.lt
      have hnx := hI.next ht (List.prefix_refl M1)
      exact ⟨by omega, by omega, by omega, by omega, by omega, by omega, by simp [rowsZ]; omega, hr1.setN hne, hnx, _, _, _, _, _, rfl⟩
  · obtain ⟨hr1, ⟨hp, _, hg⟩, b5, b6, b7, b8, b9, he⟩ := hI
    subst he
    rw [List.length_map, List.take_length] at hg
    have hsum : ((rowsZ n ss).map (·.length)).sum + (rowsZ n ss).length * (Str.ofString "\n").length ≤ 16777216 := by
      have e1 : (Str.ofString "\n").length = 1 := by decide +kernel
      have := rowsZ_sum (n := n) (ss := ss) (by omega) (by omega) hz (by omega)
      rw [e1]
      simp [rowsZ] at this ⊢
      omega
    have htx : Txt.join (Str.ofString "\n") (rowsZ n ss) = textZ n ss := by rw [line_eq, join_eq]; rfl
    simp [hg, strsOf_map, htx]
    refine ⟨by simpa using hsum, ?_⟩
    refine (written_spec h).use fun v M2 hv => ?_
    obtain ⟨ev, hp2⟩ := hv
    subst ev
    simp
    refine (Oq.ofW (alike_spec 6 (sameS M2 (textZ n ss))).h).use fun v M3 hv => ?_
    obtain ⟨ev, hp3⟩ := hv
    subst ev
    simp
    refine (read_spec h).use fun v M4 hv => ?_
    obtain ⟨ev, hp4⟩ := hv
    subst ev
    simp
    refine (alike_spec 6 (sameT M4 n ss (Nat.le_trans hln (by decide)))).o.use fun v M5 hv => ?_
    obtain ⟨ev, hp5⟩ := hv
    subst ev
    simp
    exact hN _ _ _ _ _ _ _ _ _ ((((hr1.kp hp2).kp hp3).kp hp4).kp hp5)
def LwI (z : Option Val) (r : Nat) (i : Nat) (e : Sl) (M : Mem) : Prop := RowAt M r ∧ ∃ b2 b3 b4 b5 b6 b7 b8 b9, e = [z, some (.loc r), b2, b3, b4, b5, b6, b7, b8, b9]
theorem pure_law : ∀ ns : List Int, ns.length ≤ 63 → ∃ M, F_law [.frz ns] [] = .ok (.bl true) M := by
  intro ns hns
  have key : Oq (F_law [.frz ns] []) (fun v _ => v = .bl true) := by
    constructor
    unfold F_law
    simp
    refine (Oq.ofW (row_spec (M := []) (ns := ns))).use fun v M1 hv => ?_
    obtain ⟨ev, r1, _⟩ := hv
    subst ev
    simp [-b_law_4_ap]
    refine o_for_rng (LwI (some (.frz ns)) 0) ⟨r1, _, _, _, _, _, _, _, _, rfl⟩ (fun i e M' hi hI => ?_) (fun e M' hI => ?_)
    · obtain ⟨hr, b2, b3, b4, b5, b6, b7, b8, b9, he⟩ := hI
      subst he
      simp [-t_law_3_ap]
      refine (Oq.ofW (town_spec (cs := 9) (sn := 16) (kind := 2) hr (by decide) (by decide) (by decide) (by decide) (by decide) (by decide))).use fun v M2 hv => ?_
      obtain ⟨n, ss, ev, hT, _, _, _, r2, k2⟩ := hv
      subst ev
      simp [-t_law_3_ap]
      exact law14_body hT r2 fun M' b2 b3 b4 b5 b6 b7 b8 b9 h => ⟨h, _, _, _, _, _, _, _, _, rfl⟩
    · obtain ⟨hr, b2, b3, b4, b5, b6, b7, b8, b9, he⟩ := hI
      subst he
      simp
  obtain ⟨v, M, e, hv⟩ := key.get
  exact ⟨M, by rw [e, hv]⟩

end Lw
open PySem PySem.W PySem.Calls PyProof.Rows
set_option maxRecDepth 100000 in
set_option maxHeartbeats 0 in
theorem PySem.Challenge.cw_streetrounds_k14_written_and_read_holds : PySem.Challenge.rw_streetrounds_k14_written_and_read.Holds := by
  w_on; o_law
  refine HandSHeadRun.head_any (r := OpenLaw.row PySem.Challenge.rw_streetrounds_k14_written_and_read) (q := view (OpenLaw.row PySem.Challenge.rw_streetrounds_k14_written_and_read).prog [25]) (H := Lw.hkL) (ob := Lw.obL) (M := 30000) (loose := Lw.namesL) (d := HandSHeadRun.topDef (OpenLaw.row PySem.Challenge.rw_streetrounds_k14_written_and_read).prog 25) (kwd := []) Lw.obL_eq
    (by kernel_rfl) (fun s => by kernel_rfl) Lw.runL (by kernel_rfl) (by kernel_rfl) (by kernel_rfl) (by rfl) (by first | assumption | decide +kernel) (by decide +kernel) ⟨rfl, rfl, rfl, rfl, rfl, by decide +kernel⟩ ?hw ?hc
  case hw => w_witness2
  case hc =>
    refine Sm.endAt (l := PySem.Challenge.rw_streetrounds_k14_written_and_read) (n := 63) (k := 8) rfl (by decide) (by kernel_rfl) ⟨rfl, by decide, by decide⟩ Lw.pure_law ?_
    intro w mg fa h Y G hmg0
    obtain ⟨K, KX, c⟩ := Y
    have hmg : mg ("law" : PySem.Str) = some (.ref fa) := by
      have e : (HandSHeadRun.topDef (OpenLaw.row PySem.Challenge.rw_streetrounds_k14_written_and_read).prog 25).name = ("law" : PySem.Str) := by kernel_rfl
      rw [← e]
      exact hmg0
    obtain ⟨fd, hb, hF⟩ := Lw.allL (P := (PySem.Challenge.rw_streetrounds_k14_written_and_read).prog) (w := w) KX G hmg c
    exact ⟨K, fd, KX, hb, hF⟩
