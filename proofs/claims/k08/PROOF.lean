import PyProof.Rows.All
import Wide.All
import OpenK.AllK
import Wide.FinOn
import HandS.Base
import HandS.Call
import HandS.List
import HandS.Comp
import HandS.HeadHook1
import HandS.Iter
import HandS.Zip
import KE.GoesEnum
import HandS.Exc
import HandS.ExcOwn
import HandS.Defaults
import HandS.Words
import HandS.WordsExc
import HandS.TupAny
import HandS.TupMul
import HandS.Deep
import HandS.IsInst
import HandS.Conv
import HandS.Text
import HandS.More
import HandS.Style
import HandS.Ends
import HandS.Head0
import HandS.Head1
import HandS.Head2
import HandS.HeadEnd
import HandS.HeadHook2
import HandS.HeadHook3
import HandS.HeadHook4
import HandS.Dict
import HandS.DictComp
import PySem.Challenge.RW_streetrounds_k08_rounds_judged
set_option Elab.async false
set_option linter.all false
set_option maxRecDepth 100000
set_option maxHeartbeats 4000000
namespace Sm
open PySem L2
/-! values without addresses: tuples by value, lists, dicts, instances by a place in a memory -/
inductive Val where
  | non | bl (b : Bool) | int (i : Int) | str (x : Str) | tup (l : List Val) | frz (l : List Int) | loc (n : Nat)
inductive Cell where
  | lst (l : List Val)
  | dK (kvs : List (Key × Val))
  | dT (kvs : List (List Key × Val))
  | ins (C : Str) (fs : List (Str × Val))
abbrev Mem := List Cell
abbrev Sl := List (Option Val)

/-- a list that nobody writes -/
def FzL (K : PySem.W.Frag) (H : Hp) (a : Addr) (xs : List V) : Prop :=
  (∃ o, H a = some (.frz o (.lst xs))) ∨
    ∃ (o : Obj) (its : Array Value) (n : Nat), K.lookup a = some o ∧ o.cls = .type "list" ∧ o.dict = none ∧ o.data = .seq its n ∧ its.size ≤ sizeLine ∧ Vals xs its.toList
theorem FzL.sq {K : PySem.W.Frag} {H : Hp} {a : Addr} {xs : List V} (h : FzL K H a xs) : SqL K H a xs := by
  rcases h with h | h
  · exact .inl (.inr h)
  · exact .inr h
mutual
def RV (K : PySem.W.Frag) (ρ : List Addr) (H : Hp) : Val → V → Prop
  | .non, v => v = .non
  | .bl b, v => v = .bl b
  | .int i, v => v = .int i
  | .str x, v => v = .str x
  | .tup l, v => ∃ a vs, v = .ref a ∧ SqT K H a vs ∧ RVs K ρ H l vs
  | .frz l, v => ∃ a, v = .ref a ∧ FzL K H a (l.map V.int)
  | .loc n, v => ∃ a, v = .ref a ∧ ρ[n]? = some a
def RVs (K : PySem.W.Frag) (ρ : List Addr) (H : Hp) : List Val → List V → Prop
  | [], vs => vs = []
  | x :: l, vs => ∃ v r, vs = v :: r ∧ RV K ρ H x v ∧ RVs K ρ H l r
end
structure Ext (ρ : List Addr) (H : Hp) (ρ' : List Addr) (H' : Hp) : Prop where
  pre : ∃ t, ρ' = ρ ++ t
  tup : ∀ a xs, H a = some (.tup xs) → H' a = some (.tup xs)
  frz : ∀ a o u, H a = some (.frz o u) → H' a = some (.frz o u)
theorem Ext.refl (ρ : List Addr) (H : Hp) : Ext ρ H ρ H := ⟨⟨[], by simp⟩, fun _ _ h => h, fun _ _ _ h => h⟩
theorem Ext.trans {ρ ρ1 ρ2 : List Addr} {H H1 H2 : Hp} (a : Ext ρ H ρ1 H1) (b : Ext ρ1 H1 ρ2 H2) : Ext ρ H ρ2 H2 := by
  obtain ⟨t, e⟩ := a.pre
  obtain ⟨u, e'⟩ := b.pre
  exact ⟨⟨t ++ u, by rw [e', e, List.append_assoc]⟩, fun _ _ h => b.tup _ _ (a.tup _ _ h), fun _ _ _ h => b.frz _ _ _ (a.frz _ _ _ h)⟩
theorem Ext.get {ρ ρ' : List Addr} {H H' : Hp} (e : Ext ρ H ρ' H') {n : Nat} {a : Addr} (h : ρ[n]? = some a) : ρ'[n]? = some a := by
  obtain ⟨t, rfl⟩ := e.pre
  have hl : n < ρ.length := (List.getElem?_eq_some_iff.mp h).1
  rw [List.getElem?_append_left hl]; exact h
theorem Ext.sqT {K : PySem.W.Frag} {ρ ρ' : List Addr} {H H' : Hp} (e : Ext ρ H ρ' H') {a : Addr} {xs : List V} (h : SqT K H a xs) : SqT K H' a xs := by
  rcases h with (h | ⟨o, h⟩) | h
  · exact .inl (.inl (e.tup _ _ h))
  · exact .inl (.inr ⟨o, e.frz _ _ _ h⟩)
  · exact .inr h
theorem Ext.fzL {K : PySem.W.Frag} {ρ ρ' : List Addr} {H H' : Hp} (e : Ext ρ H ρ' H') {a : Addr} {xs : List V} (h : FzL K H a xs) : FzL K H' a xs := by
  rcases h with ⟨o, h⟩ | h
  · exact .inl ⟨o, e.frz _ _ _ h⟩
  · exact .inr h
section
variable {K : PySem.W.Frag} {ρ ρ' : List Addr} {H H' : Hp}
mutual
theorem RV.mono (e : Ext ρ H ρ' H') : ∀ (x : Val) (v : V), RV K ρ H x v → RV K ρ' H' x v
  | .non, _, h => h
  | .bl _, _, h => h
  | .int _, _, h => h
  | .str _, _, h => h
  | .tup l, _, ⟨a, vs, h1, h2, h3⟩ => ⟨a, vs, h1, e.sqT h2, RVs.mono e l vs h3⟩
  | .frz _, _, ⟨a, h1, h2⟩ => ⟨a, h1, e.fzL h2⟩
  | .loc _, _, ⟨a, h1, h2⟩ => ⟨a, h1, e.get h2⟩
theorem RVs.mono (e : Ext ρ H ρ' H') : ∀ (l : List Val) (vs : List V), RVs K ρ H l vs → RVs K ρ' H' l vs
  | [], _, h => h
  | x :: l, _, ⟨v, r, h1, h2, h3⟩ => ⟨v, r, h1, RV.mono e x v h2, RVs.mono e l r h3⟩
end
theorem RVs.length : ∀ {l : List Val} {vs : List V}, RVs K ρ H l vs → vs.length = l.length
  | [], _, h => by cases (show _ = [] from h); rfl
  | x :: l, _, ⟨v, r, h1, h2, h3⟩ => by subst h1; simp [RVs.length h3]
theorem RVs.append : ∀ {l m : List Val} {vs ws : List V}, RVs K ρ H l vs → RVs K ρ H m ws → RVs K ρ H (l ++ m) (vs ++ ws)
  | [], _, _, _, h, k => by cases (show _ = [] from h); exact k
  | x :: l, _, _, _, ⟨v, r, h1, h2, h3⟩, k => by subst h1; exact ⟨v, _, rfl, h2, RVs.append h3 k⟩
theorem RVs.get : ∀ {l : List Val} {vs : List V} {i : Nat} {x : Val}, RVs K ρ H l vs → l[i]? = some x → ∃ v, vs[i]? = some v ∧ RV K ρ H x v
  | [], _, _, _, _, e => by simp at e
  | y :: l, _, 0, x, ⟨v, r, h1, h2, h3⟩, e => by subst h1; simp at e; subst e; exact ⟨v, rfl, h2⟩
  | y :: l, _, i + 1, x, ⟨v, r, h1, h2, h3⟩, e => by
    subst h1
    obtain ⟨u, e1, e2⟩ := RVs.get (i := i) (x := x) h3 (by simpa using e)
    exact ⟨u, by simpa using e1, e2⟩
theorem RVs.set {y : Val} {w : V} (hy : RV K ρ H y w) : ∀ {l : List Val} {vs : List V} (i : Nat), RVs K ρ H l vs → RVs K ρ H (l.set i y) (vs.set i w)
  | [], _, _, h => by cases (show _ = [] from h); simp; rfl
  | x :: l, _, 0, ⟨v, r, h1, h2, h3⟩ => by subst h1; exact ⟨w, r, rfl, hy, h3⟩
  | x :: l, _, i + 1, ⟨v, r, h1, h2, h3⟩ => by subst h1; exact ⟨v, _, rfl, h2, RVs.set hy i h3⟩
theorem RVs.take : ∀ {l : List Val} {vs : List V} (n : Nat), RVs K ρ H l vs → RVs K ρ H (l.take n) (vs.take n)
  | _, _, 0, _ => by simp; rfl
  | [], _, n + 1, h => by cases (show _ = [] from h); simp; rfl
  | x :: l, _, n + 1, ⟨v, r, h1, h2, h3⟩ => by subst h1; exact ⟨v, _, rfl, h2, RVs.take n h3⟩
theorem RVs.drop : ∀ {l : List Val} {vs : List V} (n : Nat), RVs K ρ H l vs → RVs K ρ H (l.drop n) (vs.drop n)
  | _, _, 0, h => by simpa using h
  | [], _, n + 1, h => by cases (show _ = [] from h); simp; rfl
  | x :: l, _, n + 1, ⟨v, r, h1, h2, h3⟩ => by subst h1; exact RVs.drop n h3
theorem RVs.eraseIdx : ∀ {l : List Val} {vs : List V} (n : Nat), RVs K ρ H l vs → RVs K ρ H (l.eraseIdx n) (vs.eraseIdx n)
  | [], _, _, h => by cases (show _ = [] from h); simp; rfl
  | x :: l, _, 0, ⟨v, r, h1, h2, h3⟩ => by subst h1; exact h3
  | x :: l, _, n + 1, ⟨v, r, h1, h2, h3⟩ => by subst h1; exact ⟨v, _, rfl, h2, RVs.eraseIdx n h3⟩
theorem RVs.dropLast : ∀ {l : List Val} {vs : List V}, RVs K ρ H l vs → RVs K ρ H l.dropLast vs.dropLast
  | l, vs, h => by
    rw [List.dropLast_eq_take, List.dropLast_eq_take, h.length]
    exact h.take _
theorem RVs.rep : ∀ {l : List Val} {vs : List V} (k : Nat), RVs K ρ H l vs → RVs K ρ H (List.replicate k l).flatten (List.replicate k vs).flatten
  | _, _, 0, _ => rfl
  | l, vs, k + 1, h => by
    rw [List.replicate_succ, List.replicate_succ, List.flatten_cons, List.flatten_cons]
    exact h.append (h.rep k)
theorem RVs.reverse : ∀ {l : List Val} {vs : List V}, RVs K ρ H l vs → RVs K ρ H l.reverse vs.reverse
  | [], _, h => by cases (show _ = [] from h); exact rfl
  | x :: l, _, ⟨v, r, h1, h2, h3⟩ => by
    subst h1
    rw [List.reverse_cons, List.reverse_cons]
    exact RVs.append (RVs.reverse h3) ⟨v, [], rfl, h2, rfl⟩
theorem RVs.snoc {l : List Val} {vs : List V} {x : Val} {v : V} (h : RVs K ρ H l vs) (k : RV K ρ H x v) : RVs K ρ H (l ++ [x]) (vs ++ [v]) := h.append ⟨v, [], rfl, k, rfl⟩
theorem RVs.ints : ∀ (l : List Int) {vs : List V}, RVs K ρ H (l.map Val.int) vs ↔ vs = l.map V.int
  | [], vs => Iff.rfl
  | i :: l, vs => by
    constructor
    · rintro ⟨v, r, h1, h2, h3⟩
      cases (show v = V.int i from h2)
      rw [h1, (RVs.ints l).mp h3]
      rfl
    · rintro rfl
      exact ⟨_, _, rfl, rfl, (RVs.ints l).mpr rfl⟩
/-- the values of a dict, of an instance -/
def RKs {κ : Type} (K : PySem.W.Frag) (ρ : List Addr) (H : Hp) : List (κ × Val) → List (κ × V) → Prop
  | [], ws => ws = []
  | (k, x) :: l, ws => ∃ v r, ws = (k, v) :: r ∧ RV K ρ H x v ∧ RKs K ρ H l r
theorem RKs.mono {κ : Type} (e : Ext ρ H ρ' H') : ∀ {l : List (κ × Val)} {ws : List (κ × V)}, RKs K ρ H l ws → RKs K ρ' H' l ws
  | [], _, h => h
  | (k, x) :: l, _, ⟨v, r, h1, h2, h3⟩ => ⟨v, r, h1, RV.mono e x v h2, RKs.mono e h3⟩
def CellR (K : PySem.W.Frag) (ρ : List Addr) (H : Hp) (a : Addr) : Cell → Prop
  | .lst l => ∃ vs, H a = some (.lst vs) ∧ RVs K ρ H l vs
  | .dK kvs => ∃ ws, H a = some (.dK ws) ∧ RKs K ρ H kvs ws
  | .dT kvs => ∃ ws, H a = some (.dT ws) ∧ RKs K ρ H kvs ws
  | .ins C fs => ∃ dx ws, H a = some (.ins (He.ga K C) dx ws) ∧ RKs K ρ H fs ws
theorem CellR.some {a : Addr} : ∀ {c : Cell}, CellR K ρ H a c → ∃ o, H a = some o ∧ Mut (some o)
  | .lst _, ⟨_, h, _⟩ => ⟨_, h, trivial⟩
  | .dK _, ⟨_, h, _⟩ => ⟨_, h, trivial⟩
  | .dT _, ⟨_, h, _⟩ => ⟨_, h, trivial⟩
  | .ins _ _, ⟨_, _, h, _⟩ => ⟨_, h, trivial⟩
/-- carried to another heap that holds the same at a -/
theorem CellR.mono {a : Addr} (e : Ext ρ H ρ' H') (ha : H' a = H a) : ∀ {c : Cell}, CellR K ρ H a c → CellR K ρ' H' a c
  | .lst _, ⟨_, h, r⟩ => ⟨_, ha.trans h, RVs.mono e _ _ r⟩
  | .dK _, ⟨_, h, r⟩ => ⟨_, ha.trans h, r.mono e⟩
  | .dT _, ⟨_, h, r⟩ => ⟨_, ha.trans h, r.mono e⟩
  | .ins _ _, ⟨_, _, h, r⟩ => ⟨_, _, ha.trans h, r.mono e⟩
structure Rel (K : PySem.W.Frag) (ρ : List Addr) (M : Mem) (H : Hp) : Prop where
  len : ρ.length = M.length
  nd : ρ.Nodup
  at_ : ∀ (n : Nat) (c : Cell) (a : Addr), M[n]? = Option.some c → ρ[n]? = Option.some a → CellR K ρ H a c
theorem Rel.mem {M : Mem} (R : Rel K ρ M H) {a : Addr} (h : a ∈ ρ) : ∃ o, H a = Option.some o ∧ Mut (Option.some o) := by
  obtain ⟨n, hn⟩ := List.getElem?_of_mem h
  have hl : n < M.length := by rw [← R.len]; exact (List.getElem?_eq_some_iff.mp hn).1
  exact (R.at_ n (M[n]) a (List.getElem?_eq_getElem hl) hn).some
/-- a fresh address gets something -/
theorem Ext.fresh {p : Addr} {o : HO} (ρ : List Addr) (hp : H p = none) : Ext ρ H ρ (upd H p o) :=
  ⟨⟨[], by simp⟩, fun a xs h => by rw [upd_ne (ne_of_none h hp)]; exact h, fun a q u h => by rw [upd_ne (ne_of_none h hp)]; exact h⟩
theorem Rel.fresh {M : Mem} {p : Addr} {o : HO} (R : Rel K ρ M H) (hp : H p = none) : Rel K ρ M (upd H p o) :=
  ⟨R.len, R.nd, fun n c a h1 h2 => (R.at_ n c a h1 h2).mono (Ext.fresh ρ hp) (by
    obtain ⟨u, hu, _⟩ := R.mem (List.mem_of_getElem? h2)
    rw [upd_ne (ne_of_none hu hp)])⟩
/-- .. that is known from now on -/
theorem Ext.alloc {p : Addr} {o : HO} (ρ : List Addr) (hp : H p = none) : Ext ρ H (ρ ++ [p]) (upd H p o) :=
  ⟨⟨[p], rfl⟩, (Ext.fresh ρ hp).tup, (Ext.fresh ρ hp).frz⟩
theorem Rel.alloc {M : Mem} {p : Addr} {o : HO} {c : Cell} (R : Rel K ρ M H) (hp : H p = none) (hc : CellR K (ρ ++ [p]) (upd H p o) p c) : Rel K (ρ ++ [p]) (M ++ [c]) (upd H p o) := by
  have hnot : p ∉ ρ := fun h => by
    obtain ⟨u, hu, _⟩ := R.mem h
    rw [hp] at hu; cases hu
  refine ⟨by simp [R.len], ?_, fun n c' a h1 h2 => ?_⟩
  · rw [List.nodup_append]
    refine ⟨R.nd, by simp, fun x hx y hy e => hnot ?_⟩
    have hy' : y = p := by simpa using hy
    rw [← hy', ← e]; exact hx
  · by_cases hn : n < M.length
    · rw [List.getElem?_append_left hn] at h1
      rw [List.getElem?_append_left (by rw [R.len]; exact hn)] at h2
      refine (R.at_ n c' a h1 h2).mono (Ext.alloc ρ hp) ?_
      obtain ⟨u, hu, _⟩ := R.mem (List.mem_of_getElem? h2)
      rw [upd_ne (ne_of_none hu hp)]
    · have hl := (List.getElem?_eq_some_iff.mp h1).1
      simp at hl
      have e : n = M.length := by omega
      subst e
      rw [List.getElem?_append_right (Nat.le_refl _)] at h1
      rw [← R.len, List.getElem?_append_right (Nat.le_refl _)] at h2
      simp at h1 h2
      subst h1 h2
      exact hc
/-- a known object is written -/
theorem Ext.write {a : Addr} {o : HO} (ρ : List Addr) (hm : Mut (H a)) : Ext ρ H ρ (upd H a o) :=
  ⟨⟨[], by simp⟩, fun b xs h => by
    have : b ≠ a := by rintro rfl; rw [h] at hm; exact hm
    rw [upd_ne this]; exact h, fun b q u h => by
    have : b ≠ a := by rintro rfl; rw [h] at hm; exact hm
    rw [upd_ne this]; exact h⟩
theorem Rel.write {M : Mem} {n : Nat} {a : Addr} {o : HO} {c : Cell} (R : Rel K ρ M H) (hn : ρ[n]? = Option.some a) (hc : CellR K ρ (upd H a o) a c) : Rel K ρ (M.set n c) (upd H a o) ∧ Ext ρ H ρ (upd H a o) := by
  have hm : Mut (H a) := by
    obtain ⟨u, hu, m⟩ := R.mem (List.mem_of_getElem? hn)
    rw [hu]; exact m
  refine ⟨⟨by simp [R.len], R.nd, fun k c' b h1 h2 => ?_⟩, Ext.write ρ hm⟩
  by_cases hk : n = k
  · subst hk
    have hl : n < M.length := by rw [← R.len]; exact (List.getElem?_eq_some_iff.mp hn).1
    rw [List.getElem?_set_self hl] at h1
    cases h1
    rw [hn] at h2; cases h2
    exact hc
  · rw [List.getElem?_set_ne hk] at h1
    refine (R.at_ k c' b h1 h2).mono (Ext.write ρ hm) (upd_ne ?_)
    rintro rfl
    have h3 := (List.getElem?_inj (by exact (List.getElem?_eq_some_iff.mp hn).1) R.nd).mp (hn.trans h2.symm)
    exact hk h3
end
end Sm

namespace L2
open PySem
section
variable {X : Cx}
theorem PE.imp {e : Expr} {t t' : TE} (h : PE X e t) (i : ∀ σ H Q, t' σ H Q → t σ H Q) : PE X e t' := ⟨fun pins s σ H Q I q => h.run pins s σ H Q I (i σ H Q q)⟩
theorem PT.imp {e : Expr} {t t' : TT} (h : PT X e t) (i : ∀ σ H Q, t' σ H Q → t σ H Q) : PT X e t' := ⟨fun pins s σ H Q I q => h.run pins s σ H Q I (i σ H Q q)⟩
theorem PW.imp {e : Expr} {t t' : TT} (h : PW X e t) (i : ∀ σ H Q, t' σ H Q → t σ H Q) : PW X e t' := ⟨fun w pins s σ H Q I q => h.run w pins s σ H Q I (i σ H Q q)⟩
theorem PA.imp {e : List Expr} {t t' : TA} (h : PA X e t) (i : ∀ σ H Q, t' σ H Q → t σ H Q) : PA X e t' := ⟨fun p pins s σ H Q I q => h.run p pins s σ H Q I (i σ H Q q)⟩
theorem PS.imp {e : Stmt} {t t' : TS} (h : PS X e t) (i : ∀ D σ H, t' D σ H → t D σ H) : PS X e t' := ⟨fun pins s σ H D I q => h.run pins s σ H D I (i D σ H q)⟩
theorem PSs.imp {e : List Stmt} {t t' : TS} (h : PSs X e t) (i : ∀ D σ H, t' D σ H → t D σ H) : PSs X e t' := ⟨fun pins s σ H D I q => h.run pins s σ H D I (i D σ H q)⟩
end
end L2
namespace Sm
open PySem L2
/-! outcomes -/
structure Ex where
  cls : Str
  fs : List (Str × Val)
inductive Out (α : Type) where
  | ok (a : α) (M : Mem) | ex (x : Ex) (M : Mem) | bad
inductive SO where
  | nx (e : Sl) (M : Mem) | rt (x : Val) (M : Mem) | bk (e : Sl) (M : Mem) | ct (e : Sl) (M : Mem) | ex (x : Ex) (e : Sl) (M : Mem) | bad
abbrev EF := Sl → Mem → Out Val
abbrev TF := Sl → Mem → Out Bool
abbrev AF := Sl → Mem → Out (List Val)
abbrev SF := Sl → Mem → SO
abbrev FnS := List Val → Mem → Out Val
def Out.bind {α β : Type} (o : Out α) (k : α → Mem → Out β) : Out β := match o with
  | .ok a M => k a M
  | .ex x M => .ex x M
  | .bad => .bad
theorem Out.bind_ok {α β : Type} (a : α) (M : Mem) (k : α → Mem → Out β) : (Out.ok a M).bind k = k a M := rfl
theorem Out.bind_ex {α β : Type} (x : Ex) (M : Mem) (k : α → Mem → Out β) : (Out.ex x M : Out α).bind k = .ex x M := rfl
theorem Out.bind_bad {α β : Type} (k : α → Mem → Out β) : (Out.bad : Out α).bind k = .bad := rfl
section
variable {K : PySem.W.Frag} {ρ ρ' : List Addr} {H H' : Hp} {σ : St} {W : WX} {α β γ : Type}
/-- slots -/
structure SlR (K : PySem.W.Frag) (ρ : List Addr) (H : Hp) (e : Sl) (σ : St) : Prop where
  len : e.length = σ.length
  at_ : ∀ (i : Nat) (x : Val), e[i]? = some (some x) → ∃ v, σ[i]? = some (some v) ∧ RV K ρ H x v
theorem SlR.mono {e : Sl} (S : SlR K ρ H e σ) (E : Ext ρ H ρ' H') : SlR K ρ' H' e σ :=
  ⟨S.len, fun i x h => let ⟨v, h1, h2⟩ := S.at_ i x h; ⟨v, h1, RV.mono E _ _ h2⟩⟩
theorem SlR.set {e : Sl} {x : Val} {v : V} (S : SlR K ρ H e σ) (i : Nat) (r : RV K ρ H x v) : SlR K ρ H (e.set i (some x)) (σ.set i (some v)) := by
  refine ⟨by simp [S.len], fun j y h => ?_⟩
  by_cases hj : i = j
  · subst hj
    by_cases hl : i < e.length
    · rw [List.getElem?_set_self hl] at h
      cases h
      exact ⟨v, by rw [List.getElem?_set_self (by rw [← S.len]; exact hl)], r⟩
    · rw [List.getElem?_eq_none (by simpa using hl)] at h; cases h
  · rw [List.getElem?_set_ne hj] at h
    rw [List.getElem?_set_ne hj]
    exact S.at_ j y h
theorem SlR.unset {e : Sl} (S : SlR K ρ H e σ) (i : Nat) : SlR K ρ H (e.set i none) (σ.set i none) := by
  refine ⟨by simp [S.len], fun j y h => ?_⟩
  by_cases hj : i = j
  · subst hj
    by_cases hl : i < e.length
    · rw [List.getElem?_set_self hl] at h; cases h
    · rw [List.getElem?_eq_none (by simpa using hl)] at h; cases h
  · rw [List.getElem?_set_ne hj] at h
    rw [List.getElem?_set_ne hj]
    exact S.at_ j y h
/-- an exception's class and dict -/
def XR (K : PySem.W.Frag) (ρ : List Addr) (H : Hp) (x : Ex) (cls : Value) (d : Option Addr) : Prop :=
  cls = .ref (He.ga K x.cls) ∧ match x.fs with
    | [] => d = none
    | f :: r => ∃ a ws, d = some a ∧ H a = some (.xd ws) ∧ RKs K ρ H (f :: r) ws
abbrev RR (α β : Type) := List Addr → Hp → α → β → Prop
/-- what is wanted of an outcome -/
def Po (R : RR α β) (K : PySem.W.Frag) (ρ : List Addr) (H : Hp) (σ : St) (W : WX) (Q : β → Hp → Prop) : Out α → Prop
  | .ok a M => ∀ ρ' H' b, Ext ρ H ρ' H' → Rel K ρ' M H' → R ρ' H' a b → Q b H'
  | .ex x M => ∀ ρ' H' cls d, Ext ρ H ρ' H' → Rel K ρ' M H' → XR K ρ' H' x cls d → W cls d σ H'
  | .bad => False
theorem Po.mono {R : RR α β} {Q : β → Hp → Prop} (E : Ext ρ H ρ' H') : ∀ {o : Out α}, Po R K ρ H σ W Q o → Po R K ρ' H' σ W Q o
  | .ok _ _, h => fun ρ2 H2 b E2 r2 q => h ρ2 H2 b (E.trans E2) r2 q
  | .ex _ _, h => fun ρ2 H2 c d E2 r2 q => h ρ2 H2 c d (E.trans E2) r2 q
  | .bad, h => h
theorem Po.imp {R : RR α β} {Q Q' : β → Hp → Prop} (i : ∀ b H', Q b H' → Q' b H') : ∀ {o : Out α}, Po R K ρ H σ W Q o → Po R K ρ H σ W Q' o
  | .ok _ _, h => fun ρ2 H2 b E2 r2 q => i _ _ (h ρ2 H2 b E2 r2 q)
  | .ex _ _, h => h
  | .bad, h => h
/-- the outcome's continuation -/
theorem Po.bind {R : RR α β} {R' : RR γ δ} {Q : δ → Hp → Prop} {k : α → Mem → Out γ} : ∀ {o : Out α}, Po R' K ρ H σ W Q (o.bind k) →
    Po R K ρ H σ W (fun b H1 => ∃ ρ1 M1 a, Ext ρ H ρ1 H1 ∧ Rel K ρ1 M1 H1 ∧ R ρ1 H1 a b ∧ Po R' K ρ1 H1 σ W Q (k a M1)) o
  | .ok a M, h => fun ρ1 H1 b E1 r1 q => ⟨ρ1, M, a, E1, r1, q, Po.mono E1 h⟩
  | .ex _ _, h => h
  | .bad, h => h
abbrev RVr (K : PySem.W.Frag) : RR Val V := fun ρ H x v => RV K ρ H x v
abbrev RVsr (K : PySem.W.Frag) : RR (List Val) (List V) := fun ρ H x v => RVs K ρ H x v
abbrev Beq (K : PySem.W.Frag) : RR Bool Bool := fun _ _ x v => x = v
end
/-! readings -/
def tE (K : PySem.W.Frag) (W : WX) (f : EF) : TE := fun σ H Q => ∃ ρ e M, Rel K ρ M H ∧ SlR K ρ H e σ ∧ Po (RVr K) K ρ H σ W Q (f e M)
def tT (K : PySem.W.Frag) (W : WX) (f : TF) : TT := fun σ H Q => ∃ ρ e M, Rel K ρ M H ∧ SlR K ρ H e σ ∧ Po (Beq K) K ρ H σ W Q (f e M)
def tA (K : PySem.W.Frag) (W : WX) (f : AF) : TA := fun σ H Q => ∃ ρ e M, Rel K ρ M H ∧ SlR K ρ H e σ ∧ Po (RVsr K) K ρ H σ W Q (f e M)
structure SE (X : Cx) (W : WX) (e : Expr) (f : EF) : Prop where
  pe : PE X e (tE X.K W f)
structure ST (X : Cx) (W : WX) (e : Expr) (f : TF) : Prop where
  pt : PT X e (tT X.K W f)
structure SW (X : Cx) (W : WX) (e : Expr) (f : TF) : Prop where
  pw : PW X e (tT X.K W f)
structure SA (X : Cx) (W : WX) (es : List Expr) (f : AF) : Prop where
  pa : PA X es (tA X.K W f)
def PoS (K : PySem.W.Frag) (ρ : List Addr) (H : Hp) (W : WX) (D : Ends) : SO → Prop
  | .nx e M => ∀ ρ' H' σ', Ext ρ H ρ' H' → Rel K ρ' M H' → SlR K ρ' H' e σ' → D.nx σ' H'
  | .rt x M => ∀ ρ' H' v, Ext ρ H ρ' H' → Rel K ρ' M H' → RV K ρ' H' x v → D.rt v H'
  | .bk e M => ∀ ρ' H' σ', Ext ρ H ρ' H' → Rel K ρ' M H' → SlR K ρ' H' e σ' → D.bk σ' H'
  | .ct e M => ∀ ρ' H' σ', Ext ρ H ρ' H' → Rel K ρ' M H' → SlR K ρ' H' e σ' → D.ct σ' H'
  | .ex x e M => ∀ ρ' H' σ' cls d, Ext ρ H ρ' H' → Rel K ρ' M H' → SlR K ρ' H' e σ' → XR K ρ' H' x cls d → W cls d σ' H'
  | .bad => False
theorem PoS.mono {K : PySem.W.Frag} {ρ ρ' : List Addr} {H H' : Hp} {W : WX} {D : Ends} (E : Ext ρ H ρ' H') : ∀ {o : SO}, PoS K ρ H W D o → PoS K ρ' H' W D o
  | .nx _ _, h => fun ρ2 H2 b E2 r2 q => h ρ2 H2 b (E.trans E2) r2 q
  | .rt _ _, h => fun ρ2 H2 b E2 r2 q => h ρ2 H2 b (E.trans E2) r2 q
  | .bk _ _, h => fun ρ2 H2 b E2 r2 q => h ρ2 H2 b (E.trans E2) r2 q
  | .ct _ _, h => fun ρ2 H2 b E2 r2 q => h ρ2 H2 b (E.trans E2) r2 q
  | .ex _ _ _, h => fun ρ2 H2 s c d E2 r2 q => h ρ2 H2 s c d (E.trans E2) r2 q
  | .bad, h => h
def tSt (K : PySem.W.Frag) (W : WX) (f : SF) : TS := fun D σ H => ∃ ρ e M, Rel K ρ M H ∧ SlR K ρ H e σ ∧ PoS K ρ H W D (f e M)
structure SS (X : Cx) (W : WX) (st : Stmt) (f : SF) : Prop where
  ps : PS X st (tSt X.K W f)
structure SSs (X : Cx) (W : WX) (st : List Stmt) (f : SF) : Prop where
  pss : PSs X st (tSt X.K W f)
/-! expressions -/
def eC (x : Val) : EF := fun _ M => .ok x M
def eVar (i : Nat) : EF := fun e M => match e[i]? with
  | some (some x) => .ok x M
  | _ => .bad
def eOp2 (g : Val → Val → Mem → Out Val) (fa fb : EF) : EF := fun e M => (fa e M).bind fun x M1 => (fb e M1).bind fun y M2 => g x y M2
def eOp1 (g : Val → Mem → Out Val) (fa : EF) : EF := fun e M => (fa e M).bind fun x M1 => g x M1
def aNil : AF := fun _ M => .ok [] M
def aCons (fa : EF) (fr : AF) : AF := fun e M => (fa e M).bind fun x M1 => (fr e M1).bind fun l M2 => .ok (x :: l) M2
def eTup (fa : AF) : EF := fun e M => (fa e M).bind fun l M1 => if l.length ≤ sizeLine then .ok (.tup l) M1 else .bad
def eLst (fa : AF) : EF := fun e M => (fa e M).bind fun l M1 => if l.length ≤ sizeLine then .ok (.loc M1.length) (M1 ++ [.lst l]) else .bad
def eCall (F : FnS) (fa : AF) : EF := fun e M => (fa e M).bind fun l M1 => F l M1
def eIf (t : TF) (fa fb : EF) : EF := fun e M => (t e M).bind fun b M1 => if b = true then fa e M1 else fb e M1
/-- a rule on values and what it comes to -/
def OpS (K : PySem.W.Frag) (r : R2) (g : Val → Val → Mem → Out Val) : Prop :=
  ∀ (ρ : List Addr) (M : Mem) (H : Hp) (σ : St) (W : WX) (Q : VK) (x y : Val) (v u : V), Rel K ρ M H → RV K ρ H x v → RV K ρ H y u → Po (RVr K) K ρ H σ W Q (g x y M) → r v u H Q
def UnS (K : PySem.W.Frag) (r : V → Hp → VK → Prop) (g : Val → Mem → Out Val) : Prop :=
  ∀ (ρ : List Addr) (M : Mem) (H : Hp) (σ : St) (W : WX) (Q : VK) (x : Val) (v : V), Rel K ρ M H → RV K ρ H x v → Po (RVr K) K ρ H σ W Q (g x M) → r v H Q
def CallS (K : PySem.W.Frag) (r : List V → Hp → VK → Prop) (g : FnS) : Prop :=
  ∀ (ρ : List Addr) (M : Mem) (H : Hp) (σ : St) (W : WX) (Q : VK) (l : List Val) (vs : List V), Rel K ρ M H → RVs K ρ H l vs → Po (RVr K) K ρ H σ W Q (g l M) → r vs H Q
theorem OpS.or {K : PySem.W.Frag} {r r' : R2} {g : Val → Val → Mem → Out Val} (h : ∀ (ρ : List Addr) (M : Mem) (H : Hp) (σ : St) (W : WX) (Q : VK) (x y : Val) (v u : V), Rel K ρ M H → RV K ρ H x v → RV K ρ H y u → Po (RVr K) K ρ H σ W Q (g x y M) → r v u H Q ∨ r' v u H Q) :
    OpS K (fun x y H Q => r x y H Q ∨ r' x y H Q) g := h
section
variable {X : Cx} {W : WX} {a b c : Expr} {fa fb fc : EF} {pos : Pos}
theorem se_var {i : Nat} {x : Str} (hN : X.N[i]? = some x := by rfl) (hv : Vis X.env.scope x := by first | exact Or.inl rfl | exact Or.inr (Or.inl rfl) | exact Or.inr (Or.inr rfl)) (hd : (x == ("__debug__" : Str)) = false := by decide) (hcd : (x == ("__classdict__" : Str)) = false := by decide) :
    SE X W (.Name x pos) (eVar i) := ⟨(pe_var (i := i) hN hv hd hcd).imp fun σ H Q ⟨ρ, e, M, R, S, p⟩ => by
  unfold eVar at p
  cases h : e[i]? with
  | none => rw [h] at p; exact p.elim
  | some o => cases o with
    | none => rw [h] at p; exact p.elim
    | some x => rw [h] at p; obtain ⟨v, h1, h2⟩ := S.at_ i x h; exact ⟨v, h1, p ρ H v (Ext.refl _ _) R h2⟩⟩
theorem se_const {e : Expr} {x : Val} {v : V} (h : PE X e (tC v)) (r : ∀ ρ H, RV X.K ρ H x v) : SE X W e (eC x) := ⟨h.imp fun σ H Q ⟨ρ, e, M, R, S, p⟩ => p ρ H v (Ext.refl _ _) R (r ρ H)⟩
theorem se_int {i j} : SE X W (.Constant (.int i) j pos) (eC (.int i)) := se_const pe_int fun _ _ => rfl
theorem se_bl {b j} : SE X W (.Constant (.bool b) j pos) (eC (.bl b)) := se_const pe_bl fun _ _ => rfl
theorem se_non {j} : SE X W (.Constant .none j pos) (eC .non) := se_const pe_non fun _ _ => rfl
theorem se_str {x j} : SE X W (.Constant (.str x) j pos) (eC (.str x)) := se_const pe_str fun _ _ => rfl
/-- a module's number -/
theorem se_gint {x : Str} {i : Int} (hm : ∃ t, X.mg x = some (.int i t)) (hg : Gl X x := by rfl) (hd : (x == ("__debug__" : Str)) = false := by decide) : SE X W (.Name x pos) (eC (.int i)) := by
  obtain ⟨t, hm⟩ := hm
  exact se_const (pe_glob (v := .int i) hg hm ⟨t, rfl⟩ hd) fun _ _ => rfl
theorem se_gstr {x : Str} {i : Str} (hm : ∃ t, X.mg x = some (.str i t)) (hg : Gl X x := by rfl) (hd : (x == ("__debug__" : Str)) = false := by decide) : SE X W (.Name x pos) (eC (.str i)) := by
  obtain ⟨t, hm⟩ := hm
  exact se_const (pe_glob (v := .str i) hg hm ⟨t, rfl⟩ hd) fun _ _ => rfl
theorem se_bin {op : Operator} {r : R2} {g : Val → Val → Mem → Out Val} (ho : OpR X (binaryOp op) r) (hs : OpS X.K r g) (ha : SE X W a fa) (hb : SE X W b fb) : SE X W (.BinOp a op b pos) (eOp2 g fa fb) :=
  ⟨(pe_op ho ha.pe hb.pe).imp fun σ H Q ⟨ρ, e, M, R, S, p⟩ => ⟨ρ, e, M, R, S, (Po.bind p).imp fun v H1 ⟨ρ1, M1, x, E1, R1, r1, p1⟩ => ⟨ρ1, e, M1, R1, S.mono E1, (Po.bind p1).imp fun u H2 ⟨ρ2, M2, y, E2, R2, r2, p2⟩ => hs _ _ _ _ _ _ _ _ _ _ R2 (RV.mono E2 _ _ r1) r2 p2⟩⟩⟩
theorem se_cmp {op : CmpOp} {r : R2} {g : Val → Val → Mem → Out Val} (ho : OpR X (compareOp op) r) (hs : OpS X.K r g) (ha : SE X W a fa) (hb : SE X W b fb) (hm : behindInMarks op b = false) : SE X W (.Compare a [op] [b] pos) (eOp2 g fa fb) :=
  ⟨(pe_cmpR ho ha.pe hb.pe hm).imp fun σ H Q ⟨ρ, e, M, R, S, p⟩ => ⟨ρ, e, M, R, S, (Po.bind p).imp fun v H1 ⟨ρ1, M1, x, E1, R1, r1, p1⟩ => ⟨ρ1, e, M1, R1, S.mono E1, (Po.bind p1).imp fun u H2 ⟨ρ2, M2, y, E2, R2, r2, p2⟩ => hs _ _ _ _ _ _ _ _ _ _ R2 (RV.mono E2 _ _ r1) r2 p2⟩⟩⟩
theorem se_un {op : UnaryOp} {r : V → Hp → VK → Prop} {g : Val → Mem → Out Val} (ho : UnR X (unaryOp op) r) (hs : UnS X.K r g) (ha : SE X W a fa) : SE X W (.UnaryOp op a pos) (eOp1 g fa) :=
  ⟨(pe_un ho ha.pe).imp fun σ H Q ⟨ρ, e, M, R, S, p⟩ => ⟨ρ, e, M, R, S, (Po.bind p).imp fun v H1 ⟨ρ1, M1, x, E1, R1, r1, p1⟩ => hs _ _ _ _ _ _ _ _ R1 r1 p1⟩⟩
theorem se_ix {r : R2} {g : Val → Val → Mem → Out Val} (hr : IxR X r) (hs : OpS X.K r g) (ha : SE X W a fa) (hb : SE X W b fb) (hp : PlainIx b := by intro _ _; rfl) : SE X W (.Subscript a b pos) (eOp2 g fa fb) :=
  ⟨(pe_ix hr ha.pe hb.pe hp).imp fun σ H Q ⟨ρ, e, M, R, S, p⟩ => ⟨ρ, e, M, R, S, (Po.bind p).imp fun v H1 ⟨ρ1, M1, x, E1, R1, r1, p1⟩ => ⟨ρ1, e, M1, R1, S.mono E1, (Po.bind p1).imp fun u H2 ⟨ρ2, M2, y, E2, R2, r2, p2⟩ => hs _ _ _ _ _ _ _ _ _ _ R2 (RV.mono E2 _ _ r1) r2 p2⟩⟩⟩
/-! argument lists, displays -/
theorem sa_nil : SA X W [] aNil := ⟨pa_nil.imp fun σ H Q ⟨ρ, e, M, R, S, p⟩ => p ρ H [] (Ext.refl _ _) R rfl⟩
theorem sa_cons {es : List Expr} {fr : AF} (ha : SE X W a fa) (hr : SA X W es fr) (hs : starEach (a :: es) X.env = (false, eval a X.env) :: starEach es X.env := by rfl) : SA X W (a :: es) (aCons fa fr) :=
  ⟨(pa_cons ha.pe hr.pa hs).imp fun σ H Q ⟨ρ, e, M, R, S, p⟩ => ⟨ρ, e, M, R, S, (Po.bind p).imp fun v H1 ⟨ρ1, M1, x, E1, R1, r1, p1⟩ => ⟨ρ1, e, M1, R1, S.mono E1, (Po.bind (R := RVsr X.K) p1).imp fun us H2 ⟨ρ2, M2, l, E2, R2, r2, p2⟩ => p2 ρ2 H2 (v :: us) (Ext.refl _ _) R2 ⟨v, us, rfl, RV.mono E2 _ _ r1, r2⟩⟩⟩⟩
theorem se_tup {es : List Expr} {x1} {f : AF} (h : SA X W es f) : SE X W (.Tuple es x1 pos) (eTup f) :=
  ⟨(pe_tup h.pa).imp fun σ H Q ⟨ρ, e, M, R, S, p⟩ => ⟨ρ, e, M, R, S, (Po.bind (R := RVsr X.K) p).imp fun vs H1 ⟨ρ1, M1, l, E1, R1, r1, p1⟩ => by
    by_cases hl : l.length ≤ sizeLine
    · rw [if_pos hl] at p1
      refine ⟨by rw [r1.length]; exact hl, fun q hq => ?_⟩
      exact p1 ρ1 _ _ (Ext.fresh ρ1 hq) (R1.fresh hq) ⟨q, vs, rfl, SqT.of upd_same, RVs.mono (Ext.fresh ρ1 hq) _ _ r1⟩
    · rw [if_neg hl] at p1; exact p1.elim⟩⟩
/-- a new list at p -/
theorem Po.newList {K : PySem.W.Frag} {ρ : List Addr} {M : Mem} {H : Hp} {σ : St} {W : WX} {Q : VK} {l : List Val} {vs : List V} (p : Po (RVr K) K ρ H σ W Q (.ok (.loc M.length) (M ++ [.lst l]))) (R : Rel K ρ M H) (r : RVs K ρ H l vs) :
    ∀ q, H q = none → Q (.ref q) (upd H q (.lst vs)) := fun q hq => by
  have E := Ext.alloc (o := .lst vs) ρ hq
  refine p (ρ ++ [q]) _ _ E (R.alloc hq ⟨vs, upd_same, RVs.mono E _ _ r⟩) ⟨q, rfl, ?_⟩
  rw [← R.len, List.getElem?_append_right (Nat.le_refl _)]; simp
theorem se_lst {es : List Expr} {f : AF} (h : SA X W es f) : SE X W (.List es pos) (eLst f) :=
  ⟨(pe_lst h.pa).imp fun σ H Q ⟨ρ, e, M, R, S, p⟩ => ⟨ρ, e, M, R, S, (Po.bind (R := RVsr X.K) p).imp fun vs H1 ⟨ρ1, M1, l, E1, R1, r1, p1⟩ => by
    by_cases hl : l.length ≤ sizeLine
    · rw [if_pos hl] at p1
      exact ⟨by rw [r1.length]; exact hl, p1.newList R1 r1⟩
    · rw [if_neg hl] at p1; exact p1.elim⟩⟩
theorem se_ifExp {t : TF} (hc : ST X W c t) (ha : SE X W a fa) (hb : SE X W b fb) : SE X W (.IfExp c a b pos) (eIf t fa fb) :=
  ⟨(pe_ifExp hc.pt ha.pe hb.pe).imp fun σ H Q ⟨ρ, e, M, R, S, p⟩ => ⟨ρ, e, M, R, S, (Po.bind (R := Beq X.K) p).imp fun b H1 ⟨ρ1, M1, b', E1, R1, r1, p1⟩ => by
    cases (show b' = b from r1)
    by_cases hb : b = true
    · rw [if_pos hb] at p1 ⊢; exact ⟨ρ1, e, M1, R1, S.mono E1, p1⟩
    · rw [if_neg hb] at p1 ⊢; exact ⟨ρ1, e, M1, R1, S.mono E1, p1⟩⟩⟩
/-! built-ins by name -/
theorem se_callB {x : Str} {p : Pos} {e : Expr} {es : List Expr} {f : AF} {id : String} {r : List V → Hp → VK → Prop} {g : FnS} (hc : CallR X (.builtin id) r) (hs : CallS X.K r g) (hm : X.mg x = none) (hv : bootBuiltins x = some (.builtin id)) (ha : SA X W (e :: es) f)
    (hg : Gl X x := by rfl) (hn : x ≠ "__name__" := by decide) (hdb : (x == ("__debug__" : Str)) = false := by decide) (he : starEach (e :: es) X.env = (false, eval e X.env) :: starEach es X.env := by rfl) (hpl : (backTo pos (starEach es X.env)).any (·.1) = false := by rfl) :
    SE X W (.Call (.Name x p) (e :: es) [] pos) (eCall g f) :=
  ⟨(pe_callB hc hg hm hv ha.pa hn hdb he hpl).imp fun σ H Q ⟨ρ, e, M, R, S, p⟩ => ⟨ρ, e, M, R, S, (Po.bind (R := RVsr X.K) p).imp fun vs H1 ⟨ρ1, M1, l, E1, R1, r1, p1⟩ => hs _ _ _ _ _ _ _ _ R1 r1 p1⟩⟩
theorem se_callTy {x : Str} {p : Pos} {e : Expr} {es : List Expr} {f : AF} {id : String} {r : List V → Hp → VK → Prop} {g : FnS} (hc : CallR X (.type id) r) (hs : CallS X.K r g) (hm : X.mg x = none) (hv : bootBuiltins x = some (.type id)) (ha : SA X W (e :: es) f)
    (hg : Gl X x := by rfl) (hn : x ≠ "__name__" := by decide) (hdb : (x == ("__debug__" : Str)) = false := by decide) (he : starEach (e :: es) X.env = (false, eval e X.env) :: starEach es X.env := by rfl) (hpl : (backTo pos (starEach es X.env)).any (·.1) = false := by rfl) :
    SE X W (.Call (.Name x p) (e :: es) [] pos) (eCall g f) :=
  ⟨(pe_callTy hc hg hm hv ha.pa hn hdb he hpl).imp fun σ H Q ⟨ρ, e, M, R, S, p⟩ => ⟨ρ, e, M, R, S, (Po.bind (R := RVsr X.K) p).imp fun vs H1 ⟨ρ1, M1, l, E1, R1, r1, p1⟩ => hs _ _ _ _ _ _ _ _ R1 r1 p1⟩⟩
end
end Sm

namespace Sm
open PySem L2
/-! tests -/
def tCmp2 (g : Val → Val → Mem → Out Val) (fa fb : EF) : TF := fun e M => (eOp2 g fa fb e M).bind fun x M1 => match x with
  | .bl b => .ok b M1
  | _ => .bad
def tOfE (f : EF) : TF := fun e M => (f e M).bind fun x M1 => match x with
  | .bl b => .ok b M1
  | _ => .bad
def truV (x : Val) (M : Mem) : Option Bool := match x with
  | .non => some false
  | .bl b => some b
  | .int i => some (i != 0)
  | .str y => if y.length ≤ sizeLine then some ((y.length : Int) != 0) else none
  | .tup l => some (!l.isEmpty)
  | .frz l => some (!l.isEmpty)
  | .loc n => match M[n]? with
    | some (.lst l) => some (!l.isEmpty)
    | some (.dK l) => some (!l.isEmpty)
    | _ => none
def tTru (f : EF) : TF := fun e M => (f e M).bind fun x M1 => match truV x M1 with
  | some b => .ok b M1
  | none => .bad
def tNotF (t : TF) : TF := fun e M => (t e M).bind fun b M1 => .ok (!b) M1
def tAndF (t u : TF) : TF := fun e M => (t e M).bind fun b M1 => if b = true then u e M1 else .ok false M1
def tOrF (t u : TF) : TF := fun e M => (t e M).bind fun b M1 => if b = true then .ok true M1 else u e M1
def eAnd (f g : EF) : EF := fun e M => (f e M).bind fun x M1 => match x with
  | .bl b => if b = true then g e M1 else .ok (.bl false) M1
  | _ => .bad
def eOr (f g : EF) : EF := fun e M => (f e M).bind fun x M1 => match x with
  | .bl b => if b = true then .ok (.bl true) M1 else g e M1
  | _ => .bad
def eNot (f : EF) : EF := fun e M => (f e M).bind fun x M1 => match x with
  | .bl b => .ok (.bl (!b)) M1
  | _ => .bad
def eChain (g g' : Val → Val → Mem → Out Val) (fa fb fc : EF) : EF := fun e M => (fa e M).bind fun x M1 => (fb e M1).bind fun y M2 => (g x y M2).bind fun z M3 => match z with
  | .bl b => if b = true then (fc e M3).bind fun w M4 => g' y w M4 else .ok (.bl false) M3
  | _ => .bad
theorem RVs.isEmpty {K : PySem.W.Frag} {ρ : List Addr} {H : Hp} : ∀ {l : List Val} {vs : List V}, RVs K ρ H l vs → vs.isEmpty = l.isEmpty
  | [], _, h => by cases (show _ = [] from h); rfl
  | _ :: _, _, ⟨_, _, h, _, _⟩ => by subst h; rfl
theorem RKs.isEmpty {κ : Type} {K : PySem.W.Frag} {ρ : List Addr} {H : Hp} : ∀ {l : List (κ × Val)} {vs : List (κ × V)}, RKs K ρ H l vs → vs.isEmpty = l.isEmpty
  | [], _, h => by cases (show _ = [] from h); rfl
  | _ :: _, _, ⟨_, _, h, _, _⟩ => by subst h; rfl
theorem Rel.lst {K : PySem.W.Frag} {ρ : List Addr} {M : Mem} {H : Hp} (R : Rel K ρ M H) {n : Nat} {l : List Val} (h : M[n]? = some (.lst l)) {v : V} (r : RV K ρ H (.loc n) v) : ∃ a vs, v = .ref a ∧ ρ[n]? = some a ∧ H a = some (.lst vs) ∧ RVs K ρ H l vs := by
  obtain ⟨a, h1, h2⟩ := r
  obtain ⟨vs, h3, h4⟩ := R.at_ _ _ _ h h2
  exact ⟨a, vs, h1, h2, h3, h4⟩
theorem truV_ok {K : PySem.W.Frag} {ρ : List Addr} {M : Mem} {H : Hp} {x : Val} {v : V} {b : Bool} (R : Rel K ρ M H) (r : RV K ρ H x v) (h : truV x M = some b) : TruV K v H b := by
  cases x with
  | non => cases (show v = _ from r); cases h; exact rfl
  | bl c => cases (show v = _ from r); cases h; exact rfl
  | int i => cases (show v = _ from r); cases h; exact rfl
  | str y =>
    cases (show v = _ from r)
    unfold truV at h
    simp only at h
    split at h
    · rename_i hl; cases h; exact ⟨hl, rfl⟩
    · cases h
  | tup l =>
    obtain ⟨a, vs, h1, h2, h3⟩ := r
    subst h1
    cases h
    exact .inr (.inl ⟨vs, h2, by rw [h3.isEmpty]⟩)
  | frz l =>
    obtain ⟨a, h1, h2⟩ := r
    subst h1
    cases h
    exact .inl ⟨_, h2.sq, by simp⟩
  | loc n =>
    unfold truV at h
    simp only at h
    split at h
    · rename_i l hn
      cases h
      obtain ⟨a, vs, h1, h2, h3, h4⟩ := R.lst hn r
      subst h1
      exact .inl ⟨vs, SqL.of h3, by rw [h4.isEmpty]⟩
    · rename_i l hn
      cases h
      obtain ⟨a, h1, h2⟩ := r
      obtain ⟨ws, h3, h4⟩ := R.at_ _ _ _ hn h2
      subst h1
      exact .inr (.inr ⟨ws, h3, by rw [h4.isEmpty]⟩)
    · cases h
section
variable {X : Cx} {W : WX} {a b c : Expr} {fa fb fc : EF} {pos : Pos} {rest : List Expr} {t u : TF}
theorem st_cmp {op : CmpOp} {r : R2} {g : Val → Val → Mem → Out Val} (ho : OpR X (compareOp op) r) (hs : OpS X.K r g) (ha : SE X W a fa) (hb : SE X W b fb) (hm : behindInMarks op b = false) : ST X W (.Compare a [op] [b] pos) (tCmp2 g fa fb) :=
  ⟨(pt_cmpR ho ha.pe hb.pe hm).imp fun σ H Q ⟨ρ, e, M, R, S, p⟩ => ⟨ρ, e, M, R, S, by
    have p' := Po.bind (R := RVr X.K) p
    unfold eOp2 at p'
    exact (Po.bind p').imp fun v H1 ⟨ρ1, M1, x, E1, R1, r1, p1⟩ => ⟨ρ1, e, M1, R1, S.mono E1, (Po.bind p1).imp fun u H2 ⟨ρ2, M2, y, E2, R2, r2, p2⟩ => hs _ _ _ _ _ _ _ _ _ _ R2 (RV.mono E2 _ _ r1) r2 (p2.imp fun z H3 ⟨ρ3, M3, z', E3, R3, r3, p3⟩ => by
      cases z' with
      | bl k => cases (show z = _ from r3); exact ⟨k, rfl, p3 ρ3 H3 k (Ext.refl _ _) R3 rfl⟩
      | _ => exact p3.elim)⟩⟩⟩
theorem st_tru (ha : SE X W a fa) (he : ∀ whole, isTrue a X.env whole = (do let v ← whole; standAt a.pos; holding [v] (truthy v)) := by intro _; rfl) : ST X W a (tTru fa) :=
  ⟨(pt_truth ha.pe he).imp fun σ H Q ⟨ρ, e, M, R, S, p⟩ => ⟨ρ, e, M, R, S, (Po.bind p).imp fun v H1 ⟨ρ1, M1, x, E1, R1, r1, p1⟩ => by
    cases h : truV x M1 with
    | none => simp only [h] at p1; exact p1.elim
    | some b => simp only [h] at p1; exact ⟨b, truV_ok R1 r1 h, p1 ρ1 H1 b (Ext.refl _ _) R1 rfl⟩⟩⟩
theorem st_not (ha : ST X W a t) : ST X W (.UnaryOp .Not a pos) (tNotF t) :=
  ⟨(pt_not ha.pt).imp fun σ H Q ⟨ρ, e, M, R, S, p⟩ => ⟨ρ, e, M, R, S, (Po.bind (R := Beq X.K) p).imp fun v H1 ⟨ρ1, M1, x, E1, R1, r1, p1⟩ => by
    cases (show x = v from r1); exact p1 ρ1 H1 _ (Ext.refl _ _) R1 rfl⟩⟩
theorem sw_and1 (ha : ST X W a t) : SW X W (.BoolOp .And [a] pos) t := ⟨pw_and1 ha.pt⟩
theorem sw_or1 (ha : ST X W a t) : SW X W (.BoolOp .Or [a] pos) t := ⟨pw_or1 ha.pt⟩
theorem sw_and (ha : ST X W a t) (hb : SW X W (.BoolOp .And (b :: rest) pos) u) : SW X W (.BoolOp .And (a :: b :: rest) pos) (tAndF t u) :=
  ⟨(pw_and ha.pt hb.pw).imp fun σ H Q ⟨ρ, e, M, R, S, p⟩ => ⟨ρ, e, M, R, S, (Po.bind (R := Beq X.K) p).imp fun v H1 ⟨ρ1, M1, x, E1, R1, r1, p1⟩ => by
    cases (show x = v from r1)
    by_cases h : v = true
    · rw [if_pos h] at p1 ⊢; exact ⟨ρ1, e, M1, R1, S.mono E1, p1⟩
    · rw [if_neg h] at p1 ⊢; exact p1 ρ1 H1 _ (Ext.refl _ _) R1 rfl⟩⟩
theorem sw_or (ha : ST X W a t) (hb : SW X W (.BoolOp .Or (b :: rest) pos) u) : SW X W (.BoolOp .Or (a :: b :: rest) pos) (tOrF t u) :=
  ⟨(pw_or ha.pt hb.pw).imp fun σ H Q ⟨ρ, e, M, R, S, p⟩ => ⟨ρ, e, M, R, S, (Po.bind (R := Beq X.K) p).imp fun v H1 ⟨ρ1, M1, x, E1, R1, r1, p1⟩ => by
    cases (show x = v from r1)
    by_cases h : v = true
    · rw [if_pos h] at p1 ⊢; exact p1 ρ1 H1 _ (Ext.refl _ _) R1 rfl
    · rw [if_neg h] at p1 ⊢; exact ⟨ρ1, e, M1, R1, S.mono E1, p1⟩⟩⟩
theorem st_w (h : SW X W a t) : ST X W a t := ⟨h.pw.pt⟩
theorem se_one {op} (h : SE X W a fa) : SE X W (.BoolOp op [a] pos) fa := ⟨pe_one h.pe⟩
theorem se_and (ha : SE X W a fa) (hb : SE X W (.BoolOp .And (b :: rest) pos) fb) : SE X W (.BoolOp .And (a :: b :: rest) pos) (eAnd fa fb) :=
  ⟨(pe_and ha.pe hb.pe).imp fun σ H Q ⟨ρ, e, M, R, S, p⟩ => ⟨ρ, e, M, R, S, (Po.bind p).imp fun v H1 ⟨ρ1, M1, x, E1, R1, r1, p1⟩ => by
    cases x with
    | bl k =>
      cases (show v = _ from r1)
      simp only at p1
      refine ⟨k, rfl, ?_⟩
      by_cases h : k = true
      · rw [if_pos h] at p1 ⊢; exact ⟨ρ1, e, M1, R1, S.mono E1, p1⟩
      · rw [if_neg h] at p1 ⊢; exact p1 ρ1 H1 _ (Ext.refl _ _) R1 rfl
    | _ => exact p1.elim⟩⟩
theorem se_or (ha : SE X W a fa) (hb : SE X W (.BoolOp .Or (b :: rest) pos) fb) : SE X W (.BoolOp .Or (a :: b :: rest) pos) (eOr fa fb) :=
  ⟨(pe_or ha.pe hb.pe).imp fun σ H Q ⟨ρ, e, M, R, S, p⟩ => ⟨ρ, e, M, R, S, (Po.bind p).imp fun v H1 ⟨ρ1, M1, x, E1, R1, r1, p1⟩ => by
    cases x with
    | bl k =>
      cases (show v = _ from r1)
      simp only at p1
      refine ⟨k, rfl, ?_⟩
      by_cases h : k = true
      · rw [if_pos h] at p1 ⊢; exact p1 ρ1 H1 _ (Ext.refl _ _) R1 rfl
      · rw [if_neg h] at p1 ⊢; exact ⟨ρ1, e, M1, R1, S.mono E1, p1⟩
    | _ => exact p1.elim⟩⟩
theorem se_not (ha : SE X W a fa) : SE X W (.UnaryOp .Not a pos) (eNot fa) :=
  ⟨(pe_not ha.pe).imp fun σ H Q ⟨ρ, e, M, R, S, p⟩ => ⟨ρ, e, M, R, S, (Po.bind p).imp fun v H1 ⟨ρ1, M1, x, E1, R1, r1, p1⟩ => by
    cases x with
    | bl k => cases (show v = _ from r1); exact ⟨k, rfl, p1 ρ1 H1 _ (Ext.refl _ _) R1 rfl⟩
    | _ => exact p1.elim⟩⟩
theorem tChain_ok {r r' : R2} {g g' : Val → Val → Mem → Out Val} (hs : OpS X.K r g) (hs' : OpS X.K r' g') {σ : St} {H : Hp} {Q : VK} (h : tE X.K W (eChain g g' fa fb fc) σ H Q) : tChain r r' (tE X.K W fa) (tE X.K W fb) (tE X.K W fc) σ H Q := by
  obtain ⟨ρ, e, M, R, S, p⟩ := h
  refine ⟨ρ, e, M, R, S, (Po.bind p).imp fun v H1 ⟨ρ1, M1, x, E1, R1, r1, p1⟩ => ⟨ρ1, e, M1, R1, S.mono E1, (Po.bind p1).imp fun u H2 ⟨ρ2, M2, y, E2, R2, r2, p2⟩ => ?_⟩⟩
  refine hs _ _ _ _ _ _ _ _ _ _ R2 (RV.mono E2 _ _ r1) r2 ((Po.bind (R := RVr X.K) p2).imp fun z H3 ⟨ρ3, M3, z', E3, R3, r3, p3⟩ => ?_)
  cases z' with
  | bl k =>
    cases (show z = _ from r3)
    simp only at p3
    refine ⟨k, rfl, ?_⟩
    by_cases h : k = true
    · rw [if_pos h] at p3 ⊢
      exact ⟨ρ3, e, M3, R3, (S.mono E1).mono (E2.trans E3), (Po.bind p3).imp fun w' H4 ⟨ρ4, M4, w, E4, R4, r4, p4⟩ => hs' _ _ _ _ _ _ _ _ _ _ R4 (RV.mono (E3.trans E4) _ _ r2) r4 p4⟩
    · rw [if_neg h] at p3 ⊢; exact p3 ρ3 H3 _ (Ext.refl _ _) R3 rfl
  | _ => exact p3.elim
theorem se_chain {op op' : CmpOp} {r r' : R2} {g g' : Val → Val → Mem → Out Val} (ho : OpR X (compareOp op) r) (ho' : OpR X (compareOp op') r') (hs : OpS X.K r g) (hs' : OpS X.K r' g') (ha : SE X W a fa) (hb : SE X W b fb) (hc : SE X W c fc)
    (hm : lastMarks [op, op'] [b, c] = false := by with_unfolding_all rfl) : SE X W (.Compare a [op, op'] [b, c] pos) (eChain g g' fa fb fc) :=
  ⟨(pe_chain ho ho' ha.pe hb.pe hc.pe hm).imp fun σ H Q h => tChain_ok hs hs' h⟩
theorem st_chain {op op' : CmpOp} {r r' : R2} {g g' : Val → Val → Mem → Out Val} (ho : OpR X (compareOp op) r) (ho' : OpR X (compareOp op') r') (hs : OpS X.K r g) (hs' : OpS X.K r' g') (ha : SE X W a fa) (hb : SE X W b fb) (hc : SE X W c fc)
    (hm : lastMarks [op, op'] [b, c] = false := by with_unfolding_all rfl) : ST X W (.Compare a [op, op'] [b, c] pos) (tOfE (eChain g g' fa fb fc)) :=
  ⟨(pt_chain ho ho' ha.pe hb.pe hc.pe hm).imp fun σ H Q ⟨ρ, e, M, R, S, p⟩ => by
    unfold tOfE at p
    refine tChain_ok hs hs' ⟨ρ, e, M, R, S, (Po.bind (R := RVr X.K) p).imp fun v H1 ⟨ρ1, M1, x, E1, R1, r1, p1⟩ => ?_⟩
    cases x with
    | bl k => cases (show v = _ from r1); exact ⟨k, rfl, p1 ρ1 H1 _ (Ext.refl _ _) R1 rfl⟩
    | _ => exact p1.elim⟩
end
/-! statements -/
def SO.seq (o : SO) (k : Sl → Mem → SO) : SO := match o with
  | .nx e M => k e M
  | o => o
def sNil : SF := fun e M => .nx e M
def sSeq (f g : SF) : SF := fun e M => (f e M).seq g
/-- an expression in a statement -/
def Out.toS {α : Type} (o : Out α) (e : Sl) (k : α → Mem → SO) : SO := match o with
  | .ok a M => k a M
  | .ex x M => .ex x e M
  | .bad => .bad
def sExpr (f : EF) : SF := fun e M => (f e M).toS e fun _ M1 => .nx e M1
def sRet (f : EF) : SF := fun e M => (f e M).toS e fun x M1 => .rt x M1
def sRetN : SF := fun _ M => .rt .non M
def sIf (t : TF) (f g : SF) : SF := fun e M => (t e M).toS e fun b M1 => if b = true then f e M1 else g e M1
def sBrk : SF := fun e M => .bk e M
def sCnt : SF := fun e M => .ct e M
/-- targets -/
inductive GO where
  | nx (e : Sl) (M : Mem) | ex (x : Ex) (e : Sl) (M : Mem) | bad
abbrev GF := Val → Sl → Mem → GO
def GO.toS (o : GO) (k : Sl → Mem → SO) : SO := match o with
  | .nx e M => k e M
  | .ex x e M => .ex x e M
  | .bad => .bad
def sAsg (f : EF) (g : GF) : SF := fun e M => (f e M).toS e fun x M1 => (g x e M1).toS .nx
def PoG (K : PySem.W.Frag) (ρ : List Addr) (H : Hp) (W : WX) (Q : St → Hp → Prop) : GO → Prop
  | .nx e M => ∀ ρ' H' σ', Ext ρ H ρ' H' → Rel K ρ' M H' → SlR K ρ' H' e σ' → Q σ' H'
  | .ex x e M => ∀ ρ' H' σ' cls d, Ext ρ H ρ' H' → Rel K ρ' M H' → SlR K ρ' H' e σ' → XR K ρ' H' x cls d → W cls d σ' H'
  | .bad => False
def tGt (K : PySem.W.Frag) (W : WX) (g : GF) : TG := fun v σ H Q => ∃ ρ e M x, Rel K ρ M H ∧ SlR K ρ H e σ ∧ RV K ρ H x v ∧ PoG K ρ H W Q (g x e M)
structure SG (X : Cx) (W : WX) (tg : Expr) (g : GF) : Prop where
  pg : PG X tg (tGt X.K W g)
theorem PG.imp {X : Cx} {tg : Expr} {t t' : TG} (h : PG X tg t) (i : ∀ v σ H Q, t' v σ H Q → t v σ H Q) : PG X tg t' := ⟨fun pins s σ H v u Q I r q => h.run pins s σ H v u Q I r (i v σ H Q q)⟩
/-- an expression's outcome in a statement -/
theorem PoS.ofE {K : PySem.W.Frag} {α β : Type} {R : RR α β} {ρ : List Addr} {H : Hp} {σ : St} {W : WX} {D : Ends} {e : Sl} {k : α → Mem → SO} (S : SlR K ρ H e σ) : ∀ {o : Out α}, PoS K ρ H W D (o.toS e k) →
    Po R K ρ H σ W (fun b H1 => ∃ ρ1 M1 a, Ext ρ H ρ1 H1 ∧ Rel K ρ1 M1 H1 ∧ R ρ1 H1 a b ∧ PoS K ρ1 H1 W D (k a M1)) o
  | .ok a M, h => fun ρ1 H1 b E1 r1 q => ⟨ρ1, M, a, E1, r1, q, h.mono E1⟩
  | .ex _ _, h => fun ρ1 H1 c d E1 r1 q => h ρ1 H1 σ c d E1 r1 (S.mono E1) q
  | .bad, h => h
theorem PoG.toS {K : PySem.W.Frag} {ρ : List Addr} {H : Hp} {W : WX} {D : Ends} {k : Sl → Mem → SO} : ∀ {o : GO}, PoS K ρ H W D (o.toS k) →
    PoG K ρ H W (fun σ1 H1 => ∃ ρ1 e1 M1, Ext ρ H ρ1 H1 ∧ Rel K ρ1 M1 H1 ∧ SlR K ρ1 H1 e1 σ1 ∧ PoS K ρ1 H1 W D (k e1 M1)) o
  | .nx e M, h => fun ρ1 H1 σ1 E1 r1 s1 => ⟨ρ1, e, M, E1, r1, s1, h.mono E1⟩
  | .ex _ _ _, h => h
  | .bad, h => h
theorem PoG.imp {K : PySem.W.Frag} {ρ : List Addr} {H : Hp} {W : WX} {Q Q' : St → Hp → Prop} (i : ∀ b H', Q b H' → Q' b H') : ∀ {o : GO}, PoG K ρ H W Q o → PoG K ρ H W Q' o
  | .nx _ _, h => fun ρ2 H2 b E2 r2 q => i _ _ (h ρ2 H2 b E2 r2 q)
  | .ex _ _ _, h => h
  | .bad, h => h
theorem PoG.mono {K : PySem.W.Frag} {ρ ρ' : List Addr} {H H' : Hp} {W : WX} {Q : St → Hp → Prop} (E : Ext ρ H ρ' H') : ∀ {o : GO}, PoG K ρ H W Q o → PoG K ρ' H' W Q o
  | .nx _ _, h => fun ρ2 H2 b E2 r2 q => h ρ2 H2 b (E.trans E2) r2 q
  | .ex _ _ _, h => fun ρ2 H2 s c d E2 r2 q => h ρ2 H2 s c d (E.trans E2) r2 q
  | .bad, h => h
/-- what follows -/
theorem PoS.seq {K : PySem.W.Frag} {ρ : List Addr} {H : Hp} {W : WX} {D : Ends} {k : Sl → Mem → SO} : ∀ {o : SO}, PoS K ρ H W D (o.seq k) → PoS K ρ H W { D with nx := tSt K W k D } o
  | .nx e M, h => fun ρ1 H1 σ1 E1 r1 s1 => ⟨ρ1, e, M, r1, s1, h.mono E1⟩
  | .rt _ _, h => h
  | .bk _ _, h => h
  | .ct _ _, h => h
  | .ex _ _ _, h => h
  | .bad, h => h
section
variable {X : Cx} {W : WX} {a b c : Expr} {fa fb fc : EF} {pos : Pos} {st : Stmt} {rest : List Stmt} {f g : SF}
theorem ss_nil : SSs X W [] sNil := ⟨pss_nil.imp fun D σ H ⟨ρ, e, M, R, S, p⟩ => p ρ H σ (Ext.refl _ _) R S⟩
theorem ss_one (h : SS X W st f) : SSs X W [st] f := ⟨pss_one h.ps⟩
theorem ss_cons (h1 : SS X W st f) (h2 : SSs X W rest g) : SSs X W (st :: rest) (sSeq f g) := ⟨(pss_cons h1.ps h2.pss).imp fun D σ H ⟨ρ, e, M, R, S, p⟩ => ⟨ρ, e, M, R, S, PoS.seq p⟩⟩
theorem ss_pass : SS X W (.Pass pos) sNil := ⟨ps_pass.imp fun D σ H ⟨ρ, e, M, R, S, p⟩ => p ρ H σ (Ext.refl _ _) R S⟩
theorem ss_break : SS X W (.Break pos) sBrk := ⟨ps_break.imp fun D σ H ⟨ρ, e, M, R, S, p⟩ => p ρ H σ (Ext.refl _ _) R S⟩
theorem ss_continue : SS X W (.Continue pos) sCnt := ⟨ps_continue.imp fun D σ H ⟨ρ, e, M, R, S, p⟩ => p ρ H σ (Ext.refl _ _) R S⟩
theorem ss_expr (ha : SE X W a fa) (hs : swapsWith a none pos.line X.env = pure false := by rfl) : SS X W (.Expr a pos) (sExpr fa) :=
  ⟨(ps_expr ha.pe hs).imp fun D σ H ⟨ρ, e, M, R, S, p⟩ => ⟨ρ, e, M, R, S, (PoS.ofE (R := RVr X.K) S p).imp fun v H1 ⟨ρ1, M1, x, E1, R1, r1, p1⟩ => p1 ρ1 H1 σ (Ext.refl _ _) R1 (S.mono E1)⟩⟩
theorem ss_ret (ha : SE X W a fa) : SS X W (.Return (some a) pos) (sRet fa) :=
  ⟨(ps_ret ha.pe).imp fun D σ H ⟨ρ, e, M, R, S, p⟩ => ⟨ρ, e, M, R, S, (PoS.ofE (R := RVr X.K) S p).imp fun v H1 ⟨ρ1, M1, x, E1, R1, r1, p1⟩ => p1 ρ1 H1 v (Ext.refl _ _) R1 r1⟩⟩
theorem ss_retN : SS X W (.Return none pos) sRetN := ⟨ps_retN.imp fun D σ H ⟨ρ, e, M, R, S, p⟩ => p ρ H .non (Ext.refl _ _) R rfl⟩
theorem ss_if {t : TF} {p q : List Stmt} (hc : ST X W c t) (hp : SSs X W p f) (hq : SSs X W q g) : SS X W (.If c p q pos) (sIf t f g) :=
  ⟨(ps_if hc.pt hp.pss hq.pss).imp fun D σ H ⟨ρ, e, M, R, S, p⟩ => ⟨ρ, e, M, R, S, (PoS.ofE (R := Beq X.K) S p).imp fun v H1 ⟨ρ1, M1, x, E1, R1, r1, p1⟩ => by
    cases (show x = v from r1)
    by_cases h : v = true
    · rw [if_pos h] at p1 ⊢; exact ⟨ρ1, e, M1, R1, S.mono E1, p1⟩
    · rw [if_neg h] at p1 ⊢; exact ⟨ρ1, e, M1, R1, S.mono E1, p1⟩⟩⟩
end
/-! targets -/
def gNm (i : Nat) : GF := fun x e M => .nx (e.set i (some x)) M
abbrev GsF := List Val → Sl → Mem → GO
def GO.bind (o : GO) (k : Sl → Mem → GO) : GO := match o with
  | .nx e M => k e M
  | o => o
def gsNil : GsF := fun l e M => match l with
  | [] => .nx e M
  | _ => .bad
def gsCons (g : GF) (gs : GsF) : GsF := fun l e M => match l with
  | [] => .bad
  | x :: r => (g x e M).bind fun e1 M1 => gs r e1 M1
def gTp (n : Nat) (gs : GsF) : GF := fun x e M => match x with
  | .tup l => if l.length = n then gs l e M else .bad
  | _ => .bad
/-- o[i] = x -/
def setV (o i x : Val) (M : Mem) : Option Mem := match o, i with
  | .loc n, .int k => match M[n]? with
    | some (.lst l) => match ixN l.length k with
      | some j => some (M.set n (.lst (l.set j x)))
      | none => none
    | _ => none
  | _, _ => none
def gSb (fo fi : EF) : GF := fun x e M => match (fo e M) with
  | .ok o M1 => match fi e M1 with
    | .ok i M2 => match setV o i x M2 with
      | some M3 => .nx e M3
      | none => .bad
    | .ex y M2 => .ex y e M2
    | .bad => .bad
  | .ex y M1 => .ex y e M1
  | .bad => .bad
def tGs (K : PySem.W.Frag) (W : WX) (g : GsF) : TGs := fun vs σ H Q => ∃ ρ e M l, Rel K ρ M H ∧ SlR K ρ H e σ ∧ RVs K ρ H l vs ∧ PoG K ρ H W Q (g l e M)
structure SGs (X : Cx) (W : WX) (tg : List Expr) (g : GsF) : Prop where
  pgs : PGs X tg (tGs X.K W g)
theorem PGs.imp {X : Cx} {tg : List Expr} {t t' : TGs} (h : PGs X tg t) (i : ∀ v σ H Q, t' v σ H Q → t v σ H Q) : PGs X tg t' := ⟨fun pins s σ H v u Q I r q => h.run pins s σ H v u Q I r (i v σ H Q q)⟩
theorem PoG.bind {K : PySem.W.Frag} {ρ : List Addr} {H : Hp} {W : WX} {Q : St → Hp → Prop} {k : Sl → Mem → GO} : ∀ {o : GO}, PoG K ρ H W Q (o.bind k) →
    PoG K ρ H W (fun σ1 H1 => ∃ ρ1 e1 M1, Ext ρ H ρ1 H1 ∧ Rel K ρ1 M1 H1 ∧ SlR K ρ1 H1 e1 σ1 ∧ PoG K ρ1 H1 W Q (k e1 M1)) o
  | .nx e M, h => fun ρ1 H1 σ1 E1 r1 s1 => ⟨ρ1, e, M, E1, r1, s1, h.mono E1⟩
  | .ex _ _ _, h => h
  | .bad, h => h
theorem setV_ok {K : PySem.W.Frag} {ρ : List Addr} {M M' : Mem} {H : Hp} {o i x : Val} {vo vi vx : V} (R : Rel K ρ M H) (ro : RV K ρ H o vo) (ri : RV K ρ H i vi) (rx : RV K ρ H x vx) (h : setV o i x M = some M') {Q : Hp → Prop}
    (q : ∀ H', Ext ρ H ρ H' → Rel K ρ M' H' → Q H') : rSetL vo vi vx H Q := by
  unfold setV at h
  split at h
  · rename_i n k
    split at h
    · rename_i l hn
      split at h
      · rename_i j hj
        cases h
        obtain ⟨a, vs, h1, h2, h3, h4⟩ := R.lst hn ro
        have hm : Mut (H a) := by rw [h3]; trivial
        have E := Ext.write (o := .lst (vs.set j vx)) ρ hm
        obtain ⟨R', E'⟩ := R.write (c := .lst (l.set j x)) h2 ⟨vs.set j vx, upd_same, RVs.mono E _ _ (h4.set rx j)⟩
        exact ⟨a, vs, k, j, h1, ri, h3, by rw [h4.length]; exact hj, q _ E' R'⟩
      · cases h
    · cases h
  · cases h
section
variable {X : Cx} {W : WX} {o i : Expr} {fo fi : EF} {pos : Pos}
theorem sg_name {i : Nat} {x : Str} (hN : X.N.Nodup) (hi : X.N[i]? = some x := by rfl) (hx : Loc X.env.scope x := by first | exact Or.inl rfl | exact Or.inr rfl) (hf : X.fn x = true ∨ X.env.scope.names.lookup x = some .local := by first | exact .inl rfl | exact .inr rfl | assumption) :
    SG X W (.Name x pos) (gNm i) := ⟨PG.imp (pg_name (i := i) hN hi hx hf) fun v σ H Q ⟨ρ, e, M, y, R, S, r, p⟩ => p ρ H _ (Ext.refl _ _) R (S.set i r)⟩
theorem sgs_nil : SGs X W [] gsNil := ⟨PGs.imp pgs_nil fun vs σ H Q ⟨ρ, e, M, l, R, S, r, p⟩ => by
  cases l with
  | nil => exact ⟨r, p ρ H _ (Ext.refl _ _) R S⟩
  | cons _ _ => exact p.elim⟩
theorem sgs_cons {t : Expr} {ts : List Expr} {g : GF} {gs : GsF} (h1 : SG X W t g) (h2 : SGs X W ts gs) (hs : (assignEach (t :: ts) X.env).map (·.2) = assign t X.env :: (assignEach ts X.env).map (·.2) := by rfl) : SGs X W (t :: ts) (gsCons g gs) :=
  ⟨PGs.imp (pgs_cons h1.pg h2.pgs hs) fun vs σ H Q ⟨ρ, e, M, l, R, S, r, p⟩ => by
    cases l with
    | nil => exact p.elim
    | cons x l =>
      obtain ⟨v, us, e1, r1, r2⟩ := r
      exact ⟨v, us, e1, ρ, e, M, x, R, S, r1, (PoG.bind p).imp fun σ1 H1 ⟨ρ1, e1, M1, E1, R1, S1, p1⟩ => ⟨ρ1, e1, M1, l, R1, S1, RVs.mono E1 _ _ r2, p1⟩⟩⟩
theorem sg_tup {ts : List Expr} {k : Nat} {gs : GsF} {n : Nat} (hc : X.calm = true) (h : SGs X W ts gs) (hn : (assignEach ts X.env).length = n := by rfl) (hst : (assignEach ts X.env).findIdx? (·.1) = none := by rfl) : SG X W (.Tuple ts k pos) (gTp n gs) :=
  ⟨PG.imp (pg_tup hc h.pgs hn hst) fun v σ H Q ⟨ρ, e, M, x, R, S, r, p⟩ => by
    cases x with
    | tup l =>
      unfold gTp at p
      simp only at p
      obtain ⟨a, vs, h1, h2, h3⟩ := r
      by_cases hl : l.length = n
      · rw [if_pos hl] at p
        exact ⟨a, vs, h1, h2, by rw [h3.length]; exact hl, ρ, e, M, l, R, S, h3, p⟩
      · rw [if_neg hl] at p; exact p.elim
    | _ => exact p.elim⟩
theorem sg_sub (ho : SE X W o fo) (hi : SE X W i fi)
    (ha : ∀ v, assign (.Subscript o i pos) X.env v = (do
      let ov ← holding [v] (eval o X.env)
      let iv ← holding [v, ov] (eval i X.env)
      standAt pos
      holding [v, ov, iv] (setItem ov iv v)
      release [v, ov, iv] []) := by intro _; rfl) : SG X W (.Subscript o i pos) (gSb fo fi) :=
  ⟨PG.imp (pg_sub ho.pe hi.pe set_list ha) fun v σ H Q ⟨ρ, e, M, x, R, S, r, p⟩ => ⟨ρ, e, M, R, S, by
    unfold gSb at p
    cases h1 : fo e M with
    | bad => rw [h1] at p; exact p.elim
    | ex y M1 => rw [h1] at p; exact fun ρ1 H1 c d E1 R1 q => p ρ1 H1 σ c d E1 R1 (S.mono E1) q
    | ok ov M1 =>
      rw [h1] at p
      intro ρ1 H1 b E1 R1 r1
      refine ⟨ρ1, e, M1, R1, S.mono E1, ?_⟩
      simp only at p
      cases h2 : fi e M1 with
      | bad => rw [h2] at p; exact p.elim
      | ex y M2 => rw [h2] at p; exact fun ρ2 H2 c d E2 R2 q => p ρ2 H2 σ c d (E1.trans E2) R2 (S.mono (E1.trans E2)) q
      | ok iv M2 =>
        rw [h2] at p
        intro ρ2 H2 b2 E2 R2 r2
        simp only at p
        cases h3 : setV ov iv x M2 with
        | none => rw [h3] at p; exact p.elim
        | some M3 =>
          rw [h3] at p
          exact setV_ok R2 (RV.mono E2 _ _ r1) r2 (RV.mono (E1.trans E2) _ _ r) h3 fun H' E3 R3 => p ρ2 H' σ ((E1.trans E2).trans E3) R3 (S.mono ((E1.trans E2).trans E3))⟩⟩
theorem ss_asg {tg a : Expr} {fa : EF} {g : GF} (ha : SE X W a fa) (hg : SG X W tg g) (hs : swapsWithSole [tg] a pos.line X.env = pure false := by rfl) (hw : swappedStores [tg] a X.env = pure none := by rfl) (h1 : (assignEach [tg] X.env).map (·.2) = [assign tg X.env] := by rfl) : SS X W (.Assign [tg] a pos) (sAsg fa g) :=
  ⟨(ps_asg ha.pe hg.pg hs hw h1).imp fun D σ H ⟨ρ, e, M, R, S, p⟩ => ⟨ρ, e, M, R, S, (PoS.ofE (R := RVr X.K) S p).imp fun v H1 ⟨ρ1, M1, x, E1, R1, r1, p1⟩ => ⟨ρ1, e, M1, x, R1, S.mono E1, r1, (PoG.toS p1).imp fun σ2 H2 ⟨ρ2, e2, M2, E2, R2, S2, p2⟩ => p2 ρ2 H2 σ2 (Ext.refl _ _) R2 S2⟩⟩⟩
end
end Sm

namespace L2
open PySem PySem.Spec PyProof.Rows
/-! enumerate of a tuple -/
def IteT (K : PySem.W.Frag) (a : Addr) : It :=
  ⟨fun i H => ∃ (xs : List V) (x : V), SqT K H a xs ∧ xs[i]? = some x, fun i H v H' => ∃ T x, v = .ref T ∧ H T = none ∧ H' = upd H T (.tup [.int (i : Nat), x]) ∧ ∀ xs, SqT K H a xs → xs[i]? = some x, fun i H => ∃ xs : List V, SqT K H a xs ∧ xs.length ≤ i⟩
theorem turn_enumT {P : Program} {w : World} {K : PySem.W.Frag} {elts : List Expr} {kk : Nat} {tpos : Pos} (a e it : Addr) :
    Turn P w K (.Tuple elts kk tpos) (IteT K a) [e, it] e (fun i h => (∃ old, IsEnum h e it ((i : Nat) : Int) old) ∧ h.IsTupleIter it a i ∧ e ≠ it ∧ a ≠ e ∧ a ≠ it) where
  mem := by simp
  obj := fun i h st b hb => by
    obtain ⟨⟨old, he⟩, ⟨o, ho, hc, hd⟩, _⟩ := st
    have e' : b = e ∨ b = it := by simpa using hb
    rcases e' with z | z
    · rw [z]; exact ⟨_, he, fun v q => nomatch q⟩
    · rw [z]; exact ⟨o, ho, fun v q => by rw [hd] at q; cases q⟩
  keep := fun i h h' st k => let ⟨⟨old, he⟩, hi, hne, hr⟩ := st; ⟨⟨old, k e (by simp) _ he⟩, hi.at fun o q => k it (by simp) o q, hne, hr⟩
  item := by
    intro X hP hw hK hc i pins s σ H E I hf st hg
    subst hP hw hK
    obtain ⟨⟨old, he⟩, hit, hne, hae, hai⟩ := st
    obtain ⟨xs, x, hq, hx⟩ := hg
    obtain ⟨its, rv, p, hz⟩ := I.tuple hq
    obtain ⟨u, hu, ru⟩ := rv.get hx
    have hel : e < s.heap.objs.size := Heap.lt_size he
    have hil : it < s.heap.objs.size := by obtain ⟨_, q, _⟩ := hit; exact Heap.lt_size q
    have pt : s.heap.IsTuple a its.toArray := p
    have hlt : i < its.toArray.size := by
      have := (List.getElem?_eq_some_iff.mp hu).1
      simpa using this
    refine wpAny_pyNext_enum_itemC (Draws.tuple (prog := X.prog) (w := X.w) (A := X.A.in1) (I.ok.hd hc) it a hai its.toArray) he ⟨hit, pt⟩ hlt hne (by simp [hne, Ne.symm hae]) fun x' h' tk hP ho hst hT hsz hk => ?_
    have ex : x' = u := by
      have hP' : its.toArray[i]? = some x' := hP
      have hu' : its.toArray[i]? = some u := by simpa using hu
      rw [hu'] at hP'
      exact (Option.some.inj hP').symm
    subst ex
    refine ⟨_, rfl, wpAny_letOwnedTupleGo_enum (s := { s with heap := h', toks := tk + 1 }) ho fun h'' he' sb => ?_⟩
    have hT2 : h''.get? s.heap.objs.size = some { cls := .type "tuple", data := .seq #[.int i tk, x'] } := (sb.2 _ (Nat.ne_of_gt hel)).trans hT
    have new : ObjOk X.prog X.w (upd H s.heap.objs.size (.tup [.int (i : Nat), x])) h'' s.heap.objs.size (.tup [.int (i : Nat), x]) :=
      ⟨by show 2 ≤ sizeLine; decide, [.int i tk, x'], .cons ⟨_, rfl⟩ (.cons ru .nil), ⟨_, hT2, rfl, _, rfl⟩⟩
    have I1 : Inv X pins σ (upd H s.heap.objs.size (.tup [.int (i : Nat), x])) { s with heap := h'', toks := tk + 1 } :=
      I.turnedNew (ch := [e, it]) (fun b ob hb q => (sb.2 b (fun z => hb (by simp [z]))).trans (hk b ob (fun z => hb (by simp [z])) (fun z => hb (by simp [z])) q)) hf (Nat.le_refl _) new
    refine ⟨.ref s.heap.objs.size, _, I1, rfl, ⟨_, x, rfl, I.hok.fresh (Nat.le_refl _), rfl, fun ys hy => by rw [I.tuple_inj hy hq]; exact hx⟩, ⟨⟨x', ?_⟩, hst.1.at fun o q => (sb.2 it (Ne.symm hne)).trans q, hne, hae, hai⟩, fun b hb => ?_⟩
    · have e1 : ((i + 1 : Nat) : Int) = (i : Int) + 1 := by omega
      rw [e1]; exact he'
    · have hb' : b < s.heap.objs.size := by
        have e' : b = e ∨ b = it := by simpa using hb
        rcases e' with z | z
        · rw [z]; exact hel
        · rw [z]; exact hil
      rw [upd_ne (Nat.ne_of_lt hb')]
      exact (hf b hb).1
  done := by
    intro X hP hw hK hc i pins s σ H E I hf st hg
    subst hP hw hK
    obtain ⟨⟨old, he⟩, hit, hne, hae, hai⟩ := st
    obtain ⟨xs, hq, hx⟩ := hg
    obtain ⟨its, rv, p, hz⟩ := I.tuple hq
    obtain ⟨f0, f1, f2, f3, f4, f5⟩ := hf it (by simp)
    have hl := rv.length
    have hT : s.TypeIs (.ref e) "enumerate" := ⟨_, he, rfl⟩
    have pt : s.heap.IsTuple a its.toArray := p
    unfold pyNext
    refine wpAny_bind (wpAny_attempt (wpAny_callSpecial?_slot (name := Str.ofString "__next__") hT F.slot_enumerate_next
      (wpAny_call_entry F.slot_enumerate_next hT F.entry_enumerate_next ?_ (F.args_enumerate_next_1 _))))
    show wpAny _ _ (field (.ref e) 2 >>= _) _ _ _
    refine wpAny_bind (wpAny_field he rfl (x := .ref it) rfl ?_)
    refine wpAny_bind (wpAny_nextOf_tuple_end (I.ok.hd hc) hit pt (by simp; omega) fun h' x he' hx' => ?_)
    obtain ⟨o, ho, hc⟩ := hx'
    refine wpAny_bind (wpAny_isInstance (T := "StopIteration") (b := true) ⟨o, ho, hc⟩ isSubtype_stop ?_)
    exact wpAny_pure ⟨rfl, I.turned (t' := s.toks) (fun b o hb q => he' b o hb q) f0 f1 f3 f4 f5⟩
  self := fun A i s Q E st h => let ⟨⟨_, he⟩, _⟩ := st; wpAny_pyIter_enum he h
set_option maxHeartbeats 1000000 in
theorem meets_enum_newB {v : Value} {o : Obj} {H : Heap → Prop} (B : Begins v o H) :
    Meets (Builtin.«enumerate.__new__» ⟨[.type "enumerate", v], []⟩) (fun _ R s => H s.heap ∧
      R (.ok (.ret (.ref (s.heap.push o).objs.size))) { s with heap := (s.heap.push o).push { cls := .type "enumerate", data := .fields #[.none, .bool false, .ref s.heap.objs.size, rawInt 0, .none, .none] } }) :=
  .of_wp fun prog w A R s h => by
    obtain ⟨hp, g, d, tk, os⟩ := s; obtain ⟨h1, h⟩ := h
    have hsub := sub_enumerate
    have q1 : ∀ {A' : Around} {E : Value → Shared → Prop} {Q : Value → Shared → Prop}, Q (.ref hp.objs.size) ⟨hp.push o, g, d, tk, os⟩ → wpAny (model prog w) A' (pyIter v) Q E ⟨hp, g, d, tk, os⟩ :=
      fun q => B.iter prog w _ _ ⟨hp, g, d, tk, os⟩ _ h1 q
    wp_walk using q1
    refine wpAny_stack_any fun st => wpAny_pure ?_
    split
    · rename_i c _ _ _ _ _
      cases (c == Value.type "enumerate")
      · wp_walk using q1
        exact ⟨_, rfl, h⟩
      · wp_walk using q1
        exact ⟨_, rfl, h⟩
    · wp_walk using q1
      exact ⟨_, rfl, h⟩
theorem enum_begins1 {prog : Program} {w : World} {A : Around} {E : Value → Shared → Prop} {s : Shared} {v : Value} {o : Obj} {H : Heap → Prop} {Q : Value → Shared → Prop} (B : Begins v o H) (h1 : H s.heap)
    (h : ∀ h', IsEnum h' (s.heap.objs.size + 1) s.heap.objs.size 0 .none → h'.get? s.heap.objs.size = some o → h'.objs.size = s.heap.objs.size + 2 →
      (∀ b o, s.heap.get? b = some o → h'.get? b = some o) → Q (.ref (s.heap.objs.size + 1)) { s with heap := h' }) :
    wpAny (model prog w) A (call (.type "enumerate") [v]) Q E s := by
  refine callType_new F.called_enumerate (by decide) (F.typeCall_enumerate_1 _) (F.newCall_enumerate_1 _) (fun obj => F.args_object_init_2 obj _) F.entry_enumerate_new
    (meets_enum_newB B) ⟨h1, ?_⟩
  have hz : (s.heap.push o).objs.size = s.heap.objs.size + 1 := Heap.size_push ..
  show _ ∧ _
  rw [hz]
  have he : IsEnum ((s.heap.push o).push { cls := .type "enumerate", data := .fields #[.none, .bool false, .ref s.heap.objs.size, rawInt 0, .none, .none] }) (s.heap.objs.size + 1) s.heap.objs.size 0 .none := by
    have := Heap.get?_push_size (s.heap.push o) (o := { cls := .type "enumerate", data := .fields #[.none, .bool false, .ref s.heap.objs.size, rawInt 0, .none, .none] }) rfl
    rw [hz] at this; exact this
  refine ⟨⟨_, he, rfl⟩, h _ he (Heap.get?_push_of_some _ (Heap.get?_push_size _ B.free)) (by rw [Heap.size_push, hz]) fun b o x => Heap.get?_push_of_some _ (Heap.get?_push_of_some _ x)⟩
def iEnumA (K : PySem.W.Frag) (ta : TA) : TI := fun σ H R => ta σ H fun vs H1 => ∃ a xs, vs = [.ref a] ∧ ((SqL K H1 a xs ∧ R (Ite K a) H1) ∨ (SqT K H1 a xs ∧ R (IteT K a) H1))
theorem pi_enumA {X : Cx} {e : Expr} {ta : TA} {p pos tpos : Pos} {elts : List Expr} {kk : Nat} (hg : Gl X "enumerate") (hm : X.mg "enumerate" = none) (ha : PA X [e] ta) (hs : starEach [e] X.env = [(false, eval e X.env)] := by rfl) :
    PI X (.Tuple elts kk tpos) (.Call (.Name "enumerate" p) [e] [] pos) (iEnumA X.K ta) := by
  refine ⟨fun pins s σ H R I h => ?_⟩
  refine Call_ (ld_blt I hg hm boot_enumerate (PyProof.Rows.callWith_type1 (thn (ha.run pos pins s σ H _ I h) fun us s1 ⟨vs, H1, I1, r1, q1⟩ => ?_) hs rfl))
  obtain ⟨a, xs, ex, q1⟩ := q1
  subst ex
  cases r1 with
  | cons r rr =>
    cases rr
    cases r
    have fresh : ∀ b, b ∈ [s1.heap.objs.size + 1, s1.heap.objs.size] → FpOk X pins H1 b := fun b hb => by
      have e' : b = s1.heap.objs.size + 1 ∨ b = s1.heap.objs.size := by simpa using hb
      have hle : s1.heap.objs.size ≤ b := by
        rcases e' with z | z
        · rw [z]; exact Nat.le_add_right _ _
        · rw [z]; exact Nat.le_refl _
      exact I1.fpOk hle (I1.hok.fresh hle)
    rcases q1 with ⟨hq, q⟩ | ⟨hq, q⟩
    · obtain ⟨its, rv, p', hz⟩ := I1.list hq
      refine call_enumerate_list p'.isList fun h' he hit hsz hk => wpAny_pyIter_enum he ?_
      have I2 : Inv X pins σ H1 { s1 with heap := h' } := I1.kept (t' := s1.toks) hk
      exact ⟨s1.heap.objs.size + 1, [s1.heap.objs.size + 1, s1.heap.objs.size], _, _, H1, rfl, I2, turn_enum a (s1.heap.objs.size + 1) s1.heap.objs.size, ⟨⟨.none, he⟩, hit, Nat.succ_ne_self _⟩, fresh, q⟩
    · obtain ⟨its, rv, p', hz⟩ := I1.tuple hq
      have pt : s1.heap.IsTuple a its.toArray := p'
      have hal : a < s1.heap.objs.size := by obtain ⟨o, ho, _⟩ := id pt; exact Heap.lt_size ho
      refine enum_begins1 (begins_tuple a its.toArray) pt fun h' he hit hsz hk => wpAny_pyIter_enum he ?_
      have I2 : Inv X pins σ H1 { s1 with heap := h' } := I1.kept (t' := s1.toks) hk
      exact ⟨s1.heap.objs.size + 1, [s1.heap.objs.size + 1, s1.heap.objs.size], _, _, H1, rfl, I2, turn_enumT a (s1.heap.objs.size + 1) s1.heap.objs.size, ⟨⟨.none, he⟩, ⟨_, hit, rfl, rfl⟩, Nat.succ_ne_self _, Nat.ne_of_lt (Nat.lt_succ_of_lt hal), Nat.ne_of_lt hal⟩, fresh, q⟩
/-- a list, a tuple, a text -/
def iSeq (K : PySem.W.Frag) (tl : TE) : TI := fun σ H R => tl σ H fun x H1 => (∃ a, x = .ref a ∧ (∃ xs, SqL K H1 a xs) ∧ R (Itl K a) H1) ∨ (∃ a, x = .ref a ∧ (∃ xs, SqT K H1 a xs) ∧ R (Itt K a) H1) ∨ (∃ z, x = .str z ∧ R (Its z) H1)
theorem pe_atV {X : Cx} {pins : List (Addr × Obj)} {σ : St} {H : Hp} {s : Shared} {v : V} {u : Value} {R : It → Hp → Prop} {tg : Expr} (I : Inv X pins σ H s) (r : RelV v u) :
    ((∃ a, v = .ref a ∧ (∃ xs, SqL X.K H a xs) ∧ R (Itl X.K a) H) → wpAny (model X.prog X.w) X.A (pyIter u) (PIE X pins σ tg R) X.xe s) ∧ ((∃ a, v = .ref a ∧ (∃ xs, SqT X.K H a xs) ∧ R (Itt X.K a) H) → wpAny (model X.prog X.w) X.A (pyIter u) (PIE X pins σ tg R) X.xe s) ∧
      ((∃ z, v = .str z ∧ R (Its z) H) → wpAny (model X.prog X.w) X.A (pyIter u) (PIE X pins σ tg R) X.xe s) := by
  refine ⟨fun ⟨a, e, ⟨xs, hq⟩, q⟩ => ?_, fun ⟨a, e, ⟨xs, hq⟩, q⟩ => ?_, fun ⟨z, e, q⟩ => ?_⟩
  · subst e
    cases r
    obtain ⟨its, rv, p, hz⟩ := I.list hq
    refine wpAny_pyIter_list p.isList ?_
    refine ⟨s.heap.objs.size, [s.heap.objs.size], _, _, H, rfl, I.kept (t' := s.toks) fun b o e => Heap.get?_push_of_some _ e, turn_list a _, ⟨_, Heap.get?_push_size _ rfl, rfl, rfl⟩, fun b hb => ?_, q⟩
    have e : b = s.heap.objs.size := by simpa using hb
    subst e
    exact I.fpOk (Nat.le_refl _) (I.hok.fresh (Nat.le_refl _))
  · subst e
    cases r
    obtain ⟨its, rv, p, hz⟩ := I.tuple hq
    refine wpAny_pyIter_tuple (show s.heap.IsTuple a its.toArray from p) ?_
    refine ⟨s.heap.objs.size, [s.heap.objs.size], _, _, H, rfl, I.kept (t' := s.toks) fun b o e => Heap.get?_push_of_some _ e, turn_tuple a _, ⟨_, Heap.get?_push_size _ rfl, rfl, rfl⟩, fun b hb => ?_, q⟩
    have e : b = s.heap.objs.size := by simpa using hb
    subst e
    exact I.fpOk (Nat.le_refl _) (I.hok.fresh (Nat.le_refl _))
  · subst e
    obtain ⟨t, rfl⟩ := r
    cases ha : z.cps.all (· < 128)
    · exact wpAny_pyIter_wide ha (pi_one (tk := s.toks) I _ (turn_str _ z t "str_iterator" (.inr rfl)) ⟨_, Heap.get?_push_size _ rfl, rfl, rfl⟩ q)
    · exact wpAny_pyIter_ascii ha (pi_one (tk := s.toks) I _ (turn_str _ z t "str_ascii_iterator" (.inl rfl)) ⟨_, Heap.get?_push_size _ rfl, rfl, rfl⟩ q)
theorem pi_seq {X : Cx} {tg l : Expr} {tl : TE} (hl : PE X l tl) : PI X tg l (iSeq X.K tl) := by
  refine ⟨fun pins s σ H R I h => ?_⟩
  refine thn (hl.run pins s σ H _ I h) fun v s1 ⟨x, H1, I1, r1, q1⟩ => ?_
  obtain ⟨k1, k2, k3⟩ := pe_atV (R := R) (tg := tg) I1 r1
  rcases q1 with q | q | q
  · exact k1 q
  · exact k2 q
  · exact k3 q
end L2
namespace Sm
open PySem L2
/-! what is walked: item i (none: nothing is known; some none: the end), a bound of the turns -/
structure Itr where
  nxt : Nat → Mem → Option (Option Val)
  fuel : Nat
abbrev IF := Sl → Mem → Out Itr
def SimIt (K : PySem.W.Frag) (ρ0 : List Addr) (H0 : Hp) (it : Itr) (J : It) : Prop :=
  ∀ (i : Nat) (ρ : List Addr) (M : Mem) (H : Hp), Ext ρ0 H0 ρ H → Rel K ρ M H → (it.nxt i M = some none → J.stop i H) ∧
    ∀ x, it.nxt i M = some (some x) → J.go i H ∧ ∀ v H', J.yld i H v H' → Ext ρ H ρ H' ∧ Rel K ρ M H' ∧ RV K ρ H' x v
abbrev Ritr (K : PySem.W.Frag) : RR Itr It := fun ρ H it J => SimIt K ρ H it J
def tIt (K : PySem.W.Frag) (W : WX) (f : IF) : TI := fun σ H R => ∃ ρ e M, Rel K ρ M H ∧ SlR K ρ H e σ ∧ Po (Ritr K) K ρ H σ W R (f e M)
structure SI (X : Cx) (W : WX) (tg iter : Expr) (f : IF) : Prop where
  pi : PI X tg iter (tIt X.K W f)
theorem PI.imp {X : Cx} {tg e : Expr} {t t' : TI} (h : PI X tg e t) (i : ∀ σ H Q, t' σ H Q → t σ H Q) : PI X tg e t' := ⟨fun pins s σ H Q I q => h.run pins s σ H Q I (i σ H Q q)⟩
def iOf (f : EF) (k : Val → Mem → Option Itr) : IF := fun e M => (f e M).bind fun x M1 => match k x M1 with
  | some it => .ok it M1
  | none => .bad
def itTup (l : List Val) : Itr := ⟨fun i _ => some l[i]?, l.length + 1⟩
def itLst (n : Nat) (b : Nat) : Itr := ⟨fun i M => match M[n]? with
  | some (.lst l) => some l[i]?
  | _ => none, b + 1⟩
def itFrz (l : List Int) : Itr := ⟨fun i _ => some (l[i]?.map Val.int), l.length + 1⟩
def itStr (z : Str) : Itr := ⟨fun i _ => some (z.cps[i]?.map fun c => Val.str ⟨#[c]⟩), z.cps.size + 1⟩
def itRng (lo : Int) (n : Nat) : Itr := ⟨fun i _ => some (if i < n then some (.int (lo + i)) else none), n + 1⟩
def lenM (n : Nat) (M : Mem) : Option Nat := match M[n]? with
  | some (.lst l) => some l.length
  | _ => none
def itSeq (x : Val) (M : Mem) : Option Itr := match x with
  | .tup l => some (itTup l)
  | .frz l => some (itFrz l)
  | .str z => some (itStr z)
  | .loc n => (lenM n M).map fun b => itLst n b
  | _ => none
/-- items with their numbers -/
def itNum (it : Itr) : Itr := ⟨fun i M => (it.nxt i M).map fun o => o.map fun x => .tup [.int (i : Nat), x], it.fuel⟩
def itEnum (x : Val) (M : Mem) : Option Itr := match x with
  | .tup l => some (itNum (itTup l))
  | .loc n => (lenM n M).map fun b => itNum (itLst n b)
  | _ => none
def itZ (a b : Itr) : Itr := ⟨fun i M => match a.nxt i M, b.nxt i M with
  | some (some x), some (some y) => some (some (.tup [x, y]))
  | some none, some _ => some none
  | some _, some none => some none
  | _, _ => none, a.fuel⟩
def itZip (x y : Val) (M : Mem) : Option Itr := match x, y with
  | .tup l, .tup m => some (itZ (itTup l) (itTup m))
  | .loc n, .loc k => match lenM n M, lenM k M with
    | some b, some _ => some (itZ (itLst n b) (itLst k b))
    | _, _ => none
  | _, _ => none
def iSq (f : EF) : IF := iOf f itSeq
def iEn (f : EF) : IF := iOf f itEnum
def iZp (f g : EF) : IF := fun e M => (f e M).bind fun x M1 => (g e M1).bind fun y M2 => match itZip x y M2 with
  | some it => .ok it M2
  | none => .bad
def iR1 (f : EF) : IF := fun e M => (f e M).bind fun x M1 => match x with
  | .int j => if -(2 ^ 62) ≤ j ∧ j < 2 ^ 62 then .ok (itRng 0 j.toNat) M1 else .bad
  | _ => .bad
def iR2 (f g : EF) : IF := fun e M => (f e M).bind fun x M1 => (g e M1).bind fun y M2 => match x, y with
  | .int i, .int j => if -(2 ^ 62) ≤ i ∧ i < 2 ^ 62 ∧ -(2 ^ 62) ≤ j ∧ j < 2 ^ 62 then .ok (itRng i (j - i).toNat) M2 else .bad
  | _, _ => .bad
section
variable {K : PySem.W.Frag} {ρ : List Addr} {H : Hp} {M : Mem}
theorem sim_lst {n b : Nat} {a : Addr} (h : ρ[n]? = some a) : SimIt K ρ H (itLst n b) (Itl K a) := fun i ρ1 M1 H1 E R => by
  have key : ∀ o, (itLst n b).nxt i M1 = some o → ∃ l vs, M1[n]? = some (.lst l) ∧ o = l[i]? ∧ H1 a = some (.lst vs) ∧ RVs K ρ1 H1 l vs := fun o ho => by
    unfold itLst at ho
    simp only at ho
    split at ho
    · rename_i l hm
      obtain ⟨vs, h3, h4⟩ := R.at_ _ _ _ hm (E.get h)
      cases ho
      exact ⟨l, vs, hm, rfl, h3, h4⟩
    · cases ho
  refine ⟨fun ho => ?_, fun x ho => ?_⟩
  · obtain ⟨l, vs, hm, e, h3, h4⟩ := key _ ho
    exact ⟨vs, SqL.of h3, by rw [h4.length]; exact List.getElem?_eq_none_iff.mp e.symm⟩
  · obtain ⟨l, vs, hm, e, h3, h4⟩ := key _ ho
    obtain ⟨v, hv, rv⟩ := h4.get e.symm
    refine ⟨⟨vs, v, SqL.of h3, hv⟩, fun u H' ⟨e1, e2⟩ => ?_⟩
    subst e1
    have := e2 vs (SqL.of h3)
    rw [hv] at this; cases this
    exact ⟨Ext.refl _ _, R, rv⟩
theorem sim_tup {l : List Val} {a : Addr} {vs : List V} (h : SqT K H a vs) (r : RVs K ρ H l vs) : SimIt K ρ H (itTup l) (Itt K a) := fun i ρ1 M1 H1 E R => by
  have h1 := E.sqT h
  have r1 := RVs.mono E _ _ r
  refine ⟨fun ho => ?_, fun x ho => ?_⟩
  · have e : l[i]? = none := Option.some.inj ho
    exact ⟨vs, h1, by rw [r1.length]; exact List.getElem?_eq_none_iff.mp e⟩
  · have e : l[i]? = some x := Option.some.inj ho
    obtain ⟨v, hv, rv⟩ := r1.get e
    refine ⟨⟨vs, v, h1, hv⟩, fun u H' ⟨e1, e2⟩ => ?_⟩
    subst e1
    have := e2 vs h1
    rw [hv] at this; cases this
    exact ⟨Ext.refl _ _, R, rv⟩
theorem sim_frz {l : List Int} {a : Addr} (h : FzL K H a (l.map V.int)) : SimIt K ρ H (itFrz l) (Itl K a) := fun i ρ1 M1 H1 E R => by
  have h1 := (E.fzL h).sq
  refine ⟨fun ho => ?_, fun x ho => ?_⟩
  · have e : l[i]?.map Val.int = none := Option.some.inj ho
    exact ⟨_, h1, by simpa using e⟩
  · have e : l[i]?.map Val.int = some x := Option.some.inj ho
    cases hi : l[i]? with
    | none => rw [hi] at e; cases e
    | some n =>
      rw [hi] at e
      cases e
      have hv : (l.map V.int)[i]? = some (V.int n) := by simp [hi]
      refine ⟨⟨_, _, h1, hv⟩, fun u H' ⟨e1, e2⟩ => ?_⟩
      subst e1
      have := e2 _ h1
      rw [hv] at this; cases this
      exact ⟨Ext.refl _ _, R, rfl⟩
theorem sim_str {z : Str} : SimIt K ρ H (itStr z) (Its z) := fun i ρ1 M1 H1 E R => by
  refine ⟨fun ho => ?_, fun x ho => ?_⟩
  · have e : z.cps[i]?.map (fun c => Val.str ⟨#[c]⟩) = none := Option.some.inj ho
    show z.cps.size ≤ i
    simpa using e
  · have e : z.cps[i]?.map (fun c => Val.str ⟨#[c]⟩) = some x := Option.some.inj ho
    cases hi : z.cps[i]? with
    | none => rw [hi] at e; cases e
    | some c =>
      rw [hi] at e
      cases e
      refine ⟨(Array.getElem?_eq_some_iff.mp hi).1, fun u H' ⟨e1, c', e2, e3⟩ => ?_⟩
      subst e1 e3
      rw [hi] at e2; cases e2
      exact ⟨Ext.refl _ _, R, rfl⟩
theorem sim_rng {lo : Int} {n : Nat} : SimIt K ρ H (itRng lo n) (L2.Itr lo n) := fun i ρ1 M1 H1 E R => by
  refine ⟨fun ho => ?_, fun x ho => ?_⟩
  · have e : (if i < n then some (Val.int (lo + i)) else none) = none := Option.some.inj ho
    show n ≤ i
    split at e
    · cases e
    · omega
  · have e : (if i < n then some (Val.int (lo + i)) else none) = some x := Option.some.inj ho
    split at e
    · rename_i hlt
      cases e
      refine ⟨hlt, fun u H' ⟨e1, e2⟩ => ?_⟩
      subst e1 e2
      exact ⟨Ext.refl _ _, R, rfl⟩
    · cases e
/-- items in new pairs -/
theorem pair_new {ρ1 : List Addr} {M1 : Mem} {H1 : Hp} {T : Addr} {x y : Val} {v u : V} (R : Rel K ρ1 M1 H1) (hT : H1 T = none) (rx : RV K ρ1 H1 x v) (ry : RV K ρ1 H1 y u) :
    Ext ρ1 H1 ρ1 (upd H1 T (.tup [v, u])) ∧ Rel K ρ1 M1 (upd H1 T (.tup [v, u])) ∧ RV K ρ1 (upd H1 T (.tup [v, u])) (.tup [x, y]) (.ref T) := by
  have E := Ext.fresh (o := .tup [v, u]) ρ1 hT
  exact ⟨E, R.fresh hT, T, [v, u], rfl, SqT.of upd_same, v, [u], rfl, RV.mono E _ _ rx, u, [], rfl, RV.mono E _ _ ry, rfl⟩
theorem sim_numL {n b : Nat} {a : Addr} (h : ρ[n]? = some a) : SimIt K ρ H (itNum (itLst n b)) (Ite K a) := fun i ρ1 M1 H1 E R => by
  have s := sim_lst (K := K) (H := H) (b := b) h i ρ1 M1 H1 E R
  refine ⟨fun ho => ?_, fun x ho => ?_⟩
  · have e : (itLst n b).nxt i M1 = some none := by
      unfold itNum at ho
      simp only at ho
      cases hn : (itLst n b).nxt i M1 with
      | none => rw [hn] at ho; cases ho
      | some o => cases o with
        | none => rfl
        | some _ => rw [hn] at ho; cases ho
    exact s.1 e
  · unfold itNum at ho
    simp only at ho
    cases hn : (itLst n b).nxt i M1 with
    | none => rw [hn] at ho; cases ho
    | some o => cases o with
      | none => rw [hn] at ho; cases ho
      | some y =>
        rw [hn] at ho
        cases ho
        obtain ⟨⟨xs, w, g1, g2⟩, g3⟩ := s.2 y hn
        refine ⟨⟨xs, w, g1, g2⟩, fun u H' ⟨T, w', e1, hT, e2, e3⟩ => ?_⟩
        subst e1 e2
        obtain ⟨_, _, rw'⟩ := g3 w' H1 ⟨rfl, e3⟩
        exact pair_new R hT rfl rw'
theorem sim_numT {l : List Val} {a : Addr} {vs : List V} (h : SqT K H a vs) (r : RVs K ρ H l vs) : SimIt K ρ H (itNum (itTup l)) (IteT K a) := fun i ρ1 M1 H1 E R => by
  have s := sim_tup h r i ρ1 M1 H1 E R
  refine ⟨fun ho => ?_, fun x ho => ?_⟩
  · have e : (itTup l).nxt i M1 = some none := by
      unfold itNum at ho
      simp only at ho
      cases hn : (itTup l).nxt i M1 with
      | none => rw [hn] at ho; cases ho
      | some o => cases o with
        | none => rfl
        | some _ => rw [hn] at ho; cases ho
    exact s.1 e
  · unfold itNum at ho
    simp only at ho
    cases hn : (itTup l).nxt i M1 with
    | none => rw [hn] at ho; cases ho
    | some o => cases o with
      | none => rw [hn] at ho; cases ho
      | some y =>
        rw [hn] at ho
        cases ho
        obtain ⟨⟨xs, w, g1, g2⟩, g3⟩ := s.2 y hn
        refine ⟨⟨xs, w, g1, g2⟩, fun u H' ⟨T, w', e1, hT, e2, e3⟩ => ?_⟩
        subst e1 e2
        obtain ⟨_, _, rw'⟩ := g3 w' H1 ⟨rfl, e3⟩
        exact pair_new R hT rfl rw'
theorem itZ_none {a b : Itr} {i : Nat} {M : Mem} (h : (itZ a b).nxt i M = some none) : ∃ o p, a.nxt i M = some o ∧ b.nxt i M = some p ∧ (o = none ∨ p = none) := by
  unfold itZ at h
  simp only at h
  split at h
  · cases h
  · rename_i o h1 h2; exact ⟨_, _, h1, h2, .inl rfl⟩
  · rename_i o h0 h1 h2; exact ⟨_, _, h1, h2, .inr rfl⟩
  · cases h
theorem itZ_some {a b : Itr} {i : Nat} {M : Mem} {z : Val} (h : (itZ a b).nxt i M = some (some z)) : ∃ x y, a.nxt i M = some (some x) ∧ b.nxt i M = some (some y) ∧ z = .tup [x, y] := by
  unfold itZ at h
  simp only at h
  split at h
  · rename_i x y h1 h2; cases h; exact ⟨_, _, h1, h2, rfl⟩
  · cases h
  · cases h
  · cases h
theorem lst_at {n b : Nat} {a : Addr} {ρ1 : List Addr} {M1 : Mem} {H1 : Hp} {o : Option Val} {i : Nat} (R : Rel K ρ1 M1 H1) (h : ρ1[n]? = some a) (ho : (itLst n b).nxt i M1 = some o) : ∃ l vs, H1 a = some (.lst vs) ∧ RVs K ρ1 H1 l vs ∧ o = l[i]? := by
  unfold itLst at ho
  simp only at ho
  split at ho
  · rename_i l hm
    obtain ⟨vs, h3, h4⟩ := R.at_ _ _ _ hm h
    cases ho
    exact ⟨l, vs, h3, h4, rfl⟩
  · cases ho
theorem sim_zipL {n b m c : Nat} {a d : Addr} (h : ρ[n]? = some a) (h' : ρ[m]? = some d) : SimIt K ρ H (itZ (itLst n b) (itLst m c)) (Itz K a d) := fun i ρ1 M1 H1 E R => by
  refine ⟨fun ho => ?_, fun z ho => ?_⟩
  · obtain ⟨o, p, e1, e2, e3⟩ := itZ_none ho
    obtain ⟨l, vs, k1, k2, k3⟩ := lst_at R (E.get h) e1
    obtain ⟨l', vs', k1', k2', k3'⟩ := lst_at R (E.get h') e2
    refine ⟨vs, vs', SqL.of k1, SqL.of k1', ?_⟩
    rcases e3 with e3 | e3
    · exact .inl (by rw [k2.length]; exact List.getElem?_eq_none_iff.mp (k3.symm.trans e3))
    · exact .inr (by rw [k2'.length]; exact List.getElem?_eq_none_iff.mp (k3'.symm.trans e3))
  · obtain ⟨x, y, e1, e2, e3⟩ := itZ_some ho
    obtain ⟨l, vs, k1, k2, k3⟩ := lst_at R (E.get h) e1
    obtain ⟨l', vs', k1', k2', k3'⟩ := lst_at R (E.get h') e2
    obtain ⟨v, hv, rv⟩ := k2.get k3.symm
    obtain ⟨v', hv', rv'⟩ := k2'.get k3'.symm
    subst e3
    refine ⟨⟨vs, vs', v, v', SqL.of k1, SqL.of k1', hv, hv'⟩, fun u H' ⟨T, w, w', q1, hT, q2, q3, q4⟩ => ?_⟩
    subst q1 q2
    have z1 := q3 _ (SqL.of k1)
    have z2 := q4 _ (SqL.of k1')
    rw [hv] at z1; rw [hv'] at z2
    cases z1; cases z2
    exact pair_new R hT rv rv'
theorem sim_zipT {l m : List Val} {a d : Addr} {vs vs' : List V} (h : SqT K H a vs) (r : RVs K ρ H l vs) (h' : SqT K H d vs') (r' : RVs K ρ H m vs') : SimIt K ρ H (itZ (itTup l) (itTup m)) (RZ.ItzT K a d) := fun i ρ1 M1 H1 E R => by
  have h1 := E.sqT h
  have h1' := E.sqT h'
  have r1 := RVs.mono E _ _ r
  have r1' := RVs.mono E _ _ r'
  refine ⟨fun ho => ?_, fun z ho => ?_⟩
  · obtain ⟨o, p, e1, e2, e3⟩ := itZ_none ho
    have k1 : l[i]? = o := Option.some.inj e1
    have k2 : m[i]? = p := Option.some.inj e2
    refine ⟨vs, vs', h1, h1', ?_⟩
    rcases e3 with e3 | e3
    · exact .inl (by rw [r1.length]; exact List.getElem?_eq_none_iff.mp (k1.trans e3))
    · exact .inr (by rw [r1'.length]; exact List.getElem?_eq_none_iff.mp (k2.trans e3))
  · obtain ⟨x, y, e1, e2, e3⟩ := itZ_some ho
    obtain ⟨v, hv, rv⟩ := r1.get (Option.some.inj e1)
    obtain ⟨v', hv', rv'⟩ := r1'.get (Option.some.inj e2)
    subst e3
    refine ⟨⟨vs, vs', v, v', h1, h1', hv, hv'⟩, fun u H' ⟨T, w, w', q1, hT, q2, q3, q4⟩ => ?_⟩
    subst q1 q2
    have z1 := q3 _ h1
    have z2 := q4 _ h1'
    rw [hv] at z1; rw [hv'] at z2
    cases z1; cases z2
    exact pair_new R hT rv rv'
end
section
variable {X : Cx} {W : WX} {a b : Expr} {fa fb : EF} {pos p tpos : Pos} {tg : Expr} {elts : List Expr} {kk : Nat}
theorem si_seq (ha : SE X W a fa) : SI X W tg a (iSq fa) := ⟨PI.imp (pi_seq ha.pe) fun σ H Q ⟨ρ, e, M, R, S, p⟩ => ⟨ρ, e, M, R, S, (Po.bind p).imp fun v H1 ⟨ρ1, M1, x, E1, R1, r1, p1⟩ => by
  cases x with
  | tup l =>
    obtain ⟨q, vs, h1, h2, h3⟩ := r1
    exact .inr (.inl ⟨q, h1, ⟨vs, h2⟩, p1 ρ1 H1 _ (Ext.refl _ _) R1 (sim_tup h2 h3)⟩)
  | frz l =>
    obtain ⟨q, h1, h2⟩ := r1
    exact .inl ⟨q, h1, ⟨_, h2.sq⟩, p1 ρ1 H1 _ (Ext.refl _ _) R1 (sim_frz h2)⟩
  | str z => exact .inr (.inr ⟨z, r1, p1 ρ1 H1 _ (Ext.refl _ _) R1 sim_str⟩)
  | loc n =>
    unfold itSeq lenM at p1
    simp only at p1
    cases hm : M1[n]? with
    | none => rw [hm] at p1; exact p1.elim
    | some c => cases c with
      | lst l =>
        rw [hm] at p1
        obtain ⟨q, vs, h1, h2, h3, h4⟩ := R1.lst hm r1
        exact .inl ⟨q, h1, ⟨vs, SqL.of h3⟩, p1 ρ1 H1 _ (Ext.refl _ _) R1 (sim_lst h2)⟩
      | _ => rw [hm] at p1; exact p1.elim
  | _ => exact p1.elim⟩⟩
theorem si_enum (ha : SE X W a fa) (hm : X.mg "enumerate" = none) (hg : Gl X "enumerate" := by rfl) (hs : starEach [a] X.env = [(false, eval a X.env)] := by rfl) : SI X W (.Tuple elts kk tpos) (.Call (.Name "enumerate" p) [a] [] pos) (iEn fa) :=
  ⟨PI.imp (pi_enumA hg hm (sa_cons ha sa_nil (by rw [hs]; rfl)).pa hs) fun σ H Q ⟨ρ, e, M, R, S, p⟩ => ⟨ρ, e, M, R, S, by
    have p' : Po (Ritr X.K) X.K ρ H σ W Q ((aCons fa aNil e M).bind fun l M1 => match l with
      | [x] => (match itEnum x M1 with
        | some it => .ok it M1
        | none => .bad)
      | _ => .bad) := by
      unfold iEn iOf at p
      unfold aCons aNil
      cases h : fa e M with
      | ok x M1 => rw [h] at p; exact p
      | ex x M1 => rw [h] at p; exact p
      | bad => rw [h] at p; exact p
    exact (Po.bind (R := RVsr X.K) p').imp fun vs H1 ⟨ρ1, M1, l, E1, R1, r1, p1⟩ => by
      match l, r1, p1 with
      | [x], ⟨v, r, e1, r2, e3⟩, p1 =>
        cases (show r = [] from e3)
        subst e1
        cases x with
        | tup l =>
          obtain ⟨q, vs, h1, h2, h3⟩ := r2
          subst h1
          exact ⟨q, vs, rfl, .inr ⟨h2, p1 ρ1 H1 _ (Ext.refl _ _) R1 (sim_numT h2 h3)⟩⟩
        | loc n =>
          unfold itEnum lenM at p1
          simp only at p1
          cases hm : M1[n]? with
          | none => rw [hm] at p1; exact p1.elim
          | some c => cases c with
            | lst l =>
              rw [hm] at p1
              obtain ⟨q, vs, h1, h2, h3, h4⟩ := R1.lst hm r2
              subst h1
              exact ⟨q, vs, rfl, .inl ⟨SqL.of h3, p1 ρ1 H1 _ (Ext.refl _ _) R1 (sim_numL h2)⟩⟩
            | _ => rw [hm] at p1; exact p1.elim
        | _ => exact p1.elim
      | [], _, p1 => exact p1.elim
      | _ :: _ :: _, _, p1 => exact p1.elim⟩⟩
theorem si_zip (ha : SE X W a fa) (hb : SE X W b fb) (hm : X.mg "zip" = none) (hg : Gl X "zip" := by rfl)
    (hs : starEach [a, b] X.env = (false, eval a X.env) :: starEach [b] X.env := by rfl) (hs2 : starEach [b] X.env = (false, eval b X.env) :: starEach [] X.env := by rfl) (hpl : (backTo pos (starEach [b] X.env)).any (·.1) = false := by rfl) :
    SI X W (.Tuple elts kk tpos) (.Call (.Name "zip" p) [a, b] [] pos) (iZp fa fb) :=
  ⟨PI.imp (RZ.pi_zipA hg hm (sa_cons ha (sa_cons hb sa_nil hs2) hs).pa hs hpl) fun σ H Q ⟨ρ, e, M, R, S, p⟩ => ⟨ρ, e, M, R, S, by
    have p' : Po (Ritr X.K) X.K ρ H σ W Q ((aCons fa (aCons fb aNil) e M).bind fun l M1 => match l with
      | [x, y] => (match itZip x y M1 with
        | some it => .ok it M1
        | none => .bad)
      | _ => .bad) := by
      unfold iZp at p
      unfold aCons aNil
      cases h : fa e M with
      | ok x M1 =>
        rw [h] at p
        simp only [Out.bind_ok] at p ⊢
        cases h2 : fb e M1 with
        | ok y M2 => rw [h2] at p; exact p
        | ex x M1 => rw [h2] at p; exact p
        | bad => rw [h2] at p; exact p
      | ex x M1 => rw [h] at p; exact p
      | bad => rw [h] at p; exact p
    exact (Po.bind (R := RVsr X.K) p').imp fun vs H1 ⟨ρ1, M1, l, E1, R1, r1, p1⟩ => by
      match l, r1, p1 with
      | [x, y], ⟨v, r, e1, r2, u, r', e1', r2', e3⟩, p1 =>
        cases (show r' = [] from e3)
        subst e1'
        subst e1
        cases x with
        | tup l => cases y with
          | tup m =>
            obtain ⟨q, vs, h1, h2, h3⟩ := r2
            obtain ⟨q', vs', h1', h2', h3'⟩ := r2'
            subst h1 h1'
            exact ⟨q, q', vs, vs', rfl, .inr ⟨h2, h2', p1 ρ1 H1 _ (Ext.refl _ _) R1 (sim_zipT h2 h3 h2' h3')⟩⟩
          | _ => exact p1.elim
        | loc n => cases y with
          | loc k =>
            unfold itZip lenM at p1
            simp only at p1
            cases hm : M1[n]? with
            | none => rw [hm] at p1; exact p1.elim
            | some c => cases c with
              | lst l =>
                rw [hm] at p1
                cases hm' : M1[k]? with
                | none => rw [hm'] at p1; exact p1.elim
                | some c' => cases c' with
                  | lst l' =>
                    rw [hm'] at p1
                    obtain ⟨q, vs, h1, h2, h3, h4⟩ := R1.lst hm r2
                    obtain ⟨q', vs', h1', h2', h3', h4'⟩ := R1.lst hm' r2'
                    subst h1 h1'
                    exact ⟨q, q', vs, vs', rfl, .inl ⟨SqL.of h3, SqL.of h3', p1 ρ1 H1 _ (Ext.refl _ _) R1 (sim_zipL h2 h2')⟩⟩
                  | _ => rw [hm'] at p1; exact p1.elim
              | _ => rw [hm] at p1; exact p1.elim
          | _ => exact p1.elim
        | _ => exact p1.elim
      | [], _, p1 => exact p1.elim
      | [_], _, p1 => exact p1.elim
      | _ :: _ :: _ :: _, _, p1 => exact p1.elim⟩⟩
theorem si_r1 (ha : SE X W a fa) (hm : X.mg "range" = none) (hg : Gl X "range" := by rfl) (hs : starEach [a] X.env = [(false, eval a X.env)] := by rfl) : SI X W tg (.Call (.Name "range" p) [a] [] pos) (iR1 fa) :=
  ⟨PI.imp (pi_range1 hg hm (sa_cons ha sa_nil (by rw [hs]; rfl)).pa hs) fun σ H Q ⟨ρ, e, M, R, S, p⟩ => ⟨ρ, e, M, R, S, by
    have p' : Po (Ritr X.K) X.K ρ H σ W Q ((aCons fa aNil e M).bind fun l M1 => match l with
      | [.int j] => if -(2 ^ 62) ≤ j ∧ j < 2 ^ 62 then .ok (itRng 0 j.toNat) M1 else .bad
      | _ => .bad) := by
      unfold iR1 at p
      unfold aCons aNil
      cases h : fa e M with
      | ok x M1 => rw [h] at p; cases x <;> exact p
      | ex x M1 => rw [h] at p; exact p
      | bad => rw [h] at p; exact p
    exact (Po.bind (R := RVsr X.K) p').imp fun vs H1 ⟨ρ1, M1, l, E1, R1, r1, p1⟩ => by
      split at p1
      · rename_i j
        obtain ⟨v, r, e1, r2, e3⟩ := r1
        cases (show r = [] from e3)
        cases (show v = _ from r2)
        split at p1
        · rename_i hj
          exact ⟨j, e1, hj.1, hj.2, p1 ρ1 H1 _ (Ext.refl _ _) R1 sim_rng⟩
        · exact p1.elim
      · exact p1.elim⟩⟩
theorem si_r2 (ha : SE X W a fa) (hb : SE X W b fb) (hm : X.mg "range" = none) (hg : Gl X "range" := by rfl) (hs : starEach [a, b] X.env = [(false, eval a X.env), (false, eval b X.env)] := by rfl) (hs2 : starEach [b] X.env = [(false, eval b X.env)] := by rfl) : SI X W tg (.Call (.Name "range" p) [a, b] [] pos) (iR2 fa fb) :=
  ⟨PI.imp (pi_range2 hg hm (sa_cons ha (sa_cons hb sa_nil (by rw [hs2]; rfl)) (by rw [hs, hs2])).pa hs hs2) fun σ H Q ⟨ρ, e, M, R, S, p⟩ => ⟨ρ, e, M, R, S, by
    have p' : Po (Ritr X.K) X.K ρ H σ W Q ((aCons fa (aCons fb aNil) e M).bind fun l M1 => match l with
      | [.int i, .int j] => if -(2 ^ 62) ≤ i ∧ i < 2 ^ 62 ∧ -(2 ^ 62) ≤ j ∧ j < 2 ^ 62 then .ok (itRng i (j - i).toNat) M1 else .bad
      | _ => .bad) := by
      unfold iR2 at p
      unfold aCons aNil
      cases h : fa e M with
      | ok x M1 =>
        rw [h] at p
        simp only [Out.bind_ok] at p ⊢
        cases h2 : fb e M1 with
        | ok y M2 => rw [h2] at p; cases x <;> cases y <;> exact p
        | ex x M1 => rw [h2] at p; exact p
        | bad => rw [h2] at p; exact p
      | ex x M1 => rw [h] at p; exact p
      | bad => rw [h] at p; exact p
    exact (Po.bind (R := RVsr X.K) p').imp fun vs H1 ⟨ρ1, M1, l, E1, R1, r1, p1⟩ => by
      split at p1
      · rename_i i j
        obtain ⟨v, r, e1, r2, v', r', e1', r2', e3⟩ := r1
        cases (show r' = [] from e3)
        cases (show v = _ from r2)
        cases (show v' = _ from r2')
        subst e1'
        split at p1
        · rename_i hj
          exact ⟨i, j, e1, hj, p1 ρ1 H1 _ (Ext.refl _ _) R1 sim_rng⟩
        · exact p1.elim
      · exact p1.elim⟩⟩
end
end Sm

namespace Sm
open PySem L2
open PyProof.Rows (envOfC)
/-! loops -/
def forG (nxt : Nat → Mem → Option (Option Val)) (g : GF) (body : SF) : Nat → Nat → SF
  | 0, _ => fun _ _ => .bad
  | m + 1, i => fun e M => match nxt i M with
    | none => .bad
    | some none => .nx e M
    | some (some x) => (g x e M).toS fun e1 M1 => match body e1 M1 with
      | .nx e2 M2 => forG nxt g body m (i + 1) e2 M2
      | .ct e2 M2 => forG nxt g body m (i + 1) e2 M2
      | .bk e2 M2 => .nx e2 M2
      | o => o
def sFor (f : IF) (g : GF) (body : SF) : SF := fun e M => (f e M).toS e fun it M1 => forG it.nxt g body it.fuel 0 e M1
def whG (t : TF) (body : SF) : Nat → SF
  | 0 => fun _ _ => .bad
  | m + 1 => fun e M => (t e M).toS e fun b M1 => if b = true then (match body e M1 with
      | .nx e2 M2 => whG t body m e2 M2
      | .ct e2 M2 => whG t body m e2 M2
      | .bk e2 M2 => .nx e2 M2
      | o => o) else .nx e M1
def sWhile (n : Nat) (t : TF) (body : SF) : SF := whG t body n
section
variable {K : PySem.W.Frag} {ρ : List Addr} {H : Hp} {W : WX} {D : Ends}
theorem PoS.turn {N : St → Hp → Prop} {k : Sl → Mem → SO} (hN : ∀ ρ' H' σ' e M, Ext ρ H ρ' H' → Rel K ρ' M H' → SlR K ρ' H' e σ' → PoS K ρ' H' W D (k e M) → N σ' H') : ∀ {o : SO}, PoS K ρ H W D (match o with
      | .nx e2 M2 => k e2 M2
      | .ct e2 M2 => k e2 M2
      | .bk e2 M2 => .nx e2 M2
      | o => o) → PoS K ρ H W { D with nx := N, ct := N, bk := D.nx } o
  | .nx e M, h => fun ρ1 H1 σ1 E1 r1 s1 => hN ρ1 H1 σ1 e M E1 r1 s1 (h.mono E1)
  | .ct e M, h => fun ρ1 H1 σ1 E1 r1 s1 => hN ρ1 H1 σ1 e M E1 r1 s1 (h.mono E1)
  | .bk _ _, h => h
  | .rt _ _, h => h
  | .ex _ _ _, h => h
  | .bad, h => h
end
section
variable {X : Cx} {W : WX} {pos : Pos} {tg iter c : Expr} {body : List Stmt} {f : IF} {g : GF} {fb : SF} {t : TF}
theorem ss_for (hp : PassesOwn (model X.prog X.w) X.A X.env X.xe) (hc : X.calm = true) (hi : SI X W tg iter f) (hg : SG X W tg g) (hb : SSs X W body fb) (hs : ∀ x, foldedSetIterable iter X.env x = pure x := by intro _; rfl) :
    SS X W (.For tg iter body [] pos) (sFor f g fb) :=
  ⟨(ps_for hp hc hi.pi hg.pg hb.pss hs).imp fun D σ H ⟨ρ, e, M, R, S, p⟩ => ⟨ρ, e, M, R, S, (PoS.ofE (R := Ritr X.K) S p).imp fun J H1 ⟨ρ1, M1, it, E1, R1, sim, p1⟩ =>
    ⟨fun i m σ' H' => ∃ ρ' e' M', Ext ρ1 H1 ρ' H' ∧ Rel X.K ρ' M' H' ∧ SlR X.K ρ' H' e' σ' ∧ PoS X.K ρ' H' W D (forG it.nxt g fb m i e' M'),
      ⟨it.fuel, ρ1, e, M1, Ext.refl _ _, R1, S.mono E1, p1⟩, fun i m σ' H' ⟨ρ', e', M', E', R', S', p'⟩ => by
        cases m with
        | zero => exact p'.elim
        | succ m =>
          unfold forG at p'
          cases hn : it.nxt i M' with
          | none => rw [hn] at p'; exact p'.elim
          | some o => cases o with
            | none =>
              rw [hn] at p'
              exact .inl ⟨(sim i ρ' M' H' E' R').1 hn, p' ρ' H' σ' (Ext.refl _ _) R' S'⟩
            | some x =>
              rw [hn] at p'
              simp only at p'
              obtain ⟨g1, g2⟩ := (sim i ρ' M' H' E' R').2 x hn
              refine .inr ⟨g1, _, fun σ2 H2 h => ⟨m, Nat.lt_succ_self m, h⟩, fun v H2 hy => ?_⟩
              obtain ⟨E2, R2, r2⟩ := g2 v H2 hy
              refine ⟨ρ', e', M', x, R2, S'.mono E2, r2, (PoG.toS (p'.mono E2)).imp fun σ3 H3 ⟨ρ3, e3, M3, E3, R3, S3, p3⟩ => ⟨ρ3, e3, M3, R3, S3, ?_⟩⟩
              exact PoS.turn (fun ρ4 H4 σ4 e4 M4 E4 R4 S4 p4 => ⟨ρ4, e4, M4, E'.trans (E2.trans (E3.trans E4)), R4, S4, p4⟩) p3⟩⟩⟩
theorem ss_while {n : Nat} (hp : PassesOwn (model X.prog X.w) X.A X.env X.xe) (hc : ST X W c t) (hb : SSs X W body fb) : SS X W (.While c body [] pos) (sWhile n t fb) :=
  ⟨(ps_while hp hc.pt hb.pss).imp fun D σ H ⟨ρ, e, M, R, S, p⟩ =>
    ⟨fun m σ' H' => ∃ ρ' e' M', Rel X.K ρ' M' H' ∧ SlR X.K ρ' H' e' σ' ∧ PoS X.K ρ' H' W D (whG t fb m e' M'), ⟨n, ρ, e, M, R, S, p⟩, fun m σ' H' ⟨ρ', e', M', R', S', p'⟩ => by
      cases m with
      | zero => exact p'.elim
      | succ m =>
        unfold whG at p'
        refine ⟨ρ', e', M', R', S', (PoS.ofE (R := Beq X.K) S' p').imp fun v H1 ⟨ρ1, M1, b, E1, R1, r1, p1⟩ => ?_⟩
        cases (show b = v from r1)
        by_cases hb : v = true
        · rw [if_pos hb] at p1 ⊢
          refine ⟨_, fun σ2 H2 h => ⟨m, Nat.lt_succ_self m, h⟩, ρ1, e', M1, R1, S'.mono E1, ?_⟩
          exact PoS.turn (fun ρ4 H4 σ4 e4 M4 E4 R4 S4 p4 => ⟨ρ4, e4, M4, R4, S4, p4⟩) p1
        · rw [if_neg hb] at p1 ⊢
          exact p1 ρ1 H1 σ' (Ext.refl _ _) R1 (S'.mono E1)⟩⟩
end
/-! comprehensions -/
abbrev noW : WX := fun _ _ _ _ => False
/-- a comprehension's target: a name, or a tuple of names -/
inductive Tg where
  | one (i : Nat) | many (is : List Nat)
def Tg.vs : Tg → List Nat
  | .one i => [i]
  | .many is => is
def setAll {α : Type} : List Nat → List α → List (Option α) → List (Option α)
  | [], _, e => e
  | _ :: _, [], e => e
  | i :: is, x :: l, e => setAll is l (e.set i (some x))
def Tg.put (g : Tg) (x : Val) (e : Sl) : Option Sl := match g with
  | .one i => some (e.set i (some x))
  | .many is => match x with
    | .tup l => if l.length = is.length then some (setAll is l e) else none
    | _ => none
def wipeS (e : Sl) : List Nat → Sl
  | [] => e
  | v :: vs => (wipeS e vs).set v none
/-- the targets' readings -/
def gNames : List Nat → TGs
  | [] => gNil
  | i :: r => gCons (gName i) (gNames r)
def Tg.g (K : PySem.W.Frag) : Tg → TG
  | .one i => gName i
  | .many is => gTup K is.length (gNames is)
structure SLT (X : Cx) (tg : Expr) (g : Tg) : Prop where
  pg : PG X tg (g.g X.K)
structure SLs (X : Cx) (tgs : List Expr) (is : List Nat) : Prop where
  pgs : PGs X tgs (gNames is)
structure STs (X : Cx) (ifs : List Expr) (t : TF) : Prop where
  pts : PTs X ifs (tT X.K noW t)
theorem PTs.imp {X : Cx} {e : List Expr} {t t' : TT} (h : PTs X e t) (i : ∀ σ H Q, t' σ H Q → t σ H Q) : PTs X e t' := ⟨fun pins s σ H Q I q => h.run pins s σ H Q I (i σ H Q q)⟩
def tTrue : TF := fun _ M => .ok true M
section
variable {X : Cx} {pos : Pos}
theorem sl_one {i : Nat} {x : Str} (hN : X.N.Nodup) (hi : X.N[i]? = some x := by rfl) (hx : Loc X.env.scope x := by first | exact Or.inl rfl | exact Or.inr rfl) (hf : X.fn x = true ∨ X.env.scope.names.lookup x = some .local := by first | exact .inl rfl | exact .inr rfl | assumption) :
    SLT X (.Name x pos) (.one i) := ⟨pg_name (i := i) hN hi hx hf⟩
theorem sls_nil : SLs X [] [] := ⟨pgs_nil⟩
theorem sls_cons {i : Nat} {x : Str} {is : List Nat} {ts : List Expr} (hN : X.N.Nodup) (hr : SLs X ts is) (hi : X.N[i]? = some x := by rfl) (hx : Loc X.env.scope x := by first | exact Or.inl rfl | exact Or.inr rfl) (hf : X.fn x = true ∨ X.env.scope.names.lookup x = some .local := by first | exact .inl rfl | exact .inr rfl | assumption)
    (hs : (assignEach (.Name x pos :: ts) X.env).map (·.2) = assign (.Name x pos) X.env :: (assignEach ts X.env).map (·.2) := by rfl) : SLs X (.Name x pos :: ts) (i :: is) := ⟨pgs_cons (pg_name (i := i) hN hi hx hf) hr.pgs hs⟩
theorem sl_many {is : List Nat} {ts : List Expr} {k : Nat} (hc : X.calm = true) (h : SLs X ts is) (hn : (assignEach ts X.env).length = is.length := by rfl) (hst : (assignEach ts X.env).findIdx? (·.1) = none := by rfl) : SLT X (.Tuple ts k pos) (.many is) :=
  ⟨pg_tup hc h.pgs hn hst⟩
theorem sts_nil : STs X [] tTrue := ⟨PTs.imp pts_nil fun σ H Q ⟨ρ, e, M, R, S, p⟩ => p ρ H true (Ext.refl _ _) R rfl⟩
theorem sts_one {c : Expr} {t : TF} (h : ST X noW c t) : STs X [c] t := ⟨pts_one h.pt⟩
end
theorem wipe_get (σ : St) : ∀ (vs : List Nat) (j : Nat), (wipe σ vs)[j]? = if j ∈ vs then σ[j]?.map (fun _ => none) else σ[j]?
  | [], j => by simp [wipe]
  | v :: vs, j => by
    unfold wipe
    by_cases h : v = j
    · subst h
      by_cases hl : v < (wipe σ vs).length
      · rw [List.getElem?_set_self hl]
        rw [wipe_length] at hl
        simp [hl]
      · rw [List.getElem?_eq_none (by simpa using hl)]
        rw [wipe_length] at hl
        simp [List.getElem?_eq_none (Nat.le_of_not_lt hl)]
    · rw [List.getElem?_set_ne h, wipe_get σ vs j]
      have h' : ¬ j = v := fun e => h e.symm
      simp [h']
theorem wipe_set {σ : St} {vs : List Nat} {i : Nat} {v : V} (h : i ∈ vs) : wipe (σ.set i (some v)) vs = wipe σ vs := by
  apply List.ext_getElem?
  intro j
  rw [wipe_get, wipe_get]
  by_cases hj : j ∈ vs
  · rw [if_pos hj, if_pos hj]
    by_cases e : i = j
    · subst e
      by_cases hl : i < σ.length
      · rw [List.getElem?_set_self hl]; simp [hl]
      · rw [List.getElem?_eq_none (by simpa using hl), List.getElem?_eq_none (Nat.le_of_not_lt hl)]
    · rw [List.getElem?_set_ne e]
  · rw [if_neg hj, if_neg hj]
    have e : i ≠ j := fun e => hj (e ▸ h)
    rw [List.getElem?_set_ne e]
section
variable {K : PySem.W.Frag} {ρ : List Addr} {H : Hp} {σ : St} {e : Sl}
theorem SlR.wipe (S : SlR K ρ H e σ) : ∀ vs : List Nat, SlR K ρ H (wipeS e vs) (L2.wipe σ vs)
  | [] => S
  | v :: vs => (SlR.wipe S vs).unset v
theorem gNames_ok {Q : St → Hp → Prop} {vs0 : List Nat} : ∀ {is : List Nat} {l : List Val} {us : List V} {e : Sl} {σ : St}, is.length = l.length → (∀ i ∈ is, i ∈ vs0) → RVs K ρ H l us → SlR K ρ H e σ →
    (∀ σ', SlR K ρ H (setAll is l e) σ' → L2.wipe σ' vs0 = L2.wipe σ vs0 → Q σ' H) → gNames is us σ H Q
  | [], [], us, e, σ, _, _, r, S, h => ⟨r, h σ S rfl⟩
  | [], _ :: _, _, _, _, hl, _, _, _, _ => by cases hl
  | _ :: _, [], _, _, _, hl, _, _, _, _ => by cases hl
  | i :: is, x :: l, us, e, σ, hl, hv, ⟨v, r, e1, r1, r2⟩, S, h => ⟨v, r, e1, gNames_ok (Nat.succ.inj hl) (fun j hj => hv j (List.mem_cons_of_mem _ hj)) r2 (S.set i r1) fun σ' S' w => h σ' S' (by rw [w, wipe_set (hv i List.mem_cons_self)])⟩
theorem Tg.ok {g : Tg} {vs0 : List Nat} {x : Val} {v : V} {e1 : Sl} {Q : St → Hp → Prop} (hv : ∀ i ∈ g.vs, i ∈ vs0) (r : RV K ρ H x v) (S : SlR K ρ H e σ) (hp : g.put x e = some e1) (h : ∀ σ', SlR K ρ H e1 σ' → L2.wipe σ' vs0 = L2.wipe σ vs0 → Q σ' H) : g.g K v σ H Q := by
  cases g with
  | one i =>
    cases hp
    exact h _ (S.set i r) (wipe_set (hv i (by simp [Tg.vs])))
  | many is =>
    unfold Tg.put at hp
    simp only at hp
    split at hp
    · rename_i l
      split at hp
      · rename_i hl
        cases hp
        obtain ⟨a, us, e1, h1, h2⟩ := r
        exact ⟨a, us, e1, h1, by rw [h2.length]; exact hl, gNames_ok hl.symm hv h2 S h⟩
      · cases hp
    · cases hp
end
/-- the turns of a comprehension; D: the new list's place -/
def lcG (nxt : Nat → Mem → Option (Option Val)) (g : Tg) (t : TF) (el : EF) (D : Nat) (e : Sl) : Nat → Nat → Mem → Out Val
  | 0, _, _ => .bad
  | m + 1, i, M => match nxt i M with
    | none => .bad
    | some none => .ok (.loc D) M
    | some (some x) => match g.put x e with
      | none => .bad
      | some e1 => match t e1 M with
        | .ok b M1 => if b = true then (match el e1 M1 with
          | .ok y M2 => (match M2[D]? with
            | some (.lst acc) => if acc.length < sizeLine then lcG nxt g t el D e m (i + 1) (M2.set D (.lst (acc ++ [y]))) else .bad
            | _ => .bad)
          | _ => .bad) else lcG nxt g t el D e m (i + 1) M1
        | _ => .bad
def eLc (f : IF) (g : Tg) (t : TF) (el : EF) (vs : List Nat) : EF := fun e M => (f e M).bind fun it M1 => lcG it.nxt g t el M1.length (wipeS e vs) it.fuel 0 (M1 ++ [.lst []])
theorem Po.noex {K : PySem.W.Frag} {α β : Type} {R : RR α β} {ρ : List Addr} {H : Hp} {σ : St} {Q : β → Hp → Prop} {o : Out α} {a : α} {M : Mem} (h : o = .ok a M) (k : ∀ ρ' H' b, Ext ρ H ρ' H' → Rel K ρ' M H' → R ρ' H' a b → Q b H') : Po R K ρ H σ noW Q o := by
  subst h; exact k
section
variable {X : Cx} {W : WX} {pos : Pos} {tg iter elt : Expr} {ifs : List Expr} {scope : Scope} {own : List (Str × Nat)} {f : IF} {g : Tg} {t : TF} {el : EF}
theorem lc_ok (hv : ∀ i ∈ g.vs, i ∈ own.map (·.2)) {σ : St} {H : Hp} {Q : VK} (h : tE X.K W (eLc f g t el (own.map (·.2))) σ H Q) : tLc (tIt X.K W f) (g.g X.K) (tT X.K noW t) (tE X.K noW el) (own.map (·.2)) σ H Q := by
  obtain ⟨ρ, e, M, R, S, p⟩ := h
  refine ⟨ρ, e, M, R, S, (Po.bind (R := Ritr X.K) p).imp fun J H1 ⟨ρ1, M1, it, E1, R1, sim, p1⟩ D hD => ?_⟩
  have EA := Ext.alloc (o := .lst []) ρ1 hD
  have hn : (ρ1 ++ [D])[M1.length]? = some D := by rw [← R1.len, List.getElem?_append_right (Nat.le_refl _)]; simp
  refine ⟨fun i m H' => ∃ ρ' M', Ext ρ1 H1 ρ' H' ∧ Rel X.K ρ' M' H' ∧ ρ'[M1.length]? = some D ∧ Po (RVr X.K) X.K ρ' H' σ W Q (lcG it.nxt g t el M1.length (wipeS e (own.map (·.2))) m i M'),
    ⟨it.fuel, ρ1 ++ [D], _, EA, R1.alloc (c := .lst []) hD ⟨[], upd_same, rfl⟩, hn, p1.mono EA⟩, fun i m H' ⟨ρ', M', E', R', hn', p'⟩ => ?_⟩
  cases m with
  | zero => exact p'.elim
  | succ m =>
    unfold lcG at p'
    cases hx : it.nxt i M' with
    | none => rw [hx] at p'; exact p'.elim
    | some o => cases o with
      | none =>
        rw [hx] at p'
        exact .inl ⟨(sim i ρ' M' H' E' R').1 hx, p' ρ' H' _ (Ext.refl _ _) R' ⟨D, rfl, hn'⟩⟩
      | some x =>
        rw [hx] at p'
        simp only at p'
        obtain ⟨g1, g2⟩ := (sim i ρ' M' H' E' R').2 x hx
        refine .inr ⟨g1, _, fun H2 h => ⟨m, Nat.lt_succ_self m, h⟩, fun v H2 hy => ?_⟩
        obtain ⟨E2, R2, r2⟩ := g2 v H2 hy
        cases hp : g.put x (wipeS e (own.map (·.2))) with
        | none => rw [hp] at p'; exact p'.elim
        | some e1 =>
          rw [hp] at p'
          simp only at p'
          have S2 : SlR X.K ρ' H2 (wipeS e (own.map (·.2))) (L2.wipe σ (own.map (·.2))) := (S.wipe _).mono (E1.trans (E'.trans E2))
          refine Tg.ok hv r2 S2 hp fun σ' S' w => ⟨?_, ρ', e1, M', R2, S', ?_⟩
          · rw [w]
            apply List.ext_getElem?
            intro j
            rw [wipe_get, wipe_get]
            by_cases hj : j ∈ own.map (·.2)
            · rw [if_pos hj, if_pos hj]; cases σ[j]? <;> rfl
            · rw [if_neg hj, if_neg hj]
          · cases ht : t e1 M' with
            | bad => rw [ht] at p'; exact p'.elim
            | ex _ _ => rw [ht] at p'; exact p'.elim
            | ok b M3 =>
              rw [ht] at p'
              simp only at p'
              intro ρ3 H3 b' E3 R3 eb
              cases (show b = b' from eb)
              by_cases hb : b = true
              · rw [if_pos hb] at p' ⊢
                cases hl : el e1 M3 with
                | bad => rw [hl] at p'; exact p'.elim
                | ex _ _ => rw [hl] at p'; exact p'.elim
                | ok y M4 =>
                  rw [hl] at p'
                  simp only at p'
                  refine ⟨ρ3, e1, M3, R3, S'.mono E3, Po.noex hl fun ρ4 H4 u E4 R4 r4 => ?_⟩
                  cases hm : M4[M1.length]? with
                  | none => rw [hm] at p'; exact p'.elim
                  | some c => cases c with
                    | lst acc =>
                      rw [hm] at p'
                      simp only at p'
                      have hn4 := E4.get (E3.get hn')
                      obtain ⟨vs, h3, h4⟩ := R4.at_ _ _ _ hm hn4
                      by_cases hz : acc.length < sizeLine
                      · rw [if_pos hz] at p'
                        refine ⟨vs, h3, by rw [h4.length]; exact hz, ?_⟩
                        have hmu : Mut (H4 D) := by rw [h3]; trivial
                        have E5 := Ext.write (o := .lst (vs ++ [u])) ρ4 hmu
                        obtain ⟨R5, _⟩ := R4.write (c := .lst (acc ++ [y])) hn4 ⟨_, upd_same, RVs.mono E5 _ _ (h4.snoc r4)⟩
                        exact ⟨ρ4, _, E'.trans (E2.trans (E3.trans (E4.trans E5))), R5, hn4, p'.mono (E2.trans (E3.trans (E4.trans E5)))⟩
                      · rw [if_neg hz] at p'; exact p'.elim
                    | _ => rw [hm] at p'; exact p'.elim
              · rw [if_neg hb] at p' ⊢
                exact ⟨ρ3, M3, E'.trans (E2.trans E3), R3, E3.get hn', p'.mono (E2.trans E3)⟩
theorem se_lc (hc : X.calm = true) (hN : X.N.Nodup) (hi : SI X W tg iter f) (ok : BlkOk X.N X.env.scope scope own) (hv : ∀ i ∈ g.vs, i ∈ own.map (·.2))
    (hg : ∀ (s : Shared) (H : Hp) (C : Addr) (cl : List (Str × Addr)) (fp : List Addr), SLT (X.blk s H scope (compEnvC scope cl C X.env) fp) tg g) (ht : ∀ (s : Shared) (H : Hp) (C : Addr) (cl : List (Str × Addr)) (fp : List Addr), STs (X.blk s H scope (compEnvC scope cl C X.env) fp) ifs t)
    (he : ∀ (s : Shared) (H : Hp) (C : Addr) (cl : List (Str × Addr)) (fp : List Addr), SE (X.blk s H scope (compEnvC scope cl C X.env) fp) noW elt el) (hs : ∀ x, foldedSetIterable iter X.env x = pure x := by intro _; rfl) :
    SE X W (.ListComp elt [⟨tg, iter, ifs, 0⟩] scope pos) (eLc f g t el (own.map (·.2))) :=
  ⟨(pe_lc hc hN hi.pi ok (fun s H C cl fp => (hg s H C cl fp).pg) (fun s H C cl fp => (ht s H C cl fp).pts) (fun s H C cl fp => (he s H C cl fp).pe) hs).imp fun σ H Q h => lc_ok hv h⟩
theorem ss_setLc {i : Nat} {y : Str} {py spos : Pos} (hc : X.calm = true) (hN : X.N.Nodup) (hsw : swapsWith (.ListComp elt [⟨tg, iter, ifs, 0⟩] scope pos) (some (.Name y py)) spos.line X.env = pure true) (hi : SI X W tg iter f) (ok : BlkOk X.N X.env.scope scope own) (hv : ∀ i ∈ g.vs, i ∈ own.map (·.2))
    (hg : ∀ (s : Shared) (H : Hp) (C : Addr) (cl : List (Str × Addr)) (fp : List Addr), SLT (X.blk s H scope (compEnvC scope cl C X.env) fp) tg g) (ht : ∀ (s : Shared) (H : Hp) (C : Addr) (cl : List (Str × Addr)) (fp : List Addr), STs (X.blk s H scope (compEnvC scope cl C X.env) fp) ifs t)
    (he : ∀ (s : Shared) (H : Hp) (C : Addr) (cl : List (Str × Addr)) (fp : List Addr), SE (X.blk s H scope (compEnvC scope cl C X.env) fp) noW elt el) (hy : X.N[i]? = some y := by rfl) (hyl : X.env.scope.names.lookup y = some .local := by rfl) (hs : ∀ x, foldedSetIterable iter X.env x = pure x := by intro _; rfl) :
    SS X W (.Assign [.Name y py] (.ListComp elt [⟨tg, iter, ifs, 0⟩] scope pos) spos) (sAsg (eLc f g t el (own.map (·.2))) (gNm i)) :=
  ⟨(ps_setLc (i := i) hc hN hy hyl hsw hi.pi ok (fun s H C cl fp => (hg s H C cl fp).pg) (fun s H C cl fp => (ht s H C cl fp).pts) (fun s H C cl fp => (he s H C cl fp).pe) hs).imp fun D σ H ⟨ρ, e, M, R, S, p⟩ =>
    lc_ok (W := W) hv ⟨ρ, e, M, R, S, (PoS.ofE (R := RVr X.K) S p).imp fun v H1 ⟨ρ1, M1, x, E1, R1, r1, p1⟩ => p1 ρ1 H1 _ (Ext.refl _ _) R1 ((S.mono E1).set i r1)⟩⟩
end
/-! defs -/
def fnS (np n : Nat) (body : SF) : FnS := fun l M => if l.length = np then (match body (l.map some ++ List.replicate (n - np) none) M with
    | .nx _ M => .ok .non M
    | .rt v M => .ok v M
    | .ex x _ M => .ex x M
    | _ => .bad) else .bad
def spS (K : PySem.W.Frag) (np : Nat) (F : FnS) : Sp := fun vs H Q E => ∃ ρ M l, Rel K ρ M H ∧ RVs K ρ H l vs ∧ l.length = np ∧ Po (RVr K) K ρ H [] (fun c d _ H => E c d H) Q (F l M)
abbrev FOk (P : Program) (w : World) (K : PySem.W.Frag) (mg : Str → Option Value) (base : Heap) (k : Nat) (f : Addr) (fd : FuncData) (ps : List Str) (F : FnS) : Prop := FnOk P w K mg base (L2.CX P w) k f fd ps (spS K ps.length F)
theorem SlR.start {K : PySem.W.Frag} {ρ : List Addr} {H : Hp} {N : List Str} {np : Nat} {l : List Val} {vs : List V} (r : RVs K ρ H l vs) (hl : l.length = np) : SlR K ρ H (l.map some ++ List.replicate (N.length - np) none) (L2.start N vs) := by
  have hl' := r.length
  refine ⟨by unfold L2.start; simp [hl', hl], fun i x h => ?_⟩
  unfold L2.start
  by_cases hi : i < l.length
  · rw [List.getElem?_append_left (by simpa using hi)] at h
    rw [List.getElem?_append_left (by simpa [hl'] using hi)]
    have hx : l[i]? = some x := by simpa using h
    obtain ⟨v, h1, h2⟩ := r.get hx
    exact ⟨v, by simp [h1], h2⟩
  · rw [List.getElem?_append_right (by simpa using hi)] at h
    have := List.mem_of_getElem? h
    simp at this
section
variable {P : Program} {w : World} {K : PySem.W.Frag} {mg : Str → Option Value} {base : Heap} {x qual : Str} {params : Arguments} {body : List Stmt} {scope : Scope} {dvs : List V} {kws : List (Str × V)} {f : Addr} {fd : FuncData}
theorem fok_of {N ps : List Str} {k : Nat} {fb : SF} (F : FunD K x qual params body scope dvs kws f fd) (S : FnScope N ps scope)
    (hb : ∀ (cdv : Value) (A : Around) (outer : List Env) (s : Shared) (H : Hp) (E : XK), Room k (A.deeper (envOfC qual scope s.heap.objs.size f cdv)) →
      SSs (cxOf (L2.CX P w) P w K mg base N qual scope f cdv A outer s H E) (fun c d _ H => E c d H) body fb) : FOk P w K mg base (k + 1) f fd ps (fnS ps.length N.length fb) := by
  refine F.ok S (fun vs H Q E ⟨ρ, M, l, R, r, hl, p⟩ => by rw [r.length]; exact hl) fun cdv A outer s H vs Q E hr ⟨ρ, M, l, R, r, hl, p⟩ => ⟨_, (hb cdv A outer s H E hr).pss, ρ, _, M, R, SlR.start r hl, ?_⟩
  unfold fnS at p
  rw [if_pos hl] at p
  show PoS K ρ H _ _ (fb (l.map some ++ List.replicate (N.length - ps.length) none) M)
  cases hf : fb (l.map some ++ List.replicate (N.length - ps.length) none) M with
  | nx e1 M1 => rw [hf] at p; exact fun ρ' H' σ' E' R' S' => p ρ' H' .non E' R' rfl
  | rt v M1 => rw [hf] at p; exact p
  | ex y e1 M1 => rw [hf] at p; exact fun ρ' H' σ' c d E' R' S' q => p ρ' H' c d E' R' q
  | bk _ _ => rw [hf] at p; exact p.elim
  | ct _ _ => rw [hf] at p; exact p.elim
  | bad => rw [hf] at p; exact p.elim
end
def eFn (np : Nat) (F : FnS) (fa : AF) : EF := fun e M => (fa e M).bind fun l M1 => if l.length = np then F l M1 else .bad
section
variable {X : Cx} {W : WX} {k : Nat} {f : Addr} {fd : FuncData} {ps : List Str} {Fs : FnS} {x : Str} {p pos : Pos} {a : Expr} {es : List Expr} {fa : AF}
theorem se_call (F : FOk X.prog X.w X.K X.mg X.base k f fd ps Fs) (hr : Room k X.A) (hm : X.mg x = some (.ref f)) (hk : PySem.W.keepIn X.K (.ref f) = true) (hb : Binds X.K fd ps []) (tk : Takes X W) (ha : SA X W (a :: es) fa)
    (hg : Gl X x := by rfl) (hdb : (x == ("__debug__" : Str)) = false := by decide) (he : starEach (a :: es) X.env = (false, eval a X.env) :: starEach es X.env := by rfl) (hpl : (backTo pos (starEach es X.env)).any (·.1) = false := by rfl) :
    SE X W (.Call (.Name x p) (a :: es) [] pos) (eFn ps.length Fs fa) :=
  ⟨(pe_callS F hr hg hm hk hb (passAt tk) ha.pa hdb he hpl).imp fun σ H Q ⟨ρ, e, M, R, S, p⟩ => ⟨ρ, e, M, R, S, (Po.bind (R := RVsr X.K) p).imp fun vs H1 ⟨ρ1, M1, l, E1, R1, r1, p1⟩ => by
    by_cases hl : l.length = ps.length
    · rw [if_pos hl] at p1
      refine ⟨ρ1, M1, l, R1, r1, hl, ?_⟩
      cases hF : Fs l M1 with
      | ok v M2 => rw [hF] at p1; exact p1
      | ex y M2 => rw [hF] at p1; exact p1
      | bad => rw [hF] at p1; exact p1.elim
    · rw [if_neg hl] at p1; exact p1.elim⟩⟩
end
end Sm

namespace Sm
open PySem L2
section
variable {K : PySem.W.Frag} {ρ : List Addr} {M : Mem} {H : Hp} {σ : St} {W : WX} {Q : VK}
theorem Po.val {x : Val} {v : V} (p : Po (RVr K) K ρ H σ W Q (.ok x M)) (R : Rel K ρ M H) (r : RV K ρ H x v) : Q v H := p ρ H v (Ext.refl _ _) R r
/-- a new tuple at q -/
theorem Po.newTup {l : List Val} {vs : List V} (p : Po (RVr K) K ρ H σ W Q (.ok (.tup l) M)) (R : Rel K ρ M H) (r : RVs K ρ H l vs) : ∀ q, H q = none → Q (.ref q) (upd H q (.tup vs)) := fun q hq => by
  have E := Ext.fresh (o := .tup vs) ρ hq
  exact p ρ _ _ E (R.fresh hq) ⟨q, vs, rfl, SqT.of upd_same, RVs.mono E _ _ r⟩
end
/-! ints -/
def small64 (k : Int) : Bool := decide (-(2 ^ 64) < k) && decide (k < 2 ^ 64)
theorem small64_ok {k : Int} (h : small64 k = true) : -(2 ^ 64) < k ∧ k < 2 ^ 64 := by
  unfold small64 at h
  rw [Bool.and_eq_true] at h
  exact ⟨of_decide_eq_true h.1, of_decide_eq_true h.2⟩
def getL (M : Mem) (n : Nat) : Option (List Val) := match M[n]? with
  | some (.lst l) => some l
  | _ => none
theorem getL_ok {M : Mem} {n : Nat} {l : List Val} (h : getL M n = some l) : M[n]? = some (.lst l) := by
  unfold getL at h
  split at h
  · rename_i hm; cases h; exact hm
  · cases h
def addV (x y : Val) (M : Mem) : Out Val := match x, y with
  | .int i, .int j => .ok (.int (i + j)) M
  | .str a, .str b => if a.length + b.length ≤ sizeLine then .ok (.str (a ++ b)) M else .bad
  | .tup a, .tup b => if a.length + b.length ≤ sizeLine then .ok (.tup (a ++ b)) M else .bad
  | .loc m, .loc n => match getL M m, getL M n with
    | some a, some b => if a.length + b.length ≤ sizeLine then .ok (.loc M.length) (M ++ [.lst (a ++ b)]) else .bad
    | _, _ => .bad
  | _, _ => .bad
def subV (x y : Val) (M : Mem) : Out Val := match x, y with
  | .int i, .int j => .ok (.int (i - j)) M
  | _, _ => .bad
def mulV (x y : Val) (M : Mem) : Out Val := match x, y with
  | .int i, .int j => if small64 i || small64 j then .ok (.int (i * j)) M else .bad
  | .loc n, .int k => match getL M n with
    | some l => if -(2 ^ 63) ≤ k ∧ k < 2 ^ 63 ∧ l.length * k.toNat ≤ sizeLine then .ok (.loc M.length) (M ++ [.lst (List.replicate k.toNat l).flatten]) else .bad
    | none => .bad
  | .tup l, .int k => if l ≠ [] ∧ 2 ≤ k ∧ k ≤ 1000 ∧ l.length ≤ 1000 then .ok (.tup (List.replicate k.toNat l).flatten) M else .bad
  | _, _ => .bad
def divV (x y : Val) (M : Mem) : Out Val := match x, y with
  | .int i, .int j => if 0 < j ∧ j < 1073741824 then .ok (.int (i / j)) M else .bad
  | _, _ => .bad
def modV (x y : Val) (M : Mem) : Out Val := match x, y with
  | .int i, .int j => if 0 < j then .ok (.int (i % j)) M else .bad
  | _, _ => .bad
def powV (x y : Val) (M : Mem) : Out Val := match x, y with
  | .int i, .int j => if 0 ≤ j ∧ j ≤ 1000000 ∧ i.natAbs < 2 ^ 64 then .ok (.int (i ^ j.toNat)) M else .bad
  | _, _ => .bad
def cmpV (p : Int → Int → Bool) (x y : Val) (M : Mem) : Out Val := match x, y with
  | .int i, .int j => .ok (.bl (p i j)) M
  | _, _ => .bad
def isNon : Val → Bool
  | .non => true
  | _ => false
def isN (x y : Val) (M : Mem) : Out Val := match y with
  | .non => .ok (.bl (isNon x)) M
  | _ => .bad
def notN (x y : Val) (M : Mem) : Out Val := match y with
  | .non => .ok (.bl (!isNon x)) M
  | _ => .bad
def negV (x : Val) (M : Mem) : Out Val := match x with
  | .int i => .ok (.int (-i)) M
  | _ => .bad
def rAddA (K : PySem.W.Frag) : R2 := fun x y H Q => (∃ i j, x = .int i ∧ y = .int j ∧ Q (.int (i + j)) H) ∨ (∃ i j, x = .str i ∧ y = .str j ∧ i.length + j.length ≤ sizeLine ∧ Q (.str (i ++ j)) H) ∨ rCatA K x y H Q ∨ rCat x y H Q
def rMulA (K : PySem.W.Frag) : R2 := fun x y H Q => rI CMul (fun i j => .int (i * j)) x y H Q ∨ rRep x y H Q ∨ rRepT K x y H Q
section
variable {X : Cx} {K : PySem.W.Frag}
theorem op_addA : OpR X (binaryOp .Add) (rAddA X.K) := OpR.or op_add (OpR.or op_add_str (OpR.or op_catA op_cat))
theorem op_mulA : OpR X (binaryOp .Mult) (rMulA X.K) := OpR.or op_mul (OpR.or op_rep op_repT)
theorem os_add : OpS K (rAddA K) addV := by
  intro ρ M H σ W Q x y v u R rx ry p
  unfold addV at p
  split at p
  · cases (show v = _ from rx); cases (show u = _ from ry); exact .inl ⟨_, _, rfl, rfl, p.val R rfl⟩
  · cases (show v = _ from rx); cases (show u = _ from ry)
    split at p
    · rename_i h; exact .inr (.inl ⟨_, _, rfl, rfl, h, p.val R rfl⟩)
    · exact p.elim
  · split at p
    · rename_i a b h
      obtain ⟨q, vs, e1, h1, r1⟩ := rx
      obtain ⟨q', vs', e2, h2, r2⟩ := ry
      subst e1 e2
      refine .inr (.inr (.inl ⟨q, q', vs, vs', rfl, rfl, h1, h2, by rw [r1.length, r2.length]; exact h, fun e => ?_, fun _ e => ?_, fun _ _ q3 hq3 => p.newTup R (r1.append r2) q3 hq3⟩))
      · have ea : a = [] := by
          have := r1.length
          rw [e] at this
          exact List.length_eq_zero_iff.mp this.symm
        subst ea
        exact p.val R ⟨q', vs', rfl, h2, r2⟩
      · have eb : b = [] := by
          have := r2.length
          rw [e] at this
          exact List.length_eq_zero_iff.mp this.symm
        subst eb
        rw [List.append_nil] at p
        exact p.val R ⟨q, vs, rfl, h1, r1⟩
    · exact p.elim
  · split at p
    · rename_i a b ha hb
      split at p
      · rename_i h
        obtain ⟨q, vs, e1, h1, h2, r1⟩ := R.lst (getL_ok ha) rx
        obtain ⟨q', vs', e2, h1', h2', r2⟩ := R.lst (getL_ok hb) ry
        exact .inr (.inr (.inr ⟨q, q', vs, vs', e1, e2, h2, h2', by rw [r1.length, r2.length]; exact h, p.newList R (r1.append r2)⟩))
      · exact p.elim
    · exact p.elim
  · exact p.elim
theorem os_sub : OpS K (rI0 fun i j => .int (i - j)) subV := by
  intro ρ M H σ W Q x y v u R rx ry p
  unfold subV at p
  split at p
  · cases (show v = _ from rx); cases (show u = _ from ry); exact ⟨_, _, rfl, rfl, p.val R rfl⟩
  · exact p.elim
theorem os_mul : OpS K (rMulA K) mulV := by
  intro ρ M H σ W Q x y v u R rx ry p
  unfold mulV at p
  split at p
  · cases (show v = _ from rx); cases (show u = _ from ry)
    split at p
    · rename_i h
      rw [Bool.or_eq_true] at h
      exact .inl ⟨_, _, rfl, rfl, h.imp small64_ok small64_ok, p.val R rfl⟩
    · exact p.elim
  · cases (show u = _ from ry)
    split at p
    · rename_i l hl
      split at p
      · rename_i h
        obtain ⟨q, vs, e1, h1, h2, r1⟩ := R.lst (getL_ok hl) rx
        exact .inr (.inl ⟨q, _, vs, e1, rfl, h2, h.1, h.2.1, by rw [r1.length]; exact h.2.2, p.newList R (r1.rep _)⟩)
      · exact p.elim
    · exact p.elim
  · cases (show u = _ from ry)
    split at p
    · rename_i l k h
      obtain ⟨q, vs, e1, h1, r1⟩ := rx
      refine .inr (.inr ⟨q, _, vs, e1, rfl, h1, ?_, h.2.1, h.2.2.1, by rw [r1.length]; exact h.2.2.2, p.newTup R (r1.rep _)⟩)
      rintro rfl
      have := r1.length
      exact h.1 (List.length_eq_zero_iff.mp this.symm)
    · exact p.elim
  · exact p.elim
theorem os_div : OpS K (rI CDiv fun i j => .int (i / j)) divV := by
  intro ρ M H σ W Q x y v u R rx ry p
  unfold divV at p
  split at p
  · cases (show v = _ from rx); cases (show u = _ from ry)
    split at p
    · rename_i h; exact ⟨_, _, rfl, rfl, h, p.val R rfl⟩
    · exact p.elim
  · exact p.elim
theorem os_mod : OpS K (rI (fun _ j => 0 < j) fun i j => .int (i % j)) modV := by
  intro ρ M H σ W Q x y v u R rx ry p
  unfold modV at p
  split at p
  · cases (show v = _ from rx); cases (show u = _ from ry)
    split at p
    · rename_i h; exact ⟨_, _, rfl, rfl, h, p.val R rfl⟩
    · exact p.elim
  · exact p.elim
theorem os_pow : OpS K (rI CPow fun i j => .int (i ^ j.toNat)) powV := by
  intro ρ M H σ W Q x y v u R rx ry p
  unfold powV at p
  split at p
  · cases (show v = _ from rx); cases (show u = _ from ry)
    split at p
    · rename_i h; exact ⟨_, _, rfl, rfl, h, p.val R rfl⟩
    · exact p.elim
  · exact p.elim
theorem os_cmp {g : Int → Int → Bool} : OpS K (rI0 fun i j => .bl (g i j)) (cmpV g) := by
  intro ρ M H σ W Q x y v u R rx ry p
  unfold cmpV at p
  split at p
  · cases (show v = _ from rx); cases (show u = _ from ry); exact ⟨_, _, rfl, rfl, p.val R rfl⟩
  · exact p.elim
theorem RV.non_iff {ρ : List Addr} {H : Hp} {x : Val} {v : V} (r : RV K ρ H x v) : decide (v = .non) = isNon x := by
  cases x with
  | non => cases (show v = _ from r); rfl
  | bl _ => cases (show v = _ from r); rfl
  | int _ => cases (show v = _ from r); rfl
  | str _ => cases (show v = _ from r); rfl
  | tup _ => obtain ⟨_, _, e, _⟩ := r; subst e; rfl
  | frz _ => obtain ⟨_, e, _⟩ := r; subst e; rfl
  | loc _ => obtain ⟨_, e, _⟩ := r; subst e; rfl
theorem os_isN : OpS K (fun x y H Q => y = .non ∧ Q (.bl (decide (x = .non))) H) isN := by
  intro ρ M H σ W Q x y v u R rx ry p
  unfold isN at p
  split at p
  · exact ⟨ry, by rw [rx.non_iff]; exact p.val R rfl⟩
  · exact p.elim
theorem os_notN : OpS K (fun x y H Q => y = .non ∧ Q (.bl (!decide (x = .non))) H) notN := by
  intro ρ M H σ W Q x y v u R rx ry p
  unfold notN at p
  split at p
  · exact ⟨ry, by rw [rx.non_iff]; exact p.val R rfl⟩
  · exact p.elim
theorem us_neg : UnS K (rU fun i => .int (-i)) negV := by
  intro ρ M H σ W Q x v R rx p
  unfold negV at p
  split at p
  · cases (show v = _ from rx); exact ⟨_, rfl, p.val R rfl⟩
  · exact p.elim
end
/-! data -/
def toD (M : Mem) : Nat → Val → Option PyData
  | 0, _ => none
  | k + 1, x => match x with
    | .non => some .none
    | .bl b => some (.bool b)
    | .int i => some (.int i)
    | .str s => some (.str s)
    | .tup l => (l.mapM (toD M k)).map .tuple
    | .frz l => some (.list (l.map .int))
    | .loc n => match getL M n with
      | some l => (l.mapM (toD M k)).map .list
      | none => none
section
variable {K : PySem.W.Frag} {ρ : List Addr} {M : Mem} {H : Hp}
theorem dpAll_ints : ∀ l : List Int, DpAll K H (l.map V.int) (l.map PyData.int)
  | [] => .nil
  | i :: l => .cons (.int i) (dpAll_ints l)
theorem toD_all {k : Nat} (ih : ∀ x v d, RV K ρ H x v → toD M k x = some d → Dp K H v d) : ∀ {l : List Val} {vs : List V} {ds : List PyData}, RVs K ρ H l vs → l.mapM (toD M k) = some ds → DpAll K H vs ds
  | [], vs, ds, r, h => by
    cases (show vs = [] from r)
    simp at h
    subst h
    exact .nil
  | x :: l, vs, ds, ⟨v, us, e, r1, r2⟩, h => by
    subst e
    rw [List.mapM_cons] at h
    cases hx : toD M k x with
    | none => rw [hx] at h; simp at h
    | some d =>
      cases hl : l.mapM (toD M k) with
      | none => rw [hx, hl] at h; simp at h
      | some ds' =>
        rw [hx, hl] at h
        simp at h
        subst h
        exact .cons (ih _ _ _ r1 hx) (toD_all ih r2 hl)
theorem toD_ok (R : Rel K ρ M H) : ∀ (k : Nat) (x : Val) (v : V) (d : PyData), RV K ρ H x v → toD M k x = some d → Dp K H v d
  | 0, _, _, _, _, h => by cases h
  | k + 1, x, v, d, r, h => by
    unfold toD at h
    cases x with
    | non => cases (show v = _ from r); cases h; exact .non
    | bl b => cases (show v = _ from r); cases h; exact .bl b
    | int i => cases (show v = _ from r); cases h; exact .int i
    | str s => cases (show v = _ from r); cases h; exact .str s
    | tup l =>
      obtain ⟨a, vs, e, h1, h2⟩ := r
      subst e
      simp only at h
      cases hl : l.mapM (toD M k) with
      | none => rw [hl] at h; cases h
      | some ds => rw [hl] at h; cases h; exact .tup h1 (toD_all (toD_ok R k) h2 hl)
    | frz l =>
      obtain ⟨a, e, h1⟩ := r
      subst e
      cases h
      exact .lst h1.sq (dpAll_ints l)
    | loc n =>
      simp only at h
      cases hg : getL M n with
      | none => rw [hg] at h; cases h
      | some l =>
        rw [hg] at h
        simp only at h
        obtain ⟨a, vs, e1, h1, h2, h3⟩ := R.lst (getL_ok hg) r
        subst e1
        cases hl : l.mapM (toD M k) with
        | none => rw [hl] at h; cases h
        | some ds => rw [hl] at h; cases h; exact .lst (SqL.of h2) (toD_all (toD_ok R k) h3 hl)
end
def eqD (x y : Val) (M : Mem) : Option Bool := match x, y with
  | .int i, .int j => some (decide (i = j))
  | .str a, .str b => some (decide (a = b))
  | .bl a, .bl b => some (decide (a = b))
  | x, y => match toD M 8 x, toD M 8 y with
    | some d, some e => if SeqAt.shaped d && SeqAt.shaped e then some (PyData.eqv d e) else none
    | _, _ => none
def eqV (x y : Val) (M : Mem) : Out Val := match eqD x y M with
  | some b => .ok (.bl b) M
  | none => .bad
def neV (x y : Val) (M : Mem) : Out Val := match eqD x y M with
  | some b => .ok (.bl (!b)) M
  | none => .bad
section
variable {X : Cx} {K : PySem.W.Frag} {ρ : List Addr} {M : Mem} {H : Hp}
theorem eqD_ok {x y : Val} {v u : V} {b : Bool} (R : Rel K ρ M H) (rx : RV K ρ H x v) (ry : RV K ρ H y u) (h : eqD x y M = some b) : (scal v u = true ∧ decide (v = u) = b) ∨ (∃ d e, Dp K H v d ∧ Dp K H u e ∧ SeqAt.shaped d = true ∧ SeqAt.shaped e = true ∧ PyData.eqv d e = b) := by
  unfold eqD at h
  split at h
  · cases (show v = _ from rx); cases (show u = _ from ry); cases h; exact .inl ⟨rfl, by simp⟩
  · cases (show v = _ from rx); cases (show u = _ from ry); cases h; exact .inl ⟨rfl, by simp⟩
  · cases (show v = _ from rx); cases (show u = _ from ry); cases h; exact .inl ⟨rfl, by simp⟩
  · split at h
    · rename_i d e hd he
      split at h
      · rename_i hs
        rw [Bool.and_eq_true] at hs
        cases h
        exact .inr ⟨d, e, toD_ok R _ _ _ _ rx hd, toD_ok R _ _ _ _ ry he, hs.1, hs.2, rfl⟩
      · cases h
    · cases h
theorem op_eqA (hu : X.A.units + 64 < cLine) : OpR X (compareOp .Eq) (fun x y H Q => rEq x y H Q ∨ rEqD X.K x y H Q) := OpR.or op_eq (op_eqD hu)
theorem op_neA (hu : X.A.units + 64 < cLine) : OpR X (compareOp .NotEq) (fun x y H Q => rNe x y H Q ∨ rNeD X.K x y H Q) := OpR.or op_ne (op_neD hu)
theorem os_eq : OpS K (fun x y H Q => rEq x y H Q ∨ rEqD K x y H Q) eqV := by
  intro ρ M H σ W Q x y v u R rx ry p
  unfold eqV at p
  split at p
  · rename_i b h
    rcases eqD_ok R rx ry h with ⟨h1, h2⟩ | ⟨d, e, h1, h2, h3, h4, h5⟩
    · exact .inl ⟨h1, by rw [h2]; exact p.val R rfl⟩
    · exact .inr ⟨d, e, h1, h2, h3, h4, by rw [h5]; exact p.val R rfl⟩
  · exact p.elim
theorem os_ne : OpS K (fun x y H Q => rNe x y H Q ∨ rNeD K x y H Q) neV := by
  intro ρ M H σ W Q x y v u R rx ry p
  unfold neV at p
  split at p
  · rename_i b h
    rcases eqD_ok R rx ry h with ⟨h1, h2⟩ | ⟨d, e, h1, h2, h3, h4, h5⟩
    · exact .inl ⟨h1, by rw [h2]; exact p.val R rfl⟩
    · exact .inr ⟨d, e, h1, h2, h3, h4, by rw [h5]; exact p.val R rfl⟩
  · exact p.elim
end
/-! in -/
def flat : Val → Bool
  | .non => true
  | .bl _ => true
  | .int _ => true
  | .str _ => true
  | _ => false
def eqF : Val → Val → Bool
  | .non, .non => true
  | .bl a, .bl b => a == b
  | .bl a, .int b => (if a then 1 else 0) == b
  | .int a, .bl b => a == (if b then 1 else 0)
  | .int a, .int b => a == b
  | .str a, .str b => a == b
  | _, _ => false
def inD (x y : Val) (M : Mem) : Option Bool := match y with
  | .tup l => if flat x && l.all flat then some (l.any fun z => eqF z x) else none
  | .frz l => if flat x then some (l.any fun z => eqF (.int z) x) else none
  | .loc n => match getL M n with
    | some l => if flat x && l.all flat then some (l.any fun z => eqF z x) else (match toD M 8 x, l.mapM (toD M 7) with
      | some d, some ds => if SeqAt.shaped d && SeqAt.shaped (.list ds) then some (ds.any fun z => PyData.eqv z d) else none
      | _, _ => none)
    | none => none
  | .str j => (match x with
    | .str i => some (!(Builtin.Str.occurrences j i 0 j.length 1).isEmpty)
    | _ => none)
  | _ => none
def inV (x y : Val) (M : Mem) : Out Val := match inD x y M with
  | some b => .ok (.bl b) M
  | none => .bad
def notInV (x y : Val) (M : Mem) : Out Val := match inD x y M with
  | some b => .ok (.bl (!b)) M
  | none => .bad
section
variable {X : Cx} {K : PySem.W.Frag} {ρ : List Addr} {M : Mem} {H : Hp}
theorem flat_ok {x : Val} {v : V} (r : RV K ρ H x v) : flatV v = flat x := by
  cases x with
  | non => cases (show v = _ from r); rfl
  | bl _ => cases (show v = _ from r); rfl
  | int _ => cases (show v = _ from r); rfl
  | str _ => cases (show v = _ from r); rfl
  | tup _ => obtain ⟨_, _, e, _⟩ := r; subst e; rfl
  | frz _ => obtain ⟨_, e, _⟩ := r; subst e; rfl
  | loc _ => obtain ⟨_, e, _⟩ := r; subst e; rfl
theorem eqF_ok {x y : Val} {v u : V} (rx : RV K ρ H x v) (ry : RV K ρ H y u) (fx : flat x = true) (fy : flat y = true) : L2.eqV v u = eqF x y := by
  cases x with
  | non => cases (show v = _ from rx); cases y <;> first | (cases (show u = _ from ry); rfl) | cases fy
  | bl _ => cases (show v = _ from rx); cases y <;> first | (cases (show u = _ from ry); rfl) | cases fy
  | int _ => cases (show v = _ from rx); cases y <;> first | (cases (show u = _ from ry); rfl) | cases fy
  | str _ => cases (show v = _ from rx); cases y <;> first | (cases (show u = _ from ry); rfl) | cases fy
  | _ => cases fx
theorem flats_ok : ∀ {l : List Val} {vs : List V}, RVs K ρ H l vs → vs.all flatV = l.all flat
  | [], _, h => by cases (show _ = [] from h); rfl
  | x :: l, _, ⟨v, us, e, r1, r2⟩ => by subst e; rw [List.all_cons, List.all_cons, flat_ok r1, flats_ok r2]
theorem anyF_ok {x : Val} {v : V} (rx : RV K ρ H x v) (fx : flat x = true) : ∀ {l : List Val} {vs : List V}, RVs K ρ H l vs → l.all flat = true → L2.inV v vs = l.any fun z => eqF z x
  | [], _, h, _ => by cases (show _ = [] from h); rfl
  | z :: l, _, ⟨w, us, e, r1, r2⟩, f => by
    subst e
    rw [List.all_cons, Bool.and_eq_true] at f
    unfold L2.inV
    rw [List.any_cons, List.any_cons, eqF_ok r1 rx f.1 fx]
    congr 1
    exact anyF_ok rx fx r2 f.2
theorem ints_any {x : Val} : ∀ l : List Int, (l.any fun z => eqF (.int z) x) = (l.map Val.int).any fun z => eqF z x
  | [] => rfl
  | i :: l => by rw [List.any_cons, List.map_cons, List.any_cons, ints_any l]
theorem ints_flat : ∀ l : List Int, (l.map Val.int).all flat = true
  | [] => rfl
  | i :: l => by rw [List.map_cons, List.all_cons, ints_flat l]; rfl
theorem inD_ok {x y : Val} {v u : V} {b : Bool} (R : Rel K ρ M H) (rx : RV K ρ H x v) (ry : RV K ρ H y u) (h : inD x y M = some b) :
    (∃ p xs, u = .ref p ∧ (SqL K H p xs ∨ SqT K H p xs) ∧ flatV v = true ∧ xs.all flatV = true ∧ L2.inV v xs = b) ∨ (∃ d ds, Dp K H v d ∧ Dp K H u (.list ds) ∧ SeqAt.shaped d = true ∧ SeqAt.shaped (.list ds) = true ∧ (ds.any fun z => PyData.eqv z d) = b) ∨
      ∃ i j, v = .str i ∧ u = .str j ∧ (!(Builtin.Str.occurrences j i 0 j.length 1).isEmpty) = b := by
  unfold inD at h
  split at h
  · split at h
    · rename_i l hf
      rw [Bool.and_eq_true] at hf
      cases h
      obtain ⟨a, vs, e, h1, h2⟩ := ry
      exact .inl ⟨a, vs, e, .inr h1, by rw [flat_ok rx]; exact hf.1, by rw [flats_ok h2]; exact hf.2, anyF_ok rx hf.1 h2 hf.2⟩
    · cases h
  · split at h
    · rename_i l hf
      cases h
      obtain ⟨a, e, h1⟩ := ry
      have r : RVs K ρ H (l.map Val.int) (l.map V.int) := (RVs.ints l).mpr rfl
      exact .inl ⟨a, _, e, .inl h1.sq, by rw [flat_ok rx]; exact hf, by rw [flats_ok r]; exact ints_flat l, by rw [anyF_ok rx hf r (ints_flat l), ints_any]⟩
    · cases h
  · split at h
    · rename_i n l hl
      obtain ⟨a, vs, e, h1, h2, h3⟩ := R.lst (getL_ok hl) ry
      split at h
      · rename_i hf
        rw [Bool.and_eq_true] at hf
        cases h
        exact .inl ⟨a, vs, e, .inl (SqL.of h2), by rw [flat_ok rx]; exact hf.1, by rw [flats_ok h3]; exact hf.2, anyF_ok rx hf.1 h3 hf.2⟩
      · split at h
        · rename_i d ds hd hds
          split at h
          · rename_i hs
            rw [Bool.and_eq_true] at hs
            cases h
            subst e
            exact .inr (.inl ⟨d, ds, toD_ok R _ _ _ _ rx hd, .lst (SqL.of h2) (toD_all (toD_ok R 7) h3 hds), hs.1, hs.2, rfl⟩)
          · cases h
        · cases h
    · cases h
  · split at h
    · cases (show v = _ from rx); cases (show u = _ from ry); cases h; exact .inr (.inr ⟨_, _, rfl, rfl, rfl⟩)
    · cases h
  · cases h
def rInA (K : PySem.W.Frag) : R2 := fun x y H Q => rIn K false x y H Q ∨ rInD K x y H Q ∨ (∃ i j, x = .str i ∧ y = .str j ∧ Q (.bl (!(Builtin.Str.occurrences j i 0 j.length 1).isEmpty)) H)
def rNotInA (K : PySem.W.Frag) : R2 := fun x y H Q => rIn K true x y H Q ∨ rNotInD K x y H Q ∨ (∃ i j, x = .str i ∧ y = .str j ∧ Q (.bl (!(!(Builtin.Str.occurrences j i 0 j.length 1).isEmpty))) H)
theorem op_inA (hu : X.A.units + 65 < cLine) : OpR X (compareOp .In) (rInA X.K) := OpR.or op_in_seq (OpR.or (op_inD hu) op_in_str)
theorem op_notInA (hu : X.A.units + 65 < cLine) : OpR X (compareOp .NotIn) (rNotInA X.K) := OpR.or op_notIn_seq (OpR.or (op_notInD hu) op_notin_str)
theorem os_in : OpS K (rInA K) inV := by
  intro ρ M H σ W Q x y v u R rx ry p
  unfold inV at p
  split at p
  · rename_i b h
    rcases inD_ok R rx ry h with ⟨q, xs, h1, h2, h3, h4, h5⟩ | ⟨d, ds, h1, h2, h3, h4, h5⟩ | ⟨i, j, h1, h2, h3⟩
    · exact .inl ⟨q, xs, h1, h2, h3, h4, by simp only [h5]; exact p.val R rfl⟩
    · exact .inr (.inl ⟨d, ds, h1, h2, h3, h4, by rw [h5]; exact p.val R rfl⟩)
    · exact .inr (.inr ⟨i, j, h1, h2, by rw [h3]; exact p.val R rfl⟩)
  · exact p.elim
theorem os_notIn : OpS K (rNotInA K) notInV := by
  intro ρ M H σ W Q x y v u R rx ry p
  unfold notInV at p
  split at p
  · rename_i b h
    rcases inD_ok R rx ry h with ⟨q, xs, h1, h2, h3, h4, h5⟩ | ⟨d, ds, h1, h2, h3, h4, h5⟩ | ⟨i, j, h1, h2, h3⟩
    · exact .inl ⟨q, xs, h1, h2, h3, h4, by simp only [h5]; exact p.val R rfl⟩
    · exact .inr (.inl ⟨d, ds, h1, h2, h3, h4, by rw [h5]; exact p.val R rfl⟩)
    · exact .inr (.inr ⟨i, j, h1, h2, by rw [h3]; exact p.val R rfl⟩)
  · exact p.elim
end
/-! subscripts, slices -/
def ixV (x y : Val) (M : Mem) : Out Val := match x, y with
  | .tup l, .int i => (match atI l i with
    | some v => .ok v M
    | none => .bad)
  | .frz l, .int i => (match atI l i with
    | some v => .ok (.int v) M
    | none => .bad)
  | .loc n, .int i => (match getL M n with
    | some l => (match atI l i with
      | some v => .ok v M
      | none => .bad)
    | none => .bad)
  | .str z, .int i => if z.length ≤ sizeLine then (match atI z.cps.toList i with
    | some c => .ok (.str ⟨#[c]⟩) M
    | none => .bad) else .bad
  | _, _ => .bad
section
variable {X : Cx} {K : PySem.W.Frag} {ρ : List Addr} {M : Mem} {H : Hp}
theorem RVs.atI {l : List Val} {vs : List V} {i : Int} {x : Val} (r : RVs K ρ H l vs) (h : L2.atI l i = some x) : ∃ v, L2.atI vs i = some v ∧ RV K ρ H x v := by
  unfold L2.atI at h ⊢
  rw [r.length]
  cases hj : ixN l.length i with
  | none => rw [hj] at h; cases h
  | some j =>
    rw [hj] at h
    simp only [Option.bind_some] at h ⊢
    exact r.get h
theorem os_ix : OpS K (rIx K) ixV := by
  intro ρ M H σ W Q x y v u R rx ry p
  unfold ixV at p
  split at p
  · cases (show u = _ from ry)
    split at p
    · rename_i h
      obtain ⟨a, vs, e, h1, h2⟩ := rx
      obtain ⟨w, h3, h4⟩ := h2.atI h
      exact .inr (.inl ⟨a, vs, _, w, e, rfl, h1, h3, p.val R h4⟩)
    · exact p.elim
  · cases (show u = _ from ry)
    split at p
    · rename_i l i o w h
      obtain ⟨a, e, h1⟩ := rx
      refine .inl ⟨a, _, _, _, e, rfl, h1.sq, ?_, p.val R rfl⟩
      unfold L2.atI at h ⊢
      rw [List.length_map]
      cases hj : ixN l.length i with
      | none => rw [hj] at h; cases h
      | some j =>
        rw [hj] at h
        simp only [Option.bind_some] at h ⊢
        rw [List.getElem?_map, h]; rfl
    · exact p.elim
  · cases (show u = _ from ry)
    split at p
    · rename_i l hl
      split at p
      · rename_i h
        obtain ⟨a, vs, e, h1, h2, h3⟩ := R.lst (getL_ok hl) rx
        obtain ⟨w, h4, h5⟩ := h3.atI h
        exact .inl ⟨a, vs, _, w, e, rfl, SqL.of h2, h4, p.val R h5⟩
      · exact p.elim
    · exact p.elim
  · cases (show v = _ from rx); cases (show u = _ from ry)
    split at p
    · rename_i hz
      split at p
      · rename_i h
        exact .inr (.inr ⟨_, _, _, rfl, rfl, hz, h, p.val R rfl⟩)
      · exact p.elim
    · exact p.elim
  · exact p.elim
end
/-- parts of a slice -/
def cutL {α : Type} (xs : List α) (lo hi : Option Int) : List α := (xs.drop (HT.sIx xs.length 0 lo)).take (HT.sIx xs.length xs.length hi - HT.sIx xs.length 0 lo)
abbrev OF := Sl → Mem → Out (Option Int)
def oNone : OF := fun _ M => .ok none M
def oSome (f : EF) : OF := fun e M => (f e M).bind fun x M1 => match x with
  | .int i => .ok (some i) M1
  | _ => .bad
def slV (x : Val) (lo hi : Option Int) (M : Mem) : Out Val := match x with
  | .tup l => .ok (.tup (cutL l lo hi)) M
  | .loc n => (match getL M n with
    | some l => .ok (.loc M.length) (M ++ [.lst (cutL l lo hi)])
    | none => .bad)
  | _ => .bad
def eSl (f : EF) (l h : OF) : EF := fun e M => (f e M).bind fun x M1 => (l e M1).bind fun lo M2 => (h e M2).bind fun hi M3 => slV x lo hi M3
section
variable {X : Cx} {W : WX} {K : PySem.W.Frag} {ρ : List Addr} {M : Mem} {H : Hp} {a : Expr} {fa : EF} {pos p2 : Pos} {lo hi : Option Expr} {l h : OF}
abbrev Oeq (K : PySem.W.Frag) : RR (Option Int) (Option Int) := fun _ _ x v => x = v
structure SO' (X : Cx) (W : WX) (e : Option Expr) (f : OF) : Prop where
  po : PO X e (fun σ H Q => ∃ ρ e M, Rel X.K ρ M H ∧ SlR X.K ρ H e σ ∧ Po (Oeq X.K) X.K ρ H σ W Q (f e M))
theorem PO.imp {e : Option Expr} {t t' : TO} (h : PO X e t) (i : ∀ σ H Q, t' σ H Q → t σ H Q) : PO X e t' := ⟨fun pins s σ H Q I q => h.run pins s σ H Q I (i σ H Q q)⟩
theorem so_none : SO' X W none oNone := ⟨PO.imp po_none fun σ H Q ⟨ρ, e, M, R, S, p⟩ => p ρ H none (Ext.refl _ _) R rfl⟩
theorem so_some (ha : SE X W a fa) : SO' X W (some a) (oSome fa) := ⟨PO.imp (po_some ha.pe) fun σ H Q ⟨ρ, e, M, R, S, p⟩ => ⟨ρ, e, M, R, S, (Po.bind (R := RVr X.K) p).imp fun v H1 ⟨ρ1, M1, x, E1, R1, r1, p1⟩ => by
  cases x with
  | int i => cases (show v = _ from r1); exact ⟨i, rfl, p1 ρ1 H1 _ (Ext.refl _ _) R1 rfl⟩
  | _ => exact p1.elim⟩⟩
theorem RVs.cut {l : List Val} {vs : List V} (lo hi : Option Int) (r : RVs K ρ H l vs) : RVs K ρ H (cutL l lo hi) (cutV vs lo hi) := by
  unfold cutL cutV
  rw [r.length]
  exact (r.drop _).take _
theorem cutL_whole {l : List Val} {lo hi : Option Int} (h : HT.sIx l.length 0 lo = 0 ∧ HT.sIx l.length l.length hi = l.length) : cutL l lo hi = l := by
  unfold cutL
  rw [h.1, h.2]
  simp
theorem se_slice (ha : SE X W a fa) (hl : SO' X W lo l) (hh : SO' X W hi h) : SE X W (.Subscript a (.Slice lo hi none p2) pos) (eSl fa l h) :=
  ⟨(pe_slice (SlR.or (sl_tupA (X := X)) sl_list) ha.pe hl.po hh.po).imp fun σ H Q ⟨ρ, e, M, R, S, p⟩ => ⟨ρ, e, M, R, S, (Po.bind p).imp fun v H1 ⟨ρ1, M1, x, E1, R1, r1, p1⟩ => ⟨ρ1, e, M1, R1, S.mono E1, (Po.bind (R := Oeq X.K) p1).imp fun lo' H2 ⟨ρ2, M2, lo, E2, R2, r2, p2⟩ =>
    ⟨ρ2, e, M2, R2, (S.mono E1).mono E2, (Po.bind (R := Oeq X.K) p2).imp fun hi' H3 ⟨ρ3, M3, hi, E3, R3, r3, p3⟩ => by
      cases (show lo = lo' from r2)
      cases (show hi = hi' from r3)
      have r := RV.mono (E2.trans E3) _ _ r1
      unfold slV at p3
      split at p3
      · rename_i l
        obtain ⟨q, vs, e1, h1, h2⟩ := r
        refine .inl ⟨q, vs, e1, h1, fun hw => ?_, fun _ => p3.newTup R3 (h2.cut _ _)⟩
        rw [h2.length] at hw
        rw [cutL_whole hw] at p3
        exact p3.val R3 ⟨q, vs, rfl, h1, h2⟩
      · split at p3
        · rename_i n l hl
          obtain ⟨q, vs, e1, h1, h2, h3⟩ := R3.lst (getL_ok hl) r
          exact .inr ⟨q, vs, e1, SqL.of h2, p3.newList R3 (h3.cut _ _)⟩
        · exact p3.elim
      · exact p3.elim⟩⟩⟩⟩
end
end Sm

namespace Sm
open PySem L2
/-! built-ins: len, tuple, list, int, isinstance, sorted, sum, .. -/
def lenV : FnS := fun l M => match l with
  | [.tup l] => .ok (.int l.length) M
  | [.frz l] => .ok (.int l.length) M
  | [.loc n] => (match getL M n with
    | some l => .ok (.int l.length) M
    | none => .bad)
  | [.str y] => if y.length ≤ sizeLine then .ok (.int y.length) M else .bad
  | _ => .bad
def tupleV : FnS := fun l M => match l with
  | [.tup l] => .ok (.tup l) M
  | [.loc n] => (match getL M n with
    | some l => .ok (.tup l) M
    | none => .bad)
  | _ => .bad
def listV : FnS := fun l M => match l with
  | [.tup l] => .ok (.loc M.length) (M ++ [.lst l])
  | [.loc n] => (match getL M n with
    | some l => .ok (.loc M.length) (M ++ [.lst l])
    | none => .bad)
  | _ => .bad
def intV : FnS := fun l M => match l with
  | [.int i] => .ok (.int i) M
  | [.bl b] => .ok (.int (if b then 1 else 0)) M
  | _ => .bad
def absV1 : FnS := fun l M => match l with
  | [.int i] => .ok (.int (if i < 0 then -i else i)) M
  | _ => .bad
def max2V : FnS := fun l M => match l with
  | [.int i, .int j] => .ok (.int (if j > i then j else i)) M
  | _ => .bad
def min2V : FnS := fun l M => match l with
  | [.int i, .int j] => .ok (.int (if j < i then j else i)) M
  | _ => .bad
/-- a list of intsOf -/
def intsOf : List Val → Option (List Int)
  | [] => some []
  | .int i :: l => (intsOf l).map (i :: ·)
  | _ => none
def boolsOf : List Val → Option (List Bool)
  | [] => some []
  | .bl i :: l => (boolsOf l).map (i :: ·)
  | _ => none
/-- the intsOf in order -/
def insI (x : Int) : List Int → List Int
  | [] => [x]
  | y :: l => if x ≤ y then x :: y :: l else y :: insI x l
def sortI : List Int → List Int
  | [] => []
  | x :: l => insI x (sortI l)
def sortedV : FnS := fun l M => match l with
  | [.loc n] => (match (getL M n).bind intsOf with
    | some l => if l.length < 64 then .ok (.loc M.length) (M ++ [.lst ((sortI l).map .int)]) else .bad
    | none => .bad)
  | _ => .bad
def sumV : FnS := fun l M => match l with
  | [.loc n] => (match (getL M n).bind intsOf with
    | some l => .ok (.int l.sum) M
    | none => .bad)
  | _ => .bad
/-- the greatest, the least -/
def maxL : List Int → Int
  | [] => 0
  | [x] => x
  | x :: l => max x (maxL l)
def minL : List Int → Int
  | [] => 0
  | [x] => x
  | x :: l => min x (minL l)
def maxV : FnS := fun l M => match l with
  | [.loc n] => (match (getL M n).bind intsOf with
    | some l => if 0 < l.length then .ok (.int (maxL l)) M else .bad
    | none => .bad)
  | _ => .bad
def minV : FnS := fun l M => match l with
  | [.loc n] => (match (getL M n).bind intsOf with
    | some l => if 0 < l.length then .ok (.int (minL l)) M else .bad
    | none => .bad)
  | _ => .bad
def anyV : FnS := fun l M => match l with
  | [.loc n] => (match (getL M n).bind boolsOf with
    | some l => .ok (.bl (l.any id)) M
    | none => .bad)
  | _ => .bad
def allV : FnS := fun l M => match l with
  | [.loc n] => (match (getL M n).bind boolsOf with
    | some l => .ok (.bl (l.all id)) M
    | none => .bad)
  | _ => .bad
section
variable {K : PySem.W.Frag} {ρ : List Addr} {M : Mem} {H : Hp}
theorem rv1 {x : Val} {vs : List V} (r : RVs K ρ H [x] vs) : ∃ v, vs = [v] ∧ RV K ρ H x v := by
  obtain ⟨v, us, e, r1, r2⟩ := r
  cases (show us = [] from r2)
  exact ⟨v, e, r1⟩
theorem rv2 {x y : Val} {vs : List V} (r : RVs K ρ H [x, y] vs) : ∃ v u, vs = [v, u] ∧ RV K ρ H x v ∧ RV K ρ H y u := by
  obtain ⟨v, us, e, r1, u, us', e', r2, r3⟩ := r
  cases (show us' = [] from r3)
  subst e'
  exact ⟨v, u, e, r1, r2⟩
theorem ints_ok : ∀ {l : List Val} {ns : List Int}, intsOf l = some ns → l = ns.map .int
  | [], ns, h => by cases h; rfl
  | .int i :: l, ns, h => by
    unfold intsOf at h
    cases hl : intsOf l with
    | none => rw [hl] at h; cases h
    | some ms => rw [hl] at h; cases h; rw [ints_ok hl]; rfl
  | .non :: _, _, h => by cases h
  | .bl _ :: _, _, h => by cases h
  | .str _ :: _, _, h => by cases h
  | .tup _ :: _, _, h => by cases h
  | .frz _ :: _, _, h => by cases h
  | .loc _ :: _, _, h => by cases h
theorem bools_ok : ∀ {l : List Val} {ns : List Bool}, boolsOf l = some ns → l = ns.map .bl
  | [], ns, h => by cases h; rfl
  | .bl i :: l, ns, h => by
    unfold boolsOf at h
    cases hl : boolsOf l with
    | none => rw [hl] at h; cases h
    | some ms => rw [hl] at h; cases h; rw [bools_ok hl]; rfl
  | .non :: _, _, h => by cases h
  | .int _ :: _, _, h => by cases h
  | .str _ :: _, _, h => by cases h
  | .tup _ :: _, _, h => by cases h
  | .frz _ :: _, _, h => by cases h
  | .loc _ :: _, _, h => by cases h
theorem RVs.bools : ∀ (l : List Bool) {vs : List V}, RVs K ρ H (l.map Val.bl) vs → vs = l.map V.bl
  | [], vs, h => h
  | i :: l, vs, ⟨v, r, h1, h2, h3⟩ => by
    cases (show v = V.bl i from h2)
    rw [h1, RVs.bools l h3]
    rfl
/-- a list of intsOf in the memory -/
theorem Rel.ints (R : Rel K ρ M H) {n : Nat} {ns : List Int} {v : V} (h : (getL M n).bind Sm.intsOf = some ns) (r : RV K ρ H (.loc n) v) : ∃ a, v = .ref a ∧ H a = some (.lst (ns.map V.int)) := by
  cases hg : getL M n with
  | none => rw [hg] at h; cases h
  | some l =>
    rw [hg] at h
    have e := ints_ok h
    subst e
    obtain ⟨a, vs, e1, h1, h2, h3⟩ := R.lst (getL_ok hg) r
    rw [(RVs.ints ns).mp h3] at h2
    exact ⟨a, e1, h2⟩
theorem Rel.bools (R : Rel K ρ M H) {n : Nat} {ns : List Bool} {v : V} (h : (getL M n).bind Sm.boolsOf = some ns) (r : RV K ρ H (.loc n) v) : ∃ a, v = .ref a ∧ H a = some (.lst (ns.map V.bl)) := by
  cases hg : getL M n with
  | none => rw [hg] at h; cases h
  | some l =>
    rw [hg] at h
    have e := bools_ok h
    subst e
    obtain ⟨a, vs, e1, h1, h2, h3⟩ := R.lst (getL_ok hg) r
    rw [RVs.bools ns h3] at h2
    exact ⟨a, e1, h2⟩
theorem insI_perm (x : Int) : ∀ l : List Int, (insI x l).Perm (x :: l)
  | [] => .refl _
  | y :: l => by
    unfold insI
    split
    · exact .refl _
    · exact ((insI_perm x l).cons y).trans (.swap x y l)
theorem sortI_perm : ∀ l : List Int, (sortI l).Perm l
  | [] => .refl _
  | x :: l => (insI_perm x _).trans ((sortI_perm l).cons x)
theorem insI_pair (x : Int) : ∀ l : List Int, l.Pairwise (· ≤ ·) → (insI x l).Pairwise (· ≤ ·)
  | [], _ => by simp [insI]
  | y :: l, h => by
    rw [List.pairwise_cons] at h
    unfold insI
    split
    · rename_i hxy
      rw [List.pairwise_cons]
      refine ⟨fun z hz => ?_, List.pairwise_cons.mpr h⟩
      rcases List.mem_cons.mp hz with rfl | hz
      · exact hxy
      · exact Int.le_trans hxy (h.1 z hz)
    · rename_i hxy
      rw [List.pairwise_cons]
      refine ⟨fun z hz => ?_, insI_pair x l h.2⟩
      have := (insI_perm x l).mem_iff.mp hz
      rcases List.mem_cons.mp this with rfl | hz
      · omega
      · exact h.1 z hz
theorem sortI_pair : ∀ l : List Int, (sortI l).Pairwise (· ≤ ·)
  | [] => .nil
  | x :: l => insI_pair x _ (sortI_pair l)
theorem sorted_one : ∀ {l m : List Int}, l.Perm m → l.Pairwise (· ≤ ·) → m.Pairwise (· ≤ ·) → l = m
  | [], m, h, _, _ => h.symm.eq_nil.symm
  | x :: l, [], h, _, _ => absurd h.length_eq (by simp)
  | x :: l, y :: m, h, h1, h2 => by
    rw [List.pairwise_cons] at h1 h2
    have hx : x ∈ y :: m := h.mem_iff.mp List.mem_cons_self
    have hy : y ∈ x :: l := h.mem_iff.mpr List.mem_cons_self
    have e : x = y := by
      rcases List.mem_cons.mp hx with e | hx
      · exact e
      · rcases List.mem_cons.mp hy with e | hy
        · exact e.symm
        · exact Int.le_antisymm (h1.1 y hy) (h2.1 x hx)
    subst e
    rw [sorted_one h.cons_inv h1.2 h2.2]
theorem sortI_is {l m : List Int} (h : m.Perm l) (p : m.Pairwise (· ≤ ·)) : m = sortI l := sorted_one (h.trans (sortI_perm l).symm) p (sortI_pair l)
theorem maxL_mem : ∀ {l : List Int}, 0 < l.length → maxL l ∈ l ∧ ∀ y ∈ l, y ≤ maxL l
  | [], h => by cases h
  | [x], _ => by simp [maxL]
  | x :: y :: l, _ => by
    obtain ⟨h1, h2⟩ := maxL_mem (l := y :: l) (by simp)
    show max x (maxL (y :: l)) ∈ x :: y :: l ∧ ∀ z ∈ x :: y :: l, z ≤ max x (maxL (y :: l))
    refine ⟨?_, fun z hz => ?_⟩
    · by_cases hx : x ≤ maxL (y :: l)
      · rw [Int.max_eq_right hx]; exact List.mem_cons_of_mem _ h1
      · rw [Int.max_eq_left (by omega)]; exact List.mem_cons_self
    · rcases List.mem_cons.mp hz with rfl | hz
      · exact Int.le_max_left _ _
      · exact Int.le_trans (h2 z hz) (Int.le_max_right _ _)
theorem minL_mem : ∀ {l : List Int}, 0 < l.length → minL l ∈ l ∧ ∀ y ∈ l, minL l ≤ y
  | [], h => by cases h
  | [x], _ => by simp [minL]
  | x :: y :: l, _ => by
    obtain ⟨h1, h2⟩ := minL_mem (l := y :: l) (by simp)
    show min x (minL (y :: l)) ∈ x :: y :: l ∧ ∀ z ∈ x :: y :: l, min x (minL (y :: l)) ≤ z
    refine ⟨?_, fun z hz => ?_⟩
    · by_cases hx : x ≤ minL (y :: l)
      · rw [Int.min_eq_left hx]; exact List.mem_cons_self
      · rw [Int.min_eq_right (by omega)]; exact List.mem_cons_of_mem _ h1
    · rcases List.mem_cons.mp hz with rfl | hz
      · exact Int.min_le_left _ _
      · exact Int.le_trans (Int.min_le_right _ _) (h2 z hz)
end
section
variable {X : Cx} {K : PySem.W.Frag}
def rLenA (K : PySem.W.Frag) : List V → Hp → VK → Prop := fun xs H Q => (∃ p ys, xs = [.ref p] ∧ (SqL K H p ys ∨ SqT K H p ys) ∧ Q (.int ys.length) H) ∨ (∃ z, xs = [.str z] ∧ z.length ≤ sizeLine ∧ Q (.int z.length) H)
theorem cr_len : CallR X (.builtin "len") (rLenA X.K) := CallR.or call_len_seq call_len_str
theorem cs_len : CallS K (rLenA K) lenV := by
  intro ρ M H σ W Q l vs R r p
  unfold lenV at p
  split at p
  · obtain ⟨v, e, a, us, e1, h1, h2⟩ := rv1 r
    subst e e1
    exact .inl ⟨a, us, rfl, .inr h1, by rw [h2.length]; exact p.val R rfl⟩
  · obtain ⟨v, e, a, e1, h1⟩ := rv1 r
    subst e e1
    exact .inl ⟨a, _, rfl, .inl h1.sq, by rw [List.length_map]; exact p.val R rfl⟩
  · split at p
    · rename_i l hl
      obtain ⟨v, e, r1⟩ := rv1 r
      obtain ⟨a, us, e1, h1, h2, h3⟩ := R.lst (getL_ok hl) r1
      subst e e1
      exact .inl ⟨a, us, rfl, .inl (SqL.of h2), by rw [h3.length]; exact p.val R rfl⟩
    · exact p.elim
  · obtain ⟨v, e, e1⟩ := rv1 r
    cases (show v = _ from e1)
    subst e
    split at p
    · rename_i h; exact .inr ⟨_, rfl, h, p.val R rfl⟩
    · exact p.elim
  · exact p.elim
theorem cs_tuple : CallS K (fun xs H Q => ∃ p ys, xs = [.ref p] ∧ ((SqL K H p ys ∧ ∀ l, H l = none → Q (.ref l) (upd H l (.tup ys))) ∨ (SqT K H p ys ∧ Q (.ref p) H))) tupleV := by
  intro ρ M H σ W Q l vs R r p
  unfold tupleV at p
  split at p
  · obtain ⟨v, e, a, us, e1, h1, h2⟩ := rv1 r
    subst e e1
    exact ⟨a, us, rfl, .inr ⟨h1, p.val R ⟨a, us, rfl, h1, h2⟩⟩⟩
  · split at p
    · rename_i l hl
      obtain ⟨v, e, r1⟩ := rv1 r
      obtain ⟨a, us, e1, h1, h2, h3⟩ := R.lst (getL_ok hl) r1
      subst e e1
      exact ⟨a, us, rfl, .inl ⟨SqL.of h2, p.newTup R h3⟩⟩
    · exact p.elim
  · exact p.elim
theorem cs_list : CallS K (fun xs H Q => ∃ p ys, xs = [.ref p] ∧ (SqL K H p ys ∨ SqT K H p ys) ∧ ∀ l, H l = none → Q (.ref l) (upd H l (.lst ys))) listV := by
  intro ρ M H σ W Q l vs R r p
  unfold listV at p
  split at p
  · obtain ⟨v, e, a, us, e1, h1, h2⟩ := rv1 r
    subst e e1
    exact ⟨a, us, rfl, .inr h1, p.newList R h2⟩
  · split at p
    · rename_i l hl
      obtain ⟨v, e, r1⟩ := rv1 r
      obtain ⟨a, us, e1, h1, h2, h3⟩ := R.lst (getL_ok hl) r1
      subst e e1
      exact ⟨a, us, rfl, .inl (SqL.of h2), p.newList R h3⟩
    · exact p.elim
  · exact p.elim
theorem cs_int : CallS K (fun xs H Q => (∃ i, xs = [.int i] ∧ Q (.int i) H) ∨ ∃ k, xs = [.bl k] ∧ Q (.int (if k then 1 else 0)) H) intV := by
  intro ρ M H σ W Q l vs R r p
  unfold intV at p
  split at p
  · obtain ⟨v, e, e1⟩ := rv1 r
    cases (show v = _ from e1)
    exact .inl ⟨_, e, p.val R rfl⟩
  · obtain ⟨v, e, e1⟩ := rv1 r
    cases (show v = _ from e1)
    exact .inr ⟨_, e, p.val R rfl⟩
  · exact p.elim
theorem cs_abs : CallS K (fun xs H Q => ∃ i, xs = [.int i] ∧ Q (.int (if i < 0 then -i else i)) H) absV1 := by
  intro ρ M H σ W Q l vs R r p
  unfold absV1 at p
  split at p
  · obtain ⟨v, e, e1⟩ := rv1 r
    cases (show v = _ from e1)
    exact ⟨_, e, p.val R rfl⟩
  · exact p.elim
theorem cs_max2 : CallS K (fun xs H Q => ∃ i j, xs = [.int i, .int j] ∧ Q (.int (if j > i then j else i)) H) max2V := by
  intro ρ M H σ W Q l vs R r p
  unfold max2V at p
  split at p
  · obtain ⟨v, u, e, e1, e2⟩ := rv2 r
    cases (show v = _ from e1); cases (show u = _ from e2)
    exact ⟨_, _, e, p.val R rfl⟩
  · exact p.elim
theorem cs_min2 : CallS K (fun xs H Q => ∃ i j, xs = [.int i, .int j] ∧ Q (.int (if j < i then j else i)) H) min2V := by
  intro ρ M H σ W Q l vs R r p
  unfold min2V at p
  split at p
  · obtain ⟨v, u, e, e1, e2⟩ := rv2 r
    cases (show v = _ from e1); cases (show u = _ from e2)
    exact ⟨_, _, e, p.val R rfl⟩
  · exact p.elim
theorem cs_sorted : CallS K (rSorted K) sortedV := by
  intro ρ M H σ W Q l vs R r p
  unfold sortedV at p
  split at p
  · split at p
    · rename_i l hl
      split at p
      · rename_i hz
        obtain ⟨v, e, r1⟩ := rv1 r
        obtain ⟨a, e1, h1⟩ := R.ints hl r1
        subst e e1
        refine ⟨a, l, rfl, SqL.of h1, hz, fun ns' q hp ho hq => ?_⟩
        rw [sortI_is hp ho]
        exact p.newList R ((RVs.ints _).mpr rfl) q hq
      · exact p.elim
    · exact p.elim
  · exact p.elim
theorem cs_sum : CallS K (rSum K) sumV := by
  intro ρ M H σ W Q l vs R r p
  unfold sumV at p
  split at p
  · split at p
    · rename_i l hl
      obtain ⟨v, e, r1⟩ := rv1 r
      obtain ⟨a, e1, h1⟩ := R.ints hl r1
      subst e e1
      exact ⟨a, l, rfl, SqL.of h1, p.val R rfl⟩
    · exact p.elim
  · exact p.elim
theorem cs_max : CallS K (rMax K) maxV := by
  intro ρ M H σ W Q l vs R r p
  unfold maxV at p
  split at p
  · split at p
    · rename_i l hl
      split at p
      · rename_i hz
        obtain ⟨v, e, r1⟩ := rv1 r
        obtain ⟨a, e1, h1⟩ := R.ints hl r1
        subst e e1
        refine ⟨a, l, rfl, SqL.of h1, hz, fun m hm ho => ?_⟩
        obtain ⟨k1, k2⟩ := maxL_mem hz
        rw [Int.le_antisymm (k2 m hm) (ho _ k1)]
        exact p.val R rfl
      · exact p.elim
    · exact p.elim
  · exact p.elim
theorem cs_min : CallS K (rMin K) minV := by
  intro ρ M H σ W Q l vs R r p
  unfold minV at p
  split at p
  · split at p
    · rename_i l hl
      split at p
      · rename_i hz
        obtain ⟨v, e, r1⟩ := rv1 r
        obtain ⟨a, e1, h1⟩ := R.ints hl r1
        subst e e1
        refine ⟨a, l, rfl, SqL.of h1, hz, fun m hm ho => ?_⟩
        obtain ⟨k1, k2⟩ := minL_mem hz
        rw [Int.le_antisymm (ho _ k1) (k2 m hm)]
        exact p.val R rfl
      · exact p.elim
    · exact p.elim
  · exact p.elim
theorem cs_any : CallS K (rAny K) anyV := by
  intro ρ M H σ W Q l vs R r p
  unfold anyV at p
  split at p
  · split at p
    · rename_i l hl
      obtain ⟨v, e, r1⟩ := rv1 r
      obtain ⟨a, e1, h1⟩ := R.bools hl r1
      subst e e1
      exact ⟨a, l, rfl, SqL.of h1, p.val R rfl⟩
    · exact p.elim
  · exact p.elim
theorem cs_all : CallS K (rAll K) allV := by
  intro ρ M H σ W Q l vs R r p
  unfold allV at p
  split at p
  · split at p
    · rename_i l hl
      obtain ⟨v, e, r1⟩ := rv1 r
      obtain ⟨a, e1, h1⟩ := R.bools hl r1
      subst e e1
      exact ⟨a, l, rfl, SqL.of h1, p.val R rfl⟩
    · exact p.elim
  · exact p.elim
end
/-! isinstance against built-in types -/
inductive Bt where
  | int | bool | tuple | list | str
def Bt.nm : Bt → String
  | .int => "int" | .bool => "bool" | .tuple => "tuple" | .list => "list" | .str => "str"
def tyN (x : Val) (M : Mem) : Option String := match x with
  | .non => some "NoneType"
  | .bl _ => some "bool"
  | .int _ => some "int"
  | .str _ => some "str"
  | .tup _ => some "tuple"
  | .frz _ => some "list"
  | .loc n => (getL M n).map fun _ => "list"
def isT (x : Val) (t : Bt) : Bool := match x, t with
  | .bl _, .bool => true
  | .bl _, .int => true
  | .int _, .int => true
  | .str _, .str => true
  | .tup _, .tuple => true
  | .frz _, .list => true
  | .loc _, .list => true
  | _, _ => false
def isiV (ts : List Bt) (x : Val) (M : Mem) : Out Val := match tyN x M with
  | some _ => .ok (.bl (ts.any fun t => isT x t)) M
  | none => .bad
theorem kit_n (t : Bt) : kitB "NoneType" t.nm = some false := by cases t <;> decide +kernel
theorem kit_b (t : Bt) : kitB "bool" t.nm = some (isT (.bl true) t) := by cases t <;> decide +kernel
theorem kit_i (t : Bt) : kitB "int" t.nm = some (isT (.int 0) t) := by cases t <;> decide +kernel
theorem kit_s (t : Bt) : kitB "str" t.nm = some (isT (.str ⟨#[]⟩) t) := by cases t <;> decide +kernel
theorem kit_t (t : Bt) : kitB "tuple" t.nm = some (isT (.tup []) t) := by cases t <;> decide +kernel
theorem kit_l (t : Bt) : kitB "list" t.nm = some (isT (.loc 0) t) := by cases t <;> decide +kernel
section
variable {K : PySem.W.Frag} {ρ : List Addr} {M : Mem} {H : Hp}
theorem isT_ok {x : Val} {v : V} {n : String} (R : Rel K ρ M H) (r : RV K ρ H x v) (h : tyN x M = some n) : TyX K H v (.type n) ∧ ∀ t : Bt, kitB n t.nm = some (isT x t) := by
  cases x with
  | non => cases (show v = _ from r); cases h; exact ⟨.base .non, fun t => by rw [kit_n]; cases t <;> rfl⟩
  | bl b => cases (show v = _ from r); cases h; exact ⟨.base (.bl b), fun t => by rw [kit_b]; cases t <;> rfl⟩
  | int i => cases (show v = _ from r); cases h; exact ⟨.base (.int i), fun t => by rw [kit_i]; cases t <;> rfl⟩
  | str i => cases (show v = _ from r); cases h; exact ⟨.base (.str i), fun t => by rw [kit_s]; cases t <;> rfl⟩
  | tup l =>
    obtain ⟨a, vs, e, h1, h2⟩ := r
    subst e
    cases h
    refine ⟨?_, fun t => by rw [kit_t]; cases t <;> rfl⟩
    rcases h1 with (h1 | ⟨o, h1⟩) | ⟨o, its, m, h1, h2, _⟩
    · exact .base (.tup h1)
    · exact .fTuple h1
    · exact .kTuple h1 h2
  | frz l =>
    obtain ⟨a, e, h1⟩ := r
    subst e
    cases h
    refine ⟨?_, fun t => by rw [kit_l]; cases t <;> rfl⟩
    rcases h1 with ⟨o, h1⟩ | ⟨o, its, m, h1, h2, _⟩
    · exact .base (.frz h1)
    · exact .kList h1 h2
  | loc k =>
    unfold tyN at h
    simp only at h
    cases hg : getL M k with
    | none => rw [hg] at h; cases h
    | some l =>
      rw [hg] at h
      cases h
      obtain ⟨a, vs, e1, h1, h2, h3⟩ := R.lst (getL_ok hg) r
      subst e1
      exact ⟨.base (.lst h2), fun t => by rw [kit_l]; cases t <;> rfl⟩
theorem kitAny_ok {n : String} {x : Val} (h : ∀ t : Bt, kitB n t.nm = some (isT x t)) : ∀ ts : List Bt, PySem.W.kitAny K (.type n) (ts.map fun t => Value.type t.nm) = some (ts.any fun t => isT x t)
  | [] => kitAny_nil
  | t :: ts => by
    rw [List.map_cons, List.any_cons]
    cases hb : isT x t with
    | true => exact kitAny_cons (b := true) (kit_ty (by rw [h, hb])) (fun e => by cases e) fun _ => rfl
    | false => exact kitAny_cons (b := false) (kit_ty (by rw [h, hb])) (fun _ => by rw [kitAny_ok h ts]; rfl) fun e => by cases e
end
def eIsi (ts : List Bt) (f : EF) : EF := fun e M => (f e M).bind fun x M1 => isiV ts x M1
section
variable {X : Cx} {W : WX} {a : Expr} {fa : EF} {pos p q q2 : Pos}
theorem pe_bt (t : Bt) {x : Str} (hx : x = Str.ofString t.nm) (hg : Gl X x) (hm : X.mg x = none) (hv : bootBuiltins x = some (.type t.nm)) (hn : x ≠ "__name__" := by decide) (hd : (x == ("__debug__" : Str)) = false := by decide) : PE X (.Name x q) (tC (.ty t.nm)) :=
  pe_bltn hg hm hv rfl hn hd
/-- isinstance(a, T) -/
theorem se_isi (t : Bt) {x : Str} (ha : SE X W a fa) (hm : X.mg "isinstance" = none) (hmx : X.mg x = none) (hv : bootBuiltins x = some (.type t.nm)) (hgx : Gl X x := by rfl) (hg : Gl X "isinstance" := by rfl) (hn : x ≠ "__name__" := by decide) (hd : (x == ("__debug__" : Str)) = false := by decide)
    (he : starEach [a, .Name x q] X.env = (false, eval a X.env) :: starEach [.Name x q] X.env := by rfl) (hpl : (backTo pos (starEach [.Name x q] X.env)).any (·.1) = false := by rfl) : SE X W (.Call (.Name "isinstance" p) [a, .Name x q] [] pos) (eIsi [t] fa) :=
  ⟨(pe_callB call_isi hg hm (by decide +kernel) (pa_cons ha.pe (pa_cons (pe_bltn (v := .ty t.nm) hgx hmx hv rfl hn hd) pa_nil) he) (by decide) (by decide) he hpl).imp fun σ H Q ⟨ρ, e, M, R, S, p⟩ => ⟨ρ, e, M, R, S, (Po.bind p).imp fun v H1 ⟨ρ1, M1, x, E1, R1, r1, p1⟩ => by
    unfold isiV at p1
    split at p1
    · rename_i n hn
      obtain ⟨k1, k2⟩ := isT_ok R1 r1 hn
      refine ⟨v, .ty t.nm, .type n, .type t.nm, isT x t, rfl, .ty _, k1, kit_ty (k2 t), ?_⟩
      have := p1.val R1 (v := .bl (isT x t)) (by show V.bl _ = V.bl _; simp)
      exact this
    · exact p1.elim⟩⟩
/-- isinstance(a, (T1, T2)) -/
theorem se_isi2 (t t' : Bt) {x x' : Str} {p3 p4 p5 : Pos} {kk : Nat} (ha : SE X W a fa) (hm : X.mg "isinstance" = none) (hmx : X.mg x = none) (hv : bootBuiltins x = some (.type t.nm)) (hmx' : X.mg x' = none) (hv' : bootBuiltins x' = some (.type t'.nm)) (hgx : Gl X x := by rfl) (hgx' : Gl X x' := by rfl) (hg : Gl X "isinstance" := by rfl) (hn : x ≠ "__name__" := by decide) (hd : (x == ("__debug__" : Str)) = false := by decide) (hn' : x' ≠ "__name__" := by decide) (hd' : (x' == ("__debug__" : Str)) = false := by decide)
    (he : starEach [a, .Tuple [.Name x p3, .Name x' p4] kk p5] X.env = (false, eval a X.env) :: starEach [.Tuple [.Name x p3, .Name x' p4] kk p5] X.env := by rfl) (hpl : (backTo pos (starEach [.Tuple [.Name x p3, .Name x' p4] kk p5] X.env)).any (·.1) = false := by rfl) : SE X W (.Call (.Name "isinstance" p) [a, .Tuple [.Name x p3, .Name x' p4] kk p5] [] pos) (eIsi [t, t'] fa) :=
  ⟨(pe_callB call_isiT hg hm (by decide +kernel) (pa_cons ha.pe (pa_cons (pe_tup (pa_cons (pe_bltn (v := .ty t.nm) hgx hmx hv rfl hn hd) (pa_cons (pe_bltn (v := .ty t'.nm) hgx' hmx' hv' rfl hn' hd') pa_nil))) pa_nil) he) (by decide) (by decide) he hpl).imp fun σ H Q ⟨ρ, e, M, R, S, p⟩ => ⟨ρ, e, M, R, S, (Po.bind p).imp fun v H1 ⟨ρ1, M1, x, E1, R1, r1, p1⟩ => by
    unfold isiV at p1
    split at p1
    · rename_i n hn
      refine ⟨by show 2 ≤ sizeLine; decide, fun tp htp => ?_⟩
      have E := Ext.fresh (o := .tup [V.ty t.nm, V.ty t'.nm]) ρ1 htp
      obtain ⟨k1, k2⟩ := isT_ok (R1.fresh htp) (RV.mono E _ _ r1) hn
      refine ⟨v, tp, [.ty t.nm, .ty t'.nm], .type n, [.type t.nm, .type t'.nm], _, rfl, upd_same, .cons (.ty _) (.cons (.ty _) .nil), k1, kitAny_ok k2 [t, t'], ?_⟩
      exact p1 ρ1 _ _ E (R1.fresh htp) rfl
    · exact p1.elim⟩⟩
end
/-! methods of lists -/
def isTyM (T : String) (x : Val) (M : Mem) : Bool := match x with
  | .loc n => T == "list" && (getL M n).isSome
  | .frz _ => T == "list"
  | .str _ => T == "str"
  | _ => false
abbrev MtF := Val → List Val → Mem → Out Val
def MethS (K : PySem.W.Frag) (r : V → List V → Hp → VK → Prop) (g : MtF) : Prop :=
  ∀ (ρ : List Addr) (M : Mem) (H : Hp) (σ : St) (W : WX) (Q : VK) (x : Val) (v : V) (l : List Val) (vs : List V), Rel K ρ M H → RV K ρ H x v → RVs K ρ H l vs → Po (RVr K) K ρ H σ W Q (g x l M) → r v vs H Q
def eMt (T : String) (g : MtF) (fo : EF) (fa : AF) : EF := fun e M => (fo e M).bind fun x M1 => if isTyM T x M1 then (fa e M1).bind fun l M2 => g x l M2 else .bad
def appendV : MtF := fun x l M => match x, l with
  | .loc n, [y] => (match getL M n with
    | some xs => if xs.length < sizeLine then .ok .non (M.set n (.lst (xs ++ [y]))) else .bad
    | none => .bad)
  | _, _ => .bad
def extendV : MtF := fun x l M => match x, l with
  | .loc n, [.loc m] => (match getL M n, getL M m with
    | some xs, some ys => if xs.length + ys.length ≤ sizeLine then .ok .non (M.set n (.lst (xs ++ ys))) else .bad
    | _, _ => .bad)
  | _, _ => .bad
def popV : MtF := fun x l M => match x, l with
  | .loc n, [] => (match getL M n with
    | some xs => (match xs[xs.length - 1]? with
      | some y => .ok y (M.set n (.lst xs.dropLast))
      | none => .bad)
    | none => .bad)
  | _, _ => .bad
def popAtV : MtF := fun x l M => match x, l with
  | .loc n, [.int i] => (match getL M n with
    | some xs => if -(2 ^ 63) ≤ i ∧ i < 2 ^ 63 then (match ixN xs.length i with
      | some k => (match xs[k]? with
        | some y => .ok y (M.set n (.lst (xs.eraseIdx k)))
        | none => .bad)
      | none => .bad) else .bad
    | none => .bad)
  | _, _ => .bad
section
variable {K : PySem.W.Frag} {ρ : List Addr} {M : Mem} {H : Hp}
theorem isTyM_ok {T : String} {x : Val} {v : V} (R : Rel K ρ M H) (r : RV K ρ H x v) (h : isTyM T x M = true) : tyV K T v H := by
  unfold isTyM at h
  split at h
  · rename_i n
    rw [Bool.and_eq_true, beq_iff_eq] at h
    obtain ⟨h1, h2⟩ := h
    cases hg : getL M n with
    | none => rw [hg] at h2; cases h2
    | some l =>
      obtain ⟨a, vs, e1, k1, k2, k3⟩ := R.lst (getL_ok hg) r
      subst e1
      exact .inl ⟨h1, vs, SqL.of k2⟩
  · rw [beq_iff_eq] at h
    obtain ⟨a, e, h1⟩ := r
    subst e
    exact .inl ⟨h, _, h1.sq⟩
  · rw [beq_iff_eq] at h
    cases (show v = _ from r)
    exact h
  · cases h
/-- a list in the memory is written -/
theorem Po.setList {σ : St} {W : WX} {Q : VK} {n : Nat} {l l' : List Val} {vs' : List V} {x : Val} {u : V} {a : Addr} (R : Rel K ρ M H) (ha : ρ[n]? = some a) (r : RVs K ρ H l' vs') (rx : RV K ρ H x u) (p : Po (RVr K) K ρ H σ W Q (.ok x (M.set n (.lst l')))) : Q u (upd H a (.lst vs')) := by
  have hm : Mut (H a) := by
    obtain ⟨o, ho, m⟩ := R.mem (List.mem_of_getElem? ha)
    rw [ho]; exact m
  have E := Ext.write (o := .lst vs') ρ hm
  obtain ⟨R', _⟩ := R.write (c := .lst l') ha ⟨vs', upd_same, RVs.mono E _ _ r⟩
  exact p ρ _ u E R' (RV.mono E _ _ rx)
theorem ms_append : MethS K rAppend appendV := by
  intro ρ M H σ W Q x v l vs R rx rl p
  unfold appendV at p
  split at p
  · split at p
    · rename_i xs hx
      split at p
      · rename_i hz
        obtain ⟨a, us, e1, h1, h2, h3⟩ := R.lst (getL_ok hx) rx
        obtain ⟨u, e2, r2⟩ := rv1 rl
        exact ⟨a, us, u, e1, e2, h2, by rw [h3.length]; exact hz, p.setList (l := xs) (x := .non) R h1 (h3.snoc r2) rfl⟩
      · exact p.elim
    · exact p.elim
  · exact p.elim
theorem ms_extend : MethS K rExtend extendV := by
  intro ρ M H σ W Q x v l vs R rx rl p
  unfold extendV at p
  split at p
  · split at p
    · rename_i xs ys hx hy
      split at p
      · rename_i hz
        obtain ⟨a, us, e1, h1, h2, h3⟩ := R.lst (getL_ok hx) rx
        obtain ⟨u, e2, r2⟩ := rv1 rl
        obtain ⟨b, ws, e3, k1, k2, k3⟩ := R.lst (getL_ok hy) r2
        subst e3
        exact ⟨a, b, us, ws, e1, e2, h2, k2, by rw [h3.length, k3.length]; exact hz, p.setList (l := xs) (x := .non) R h1 (h3.append k3) rfl⟩
      · exact p.elim
    · exact p.elim
  · exact p.elim
theorem ms_pop : MethS K rPop popV := by
  intro ρ M H σ W Q x v l vs R rx rl p
  unfold popV at p
  split at p
  · split at p
    · rename_i xs hx
      split at p
      · rename_i y hy
        obtain ⟨a, us, e1, h1, h2, h3⟩ := R.lst (getL_ok hx) rx
        obtain ⟨u, hu, ru⟩ := h3.get hy
        exact ⟨a, us, u, e1, rl, h2, by rw [h3.length]; exact hu, p.setList (l := xs) R h1 h3.dropLast ru⟩
      · exact p.elim
    · exact p.elim
  · exact p.elim
theorem ms_popAt : MethS K rPopAt popAtV := by
  intro ρ M H σ W Q x v l vs R rx rl p
  unfold popAtV at p
  split at p
  · split at p
    · rename_i xs hx
      split at p
      · rename_i hb
        split at p
        · rename_i k hk
          split at p
          · rename_i y hy
            obtain ⟨a, us, e1, h1, h2, h3⟩ := R.lst (getL_ok hx) rx
            obtain ⟨u, hu, ru⟩ := h3.get hy
            obtain ⟨w, e2, r2⟩ := rv1 rl
            cases (show w = _ from r2)
            exact ⟨a, us, _, k, u, e1, e2, h2, hb.1, hb.2, by rw [h3.length]; exact (ixN_seq hk).1, hu, p.setList (l := xs) R h1 (h3.eraseIdx k) ru⟩
          · exact p.elim
        · exact p.elim
      · exact p.elim
    · exact p.elim
  · exact p.elim
end
section
variable {X : Cx} {W : WX} {o a : Expr} {es : List Expr} {fo : EF} {fa : AF} {name : Str} {apos cpos : Pos} {T id : String} {r : V → List V → Hp → VK → Prop} {g : MtF}
theorem se_mt (pa : PlainAttrs T) (slot : Slot T name id) (hty : typeOf (.builtin id) = pure (.type "method_descriptor")) (hm : MtR X id r) (hs : MethS X.K r g) (ho : SE X W o fo) (ha : SA X W (a :: es) fa)
    (hbase : attributeBase o name X.env (eval o X.env) = eval o X.env := by rfl)
    (hfew : ((backTo cpos (starEach (a :: es) X.env)).all (fun x => !x.1) && (backToKw cpos (keywordEach [] X.env)).all (fun x => x.1.isSome)
      && decide ((a :: es).length + ([] : List Keyword).length + (if ([] : List Keyword).isEmpty then 0 else 1) < 30)) = true := by rfl)
    (hline : (apos.endLine == cpos.line) = true := by rfl) (he : starEach (a :: es) X.env = (false, eval a X.env) :: starEach es X.env := by rfl) (hpl : (backTo cpos (starEach es X.env)).any (·.1) = false := by rfl) :
    SE X W (.Call (.Attribute o name apos) (a :: es) [] cpos) (eMt T g fo fa) :=
  ⟨(pe_bm pa slot hty hm ho.pe ha.pa hbase hfew hline he hpl).imp fun σ H Q ⟨ρ, e, M, R, S, p⟩ => ⟨ρ, e, M, R, S, (Po.bind p).imp fun v H1 ⟨ρ1, M1, x, E1, R1, r1, p1⟩ => by
    split at p1
    · rename_i ht
      exact ⟨isTyM_ok R1 r1 ht, ρ1, e, M1, R1, S.mono E1, (Po.bind (R := RVsr X.K) p1).imp fun us H2 ⟨ρ2, M2, l, E2, R2, r2, p2⟩ => hs _ _ _ _ _ _ _ _ _ _ R2 (RV.mono E2 _ _ r1) r2 p2⟩
    · exact p1.elim⟩⟩
theorem se_mt0 (pa : PlainAttrs T) (slot : Slot T name id) (hty : typeOf (.builtin id) = pure (.type "method_descriptor")) (hm : MtR X id r) (hs : MethS X.K r g) (ho : SE X W o fo)
    (hbase : attributeBase o name X.env (eval o X.env) = eval o X.env := by rfl) (hline : (apos.endLine == cpos.line) = true := by rfl) :
    SE X W (.Call (.Attribute o name apos) [] [] cpos) (eMt T g fo aNil) :=
  ⟨(pe_bm0 pa slot hty hm ho.pe hbase hline).imp fun σ H Q ⟨ρ, e, M, R, S, p⟩ => ⟨ρ, e, M, R, S, (Po.bind p).imp fun v H1 ⟨ρ1, M1, x, E1, R1, r1, p1⟩ => by
    split at p1
    · rename_i ht
      exact ⟨isTyM_ok R1 r1 ht, hs _ _ _ _ _ _ _ _ [] [] R1 r1 (show ([] : List V) = [] from rfl) p1⟩
    · exact p1.elim⟩⟩
end
end Sm

namespace Sm
open PySem L2
def sPar (is : List Nat) (fa : AF) : SF := fun e M => (fa e M).toS e fun l M1 => if l.length = is.length then .nx (setAll is l e) M1 else .bad
def sBad : SF := fun _ _ => .bad
def sAug (i : Nat) (g : Val → Val → Mem → Out Val) (f : EF) : SF := fun e M => match e[i]? with
  | some (some x) => (f e M).toS e fun y M1 => (g x y M1).toS e fun z M2 => .nx (e.set i (some z)) M2
  | _ => .bad
def IpS (K : PySem.W.Frag) (r : TIp) (g : Val → Val → Mem → Out Val) : Prop :=
  ∀ (ρ : List Addr) (M : Mem) (H : Hp) (σ : St) (W : WX) (Q : VK) (x y : Val) (v u : V), Rel K ρ M H → RV K ρ H x v → RV K ρ H y u → Po (RVr K) K ρ H σ W Q (g x y M) → r v u H Q
section
variable {X : Cx} {W : WX} {a b c : Expr} {fa fb fc : EF} {pos : Pos} {K : PySem.W.Frag}
theorem len_two {α : Type} : ∀ {l : List α}, l.length = 2 → ∃ x y, l = [x, y]
  | [x, y], _ => ⟨x, y, rfl⟩
theorem len_three {α : Type} : ∀ {l : List α}, l.length = 3 → ∃ x y z, l = [x, y, z]
  | [x, y, z], _ => ⟨x, y, z, rfl⟩
theorem ss_never {st : Stmt} : SS X W st sBad := ⟨ps_never.imp fun D σ H ⟨ρ, e, M, R, S, p⟩ => p⟩
theorem ss_par {i j : Nat} {x y : Str} {f : AF} {px py pt : Pos} {kt k2 pt2} (hc : X.calm = true) (hN : X.N.Nodup) (ha : SA X W [a, b] f) (hi : X.N[i]? = some x := by rfl) (hj : X.N[j]? = some y := by rfl) (hij : i ≠ j := by decide)
    (hx : X.env.scope.names.lookup x = some .local := by rfl) (hy : X.env.scope.names.lookup y = some .local := by rfl)
    (hw : swappedStores [.Tuple [.Name x px, .Name y py] kt pt] (.Tuple [a, b] k2 pt2) X.env = pure (some [x, y]) := by rfl)
    (hs : swapsWithSole [.Tuple [.Name x px, .Name y py] kt pt] (.Tuple [a, b] k2 pt2) pos.line X.env = pure false := by rfl) :
    SS X W (.Assign [.Tuple [.Name x px, .Name y py] kt pt] (.Tuple [a, b] k2 pt2) pos) (sPar [i, j] f) :=
  ⟨(ps_par hc hN hi hj hij hx hy ha.pa hw hs).imp fun D σ H ⟨ρ, e, M, R, S, p⟩ => ⟨ρ, e, M, R, S, (PoS.ofE (R := RVsr X.K) S p).imp fun vs H1 ⟨ρ1, M1, l, E1, R1, r1, p1⟩ => by
    split at p1
    · rename_i hl
      obtain ⟨x', y', rfl⟩ := len_two hl
      obtain ⟨v, u, e1, r1, r2⟩ := rv2 r1
      exact ⟨v, u, e1, p1 ρ1 H1 _ (Ext.refl _ _) R1 (((S.mono E1).set i r1).set j r2)⟩
    · exact p1.elim⟩⟩
theorem ss_par3 {i j k : Nat} {x y z : Str} {f : AF} {px py pz pt : Pos} {kt k2 pt2} (hc : X.calm = true) (hN : X.N.Nodup) (ha : SA X W [a, b, c] f) (hi : X.N[i]? = some x := by rfl) (hj : X.N[j]? = some y := by rfl) (hk : X.N[k]? = some z := by rfl) (hij : i ≠ j := by decide) (hik : i ≠ k := by decide) (hjk : j ≠ k := by decide)
    (hx : X.env.scope.names.lookup x = some .local := by rfl) (hy : X.env.scope.names.lookup y = some .local := by rfl) (hz : X.env.scope.names.lookup z = some .local := by rfl)
    (hw : swappedStores [.Tuple [.Name x px, .Name y py, .Name z pz] kt pt] (.Tuple [a, b, c] k2 pt2) X.env = pure (some [x, y, z]) := by rfl)
    (hs : swapsWithSole [.Tuple [.Name x px, .Name y py, .Name z pz] kt pt] (.Tuple [a, b, c] k2 pt2) pos.line X.env = pure false := by rfl) :
    SS X W (.Assign [.Tuple [.Name x px, .Name y py, .Name z pz] kt pt] (.Tuple [a, b, c] k2 pt2) pos) (sPar [i, j, k] f) :=
  ⟨(ps_par3 hc hN hi hj hk hij hik hjk hx hy hz ha.pa hw hs).imp fun D σ H ⟨ρ, e, M, R, S, p⟩ => ⟨ρ, e, M, R, S, (PoS.ofE (R := RVsr X.K) S p).imp fun vs H1 ⟨ρ1, M1, l, E1, R1, r1, p1⟩ => by
    split at p1
    · rename_i hl
      obtain ⟨x', y', z', rfl⟩ := len_three hl
      obtain ⟨v, r, e1, q1, q0⟩ := r1
      obtain ⟨u, w, e2, q2, q3⟩ := rv2 q0
      subst e2
      exact ⟨v, u, w, e1, p1 ρ1 H1 _ (Ext.refl _ _) R1 ((((S.mono E1).set i q1).set j q2).set k q3)⟩
    · exact p1.elim⟩⟩
theorem ss_aug {i : Nat} {x : Str} {op : Operator} {ti : TIp} {g : Val → Val → Mem → Out Val} {pos' : Pos} (ho : PIp X op ti) (hg : IpS X.K ti g) (hN : X.N.Nodup) (ha : SE X W a fa) (hi : X.N[i]? = some x := by rfl) (hx : Loc X.env.scope x := by first | exact Or.inl rfl | exact Or.inr rfl)
    (hf : X.fn x = true ∨ X.env.scope.names.lookup x = some .local := by first | exact .inl rfl | exact .inr rfl | assumption) : SS X W (.AugAssign (.Name x pos') op a pos) (sAug i g fa) :=
  ⟨(ps_aug hN hi hx ha.pe ho hf).imp fun D σ H ⟨ρ, e, M, R, S, p⟩ => by
    unfold sAug at p
    split at p
    · rename_i xv hx
      obtain ⟨v, h1, h2⟩ := S.at_ i xv hx
      exact ⟨v, h1, ρ, e, M, R, S, (PoS.ofE (R := RVr X.K) S p).imp fun u H1 ⟨ρ1, M1, y, E1, R1, r1, p1⟩ => hg _ _ _ σ W _ _ _ _ _ R1 (RV.mono E1 _ _ h2) r1
        ((PoS.ofE (R := RVr X.K) (S.mono E1) p1).imp fun w H2 ⟨ρ2, M2, z, E2, R2, r2, p2⟩ => p2 ρ2 H2 _ (Ext.refl _ _) R2 (((S.mono E1).mono E2).set i r2))⟩
    · exact p.elim⟩

end
end Sm
namespace Sm
open PySem L2
def arI (h : Int → Int → Int) (x y : Val) (M : Mem) : Out Val := match x, y with
  | .int i, .int j => .ok (.int (h i j)) M
  | _, _ => .bad
theorem is_ar {K : PySem.W.Frag} {h : Int → Int → Int} : IpS K (ipI h) (arI h) := by
  intro ρ M H σ W Q x y v u R rx ry p
  unfold arI at p
  split at p
  · cases (show v = _ from rx); cases (show u = _ from ry); exact ⟨_, _, rfl, rfl, p.val R rfl⟩
  · exact p.elim
end Sm
namespace Sm
open PySem L2
def rangeL (a b : Int) : List Val := (List.range (b - a).toNat).map fun i => Val.int (a + (i : Nat))
def eLr1 (f : EF) : EF := fun e M => (f e M).bind fun x M1 => match x with
  | .int n => if -(2 ^ 62) ≤ n ∧ n < 2 ^ 62 ∧ n.toNat ≤ 2 ^ 24 then .ok (.loc M1.length) (M1 ++ [.lst (rangeL 0 n)]) else .bad
  | _ => .bad
theorem rangeL_ok {K : PySem.W.Frag} {ρ : List Addr} {H : Hp} (a b : Int) : RVs K ρ H (rangeL a b) (rgV a b) := by
  have e1 : rangeL a b = ((List.range (b - a).toNat).map fun (i : Nat) => a + (i : Int)).map Val.int := by unfold rangeL; rw [List.map_map]; rfl
  have e2 : rgV a b = ((List.range (b - a).toNat).map fun (i : Nat) => a + (i : Int)).map V.int := by unfold rgV; rw [List.map_map]; rfl
  rw [e1, e2]
  exact (RVs.ints _).mpr rfl
/-- list(range(a)) -/
theorem se_listRg1 {X : Cx} {W : WX} {a : Expr} {fa : EF} {p q pos qpos : Pos} (hc : X.calm = true) (hm : X.mg "list" = none) (hmr : X.mg "range" = none) (ha : SE X W a fa) (hg : Gl X "list" := by rfl) (hgr : Gl X "range" := by rfl)
    (na : starEach [a] X.env = (false, eval a X.env) :: starEach [] X.env := by rfl) (nb : starEach [.Call (.Name "range" q) [a] [] qpos] X.env = (false, eval (.Call (.Name "range" q) [a] [] qpos) X.env) :: starEach [] X.env := by rfl) :
    SE X W (.Call (.Name "list" p) [.Call (.Name "range" q) [a] [] qpos] [] pos) (eLr1 fa) :=
  ⟨(pe_listRg hc hg hm (prg_1 hgr hmr ha.pe na) nb).imp fun σ H Q ⟨ρ, e, M, R, S, p⟩ => ⟨ρ, e, M, R, S, (Po.bind p).imp fun v H1 ⟨ρ1, M1, x, E1, R1, r1, p1⟩ => by
    split at p1
    · rename_i n
      cases (show v = _ from r1)
      split at p1
      · rename_i h
        exact ⟨n, rfl, ⟨by decide, by decide, h.1, h.2.1, by simpa using h.2.2⟩, p1.newList R1 (rangeL_ok 0 n)⟩
      · exact p1.elim
    · exact p1.elim⟩⟩
end Sm

namespace Sm
open PySem L2
open PySem.Spec PyProof.Rows
theorem ss_doc {X : Cx} {W : WX} {x j pos pos'} : SS X W (.Expr (.Constant (.str x) j pos) pos') sNil := ⟨ps_doc.imp fun D σ H ⟨ρ, e, M, R, S, p⟩ => p ρ H σ (Ext.refl _ _) R S⟩
theorem hr_u65 {k : Nat} {A : Around} (hr : Room k A) : A.units + 65 < cLine := by
  have := hr.un
  omega
/-- a def at hand -/
def Cal (P : Program) (w : World) (K : PySem.W.Frag) (mg : Str → Option Value) (base : Heap) (x : Str) (k np : Nat) (Fs : FnS) : Prop :=
  ∃ (f : Addr) (fd : FuncData) (ps : List Str), ps.length = np ∧ FOk P w K mg base k f fd ps Fs ∧ mg x = some (.ref f) ∧ PySem.W.keepIn K (.ref f) = true ∧ Binds K fd ps []
section
variable {P : Program} {w : World} {K : PySem.W.Frag} {mg : Str → Option Value} {base : Heap} {x qual : Str} {params : Arguments} {body : List Stmt} {scope : Scope} {kws : List (Str × V)} {f : Addr} {fd : FuncData}
theorem cal_of {N ps : List Str} {k : Nat} {fb : SF} (F : FunD K x qual params body scope [] kws f fd) (hm : mg x = some (.ref f)) (S : FnScope N ps scope)
    (hbind : ∀ (kV doc pm : Value) (an : Option Addr) (cdv ct : Value) (us : List Value), us.length = ps.length → bindArgs (PySem.W.fnOf x qual params body scope .none kV doc pm an cdv ct) ⟨us, []⟩ = pure (ps.zip us))
    (hb : ∀ (cdv : Value) (A : Around) (outer : List Env) (s : Shared) (H : Hp) (E : XK), Room k (A.deeper (envOfC qual scope s.heap.objs.size f cdv)) →
      SSs (cxOf (L2.CX P w) P w K mg base N qual scope f cdv A outer s H E) (fun c d _ H => E c d H) body fb) : Cal P w K mg base x (k + 1) ps.length (fnS ps.length N.length fb) :=
  ⟨f, fd, ps, rfl, fok_of F S hb, hm, F.kp, F.bindsN hbind⟩
theorem cal_bad {ps : List Str} {k np : Nat} (D : ∃ fd, FunD K x qual params body scope [] kws f fd) (hm : mg x = some (.ref f)) (hl : ps.length = np)
    (hbind : ∀ (kV doc pm : Value) (an : Option Addr) (cdv ct : Value) (us : List Value), us.length = ps.length → bindArgs (PySem.W.fnOf x qual params body scope .none kV doc pm an cdv ct) ⟨us, []⟩ = pure (ps.zip us)) : Cal P w K mg base x k np (fun _ _ => .bad) := by
  obtain ⟨fd, F⟩ := D
  exact ⟨f, fd, ps, hl, ⟨fun vs H Q E ⟨_, _, _, _, _, _, p⟩ => p.elim, fun A outer s H args us vs Q E _ _ _ _ ⟨_, _, _, _, _, _, p⟩ => p.elim⟩, hm, F.kp, F.bindsN hbind⟩
end
section
variable {X : Cx} {W : WX} {k np : Nat} {Fs : FnS} {x : Str} {p pos : Pos} {a : Expr} {es : List Expr} {fa : AF}
theorem se_callC (C : Cal X.prog X.w X.K X.mg X.base x k np Fs) (hr : Room k X.A) (tk : Takes X W) (ha : SA X W (a :: es) fa)
    (hg : Gl X x := by rfl) (hdb : (x == ("__debug__" : Str)) = false := by decide) (he : starEach (a :: es) X.env = (false, eval a X.env) :: starEach es X.env := by rfl) (hpl : (backTo pos (starEach es X.env)).any (·.1) = false := by rfl) :
    SE X W (.Call (.Name x p) (a :: es) [] pos) (eFn np Fs fa) := by
  obtain ⟨f, fd, ps, rfl, F, hm, hk, hb⟩ := C
  exact se_call F hr hm hk hb tk ha hg hdb he hpl
end
/-- the law's end -/
theorem law_sp {K : PySem.W.Frag} {F : FnS} {n : Nat} (h : ∀ ns : List Int, ns.length ≤ n → ∃ M, F [.frz ns] [] = .ok (.bl true) M) (H : Hp) (a : Addr) (ns : List Int) (hl : ns.length ≤ n) (o : Only H) (hs : SqL K H a (ns.map V.int)) :
    spS K 1 F [.ref a] H (fun v _ => v = .bl true) fun _ _ _ => False := by
  have fz : FzL K H a (ns.map V.int) := by
    rcases hs with (hs | hs) | hs
    · rcases o a with e | ⟨q, xs, e⟩
      · rw [e] at hs; cases hs
      · rw [e] at hs; cases hs
    · exact .inl hs
    · exact .inr hs
  refine ⟨[], [], [.frz ns], ⟨rfl, .nil, fun n c a h => by cases h⟩, ⟨.ref a, [], rfl, ⟨a, rfl, fz⟩, rfl⟩, rfl, ?_⟩
  obtain ⟨M, e⟩ := h ns hl
  rw [e]
  exact fun ρ' H' b _ _ r => r
/-- the law, from what its def computes -/
theorem endAt {l : PySem.W.OpenLaw} {n k : Nat} {q : Program} {loose : List Str} {XP : (Str → Option Value) → Heap → Prop} {YP : World → Heap → Prop} {d : DefRec} {F : FnS}
    (hn : l.most = some n) (hz : n ≤ sizeLine) (hd : d.params.defaults = []) (hr : Room k callerA) (hF : ∀ ns : List Int, ns.length ≤ n → ∃ M, F [.frz ns] [] = .ok (.bl true) M)
    (hall : ∀ (w : World) (mg : Str → Option Value) (fa : Addr) (h : Heap), YP w h → h.Ns mainGlobals mg → mg d.name = some (.ref fa) → ∃ (K : PySem.W.Frag) (fd : FuncData), K.In h ∧
      (∀ (s : Shared) (v : Value), BindsTo s fd ⟨[v], []⟩ [("_law_script", v)]) ∧ ∀ base : Heap, K.In base → base.Ns mainGlobals mg → FOk l.prog w K mg base k fa fd ["_law_script"] F) :
    PySem.W.WalkO q loose XP YP l.row.toRowW d [] (fun f us => PySem.call f us) :=
  Att.attach_call hn hd fun w _ s mg mb fa _ _ _ _ a us ns G Y _ _ _ hm ho hi hl hg => by
    obtain ⟨K, fd, KX, hb, hf⟩ := hall w mg fa _ Y G.T.g hm
    exact law_call (sp := spS K 1 F) KX G.T.g G.T.b G.T.builtins G.T.nolimit hg ho hi (Nat.le_trans hl hz) hr hf hb (fun H o t => law_sp hF H a ns hl o t) fun H e s' z => by
      obtain ⟨_, _, _, _, _, _, _, _, _, _, _, _, f⟩ := z
      exact f
end Sm

namespace Sm
open PySem L2
/-! dicts whose keys are ints or texts -/
def keyOf : Val → Option Key
  | .int i => some (.inl i)
  | .str z => some (.inr z)
  | _ => none
def hasK {κ : Type} [DecidableEq κ] (kvs : List (κ × Val)) (k : κ) : Bool := kvs.any fun p => decide (p.1 = k)
def putV {κ : Type} [DecidableEq κ] (kvs : List (κ × Val)) (k : κ) (v : Val) : List (κ × Val) :=
  if hasK kvs k then kvs.map (fun p => if p.1 = k then (p.1, v) else p) else kvs ++ [(k, v)]
def inKD (x y : Val) (M : Mem) : Option Bool := match y with
  | .loc n => (match M[n]? with
    | some (.dK kvs) => (keyOf x).map (hasK kvs)
    | _ => none)
  | _ => none
def inKV (x y : Val) (M : Mem) : Out Val := match inKD x y M with
  | some b => .ok (.bl b) M
  | none => .bad
def notInKV (x y : Val) (M : Mem) : Out Val := match inKD x y M with
  | some b => .ok (.bl (!b)) M
  | none => .bad
section
variable {K : PySem.W.Frag} {ρ : List Addr} {M : Mem} {H : Hp} {κ : Type} [DecidableEq κ]
theorem keyOf_ok {x : Val} {v : V} {k : Key} (h : keyOf x = some k) (r : RV K ρ H x v) : v = kV k := by
  cases x <;> first | (cases h; cases (show v = _ from r); rfl) | cases h
theorem RKs.length : ∀ {l : List (κ × Val)} {ws : List (κ × V)}, RKs K ρ H l ws → ws.length = l.length
  | [], _, h => by cases (show _ = [] from h); rfl
  | (k, x) :: l, _, ⟨v, r, e, _, h⟩ => by subst e; simp [RKs.length h]
theorem RKs.has {k : κ} : ∀ {l : List (κ × Val)} {ws : List (κ × V)}, RKs K ρ H l ws → (ws.any fun p => decide (p.1 = k)) = hasK l k
  | [], _, h => by cases (show _ = [] from h); rfl
  | (j, x) :: l, _, ⟨v, r, e, _, h⟩ => by
    subst e
    show (decide (j = k) || r.any fun p => decide (p.1 = k)) = (decide (j = k) || hasK l k)
    rw [RKs.has h]
theorem RKs.map {k : κ} {z : Val} {u : V} (hz : RV K ρ H z u) : ∀ {l : List (κ × Val)} {ws : List (κ × V)}, RKs K ρ H l ws → RKs K ρ H (l.map fun p => if p.1 = k then (p.1, z) else p) (ws.map fun p => if p.1 = k then (p.1, u) else p)
  | [], _, h => by cases (show _ = [] from h); rfl
  | (j, x) :: l, _, ⟨v, r, e, hx, h⟩ => by
    subst e
    by_cases hj : j = k
    · rw [List.map_cons, List.map_cons, if_pos hj, if_pos hj]
      exact ⟨u, _, rfl, hz, RKs.map hz h⟩
    · rw [List.map_cons, List.map_cons, if_neg hj, if_neg hj]
      exact ⟨v, _, rfl, hx, RKs.map hz h⟩
theorem RKs.snoc {k : κ} {z : Val} {u : V} (hz : RV K ρ H z u) : ∀ {l : List (κ × Val)} {ws : List (κ × V)}, RKs K ρ H l ws → RKs K ρ H (l ++ [(k, z)]) (ws ++ [(k, u)])
  | [], _, h => by cases (show _ = [] from h); exact ⟨u, [], rfl, hz, rfl⟩
  | (j, x) :: l, _, ⟨v, r, e, hx, h⟩ => by subst e; exact ⟨v, _, rfl, hx, RKs.snoc hz h⟩
theorem RKs.put {k : κ} {z : Val} {u : V} {l : List (κ × Val)} {ws : List (κ × V)} (h : RKs K ρ H l ws) (hz : RV K ρ H z u) : RKs K ρ H (putV l k z) (putK ws k u) := by
  unfold putV putK
  rw [h.has]
  split
  · exact RKs.map hz h
  · exact RKs.snoc hz h
theorem valV_has {k : κ} : ∀ ws : List (κ × V), (valV ws k).isSome = ws.any fun p => decide (p.1 = k)
  | [] => rfl
  | p :: r => by
    by_cases e : p.1 = k
    · rw [valV_pos e]; simp [e]
    · rw [valV_neg e, valV_has r]; simp [e]
def rInK : R2 := fun x y H Q => ∃ a k ws, x = kV k ∧ y = .ref a ∧ H a = some (.dK ws) ∧ Q (.bl (valV ws k).isSome) H
def rNotInK : R2 := fun x y H Q => ∃ a k ws, x = kV k ∧ y = .ref a ∧ H a = some (.dK ws) ∧ Q (.bl (!(valV ws k).isSome)) H
theorem op_inK {X : Cx} (hu : X.A.units + 1 < cLine) : OpR X (compareOp .In) rInK := by
  rintro pins s σ H x y v u Q I rx ry ⟨a, k, ws, rfl, rfl, e, q⟩
  cases (show u = Value.ref a from ry)
  exact d_in hu I (.inl ⟨ws, k, .of e, rfl, rfl⟩) rx fun s' I' => ⟨.bl (valV ws k).isSome, H, I', rfl, q⟩
theorem op_notInK {X : Cx} (hu : X.A.units + 1 < cLine) : OpR X (compareOp .NotIn) rNotInK := by
  rintro pins s σ H x y v u Q I rx ry ⟨a, k, ws, rfl, rfl, e, q⟩
  cases (show u = Value.ref a from ry)
  exact d_notIn hu I (.inl ⟨ws, k, .of e, rfl, rfl⟩) rx fun s' I' => ⟨.bl (!(valV ws k).isSome), H, I', rfl, q⟩
theorem inKD_ok {x y : Val} {v u : V} {b : Bool} (R : Rel K ρ M H) (rx : RV K ρ H x v) (ry : RV K ρ H y u) (h : inKD x y M = some b) : ∃ a k ws, v = kV k ∧ u = .ref a ∧ H a = some (.dK ws) ∧ (valV ws k).isSome = b := by
  unfold inKD at h
  split at h
  · split at h
    · rename_i n kvs hn
      obtain ⟨a, e, ha⟩ := ry
      obtain ⟨ws, hw, hr⟩ := R.at_ _ _ _ hn ha
      cases hk : keyOf x with
      | none => rw [hk] at h; cases h
      | some k =>
        rw [hk] at h
        cases h
        exact ⟨a, k, ws, keyOf_ok hk rx, e, hw, by rw [valV_has, hr.has]⟩
    · cases h
  · cases h
theorem os_inK : OpS K rInK inKV := by
  intro ρ M H σ W Q x y v u R rx ry p
  unfold inKV at p
  split at p
  · rename_i b h
    obtain ⟨a, k, ws, h1, h2, h3, h4⟩ := inKD_ok R rx ry h
    exact ⟨a, k, ws, h1, h2, h3, by rw [h4]; exact p.val R rfl⟩
  · exact p.elim
theorem os_notInK : OpS K rNotInK notInKV := by
  intro ρ M H σ W Q x y v u R rx ry p
  unfold notInKV at p
  split at p
  · rename_i b h
    obtain ⟨a, k, ws, h1, h2, h3, h4⟩ := inKD_ok R rx ry h
    exact ⟨a, k, ws, h1, h2, h3, by rw [h4]; exact p.val R rfl⟩
  · exact p.elim
end
theorem hr_u1 {k : Nat} {A : Around} (hr : Room k A) : A.units + 1 < cLine := by
  have := hr.un
  omega
/-! a dict comprehension -/
def dcG (nxt : Nat → Mem → Option (Option Val)) (g : Tg) (t : TF) (ek ev : EF) (D : Nat) (e : Sl) : Nat → Nat → Mem → Out Val
  | 0, _, _ => .bad
  | m + 1, i, M => match nxt i M with
    | none => .bad
    | some none => .ok (.loc D) M
    | some (some x) => match g.put x e with
      | none => .bad
      | some e1 => match t e1 M with
        | .ok b M1 => if b = true then (match ek e1 M1 with
          | .ok y M2 => (match ev e1 M2 with
            | .ok z M3 => (match keyOf y with
              | some k => (match M3[D]? with
                | some (.dK kvs) => if kvs.length < sizeLine then dcG nxt g t ek ev D e m (i + 1) (M3.set D (.dK (putV kvs k z))) else .bad
                | _ => .bad)
              | none => .bad)
            | _ => .bad)
          | _ => .bad) else dcG nxt g t ek ev D e m (i + 1) M1
        | _ => .bad
def eDc (f : IF) (g : Tg) (t : TF) (ek ev : EF) (vs : List Nat) : EF := fun e M => (f e M).bind fun it M1 => dcG it.nxt g t ek ev M1.length (wipeS e vs) it.fuel 0 (M1 ++ [.dK []])
section
variable {X : Cx} {W : WX} {pos : Pos} {tg iter kx vx : Expr} {ifs : List Expr} {scope : Scope} {own : List (Str × Nat)} {f : IF} {g : Tg} {t : TF} {ek ev : EF}
theorem dc_ok (hv : ∀ i ∈ g.vs, i ∈ own.map (·.2)) {σ : St} {H : Hp} {Q : VK} (h : tE X.K W (eDc f g t ek ev (own.map (·.2))) σ H Q) : tDc (tIt X.K W f) (g.g X.K) (tT X.K noW t) (tE X.K noW ek) (tE X.K noW ev) (own.map (·.2)) σ H Q := by
  obtain ⟨ρ, e, M, R, S, p⟩ := h
  refine ⟨ρ, e, M, R, S, (Po.bind (R := Ritr X.K) p).imp fun J H1 ⟨ρ1, M1, it, E1, R1, sim, p1⟩ D hD => ?_⟩
  have EA := Ext.alloc (o := .dK []) ρ1 hD
  have hn : (ρ1 ++ [D])[M1.length]? = some D := by rw [← R1.len, List.getElem?_append_right (Nat.le_refl _)]; simp
  refine ⟨fun i m H' => ∃ ρ' M', Ext ρ1 H1 ρ' H' ∧ Rel X.K ρ' M' H' ∧ ρ'[M1.length]? = some D ∧ Po (RVr X.K) X.K ρ' H' σ W Q (dcG it.nxt g t ek ev M1.length (wipeS e (own.map (·.2))) m i M'),
    ⟨it.fuel, ρ1 ++ [D], _, EA, R1.alloc (c := .dK []) hD ⟨[], upd_same, rfl⟩, hn, p1.mono EA⟩, fun i m H' ⟨ρ', M', E', R', hn', p'⟩ => ?_⟩
  cases m with
  | zero => exact p'.elim
  | succ m =>
    unfold dcG at p'
    cases hx : it.nxt i M' with
    | none => rw [hx] at p'; exact p'.elim
    | some o => cases o with
      | none =>
        rw [hx] at p'
        exact .inl ⟨(sim i ρ' M' H' E' R').1 hx, p' ρ' H' _ (Ext.refl _ _) R' ⟨D, rfl, hn'⟩⟩
      | some x =>
        rw [hx] at p'
        simp only at p'
        obtain ⟨g1, g2⟩ := (sim i ρ' M' H' E' R').2 x hx
        refine .inr ⟨g1, _, fun H2 h => ⟨m, Nat.lt_succ_self m, h⟩, fun v H2 hy => ?_⟩
        obtain ⟨E2, R2, r2⟩ := g2 v H2 hy
        cases hp : g.put x (wipeS e (own.map (·.2))) with
        | none => rw [hp] at p'; exact p'.elim
        | some e1 =>
          rw [hp] at p'
          simp only at p'
          have S2 : SlR X.K ρ' H2 (wipeS e (own.map (·.2))) (L2.wipe σ (own.map (·.2))) := (S.wipe _).mono (E1.trans (E'.trans E2))
          refine Tg.ok hv r2 S2 hp fun σ' S' w => ⟨?_, ρ', e1, M', R2, S', ?_⟩
          · rw [w]
            apply List.ext_getElem?
            intro j
            rw [wipe_get, wipe_get]
            by_cases hj : j ∈ own.map (·.2)
            · rw [if_pos hj, if_pos hj]; cases σ[j]? <;> rfl
            · rw [if_neg hj, if_neg hj]
          · cases ht : t e1 M' with
            | bad => rw [ht] at p'; exact p'.elim
            | ex _ _ => rw [ht] at p'; exact p'.elim
            | ok b M3 =>
              rw [ht] at p'
              simp only at p'
              intro ρ3 H3 b' E3 R3 eb
              cases (show b = b' from eb)
              by_cases hb : b = true
              · rw [if_pos hb] at p' ⊢
                cases hl : ek e1 M3 with
                | bad => rw [hl] at p'; exact p'.elim
                | ex _ _ => rw [hl] at p'; exact p'.elim
                | ok y M4 =>
                  rw [hl] at p'
                  simp only at p'
                  refine ⟨ρ3, e1, M3, R3, S'.mono E3, Po.noex hl fun ρ4 H4 u E4 R4 r4 => ?_⟩
                  cases hl2 : ev e1 M4 with
                  | bad => rw [hl2] at p'; exact p'.elim
                  | ex _ _ => rw [hl2] at p'; exact p'.elim
                  | ok z M5 =>
                    rw [hl2] at p'
                    simp only at p'
                    refine ⟨ρ4, e1, M4, R4, (S'.mono E3).mono E4, Po.noex hl2 fun ρ5 H5 u2 E5 R5 r5 => ?_⟩
                    cases hk : keyOf y with
                    | none => rw [hk] at p'; exact p'.elim
                    | some k =>
                      rw [hk] at p'
                      simp only at p'
                      cases hm : M5[M1.length]? with
                      | none => rw [hm] at p'; exact p'.elim
                      | some c => cases c with
                        | dK acc =>
                          rw [hm] at p'
                          simp only at p'
                          have hn5 := E5.get (E4.get (E3.get hn'))
                          obtain ⟨ws, h3, h4⟩ := R5.at_ _ _ _ hm hn5
                          by_cases hz : acc.length < sizeLine
                          · rw [if_pos hz] at p'
                            refine ⟨ws, k, keyOf_ok hk r4, h3, by rw [h4.length]; exact hz, ?_⟩
                            have hmu : Mut (H5 D) := by rw [h3]; trivial
                            have E6 := Ext.write (o := .dK (putK ws k u2)) ρ5 hmu
                            obtain ⟨R6, _⟩ := R5.write (c := .dK (putV acc k z)) hn5 ⟨_, upd_same, (h4.put r5).mono E6⟩
                            exact ⟨ρ5, _, E'.trans (E2.trans (E3.trans (E4.trans (E5.trans E6)))), R6, hn5, p'.mono (E2.trans (E3.trans (E4.trans (E5.trans E6))))⟩
                          · rw [if_neg hz] at p'; exact p'.elim
                        | _ => rw [hm] at p'; exact p'.elim
              · rw [if_neg hb] at p' ⊢
                exact ⟨ρ3, M3, E'.trans (E2.trans E3), R3, E3.get hn', p'.mono (E2.trans E3)⟩
theorem se_dc (hc : X.calm = true) (hN : X.N.Nodup) (hi : SI X W tg iter f) (ok : BlkOk X.N X.env.scope scope own) (hv : ∀ i ∈ g.vs, i ∈ own.map (·.2))
    (hg : ∀ (s : Shared) (H : Hp) (C : Addr) (cl : List (Str × Addr)) (fp : List Addr), SLT (X.blk s H scope (compEnvC scope cl C X.env) fp) tg g) (ht : ∀ (s : Shared) (H : Hp) (C : Addr) (cl : List (Str × Addr)) (fp : List Addr), STs (X.blk s H scope (compEnvC scope cl C X.env) fp) ifs t)
    (hk : ∀ (s : Shared) (H : Hp) (C : Addr) (cl : List (Str × Addr)) (fp : List Addr), SE (X.blk s H scope (compEnvC scope cl C X.env) fp) noW kx ek)
    (he : ∀ (s : Shared) (H : Hp) (C : Addr) (cl : List (Str × Addr)) (fp : List Addr), SE (X.blk s H scope (compEnvC scope cl C X.env) fp) noW vx ev) (hs : ∀ x, foldedSetIterable iter X.env x = pure x := by intro _; rfl) :
    SE X W (.DictComp kx vx [⟨tg, iter, ifs, 0⟩] scope pos) (eDc f g t ek ev (own.map (·.2))) :=
  ⟨(pe_dc hc hN hi.pi ok (fun s H C cl fp => (hg s H C cl fp).pg) (fun s H C cl fp => (ht s H C cl fp).pts) (fun s H C cl fp => (hk s H C cl fp).pe) (fun s H C cl fp => (he s H C cl fp).pe) hs).imp fun σ H Q h => dc_ok hv h⟩
end
end Sm

namespace Lw
open PySem L2 Sm
@[irreducible] def F_is_number : FnS := fnS 3 3 (sRet (eAnd (eIsi [.int] (eVar 0)) (eAnd (eNot (eIsi [.bool] (eVar 0))) (eChain (cmpV fun i j => decide (i ≤ j)) (cmpV fun i j => decide (i ≤ j)) (eVar 1) (eVar 0) (eVar 2)))))
@[irreducible] def F_is_street : FnS := fnS 2 2 (sSeq (sIf (tOrF (tNotF (tTru (eIsi [.tuple] (eVar 0)))) (tOrF (tCmp2 neV (eCall lenV (aCons (eVar 0) aNil)) (eC (.int 4))) (tNotF (tTru (eFn 3 F_is_number (aCons (eOp2 ixV (eVar 0) (eC (.int 0))) (aCons (eC (.int 0)) (aCons (eOp2 subV (eVar 1) (eC (.int 1))) aNil)))))))) (sRet (eC (.bl false))) sNil) (sSeq (sIf (tOrF (tNotF (tTru (eFn 3 F_is_number (aCons (eOp2 ixV (eVar 0) (eC (.int 1))) (aCons (eC (.int 0)) (aCons (eOp2 subV (eVar 1) (eC (.int 1))) aNil)))))) (tCmp2 eqV (eOp2 ixV (eVar 0) (eC (.int 0))) (eOp2 ixV (eVar 0) (eC (.int 1))))) (sRet (eC (.bl false))) sNil) (sRet (eAnd (eFn 3 F_is_number (aCons (eOp2 ixV (eVar 0) (eC (.int 2))) (aCons (eC (.int 1)) (aCons (eC (.int 99)) aNil)))) (eFn 3 F_is_number (aCons (eOp2 ixV (eVar 0) (eC (.int 3))) (aCons (eC (.int 0)) (aCons (eC (.int 1)) aNil))))))))
@[irreducible] def F_need_town : FnS := fnS 1 3 (sSeq (sIf (tOrF (tNotF (tTru (eIsi [.tuple] (eVar 0)))) (tOrF (tCmp2 neV (eCall lenV (aCons (eVar 0) aNil)) (eC (.int 2))) (tNotF (tTru (eFn 3 F_is_number (aCons (eOp2 ixV (eVar 0) (eC (.int 0))) (aCons (eC (.int 1)) (aCons (eC (.int 9)) aNil)))))))) sBad sNil) (sSeq (sIf (tNotF (tTru (eIsi [.tuple] (eOp2 ixV (eVar 0) (eC (.int 1)))))) sBad sNil) (sFor (iEn (eOp2 ixV (eVar 0) (eC (.int 1)))) (gTp 2 (gsCons (gNm 1) (gsCons (gNm 2) gsNil))) (sIf (tOrF (tCmp2 eqV (eVar 1) (eC (.int 16))) (tNotF (tTru (eFn 2 F_is_street (aCons (eVar 2) (aCons (eOp2 ixV (eVar 0) (eC (.int 0))) aNil)))))) sBad sNil))))
@[irreducible] def F_ends_at : FnS := fnS 2 3 (sSeq (sIf (tOrF (tNotF (tTru (eIsi [.tuple] (eVar 1)))) (tOrF (tCmp2 neV (eCall lenV (aCons (eVar 1) aNil)) (eC (.int 2))) (tNotF (tTru (eFn 3 F_is_number (aCons (eOp2 ixV (eVar 1) (eC (.int 0))) (aCons (eC (.int 0)) (aCons (eOp2 subV (eCall lenV (aCons (eOp2 ixV (eVar 0) (eC (.int 1))) aNil)) (eC (.int 1))) aNil)))))))) (sRet (eC .non)) sNil) (sSeq (sIf (tNotF (tTru (eFn 3 F_is_number (aCons (eOp2 ixV (eVar 1) (eC (.int 1))) (aCons (eC (.int 0)) (aCons (eC (.int 1)) aNil)))))) (sRet (eC .non)) sNil) (sSeq (sAsg (eOp2 ixV (eOp2 ixV (eVar 0) (eC (.int 1))) (eOp2 ixV (eVar 1) (eC (.int 0)))) (gNm 2)) (sSeq (sIf (tCmp2 eqV (eOp2 ixV (eVar 1) (eC (.int 1))) (eC (.int 1))) (sRet (eIf (tCmp2 eqV (eOp2 ixV (eVar 2) (eC (.int 3))) (eC (.int 1))) (eC .non) (eTup (aCons (eOp2 ixV (eVar 2) (eC (.int 1))) (aCons (eOp2 ixV (eVar 2) (eC (.int 0))) aNil))))) sNil) (sRet (eTup (aCons (eOp2 ixV (eVar 2) (eC (.int 0))) (aCons (eOp2 ixV (eVar 2) (eC (.int 1))) aNil))))))))
def t_fault_0 : SF := (sSeq (sIf (tOrF (tCmp2 isN (eVar 5) (eC .non)) (tAndF (tCmp2 neV (eVar 2) (eLst aNil)) (tCmp2 neV (eOp2 ixV (eOp2 ixV (eVar 2) (eOp1 negV (eC (.int 1)))) (eC (.int 1))) (eOp2 ixV (eVar 5) (eC (.int 0)))))) (sRet (eTup (aCons (eC (.str "step")) (aCons (eVar 3) aNil)))) sNil) (sExpr (eMt "list" appendV (eVar 2) (aCons (eVar 5) aNil))))
@[simp] theorem t_fault_0_ap (e : Sl) (M : Mem) : t_fault_0 e M = (sSeq (sIf (tOrF (tCmp2 isN (eVar 5) (eC .non)) (tAndF (tCmp2 neV (eVar 2) (eLst aNil)) (tCmp2 neV (eOp2 ixV (eOp2 ixV (eVar 2) (eOp1 negV (eC (.int 1)))) (eC (.int 1))) (eOp2 ixV (eVar 5) (eC (.int 0)))))) (sRet (eTup (aCons (eC (.str "step")) (aCons (eVar 3) aNil)))) sNil) (sExpr (eMt "list" appendV (eVar 2) (aCons (eVar 5) aNil)))) e M := rfl
def b_fault_1 : SF := (sSeq (sAsg (eFn 2 F_ends_at (aCons (eVar 0) (aCons (eVar 4) aNil))) (gNm 5)) t_fault_0)
@[simp] theorem b_fault_1_ap (e : Sl) (M : Mem) : b_fault_1 e M = (sSeq (sAsg (eFn 2 F_ends_at (aCons (eVar 0) (aCons (eVar 4) aNil))) (gNm 5)) t_fault_0) e M := rfl
def t_fault_2 : SF := (sSeq (sAsg (eLc (iR1 (eCall lenV (aCons (eOp2 ixV (eVar 0) (eC (.int 1))) aNil))) (.one 3) (tCmp2 notInKV (eVar 3) (eVar 6)) (eVar 3) [8, 3]) (gNm 7)) (sRet (eIf (tCmp2 neV (eVar 7) (eLst aNil)) (eTup (aCons (eC (.str "lacks")) (aCons (eOp2 ixV (eVar 7) (eC (.int 0))) aNil))) (eC .non))))
@[simp] theorem t_fault_2_ap (e : Sl) (M : Mem) : t_fault_2 e M = (sSeq (sAsg (eLc (iR1 (eCall lenV (aCons (eOp2 ixV (eVar 0) (eC (.int 1))) aNil))) (.one 3) (tCmp2 notInKV (eVar 3) (eVar 6)) (eVar 3) [8, 3]) (gNm 7)) (sRet (eIf (tCmp2 neV (eVar 7) (eLst aNil)) (eTup (aCons (eC (.str "lacks")) (aCons (eOp2 ixV (eVar 7) (eC (.int 0))) aNil))) (eC .non)))) e M := rfl
def t_fault_3 : SF := (sSeq (sAsg (eDc (iSq (eVar 1)) (.one 4) tTrue (eOp2 ixV (eVar 4) (eC (.int 0))) (eC (.bl true)) [8, 4]) (gNm 6)) t_fault_2)
@[simp] theorem t_fault_3_ap (e : Sl) (M : Mem) : t_fault_3 e M = (sSeq (sAsg (eDc (iSq (eVar 1)) (.one 4) tTrue (eOp2 ixV (eVar 4) (eC (.int 0))) (eC (.bl true)) [8, 4]) (gNm 6)) t_fault_2) e M := rfl
def t_fault_4 : SF := (sSeq (sIf (tAndF (tCmp2 neV (eVar 2) (eLst aNil)) (tCmp2 neV (eOp2 ixV (eOp2 ixV (eVar 2) (eOp1 negV (eC (.int 1)))) (eC (.int 1))) (eOp2 ixV (eOp2 ixV (eVar 2) (eC (.int 0))) (eC (.int 0))))) (sRet (eTup (aCons (eC (.str "open")) aNil))) sNil) t_fault_3)
@[simp] theorem t_fault_4_ap (e : Sl) (M : Mem) : t_fault_4 e M = (sSeq (sIf (tAndF (tCmp2 neV (eVar 2) (eLst aNil)) (tCmp2 neV (eOp2 ixV (eOp2 ixV (eVar 2) (eOp1 negV (eC (.int 1)))) (eC (.int 1))) (eOp2 ixV (eOp2 ixV (eVar 2) (eC (.int 0))) (eC (.int 0))))) (sRet (eTup (aCons (eC (.str "open")) aNil))) sNil) t_fault_3) e M := rfl
def t_fault_5 : SF := (sSeq (sFor (iEn (eVar 1)) (gTp 2 (gsCons (gNm 3) (gsCons (gNm 4) gsNil))) b_fault_1) t_fault_4)
@[simp] theorem t_fault_5_ap (e : Sl) (M : Mem) : t_fault_5 e M = (sSeq (sFor (iEn (eVar 1)) (gTp 2 (gsCons (gNm 3) (gsCons (gNm 4) gsNil))) b_fault_1) t_fault_4) e M := rfl
def t_fault_6 : SF := (sSeq (sAsg (eLst aNil) (gNm 2)) t_fault_5)
@[simp] theorem t_fault_6_ap (e : Sl) (M : Mem) : t_fault_6 e M = (sSeq (sAsg (eLst aNil) (gNm 2)) t_fault_5) e M := rfl
@[irreducible] def F_fault : FnS := fnS 2 9 (sSeq (sExpr (eFn 1 F_need_town (aCons (eVar 0) aNil))) t_fault_6)
@[irreducible] def F__law_row : FnS := fnS 1 3 (sSeq (sAsg (eC (.int 7)) (gNm 1)) (sSeq (sFor (iSq (eVar 0)) (gNm 2) (sAsg (eOp2 modV (eOp2 addV (eOp2 addV (eOp2 mulV (eVar 1) (eC (.int 48271))) (eVar 2)) (eC (.int 11))) (eC (.int 2147483647))) (gNm 1))) (sRet (eLst (aCons (eVar 0) (aCons (eC (.int 0)) (aCons (eC (.int 0)) (aCons (eVar 1) aNil))))))))
@[irreducible] def F__law_taken : FnS := fnS 2 4 (sSeq (sIf (tCmp2 (cmpV fun i j => decide (j < i)) (eOp2 ixV (eVar 0) (eC (.int 2))) (eC (.int 0))) (sSeq (sAsg (eOp2 modV (eOp2 ixV (eVar 0) (eC (.int 2))) (eVar 1)) (gNm 2)) (sSeq (sAsg (eOp2 divV (eOp2 ixV (eVar 0) (eC (.int 2))) (eVar 1)) (gSb (eVar 0) (eC (.int 2)))) (sRet (eVar 2)))) sNil) (sSeq (sIf (tCmp2 (cmpV fun i j => decide (i < j)) (eOp2 ixV (eVar 0) (eC (.int 1))) (eCall lenV (aCons (eOp2 ixV (eVar 0) (eC (.int 0))) aNil))) (sSeq (sAsg (eOp2 ixV (eOp2 ixV (eVar 0) (eC (.int 0))) (eOp2 ixV (eVar 0) (eC (.int 1)))) (gNm 3)) (sSeq (sAsg (eOp2 addV (eOp2 ixV (eVar 0) (eC (.int 1))) (eC (.int 1))) (gSb (eVar 0) (eC (.int 1)))) (sSeq (sIf (tCmp2 (cmpV fun i j => decide (j ≤ i)) (eVar 3) (eOp2 powV (eC (.int 10)) (eC (.int 18)))) (sAsg (eOp2 divV (eVar 3) (eVar 1)) (gSb (eVar 0) (eC (.int 2)))) sNil) (sRet (eOp2 modV (eVar 3) (eVar 1)))))) sNil) (sSeq (sAsg (eOp2 modV (eOp2 addV (eOp2 mulV (eOp2 ixV (eVar 0) (eC (.int 3))) (eC (.int 48271))) (eC (.int 12345))) (eC (.int 2147483647))) (gSb (eVar 0) (eC (.int 3)))) (sRet (eOp2 modV (eOp2 divV (eOp2 ixV (eVar 0) (eC (.int 3))) (eC (.int 1009))) (eVar 1))))))
@[irreducible] def F__law_street : FnS := fnS 3 6 (sSeq (sAsg (eFn 2 F__law_taken (aCons (eVar 0) (aCons (eVar 1) aNil))) (gNm 3)) (sSeq (sAsg (eOp2 modV (eOp2 addV (eOp2 addV (eVar 3) (eC (.int 1))) (eFn 2 F__law_taken (aCons (eVar 0) (aCons (eOp2 subV (eVar 1) (eC (.int 1))) aNil)))) (eVar 1)) (gNm 4)) (sSeq (sAsg (eIf (tCmp2 eqV (eVar 2) (eC (.int 2))) (eFn 2 F__law_taken (aCons (eVar 0) (aCons (eC (.int 2)) aNil))) (eVar 2)) (gNm 5)) (sRet (eTup (aCons (eVar 3) (aCons (eVar 4) (aCons (eOp2 addV (eC (.int 1)) (eFn 2 F__law_taken (aCons (eVar 0) (aCons (eOp2 ixV (eLst (aCons (eC (.int 3)) (aCons (eC (.int 9)) (aCons (eC (.int 99)) aNil)))) (eFn 2 F__law_taken (aCons (eVar 0) (aCons (eC (.int 3)) aNil)))) aNil)))) (aCons (eVar 5) aNil)))))))))
@[irreducible] def F__law_town : FnS := fnS 4 7 (sSeq (sAsg (eOp2 addV (eC (.int 1)) (eFn 2 F__law_taken (aCons (eVar 0) (aCons (eVar 1) aNil)))) (gNm 4)) (sSeq (sIf (tCmp2 eqV (eVar 4) (eC (.int 1))) (sRet (eTup (aCons (eC (.int 1)) (aCons (eTup aNil) aNil)))) sNil) (sRet (eTup (aCons (eVar 4) (aCons (eCall tupleV (aCons (eLc (iR1 (eFn 2 F__law_taken (aCons (eVar 0) (aCons (eOp2 addV (eVar 2) (eC (.int 1))) aNil)))) (.one 6) tTrue (eFn 3 F__law_street (aCons (eVar 0) (aCons (eVar 4) (aCons (eVar 3) aNil)))) [5, 6]) aNil)) aNil))))))
@[irreducible] def F__law_joined : FnS := fnS 4 9 (sSeq (sAsg (eOp2 addV (eC (.int 2)) (eFn 2 F__law_taken (aCons (eVar 0) (aCons (eOp2 subV (eVar 1) (eC (.int 1))) aNil)))) (gNm 4)) (sSeq (sAsg (eLst aNil) (gNm 5)) (sSeq (sFor (iR1 (eVar 4)) (gNm 6) (sSeq (sAsg (eFn 3 F__law_street (aCons (eVar 0) (aCons (eVar 4) (aCons (eVar 3) aNil)))) (gNm 7)) (sExpr (eMt "list" appendV (eVar 5) (aCons (eOp2 addV (eTup (aCons (eVar 6) (aCons (eOp2 modV (eOp2 addV (eVar 6) (eC (.int 1))) (eVar 4)) aNil))) (eSl (eVar 7) (oSome (eC (.int 2))) oNone)) aNil))))) (sSeq (sFor (iR1 (eFn 2 F__law_taken (aCons (eVar 0) (aCons (eCall max2V (aCons (eC (.int 1)) (aCons (eOp2 addV (eOp2 subV (eVar 2) (eVar 4)) (eC (.int 1))) aNil))) aNil)))) (gNm 8) (sExpr (eMt "list" appendV (eVar 5) (aCons (eFn 3 F__law_street (aCons (eVar 0) (aCons (eVar 4) (aCons (eVar 3) aNil)))) aNil)))) (sSeq (sFor (iR1 (eCall lenV (aCons (eVar 5) aNil))) (gNm 8) (sExpr (eMt "list" appendV (eVar 5) (aCons (eMt "list" popAtV (eVar 5) (aCons (eFn 2 F__law_taken (aCons (eVar 0) (aCons (eCall lenV (aCons (eVar 5) aNil)) aNil))) aNil)) aNil)))) (sRet (eTup (aCons (eVar 4) (aCons (eCall tupleV (aCons (eVar 5) aNil)) aNil)))))))))
@[irreducible] def F__law_arcs : FnS := fnS 1 7 (sSeq (sAsg (eLst aNil) (gNm 1)) (sSeq (sFor (iR1 (eCall lenV (aCons (eOp2 ixV (eVar 0) (eC (.int 1))) aNil))) (gNm 2) (sSeq (sAsg (eOp2 ixV (eOp2 ixV (eVar 0) (eC (.int 1))) (eVar 2)) (gTp 4 (gsCons (gNm 3) (gsCons (gNm 4) (gsCons (gNm 5) (gsCons (gNm 6) gsNil)))))) (sAsg (eOp2 addV (eOp2 addV (eVar 1) (eLst (aCons (eTup (aCons (eVar 3) (aCons (eVar 4) (aCons (eVar 5) (aCons (eTup (aCons (eVar 2) (aCons (eC (.int 0)) aNil))) aNil))))) aNil))) (eOp2 mulV (eLst (aCons (eTup (aCons (eVar 4) (aCons (eVar 3) (aCons (eVar 5) (aCons (eTup (aCons (eVar 2) (aCons (eC (.int 1)) aNil))) aNil))))) aNil)) (eOp2 subV (eC (.int 1)) (eVar 6)))) (gNm 1)))) (sRet (eVar 1))))
@[irreducible] def F__law_ends : FnS := fnS 2 9 (sSeq (sAsg (eAnd (eIsi [.tuple] (eVar 1)) (eAnd (eOp2 eqV (eCall lenV (aCons (eVar 1) aNil)) (eC (.int 2))) (eOp2 eqV (eLc (iSq (eVar 1)) (.one 8) (tTru (eIsi [.bool] (eVar 8))) (eVar 8) [7, 8]) (eLst aNil)))) (gNm 2)) (sSeq (sIf (tOrF (tNotF (tTru (eVar 2))) (tCmp2 neV (eLc (iSq (eVar 1)) (.one 8) (tNotF (tTru (eIsi [.int] (eVar 8)))) (eVar 8) [7, 8]) (eLst aNil))) (sRet (eC .non)) sNil) (sSeq (sFor (iSq (eFn 1 F__law_arcs (aCons (eVar 0) aNil))) (gTp 4 (gsCons (gNm 3) (gsCons (gNm 4) (gsCons (gNm 5) (gsCons (gNm 6) gsNil))))) (sIf (tCmp2 eqV (eVar 6) (eVar 1)) (sRet (eTup (aCons (eVar 3) (aCons (eVar 4) aNil)))) sNil)) (sRet (eC .non)))))
def b__law_fault_0 : SF := (sIf (tOrF (tCmp2 isN (eOp2 ixV (eVar 2) (eVar 3)) (eC .non)) (tAndF (tCmp2 (cmpV fun i j => decide (j < i)) (eVar 3) (eC (.int 0))) (tCmp2 neV (eOp2 ixV (eOp2 ixV (eVar 2) (eVar 3)) (eC (.int 0))) (eOp2 ixV (eOp2 ixV (eVar 2) (eOp2 subV (eVar 3) (eC (.int 1)))) (eC (.int 1)))))) (sRet (eTup (aCons (eC (.str "step")) (aCons (eVar 3) aNil)))) sNil)
@[simp] theorem b__law_fault_0_ap (e : Sl) (M : Mem) : b__law_fault_0 e M = (sIf (tOrF (tCmp2 isN (eOp2 ixV (eVar 2) (eVar 3)) (eC .non)) (tAndF (tCmp2 (cmpV fun i j => decide (j < i)) (eVar 3) (eC (.int 0))) (tCmp2 neV (eOp2 ixV (eOp2 ixV (eVar 2) (eVar 3)) (eC (.int 0))) (eOp2 ixV (eOp2 ixV (eVar 2) (eOp2 subV (eVar 3) (eC (.int 1)))) (eC (.int 1)))))) (sRet (eTup (aCons (eC (.str "step")) (aCons (eVar 3) aNil)))) sNil) e M := rfl
def t__law_fault_1 : SF := (sSeq (sAsg (eLc (iR1 (eCall lenV (aCons (eOp2 ixV (eVar 0) (eC (.int 1))) aNil))) (.one 3) (tCmp2 notInV (eVar 3) (eVar 4)) (eVar 3) [6, 3]) (gNm 5)) (sRet (eIf (tCmp2 neV (eVar 5) (eLst aNil)) (eTup (aCons (eC (.str "lacks")) (aCons (eOp2 ixV (eVar 5) (eC (.int 0))) aNil))) (eC .non))))
@[simp] theorem t__law_fault_1_ap (e : Sl) (M : Mem) : t__law_fault_1 e M = (sSeq (sAsg (eLc (iR1 (eCall lenV (aCons (eOp2 ixV (eVar 0) (eC (.int 1))) aNil))) (.one 3) (tCmp2 notInV (eVar 3) (eVar 4)) (eVar 3) [6, 3]) (gNm 5)) (sRet (eIf (tCmp2 neV (eVar 5) (eLst aNil)) (eTup (aCons (eC (.str "lacks")) (aCons (eOp2 ixV (eVar 5) (eC (.int 0))) aNil))) (eC .non)))) e M := rfl
def t__law_fault_2 : SF := (sSeq (sAsg (eLc (iSq (eVar 1)) (.one 7) tTrue (eOp2 ixV (eVar 7) (eC (.int 0))) [6, 7]) (gNm 4)) t__law_fault_1)
@[simp] theorem t__law_fault_2_ap (e : Sl) (M : Mem) : t__law_fault_2 e M = (sSeq (sAsg (eLc (iSq (eVar 1)) (.one 7) tTrue (eOp2 ixV (eVar 7) (eC (.int 0))) [6, 7]) (gNm 4)) t__law_fault_1) e M := rfl
def t__law_fault_3 : SF := (sSeq (sIf (tAndF (tCmp2 neV (eVar 2) (eLst aNil)) (tCmp2 neV (eOp2 ixV (eOp2 ixV (eVar 2) (eC (.int 0))) (eC (.int 0))) (eOp2 ixV (eOp2 ixV (eVar 2) (eOp1 negV (eC (.int 1)))) (eC (.int 1))))) (sRet (eTup (aCons (eC (.str "open")) aNil))) sNil) t__law_fault_2)
@[simp] theorem t__law_fault_3_ap (e : Sl) (M : Mem) : t__law_fault_3 e M = (sSeq (sIf (tAndF (tCmp2 neV (eVar 2) (eLst aNil)) (tCmp2 neV (eOp2 ixV (eOp2 ixV (eVar 2) (eC (.int 0))) (eC (.int 0))) (eOp2 ixV (eOp2 ixV (eVar 2) (eOp1 negV (eC (.int 1)))) (eC (.int 1))))) (sRet (eTup (aCons (eC (.str "open")) aNil))) sNil) t__law_fault_2) e M := rfl
def t__law_fault_4 : SF := (sSeq (sFor (iR1 (eCall lenV (aCons (eVar 2) aNil))) (gNm 3) b__law_fault_0) t__law_fault_3)
@[simp] theorem t__law_fault_4_ap (e : Sl) (M : Mem) : t__law_fault_4 e M = (sSeq (sFor (iR1 (eCall lenV (aCons (eVar 2) aNil))) (gNm 3) b__law_fault_0) t__law_fault_3) e M := rfl
@[irreducible] def F__law_fault : FnS := fnS 2 8 (sSeq (sAsg (eLc (iSq (eVar 1)) (.one 7) tTrue (eFn 2 F__law_ends (aCons (eVar 0) (aCons (eVar 7) aNil))) [6, 7]) (gNm 2)) t__law_fault_4)
def F__law_alike : Nat → FnS
  | 0 => fun _ _ => .bad
  | m + 1 => fnS 2 5 (sSeq (sIf (tTru (eIsi [.tuple, .list] (eVar 1))) (sSeq (sIf (tOrF (tCmp2 neV (eIsi [.tuple] (eVar 0)) (eIsi [.tuple] (eVar 1))) (tNotF (tTru (eIsi [.tuple, .list] (eVar 0))))) (sRet (eC (.bl false))) sNil) (sSeq (sIf (tCmp2 neV (eCall lenV (aCons (eVar 0) aNil)) (eCall lenV (aCons (eVar 1) aNil))) (sRet (eC (.bl false))) sNil) (sRet (eOp2 eqV (eLc (iR1 (eCall lenV (aCons (eVar 1) aNil))) (.one 4) (tNotF (tTru (eFn 2 (F__law_alike m) (aCons (eOp2 ixV (eVar 0) (eVar 4)) (aCons (eOp2 ixV (eVar 1) (eVar 4)) aNil))))) (eVar 4) [3, 4]) (eLst aNil))))) sNil) (sSeq (sIf (tOrF (tCmp2 isN (eVar 1) (eC .non)) (tCmp2 isN (eVar 0) (eC .non))) (sRet (eAnd (eOp2 isN (eVar 1) (eC .non)) (eOp2 isN (eVar 0) (eC .non)))) sNil) (sSeq (sAsg (eOp2 eqV (eIsi [.str] (eVar 1)) (eIsi [.str] (eVar 0))) (gNm 2)) (sRet (eAnd (eVar 2) (eAnd (eOp2 eqV (eIsi [.bool] (eVar 1)) (eIsi [.bool] (eVar 0))) (eOp2 eqV (eVar 0) (eVar 1))))))))
def b_law_0 : SF := (sSeq (sAsg (eOp2 ixV (eVar 8) (eFn 2 F__law_taken (aCons (eVar 1) (aCons (eCall lenV (aCons (eVar 8) aNil)) aNil)))) (gTp 2 (gsCons (gNm 4) (gsCons (gNm 7) gsNil)))) (sExpr (eMt "list" appendV (eVar 5) (aCons (eVar 7) aNil))))
@[simp] theorem b_law_0_ap (e : Sl) (M : Mem) : b_law_0 e M = (sSeq (sAsg (eOp2 ixV (eVar 8) (eFn 2 F__law_taken (aCons (eVar 1) (aCons (eCall lenV (aCons (eVar 8) aNil)) aNil)))) (gTp 2 (gsCons (gNm 4) (gsCons (gNm 7) gsNil)))) (sExpr (eMt "list" appendV (eVar 5) (aCons (eVar 7) aNil)))) e M := rfl
def b_law_1 : SF := (sSeq (sAsg (eLc (iSq (eFn 1 F__law_arcs (aCons (eVar 3) aNil))) (.many [14, 15, 16, 7]) (tCmp2 eqV (eVar 14) (eVar 4)) (eTup (aCons (eVar 15) (aCons (eVar 7) aNil))) [13, 14, 15, 16, 7]) (gNm 8)) (sIf (tCmp2 neV (eVar 8) (eLst aNil)) b_law_0 sNil))
@[simp] theorem b_law_1_ap (e : Sl) (M : Mem) : b_law_1 e M = (sSeq (sAsg (eLc (iSq (eFn 1 F__law_arcs (aCons (eVar 3) aNil))) (.many [14, 15, 16, 7]) (tCmp2 eqV (eVar 14) (eVar 4)) (eTup (aCons (eVar 15) (aCons (eVar 7) aNil))) [13, 14, 15, 16, 7]) (gNm 8)) (sIf (tCmp2 neV (eVar 8) (eLst aNil)) b_law_0 sNil)) e M := rfl
def b_law_2 : SF := (sSeq (sAsg (eFn 2 F__law_taken (aCons (eVar 1) (aCons (eOp2 addV (eCall lenV (aCons (eVar 5) aNil)) (eC (.int 1))) aNil))) (gNm 11)) (sAsg (eOp2 addV (eOp2 addV (eSl (eVar 5) oNone (oSome (eVar 11))) (eLst (aCons (eOp2 ixV (eVar 10) (eFn 2 F__law_taken (aCons (eVar 1) (aCons (eC (.int 13)) aNil)))) aNil))) (eSl (eVar 5) (oSome (eVar 11)) oNone)) (gNm 5)))
@[simp] theorem b_law_2_ap (e : Sl) (M : Mem) : b_law_2 e M = (sSeq (sAsg (eFn 2 F__law_taken (aCons (eVar 1) (aCons (eOp2 addV (eCall lenV (aCons (eVar 5) aNil)) (eC (.int 1))) aNil))) (gNm 11)) (sAsg (eOp2 addV (eOp2 addV (eSl (eVar 5) oNone (oSome (eVar 11))) (eLst (aCons (eOp2 ixV (eVar 10) (eFn 2 F__law_taken (aCons (eVar 1) (aCons (eC (.int 13)) aNil)))) aNil))) (eSl (eVar 5) (oSome (eVar 11)) oNone)) (gNm 5))) e M := rfl
def t_law_3 : SF := (sSeq (sAsg (eFn 2 F__law_fault (aCons (eVar 3) (aCons (eVar 5) aNil))) (gNm 12)) (sIf (tOrF (tNotF (tTru (eFn 2 (F__law_alike 6) (aCons (eFn 2 F_fault (aCons (eVar 3) (aCons (eVar 5) aNil))) (aCons (eVar 12) aNil))))) (tNotF (tTru (eFn 2 (F__law_alike 6) (aCons (eFn 2 F_fault (aCons (eVar 3) (aCons (eCall tupleV (aCons (eVar 5) aNil)) aNil))) (aCons (eVar 12) aNil)))))) (sRet (eC (.bl false))) sNil))
@[simp] theorem t_law_3_ap (e : Sl) (M : Mem) : t_law_3 e M = (sSeq (sAsg (eFn 2 F__law_fault (aCons (eVar 3) (aCons (eVar 5) aNil))) (gNm 12)) (sIf (tOrF (tNotF (tTru (eFn 2 (F__law_alike 6) (aCons (eFn 2 F_fault (aCons (eVar 3) (aCons (eVar 5) aNil))) (aCons (eVar 12) aNil))))) (tNotF (tTru (eFn 2 (F__law_alike 6) (aCons (eFn 2 F_fault (aCons (eVar 3) (aCons (eCall tupleV (aCons (eVar 5) aNil)) aNil))) (aCons (eVar 12) aNil)))))) (sRet (eC (.bl false))) sNil)) e M := rfl
def t_law_4 : SF := (sSeq (sIf (tCmp2 eqV (eFn 2 F__law_taken (aCons (eVar 1) (aCons (eC (.int 2)) aNil))) (eC (.int 0))) b_law_2 sNil) t_law_3)
@[simp] theorem t_law_4_ap (e : Sl) (M : Mem) : t_law_4 e M = (sSeq (sIf (tCmp2 eqV (eFn 2 F__law_taken (aCons (eVar 1) (aCons (eC (.int 2)) aNil))) (eC (.int 0))) b_law_2 sNil) t_law_3) e M := rfl
def t_law_5 : SF := (sSeq (sAsg (eOp2 addV (eVar 10) (eLst (aCons (eTup (aCons (eC (.int 0)) (aCons (eC (.int 1)) aNil))) (aCons (eTup (aCons (eC (.int 0)) (aCons (eC (.int 0)) aNil))) aNil)))) (gNm 10)) t_law_4)
@[simp] theorem t_law_5_ap (e : Sl) (M : Mem) : t_law_5 e M = (sSeq (sAsg (eOp2 addV (eVar 10) (eLst (aCons (eTup (aCons (eC (.int 0)) (aCons (eC (.int 1)) aNil))) (aCons (eTup (aCons (eC (.int 0)) (aCons (eC (.int 0)) aNil))) aNil)))) (gNm 10)) t_law_4) e M := rfl
def t_law_6 : SF := (sSeq (sAsg (eLst (aCons (eTup (aCons (eVar 9) (aCons (eC (.int 0)) aNil))) (aCons (eTup (aCons (eOp2 subV (eC (.int 0)) (eC (.int 1))) (aCons (eC (.int 0)) aNil))) (aCons (eTup (aCons (eC (.int 0)) (aCons (eC (.int 2)) aNil))) (aCons (eTup (aCons (eC (.int 0)) (aCons (eOp2 subV (eC (.int 0)) (eC (.int 1))) aNil))) (aCons (eTup (aCons (eOp2 addV (eVar 9) (eC (.int 9))) (aCons (eC (.int 1)) aNil))) (aCons (eTup (aCons (eC (.int 0)) aNil)) (aCons (eTup (aCons (eC (.int 0)) (aCons (eC (.int 0)) (aCons (eC (.int 0)) aNil)))) (aCons (eTup aNil) (aCons (eTup (aCons (eVar 9) (aCons (eC (.int 1)) aNil))) (aCons (eTup (aCons (eOp2 subV (eC (.int 0)) (eC (.int 9))) (aCons (eC (.int 1)) aNil))) (aCons (eTup (aCons (eC (.int 0)) (aCons (eC (.int 9)) aNil))) aNil)))))))))))) (gNm 10)) t_law_5)
@[simp] theorem t_law_6_ap (e : Sl) (M : Mem) : t_law_6 e M = (sSeq (sAsg (eLst (aCons (eTup (aCons (eVar 9) (aCons (eC (.int 0)) aNil))) (aCons (eTup (aCons (eOp2 subV (eC (.int 0)) (eC (.int 1))) (aCons (eC (.int 0)) aNil))) (aCons (eTup (aCons (eC (.int 0)) (aCons (eC (.int 2)) aNil))) (aCons (eTup (aCons (eC (.int 0)) (aCons (eOp2 subV (eC (.int 0)) (eC (.int 1))) aNil))) (aCons (eTup (aCons (eOp2 addV (eVar 9) (eC (.int 9))) (aCons (eC (.int 1)) aNil))) (aCons (eTup (aCons (eC (.int 0)) aNil)) (aCons (eTup (aCons (eC (.int 0)) (aCons (eC (.int 0)) (aCons (eC (.int 0)) aNil)))) (aCons (eTup aNil) (aCons (eTup (aCons (eVar 9) (aCons (eC (.int 1)) aNil))) (aCons (eTup (aCons (eOp2 subV (eC (.int 0)) (eC (.int 9))) (aCons (eC (.int 1)) aNil))) (aCons (eTup (aCons (eC (.int 0)) (aCons (eC (.int 9)) aNil))) aNil)))))))))))) (gNm 10)) t_law_5) e M := rfl
def t_law_7 : SF := (sSeq (sAsg (eCall lenV (aCons (eOp2 ixV (eVar 3) (eC (.int 1))) aNil)) (gNm 9)) t_law_6)
@[simp] theorem t_law_7_ap (e : Sl) (M : Mem) : t_law_7 e M = (sSeq (sAsg (eCall lenV (aCons (eOp2 ixV (eVar 3) (eC (.int 1))) aNil)) (gNm 9)) t_law_6) e M := rfl
def t_law_8 : SF := (sSeq (sFor (iR1 (eFn 2 F__law_taken (aCons (eVar 1) (aCons (eC (.int 16)) aNil)))) (gNm 6) b_law_1) t_law_7)
@[simp] theorem t_law_8_ap (e : Sl) (M : Mem) : t_law_8 e M = (sSeq (sFor (iR1 (eFn 2 F__law_taken (aCons (eVar 1) (aCons (eC (.int 16)) aNil)))) (gNm 6) b_law_1) t_law_7) e M := rfl
def t_law_9 : SF := (sSeq (sAsg (eTup (aCons (eFn 2 F__law_taken (aCons (eVar 1) (aCons (eOp2 ixV (eVar 3) (eC (.int 0))) aNil))) (aCons (eLst aNil) aNil))) (gTp 2 (gsCons (gNm 4) (gsCons (gNm 5) gsNil)))) t_law_8)
@[simp] theorem t_law_9_ap (e : Sl) (M : Mem) : t_law_9 e M = (sSeq (sAsg (eTup (aCons (eFn 2 F__law_taken (aCons (eVar 1) (aCons (eOp2 ixV (eVar 3) (eC (.int 0))) aNil))) (aCons (eLst aNil) aNil))) (gTp 2 (gsCons (gNm 4) (gsCons (gNm 5) gsNil)))) t_law_8) e M := rfl
def t_law_10 : SF := (sSeq (sIf (tCmp2 eqV (eFn 2 F__law_taken (aCons (eVar 1) (aCons (eC (.int 2)) aNil))) (eC (.int 0))) (sAsg (eFn 4 F__law_joined (aCons (eVar 1) (aCons (eC (.int 4)) (aCons (eC (.int 6)) (aCons (eC (.int 2)) aNil))))) (gNm 3)) sNil) t_law_9)
@[simp] theorem t_law_10_ap (e : Sl) (M : Mem) : t_law_10 e M = (sSeq (sIf (tCmp2 eqV (eFn 2 F__law_taken (aCons (eVar 1) (aCons (eC (.int 2)) aNil))) (eC (.int 0))) (sAsg (eFn 4 F__law_joined (aCons (eVar 1) (aCons (eC (.int 4)) (aCons (eC (.int 6)) (aCons (eC (.int 2)) aNil))))) (gNm 3)) sNil) t_law_9) e M := rfl
def b_law_11 : SF := (sSeq (sAsg (eFn 4 F__law_town (aCons (eVar 1) (aCons (eC (.int 5)) (aCons (eC (.int 7)) (aCons (eC (.int 2)) aNil))))) (gNm 3)) t_law_10)
@[simp] theorem b_law_11_ap (e : Sl) (M : Mem) : b_law_11 e M = (sSeq (sAsg (eFn 4 F__law_town (aCons (eVar 1) (aCons (eC (.int 5)) (aCons (eC (.int 7)) (aCons (eC (.int 2)) aNil))))) (gNm 3)) t_law_10) e M := rfl
def t_law_12 : SF := (sSeq (sFor (iR1 (eC (.int 4))) (gNm 2) b_law_11) (sRet (eC (.bl true))))
@[simp] theorem t_law_12_ap (e : Sl) (M : Mem) : t_law_12 e M = (sSeq (sFor (iR1 (eC (.int 4))) (gNm 2) b_law_11) (sRet (eC (.bl true)))) e M := rfl
@[irreducible] def F_law : FnS := fnS 1 17 (sSeq (sAsg (eFn 1 F__law_row (aCons (eVar 0) aNil)) (gNm 1)) t_law_12)
end Lw

namespace Lw
open PySem L2 Sm
open PyProof.Rows (envOfC)
def topS (i : Nat) : Stmt := PySem.Challenge.pw_streetrounds_k08_rounds_judged.main.body.getD i (.Pass ⟨0, 0, 0, 0⟩)
structure Tx (K : PySem.W.Frag) (mg : Str → Option Value) : Prop where
  m_is_number : mg "is_number" = some (.ref (He.fAd K ("is_number", none)))
  m_is_street : mg "is_street" = some (.ref (He.fAd K ("is_street", none)))
  m_need_town : mg "need_town" = some (.ref (He.fAd K ("need_town", none)))
  m_ends_at : mg "ends_at" = some (.ref (He.fAd K ("ends_at", none)))
  m_fault : mg "fault" = some (.ref (He.fAd K ("fault", none)))
  m__law_row : mg "_law_row" = some (.ref (He.fAd K ("_law_row", none)))
  m__law_taken : mg "_law_taken" = some (.ref (He.fAd K ("_law_taken", none)))
  m__law_street : mg "_law_street" = some (.ref (He.fAd K ("_law_street", none)))
  m__law_town : mg "_law_town" = some (.ref (He.fAd K ("_law_town", none)))
  m__law_joined : mg "_law_joined" = some (.ref (He.fAd K ("_law_joined", none)))
  m__law_arcs : mg "_law_arcs" = some (.ref (He.fAd K ("_law_arcs", none)))
  m__law_ends : mg "_law_ends" = some (.ref (He.fAd K ("_law_ends", none)))
  m__law_fault : mg "_law_fault" = some (.ref (He.fAd K ("_law_fault", none)))
  m__law_alike : mg "_law_alike" = some (.ref (He.fAd K ("_law_alike", none)))
  m_law : mg "law" = some (.ref (He.fAd K ("law", none)))
  d_is_number : ∃ fd, FunD K "is_number" "is_number" (defArgs (topS 9)) (defBody (topS 9)) (defScope (topS 9)) [] [] (He.fAd K ("is_number", none)) fd
  d_is_street : ∃ fd, FunD K "is_street" "is_street" (defArgs (topS 10)) (defBody (topS 10)) (defScope (topS 10)) [] [] (He.fAd K ("is_street", none)) fd
  d_need_town : ∃ fd, FunD K "need_town" "need_town" (defArgs (topS 11)) (defBody (topS 11)) (defScope (topS 11)) [] [] (He.fAd K ("need_town", none)) fd
  d_ends_at : ∃ fd, FunD K "ends_at" "ends_at" (defArgs (topS 13)) (defBody (topS 13)) (defScope (topS 13)) [] [] (He.fAd K ("ends_at", none)) fd
  d_fault : ∃ fd, FunD K "fault" "fault" (defArgs (topS 14)) (defBody (topS 14)) (defScope (topS 14)) [] [] (He.fAd K ("fault", none)) fd
  d__law_row : ∃ fd, FunD K "_law_row" "_law_row" (defArgs (topS 16)) (defBody (topS 16)) (defScope (topS 16)) [] [] (He.fAd K ("_law_row", none)) fd
  d__law_taken : ∃ fd, FunD K "_law_taken" "_law_taken" (defArgs (topS 17)) (defBody (topS 17)) (defScope (topS 17)) [] [] (He.fAd K ("_law_taken", none)) fd
  d__law_street : ∃ fd, FunD K "_law_street" "_law_street" (defArgs (topS 18)) (defBody (topS 18)) (defScope (topS 18)) [] [] (He.fAd K ("_law_street", none)) fd
  d__law_town : ∃ fd, FunD K "_law_town" "_law_town" (defArgs (topS 19)) (defBody (topS 19)) (defScope (topS 19)) [] [] (He.fAd K ("_law_town", none)) fd
  d__law_joined : ∃ fd, FunD K "_law_joined" "_law_joined" (defArgs (topS 20)) (defBody (topS 20)) (defScope (topS 20)) [] [] (He.fAd K ("_law_joined", none)) fd
  d__law_arcs : ∃ fd, FunD K "_law_arcs" "_law_arcs" (defArgs (topS 21)) (defBody (topS 21)) (defScope (topS 21)) [] [] (He.fAd K ("_law_arcs", none)) fd
  d__law_ends : ∃ fd, FunD K "_law_ends" "_law_ends" (defArgs (topS 22)) (defBody (topS 22)) (defScope (topS 22)) [] [] (He.fAd K ("_law_ends", none)) fd
  d__law_fault : ∃ fd, FunD K "_law_fault" "_law_fault" (defArgs (topS 23)) (defBody (topS 23)) (defScope (topS 23)) [] [] (He.fAd K ("_law_fault", none)) fd
  d__law_alike : ∃ fd, FunD K "_law_alike" "_law_alike" (defArgs (topS 24)) (defBody (topS 24)) (defScope (topS 24)) [] [] (He.fAd K ("_law_alike", none)) fd
  d_law : ∃ fd, FunD K "law" "law" (defArgs (topS 25)) (defBody (topS 25)) (defScope (topS 25)) [] [] (He.fAd K ("law", none)) fd
  b_bool : mg "bool" = none
  b_enumerate : mg "enumerate" = none
  b_int : mg "int" = none
  b_isinstance : mg "isinstance" = none
  b_len : mg "len" = none
  b_list : mg "list" = none
  b_max : mg "max" = none
  b_range : mg "range" = none
  b_str : mg "str" = none
  b_tuple : mg "tuple" = none
  g_BACK : ∃ t, mg "BACK" = some (.int 1 t)
  g_FORTH : ∃ t, mg "FORTH" = some (.int 0 t)
  g_MOST_CORNERS : ∃ t, mg "MOST_CORNERS" = some (.int 9 t)
  g_MOST_LONG : ∃ t, mg "MOST_LONG" = some (.int 99 t)
  g_MOST_STREETS : ∃ t, mg "MOST_STREETS" = some (.int 16 t)
section
variable {P : Program} {w : World} {K : PySem.W.Frag} {mg : Str → Option Value} {base : Heap}
abbrev s_is_number : Stmt := topS 9
abbrev N_is_number : List Str := ["part", "low", "high"]
theorem sc_is_number : FnScope N_is_number ["part", "low", "high"] (defScope s_is_number) := ⟨rfl, rfl, rfl, by decide +kernel, rfl, by decide +kernel, by decide +kernel⟩
theorem c_is_number (T : Tx K mg)  : Cal P w K mg base "is_number" 1 3 F_is_number := by
  obtain ⟨fd, F⟩ := T.d_is_number
  unfold F_is_number
  refine cal_of F T.m_is_number sc_is_number (ps := ["part", "low", "high"]) (k := 0) (fun _ _ _ _ _ _ us hl => match us, hl with | [_, _, _], _ => rfl) (fun cdv A outer s H E hr => ?_)
  exact (ss_one (ss_ret (se_and (se_isi .int (se_var (i := 0)) T.b_isinstance T.b_int (by decide +kernel)) (se_and (se_not (se_isi .bool (se_var (i := 0)) T.b_isinstance T.b_bool (by decide +kernel))) (se_one (se_chain op_le op_le os_cmp os_cmp (se_var (i := 1)) (se_var (i := 0)) (se_var (i := 2))))))))
abbrev s_is_street : Stmt := topS 10
abbrev N_is_street : List Str := ["part", "corners"]
theorem sc_is_street : FnScope N_is_street ["part", "corners"] (defScope s_is_street) := ⟨rfl, rfl, rfl, by decide +kernel, rfl, by decide +kernel, by decide +kernel⟩
theorem c_is_street (T : Tx K mg) (C_is_number : Cal P w K mg base "is_number" 1 3 F_is_number) : Cal P w K mg base "is_street" 2 2 F_is_street := by
  obtain ⟨fd, F⟩ := T.d_is_street
  unfold F_is_street
  refine cal_of F T.m_is_street sc_is_street (ps := ["part", "corners"]) (k := 1) (fun _ _ _ _ _ _ us hl => match us, hl with | [_, _], _ => rfl) (fun cdv A outer s H E hr => ?_)
  exact (ss_cons (ss_if (st_w (sw_or (st_not (st_tru (se_isi .tuple (se_var (i := 0)) T.b_isinstance T.b_tuple (by decide +kernel)))) (sw_or (st_cmp (op_neA hr.units) os_ne (se_callB cr_len cs_len T.b_len (by decide +kernel) (sa_cons (se_var (i := 0)) sa_nil)) se_int (nomark _)) (sw_or1 (st_not (st_tru (se_callC C_is_number (hr.mono (by decide)) (takes_of rfl rfl rfl rfl) (sa_cons (se_ix ix_seq os_ix (se_var (i := 0)) se_int) (sa_cons se_int (sa_cons (se_bin op_sub os_sub (se_var (i := 1)) se_int) sa_nil)))))))))) (ss_one (ss_ret se_bl)) ss_nil)
 (ss_cons (ss_if (st_w (sw_or (st_not (st_tru (se_callC C_is_number (hr.mono (by decide)) (takes_of rfl rfl rfl rfl) (sa_cons (se_ix ix_seq os_ix (se_var (i := 0)) se_int) (sa_cons se_int (sa_cons (se_bin op_sub os_sub (se_var (i := 1)) se_int) sa_nil)))))) (sw_or1 (st_cmp (op_eqA hr.units) os_eq (se_ix ix_seq os_ix (se_var (i := 0)) se_int) (se_ix ix_seq os_ix (se_var (i := 0)) se_int) (nomark _))))) (ss_one (ss_ret se_bl)) ss_nil)
 (ss_one (ss_ret (se_and (se_callC C_is_number (hr.mono (by decide)) (takes_of rfl rfl rfl rfl) (sa_cons (se_ix ix_seq os_ix (se_var (i := 0)) se_int) (sa_cons se_int (sa_cons (se_gint T.g_MOST_LONG) sa_nil)))) (se_one (se_callC C_is_number (hr.mono (by decide)) (takes_of rfl rfl rfl rfl) (sa_cons (se_ix ix_seq os_ix (se_var (i := 0)) se_int) (sa_cons se_int (sa_cons se_int sa_nil))))))))))
abbrev s_need_town : Stmt := topS 11
abbrev N_need_town : List Str := ["town", "number", "street"]
theorem sc_need_town : FnScope N_need_town ["town"] (defScope s_need_town) := ⟨rfl, rfl, rfl, by decide +kernel, rfl, by decide +kernel, by decide +kernel⟩
theorem c_need_town (T : Tx K mg) (C_is_number : Cal P w K mg base "is_number" 1 3 F_is_number) (C_is_street : Cal P w K mg base "is_street" 2 2 F_is_street) : Cal P w K mg base "need_town" 3 1 F_need_town := by
  obtain ⟨fd, F⟩ := T.d_need_town
  unfold F_need_town
  refine cal_of F T.m_need_town sc_need_town (ps := ["town"]) (k := 2) (fun _ _ _ _ _ _ us hl => match us, hl with | [_], _ => rfl) (fun cdv A outer s H E hr => ?_)
  exact (ss_cons (ss_if (st_w (sw_or (st_not (st_tru (se_isi .tuple (se_var (i := 0)) T.b_isinstance T.b_tuple (by decide +kernel)))) (sw_or (st_cmp (op_neA hr.units) os_ne (se_callB cr_len cs_len T.b_len (by decide +kernel) (sa_cons (se_var (i := 0)) sa_nil)) se_int (nomark _)) (sw_or1 (st_not (st_tru (se_callC C_is_number (hr.mono (by decide)) (takes_of rfl rfl rfl rfl) (sa_cons (se_ix ix_seq os_ix (se_var (i := 0)) se_int) (sa_cons se_int (sa_cons (se_gint T.g_MOST_CORNERS) sa_nil)))))))))) (ss_one ss_never) ss_nil)
 (ss_cons (ss_if (st_not (st_tru (se_isi .tuple (se_ix ix_seq os_ix (se_var (i := 0)) se_int) T.b_isinstance T.b_tuple (by decide +kernel)))) (ss_one ss_never) ss_nil)
 (ss_one (ss_for (passes_of rfl) rfl (si_enum (se_ix ix_seq os_ix (se_var (i := 0)) se_int) T.b_enumerate) (sg_tup rfl (sgs_cons (sg_name (i := 1) sc_need_town.nd) (sgs_cons (sg_name (i := 2) sc_need_town.nd) sgs_nil))) (ss_one (ss_if (st_w (sw_or (st_cmp (op_eqA hr.units) os_eq (se_var (i := 1)) (se_gint T.g_MOST_STREETS) (nomark _)) (sw_or1 (st_not (st_tru (se_callC C_is_street (hr.mono (by decide)) (takes_of rfl rfl rfl rfl) (sa_cons (se_var (i := 2)) (sa_cons (se_ix ix_seq os_ix (se_var (i := 0)) se_int) sa_nil)))))))) (ss_one ss_never) ss_nil))))))
abbrev s_ends_at : Stmt := topS 13
abbrev N_ends_at : List Str := ["town", "step", "street"]
theorem sc_ends_at : FnScope N_ends_at ["town", "step"] (defScope s_ends_at) := ⟨rfl, rfl, rfl, by decide +kernel, rfl, by decide +kernel, by decide +kernel⟩
theorem c_ends_at (T : Tx K mg) (C_is_number : Cal P w K mg base "is_number" 1 3 F_is_number) : Cal P w K mg base "ends_at" 2 2 F_ends_at := by
  obtain ⟨fd, F⟩ := T.d_ends_at
  unfold F_ends_at
  refine cal_of F T.m_ends_at sc_ends_at (ps := ["town", "step"]) (k := 1) (fun _ _ _ _ _ _ us hl => match us, hl with | [_, _], _ => rfl) (fun cdv A outer s H E hr => ?_)
  exact (ss_cons (ss_if (st_w (sw_or (st_not (st_tru (se_isi .tuple (se_var (i := 1)) T.b_isinstance T.b_tuple (by decide +kernel)))) (sw_or (st_cmp (op_neA hr.units) os_ne (se_callB cr_len cs_len T.b_len (by decide +kernel) (sa_cons (se_var (i := 1)) sa_nil)) se_int (nomark _)) (sw_or1 (st_not (st_tru (se_callC C_is_number (hr.mono (by decide)) (takes_of rfl rfl rfl rfl) (sa_cons (se_ix ix_seq os_ix (se_var (i := 1)) se_int) (sa_cons se_int (sa_cons (se_bin op_sub os_sub (se_callB cr_len cs_len T.b_len (by decide +kernel) (sa_cons (se_ix ix_seq os_ix (se_var (i := 0)) se_int) sa_nil)) se_int) sa_nil)))))))))) (ss_one (ss_ret se_non)) ss_nil)
 (ss_cons (ss_if (st_not (st_tru (se_callC C_is_number (hr.mono (by decide)) (takes_of rfl rfl rfl rfl) (sa_cons (se_ix ix_seq os_ix (se_var (i := 1)) se_int) (sa_cons (se_gint T.g_FORTH) (sa_cons (se_gint T.g_BACK) sa_nil)))))) (ss_one (ss_ret se_non)) ss_nil)
 (ss_cons (ss_asg (se_ix ix_seq os_ix (se_ix ix_seq os_ix (se_var (i := 0)) se_int) (se_ix ix_seq os_ix (se_var (i := 1)) se_int)) (sg_name (i := 2) sc_ends_at.nd))
 (ss_cons (ss_if (st_cmp (op_eqA hr.units) os_eq (se_ix ix_seq os_ix (se_var (i := 1)) se_int) (se_gint T.g_BACK) (nomark _)) (ss_one (ss_ret (se_ifExp (st_cmp (op_eqA hr.units) os_eq (se_ix ix_seq os_ix (se_var (i := 2)) se_int) se_int (nomark _)) se_non (se_tup (sa_cons (se_ix ix_seq os_ix (se_var (i := 2)) se_int) (sa_cons (se_ix ix_seq os_ix (se_var (i := 2)) se_int) sa_nil)))))) ss_nil)
 (ss_one (ss_ret (se_tup (sa_cons (se_ix ix_seq os_ix (se_var (i := 2)) se_int) (sa_cons (se_ix ix_seq os_ix (se_var (i := 2)) se_int) sa_nil)))))))))
abbrev s_fault : Stmt := topS 14
abbrev N_fault : List Str := ["town", "steps", "ends", "number", "step", "found", "gone", "lacking", ".0"]
theorem sc_fault : FnScope N_fault ["town", "steps"] (defScope s_fault) := ⟨rfl, rfl, rfl, by decide +kernel, rfl, by decide +kernel, by decide +kernel⟩
theorem c_fault (T : Tx K mg) (C_need_town : Cal P w K mg base "need_town" 3 1 F_need_town) (C_ends_at : Cal P w K mg base "ends_at" 2 2 F_ends_at) : Cal P w K mg base "fault" 4 2 F_fault := by
  obtain ⟨fd, F⟩ := T.d_fault
  unfold F_fault
  refine cal_of F T.m_fault sc_fault (ps := ["town", "steps"]) (k := 3) (fun _ _ _ _ _ _ us hl => match us, hl with | [_, _], _ => rfl) (fun cdv A outer s H E hr => ?_)
  exact (ss_cons (ss_expr (se_callC C_need_town (hr.mono (by decide)) (takes_of rfl rfl rfl rfl) (sa_cons (se_var (i := 0)) sa_nil)))
 (ss_cons (ss_asg (se_lst sa_nil) (sg_name (i := 2) sc_fault.nd))
 (ss_cons (ss_for (passes_of rfl) rfl (si_enum (se_var (i := 1)) T.b_enumerate) (sg_tup rfl (sgs_cons (sg_name (i := 3) sc_fault.nd) (sgs_cons (sg_name (i := 4) sc_fault.nd) sgs_nil))) (ss_cons (ss_asg (se_callC C_ends_at (hr.mono (by decide)) (takes_of rfl rfl rfl rfl) (sa_cons (se_var (i := 0)) (sa_cons (se_var (i := 4)) sa_nil))) (sg_name (i := 5) sc_fault.nd))
 (ss_cons (ss_if (st_w (sw_or (st_cmp op_isN os_isN (se_var (i := 5)) se_non (nomark _)) (sw_or1 (st_w (sw_and (st_cmp (op_neA hr.units) os_ne (se_var (i := 2)) (se_lst sa_nil) (nomark _)) (sw_and1 (st_cmp (op_neA hr.units) os_ne (se_ix ix_seq os_ix (se_ix ix_seq os_ix (se_var (i := 2)) (se_un un_neg us_neg se_int)) se_int) (se_ix ix_seq os_ix (se_var (i := 5)) se_int) (nomark _)))))))) (ss_one (ss_ret (se_tup (sa_cons se_str (sa_cons (se_var (i := 3)) sa_nil))))) ss_nil)
 (ss_one (ss_expr (se_mt PySem.F.plainAttrs_list PySem.F.slot_list_append PySem.F.type_list_append mt_append ms_append (se_var (i := 2)) (sa_cons (se_var (i := 5)) sa_nil)))))))
 (ss_cons (ss_if (st_w (sw_and (st_cmp (op_neA hr.units) os_ne (se_var (i := 2)) (se_lst sa_nil) (nomark _)) (sw_and1 (st_cmp (op_neA hr.units) os_ne (se_ix ix_seq os_ix (se_ix ix_seq os_ix (se_var (i := 2)) (se_un un_neg us_neg se_int)) se_int) (se_ix ix_seq os_ix (se_ix ix_seq os_ix (se_var (i := 2)) se_int) se_int) (nomark _))))) (ss_one (ss_ret (se_tup (sa_cons se_str sa_nil)))) ss_nil)
 (ss_cons (ss_asg (se_dc (own := [(".0", 8), ("step", 4)]) (g := (.one 4)) rfl sc_fault.nd (si_seq (se_var (i := 1))) (blkOk_by (own := [(".0", 8), ("step", 4)]) (N := N_fault) (by kernel_rfl)) (by decide) (fun _ _ _ _ _ => (sl_one (i := 4) sc_fault.nd)) (fun _ _ _ _ _ => sts_nil) (fun _ _ _ _ _ => (se_ix ix_seq os_ix (se_var (i := 4)) se_int)) (fun _ _ _ _ _ => se_bl)) (sg_name (i := 6) sc_fault.nd))
 (ss_cons (ss_setLc (i := 7) (own := [(".0", 8), ("number", 3)]) (g := (.one 3)) rfl sc_fault.nd (sw_true rfl rfl rfl (by decide +kernel)) (si_r1 (se_callB cr_len cs_len T.b_len (by decide +kernel) (sa_cons (se_ix ix_seq os_ix (se_var (i := 0)) se_int) sa_nil)) T.b_range) (blkOk_by (own := [(".0", 8), ("number", 3)]) (N := N_fault) (by kernel_rfl)) (by decide) (fun _ _ _ _ _ => (sl_one (i := 3) sc_fault.nd)) (fun _ _ _ _ _ => (sts_one (st_cmp (op_notInK (hr_u1 hr)) os_notInK (se_var (i := 3)) (se_var (i := 6)) (by rfl)))) (fun _ _ _ _ _ => (se_var (i := 3))))
 (ss_one (ss_ret (se_ifExp (st_cmp (op_neA hr.units) os_ne (se_var (i := 7)) (se_lst sa_nil) (nomark _)) (se_tup (sa_cons se_str (sa_cons (se_ix ix_seq os_ix (se_var (i := 7)) se_int) sa_nil))) se_non)))))))))
abbrev s__law_row : Stmt := topS 16
abbrev N__law_row : List Str := ["_law_script", "_law_mixed", "_law_cell"]
theorem sc__law_row : FnScope N__law_row ["_law_script"] (defScope s__law_row) := ⟨rfl, rfl, rfl, by decide +kernel, rfl, by decide +kernel, by decide +kernel⟩
theorem c__law_row (T : Tx K mg)  : Cal P w K mg base "_law_row" 1 1 F__law_row := by
  obtain ⟨fd, F⟩ := T.d__law_row
  unfold F__law_row
  refine cal_of F T.m__law_row sc__law_row (ps := ["_law_script"]) (k := 0) (fun _ _ _ _ _ _ us hl => match us, hl with | [_], _ => rfl) (fun cdv A outer s H E hr => ?_)
  exact (ss_cons (ss_asg se_int (sg_name (i := 1) sc__law_row.nd))
 (ss_cons (ss_for (passes_of rfl) rfl (si_seq (se_var (i := 0))) (sg_name (i := 2) sc__law_row.nd) (ss_one (ss_asg (se_bin op_mod os_mod (se_bin op_addA os_add (se_bin op_addA os_add (se_bin op_mulA os_mul (se_var (i := 1)) se_int) (se_var (i := 2))) se_int) se_int) (sg_name (i := 1) sc__law_row.nd))))
 (ss_one (ss_ret (se_lst (sa_cons (se_var (i := 0)) (sa_cons se_int (sa_cons se_int (sa_cons (se_var (i := 1)) sa_nil)))))))))
abbrev s__law_taken : Stmt := topS 17
abbrev N__law_taken : List Str := ["_law_row_here", "_law_many", "_law_found", "_law_cell"]
theorem sc__law_taken : FnScope N__law_taken ["_law_row_here", "_law_many"] (defScope s__law_taken) := ⟨rfl, rfl, rfl, by decide +kernel, rfl, by decide +kernel, by decide +kernel⟩
theorem c__law_taken (T : Tx K mg)  : Cal P w K mg base "_law_taken" 1 2 F__law_taken := by
  obtain ⟨fd, F⟩ := T.d__law_taken
  unfold F__law_taken
  refine cal_of F T.m__law_taken sc__law_taken (ps := ["_law_row_here", "_law_many"]) (k := 0) (fun _ _ _ _ _ _ us hl => match us, hl with | [_, _], _ => rfl) (fun cdv A outer s H E hr => ?_)
  exact (ss_cons (ss_if (st_cmp op_gt os_cmp (se_ix ix_seq os_ix (se_var (i := 0)) se_int) se_int (nomark _)) (ss_cons (ss_asg (se_bin op_mod os_mod (se_ix ix_seq os_ix (se_var (i := 0)) se_int) (se_var (i := 1))) (sg_name (i := 2) sc__law_taken.nd))
 (ss_cons (ss_asg (se_bin op_fdiv os_div (se_ix ix_seq os_ix (se_var (i := 0)) se_int) (se_var (i := 1))) (sg_sub (se_var (i := 0)) se_int))
 (ss_one (ss_ret (se_var (i := 2)))))) ss_nil)
 (ss_cons (ss_if (st_cmp op_lt os_cmp (se_ix ix_seq os_ix (se_var (i := 0)) se_int) (se_callB cr_len cs_len T.b_len (by decide +kernel) (sa_cons (se_ix ix_seq os_ix (se_var (i := 0)) se_int) sa_nil)) (nomark _)) (ss_cons (ss_asg (se_ix ix_seq os_ix (se_ix ix_seq os_ix (se_var (i := 0)) se_int) (se_ix ix_seq os_ix (se_var (i := 0)) se_int)) (sg_name (i := 3) sc__law_taken.nd))
 (ss_cons (ss_asg (se_bin op_addA os_add (se_ix ix_seq os_ix (se_var (i := 0)) se_int) se_int) (sg_sub (se_var (i := 0)) se_int))
 (ss_cons (ss_if (st_cmp op_ge os_cmp (se_var (i := 3)) (se_bin op_pow os_pow se_int se_int) (nomark _)) (ss_one (ss_asg (se_bin op_fdiv os_div (se_var (i := 3)) (se_var (i := 1))) (sg_sub (se_var (i := 0)) se_int))) ss_nil)
 (ss_one (ss_ret (se_bin op_mod os_mod (se_var (i := 3)) (se_var (i := 1)))))))) ss_nil)
 (ss_cons (ss_asg (se_bin op_mod os_mod (se_bin op_addA os_add (se_bin op_mulA os_mul (se_ix ix_seq os_ix (se_var (i := 0)) se_int) se_int) se_int) se_int) (sg_sub (se_var (i := 0)) se_int))
 (ss_one (ss_ret (se_bin op_mod os_mod (se_bin op_fdiv os_div (se_ix ix_seq os_ix (se_var (i := 0)) se_int) se_int) (se_var (i := 1))))))))
abbrev s__law_street : Stmt := topS 18
abbrev N__law_street : List Str := ["_law_row_here", "_law_corners", "_law_kind", "_law_first", "_law_second", "_law_one_way"]
theorem sc__law_street : FnScope N__law_street ["_law_row_here", "_law_corners", "_law_kind"] (defScope s__law_street) := ⟨rfl, rfl, rfl, by decide +kernel, rfl, by decide +kernel, by decide +kernel⟩
theorem c__law_street (T : Tx K mg) (C__law_taken : Cal P w K mg base "_law_taken" 1 2 F__law_taken) : Cal P w K mg base "_law_street" 2 3 F__law_street := by
  obtain ⟨fd, F⟩ := T.d__law_street
  unfold F__law_street
  refine cal_of F T.m__law_street sc__law_street (ps := ["_law_row_here", "_law_corners", "_law_kind"]) (k := 1) (fun _ _ _ _ _ _ us hl => match us, hl with | [_, _, _], _ => rfl) (fun cdv A outer s H E hr => ?_)
  exact (ss_cons (ss_asg (se_callC C__law_taken (hr.mono (by decide)) (takes_of rfl rfl rfl rfl) (sa_cons (se_var (i := 0)) (sa_cons (se_var (i := 1)) sa_nil))) (sg_name (i := 3) sc__law_street.nd))
 (ss_cons (ss_asg (se_bin op_mod os_mod (se_bin op_addA os_add (se_bin op_addA os_add (se_var (i := 3)) se_int) (se_callC C__law_taken (hr.mono (by decide)) (takes_of rfl rfl rfl rfl) (sa_cons (se_var (i := 0)) (sa_cons (se_bin op_sub os_sub (se_var (i := 1)) se_int) sa_nil)))) (se_var (i := 1))) (sg_name (i := 4) sc__law_street.nd))
 (ss_cons (ss_asg (se_ifExp (st_cmp (op_eqA hr.units) os_eq (se_var (i := 2)) se_int (nomark _)) (se_callC C__law_taken (hr.mono (by decide)) (takes_of rfl rfl rfl rfl) (sa_cons (se_var (i := 0)) (sa_cons se_int sa_nil))) (se_var (i := 2))) (sg_name (i := 5) sc__law_street.nd))
 (ss_one (ss_ret (se_tup (sa_cons (se_var (i := 3)) (sa_cons (se_var (i := 4)) (sa_cons (se_bin op_addA os_add se_int (se_callC C__law_taken (hr.mono (by decide)) (takes_of rfl rfl rfl rfl) (sa_cons (se_var (i := 0)) (sa_cons (se_ix ix_seq os_ix (se_lst (sa_cons se_int (sa_cons se_int (sa_cons se_int sa_nil)))) (se_callC C__law_taken (hr.mono (by decide)) (takes_of rfl rfl rfl rfl) (sa_cons (se_var (i := 0)) (sa_cons se_int sa_nil)))) sa_nil)))) (sa_cons (se_var (i := 5)) sa_nil))))))))))
abbrev s__law_town : Stmt := topS 19
abbrev N__law_town : List Str := ["_law_row_here", "_law_corners", "_law_streets", "_law_kind", "_law_many", ".0", "_law_k"]
theorem sc__law_town : FnScope N__law_town ["_law_row_here", "_law_corners", "_law_streets", "_law_kind"] (defScope s__law_town) := ⟨rfl, rfl, rfl, by decide +kernel, rfl, by decide +kernel, by decide +kernel⟩
theorem c__law_town (T : Tx K mg) (C__law_taken : Cal P w K mg base "_law_taken" 1 2 F__law_taken) (C__law_street : Cal P w K mg base "_law_street" 2 3 F__law_street) : Cal P w K mg base "_law_town" 3 4 F__law_town := by
  obtain ⟨fd, F⟩ := T.d__law_town
  unfold F__law_town
  refine cal_of F T.m__law_town sc__law_town (ps := ["_law_row_here", "_law_corners", "_law_streets", "_law_kind"]) (k := 2) (fun _ _ _ _ _ _ us hl => match us, hl with | [_, _, _, _], _ => rfl) (fun cdv A outer s H E hr => ?_)
  exact (ss_cons (ss_asg (se_bin op_addA os_add se_int (se_callC C__law_taken (hr.mono (by decide)) (takes_of rfl rfl rfl rfl) (sa_cons (se_var (i := 0)) (sa_cons (se_var (i := 1)) sa_nil)))) (sg_name (i := 4) sc__law_town.nd))
 (ss_cons (ss_if (st_cmp (op_eqA hr.units) os_eq (se_var (i := 4)) se_int (nomark _)) (ss_one (ss_ret (se_tup (sa_cons se_int (sa_cons (se_tup sa_nil) sa_nil))))) ss_nil)
 (ss_one (ss_ret (se_tup (sa_cons (se_var (i := 4)) (sa_cons (se_callTy call_tuple_of cs_tuple T.b_tuple (by decide +kernel) (sa_cons (se_lc (own := [(".0", 5), ("_law_k", 6)]) (g := (.one 6)) rfl sc__law_town.nd (si_r1 (se_callC C__law_taken (hr.mono (by decide)) (takes_of rfl rfl rfl rfl) (sa_cons (se_var (i := 0)) (sa_cons (se_bin op_addA os_add (se_var (i := 2)) se_int) sa_nil))) T.b_range) (blkOk_by (own := [(".0", 5), ("_law_k", 6)]) (N := N__law_town) (by kernel_rfl)) (by decide) (fun _ _ _ _ _ => (sl_one (i := 6) sc__law_town.nd)) (fun _ _ _ _ _ => sts_nil) (fun _ _ _ _ _ => (se_callC C__law_street (hr.mono (by decide)) takes0 (sa_cons (se_var (i := 0)) (sa_cons (se_var (i := 4)) (sa_cons (se_var (i := 3)) sa_nil)))))) sa_nil)) sa_nil)))))))
abbrev s__law_joined : Stmt := topS 20
abbrev N__law_joined : List Str := ["_law_row_here", "_law_corners", "_law_streets", "_law_kind", "_law_many", "_law_found", "_law_corner", "_law_street_here", "_law_k"]
theorem sc__law_joined : FnScope N__law_joined ["_law_row_here", "_law_corners", "_law_streets", "_law_kind"] (defScope s__law_joined) := ⟨rfl, rfl, rfl, by decide +kernel, rfl, by decide +kernel, by decide +kernel⟩
theorem c__law_joined (T : Tx K mg) (C__law_taken : Cal P w K mg base "_law_taken" 1 2 F__law_taken) (C__law_street : Cal P w K mg base "_law_street" 2 3 F__law_street) : Cal P w K mg base "_law_joined" 3 4 F__law_joined := by
  obtain ⟨fd, F⟩ := T.d__law_joined
  unfold F__law_joined
  refine cal_of F T.m__law_joined sc__law_joined (ps := ["_law_row_here", "_law_corners", "_law_streets", "_law_kind"]) (k := 2) (fun _ _ _ _ _ _ us hl => match us, hl with | [_, _, _, _], _ => rfl) (fun cdv A outer s H E hr => ?_)
  exact (ss_cons (ss_asg (se_bin op_addA os_add se_int (se_callC C__law_taken (hr.mono (by decide)) (takes_of rfl rfl rfl rfl) (sa_cons (se_var (i := 0)) (sa_cons (se_bin op_sub os_sub (se_var (i := 1)) se_int) sa_nil)))) (sg_name (i := 4) sc__law_joined.nd))
 (ss_cons (ss_asg (se_lst sa_nil) (sg_name (i := 5) sc__law_joined.nd))
 (ss_cons (ss_for (passes_of rfl) rfl (si_r1 (se_var (i := 4)) T.b_range) (sg_name (i := 6) sc__law_joined.nd) (ss_cons (ss_asg (se_callC C__law_street (hr.mono (by decide)) (takes_of rfl rfl rfl rfl) (sa_cons (se_var (i := 0)) (sa_cons (se_var (i := 4)) (sa_cons (se_var (i := 3)) sa_nil)))) (sg_name (i := 7) sc__law_joined.nd))
 (ss_one (ss_expr (se_mt PySem.F.plainAttrs_list PySem.F.slot_list_append PySem.F.type_list_append mt_append ms_append (se_var (i := 5)) (sa_cons (se_bin op_addA os_add (se_tup (sa_cons (se_var (i := 6)) (sa_cons (se_bin op_mod os_mod (se_bin op_addA os_add (se_var (i := 6)) se_int) (se_var (i := 4))) sa_nil))) (se_slice (se_var (i := 7)) (so_some se_int) so_none)) sa_nil))))))
 (ss_cons (ss_for (passes_of rfl) rfl (si_r1 (se_callC C__law_taken (hr.mono (by decide)) (takes_of rfl rfl rfl rfl) (sa_cons (se_var (i := 0)) (sa_cons (se_callB (call_max2 rfl) cs_max2 T.b_max (by decide +kernel) (sa_cons se_int (sa_cons (se_bin op_addA os_add (se_bin op_sub os_sub (se_var (i := 2)) (se_var (i := 4))) se_int) sa_nil))) sa_nil))) T.b_range) (sg_name (i := 8) sc__law_joined.nd) (ss_one (ss_expr (se_mt PySem.F.plainAttrs_list PySem.F.slot_list_append PySem.F.type_list_append mt_append ms_append (se_var (i := 5)) (sa_cons (se_callC C__law_street (hr.mono (by decide)) (takes_of rfl rfl rfl rfl) (sa_cons (se_var (i := 0)) (sa_cons (se_var (i := 4)) (sa_cons (se_var (i := 3)) sa_nil)))) sa_nil)))))
 (ss_cons (ss_for (passes_of rfl) rfl (si_r1 (se_callB cr_len cs_len T.b_len (by decide +kernel) (sa_cons (se_var (i := 5)) sa_nil)) T.b_range) (sg_name (i := 8) sc__law_joined.nd) (ss_one (ss_expr (se_mt PySem.F.plainAttrs_list PySem.F.slot_list_append PySem.F.type_list_append mt_append ms_append (se_var (i := 5)) (sa_cons (se_mt PySem.F.plainAttrs_list PySem.F.slot_list_pop PySem.F.type_list_pop mt_popAt ms_popAt (se_var (i := 5)) (sa_cons (se_callC C__law_taken (hr.mono (by decide)) (takes_of rfl rfl rfl rfl) (sa_cons (se_var (i := 0)) (sa_cons (se_callB cr_len cs_len T.b_len (by decide +kernel) (sa_cons (se_var (i := 5)) sa_nil)) sa_nil))) sa_nil)) sa_nil)))))
 (ss_one (ss_ret (se_tup (sa_cons (se_var (i := 4)) (sa_cons (se_callTy call_tuple_of cs_tuple T.b_tuple (by decide +kernel) (sa_cons (se_var (i := 5)) sa_nil)) sa_nil))))))))))
abbrev s__law_arcs : Stmt := topS 21
abbrev N__law_arcs : List Str := ["_law_town_here", "_law_found", "_law_k", "_law_first", "_law_second", "_law_wide", "_law_one_way"]
theorem sc__law_arcs : FnScope N__law_arcs ["_law_town_here"] (defScope s__law_arcs) := ⟨rfl, rfl, rfl, by decide +kernel, rfl, by decide +kernel, by decide +kernel⟩
theorem c__law_arcs (T : Tx K mg)  : Cal P w K mg base "_law_arcs" 1 1 F__law_arcs := by
  obtain ⟨fd, F⟩ := T.d__law_arcs
  unfold F__law_arcs
  refine cal_of F T.m__law_arcs sc__law_arcs (ps := ["_law_town_here"]) (k := 0) (fun _ _ _ _ _ _ us hl => match us, hl with | [_], _ => rfl) (fun cdv A outer s H E hr => ?_)
  exact (ss_cons (ss_asg (se_lst sa_nil) (sg_name (i := 1) sc__law_arcs.nd))
 (ss_cons (ss_for (passes_of rfl) rfl (si_r1 (se_callB cr_len cs_len T.b_len (by decide +kernel) (sa_cons (se_ix ix_seq os_ix (se_var (i := 0)) se_int) sa_nil)) T.b_range) (sg_name (i := 2) sc__law_arcs.nd) (ss_cons (ss_asg (se_ix ix_seq os_ix (se_ix ix_seq os_ix (se_var (i := 0)) se_int) (se_var (i := 2))) (sg_tup rfl (sgs_cons (sg_name (i := 3) sc__law_arcs.nd) (sgs_cons (sg_name (i := 4) sc__law_arcs.nd) (sgs_cons (sg_name (i := 5) sc__law_arcs.nd) (sgs_cons (sg_name (i := 6) sc__law_arcs.nd) sgs_nil))))))
 (ss_one (ss_asg (se_bin op_addA os_add (se_bin op_addA os_add (se_var (i := 1)) (se_lst (sa_cons (se_tup (sa_cons (se_var (i := 3)) (sa_cons (se_var (i := 4)) (sa_cons (se_var (i := 5)) (sa_cons (se_tup (sa_cons (se_var (i := 2)) (sa_cons se_int sa_nil))) sa_nil))))) sa_nil))) (se_bin op_mulA os_mul (se_lst (sa_cons (se_tup (sa_cons (se_var (i := 4)) (sa_cons (se_var (i := 3)) (sa_cons (se_var (i := 5)) (sa_cons (se_tup (sa_cons (se_var (i := 2)) (sa_cons se_int sa_nil))) sa_nil))))) sa_nil)) (se_bin op_sub os_sub se_int (se_var (i := 6))))) (sg_name (i := 1) sc__law_arcs.nd)))))
 (ss_one (ss_ret (se_var (i := 1))))))
abbrev s__law_ends : Stmt := topS 22
abbrev N__law_ends : List Str := ["_law_town_here", "_law_step", "_law_good", "_law_first", "_law_second", "_law_wide", "_law_known", ".0", "_law_part"]
theorem sc__law_ends : FnScope N__law_ends ["_law_town_here", "_law_step"] (defScope s__law_ends) := ⟨rfl, rfl, rfl, by decide +kernel, rfl, by decide +kernel, by decide +kernel⟩
theorem c__law_ends (T : Tx K mg) (C__law_arcs : Cal P w K mg base "_law_arcs" 1 1 F__law_arcs) : Cal P w K mg base "_law_ends" 2 2 F__law_ends := by
  obtain ⟨fd, F⟩ := T.d__law_ends
  unfold F__law_ends
  refine cal_of F T.m__law_ends sc__law_ends (ps := ["_law_town_here", "_law_step"]) (k := 1) (fun _ _ _ _ _ _ us hl => match us, hl with | [_, _], _ => rfl) (fun cdv A outer s H E hr => ?_)
  exact (ss_cons (ss_asg (se_and (se_isi .tuple (se_var (i := 1)) T.b_isinstance T.b_tuple (by decide +kernel)) (se_and (se_cmp (op_eqA hr.units) os_eq (se_callB cr_len cs_len T.b_len (by decide +kernel) (sa_cons (se_var (i := 1)) sa_nil)) se_int (nomark _)) (se_one (se_cmp (op_eqA hr.units) os_eq (se_lc (own := [(".0", 7), ("_law_part", 8)]) (g := (.one 8)) rfl sc__law_ends.nd (si_seq (se_var (i := 1))) (blkOk_by (own := [(".0", 7), ("_law_part", 8)]) (N := N__law_ends) (by kernel_rfl)) (by decide) (fun _ _ _ _ _ => (sl_one (i := 8) sc__law_ends.nd)) (fun _ _ _ _ _ => (sts_one (st_tru (se_isi .bool (se_var (i := 8)) T.b_isinstance T.b_bool (by decide +kernel))))) (fun _ _ _ _ _ => (se_var (i := 8)))) (se_lst sa_nil) (nomark _))))) (sg_name (i := 2) sc__law_ends.nd))
 (ss_cons (ss_if (st_w (sw_or (st_not (st_tru (se_var (i := 2)))) (sw_or1 (st_cmp (op_neA hr.units) os_ne (se_lc (own := [(".0", 7), ("_law_part", 8)]) (g := (.one 8)) rfl sc__law_ends.nd (si_seq (se_var (i := 1))) (blkOk_by (own := [(".0", 7), ("_law_part", 8)]) (N := N__law_ends) (by kernel_rfl)) (by decide) (fun _ _ _ _ _ => (sl_one (i := 8) sc__law_ends.nd)) (fun _ _ _ _ _ => (sts_one (st_not (st_tru (se_isi .int (se_var (i := 8)) T.b_isinstance T.b_int (by decide +kernel)))))) (fun _ _ _ _ _ => (se_var (i := 8)))) (se_lst sa_nil) (nomark _))))) (ss_one (ss_ret se_non)) ss_nil)
 (ss_cons (ss_for (passes_of rfl) rfl (si_seq (se_callC C__law_arcs (hr.mono (by decide)) (takes_of rfl rfl rfl rfl) (sa_cons (se_var (i := 0)) sa_nil))) (sg_tup rfl (sgs_cons (sg_name (i := 3) sc__law_ends.nd) (sgs_cons (sg_name (i := 4) sc__law_ends.nd) (sgs_cons (sg_name (i := 5) sc__law_ends.nd) (sgs_cons (sg_name (i := 6) sc__law_ends.nd) sgs_nil))))) (ss_one (ss_if (st_cmp (op_eqA hr.units) os_eq (se_var (i := 6)) (se_var (i := 1)) (nomark _)) (ss_one (ss_ret (se_tup (sa_cons (se_var (i := 3)) (sa_cons (se_var (i := 4)) sa_nil))))) ss_nil)))
 (ss_one (ss_ret se_non)))))
abbrev s__law_fault : Stmt := topS 23
abbrev N__law_fault : List Str := ["_law_town_here", "_law_steps", "_law_ends_here", "_law_k", "_law_gone", "_law_lacking", ".0", "_law_step"]
theorem sc__law_fault : FnScope N__law_fault ["_law_town_here", "_law_steps"] (defScope s__law_fault) := ⟨rfl, rfl, rfl, by decide +kernel, rfl, by decide +kernel, by decide +kernel⟩
theorem c__law_fault (T : Tx K mg) (C__law_ends : Cal P w K mg base "_law_ends" 2 2 F__law_ends) : Cal P w K mg base "_law_fault" 3 2 F__law_fault := by
  obtain ⟨fd, F⟩ := T.d__law_fault
  unfold F__law_fault
  refine cal_of F T.m__law_fault sc__law_fault (ps := ["_law_town_here", "_law_steps"]) (k := 2) (fun _ _ _ _ _ _ us hl => match us, hl with | [_, _], _ => rfl) (fun cdv A outer s H E hr => ?_)
  exact (ss_cons (ss_setLc (i := 2) (own := [(".0", 6), ("_law_step", 7)]) (g := (.one 7)) rfl sc__law_fault.nd (sw_true rfl rfl rfl (by decide +kernel)) (si_seq (se_var (i := 1))) (blkOk_by (own := [(".0", 6), ("_law_step", 7)]) (N := N__law_fault) (by kernel_rfl)) (by decide) (fun _ _ _ _ _ => (sl_one (i := 7) sc__law_fault.nd)) (fun _ _ _ _ _ => sts_nil) (fun _ _ _ _ _ => (se_callC C__law_ends (hr.mono (by decide)) takes0 (sa_cons (se_var (i := 0)) (sa_cons (se_var (i := 7)) sa_nil)))))
 (ss_cons (ss_for (passes_of rfl) rfl (si_r1 (se_callB cr_len cs_len T.b_len (by decide +kernel) (sa_cons (se_var (i := 2)) sa_nil)) T.b_range) (sg_name (i := 3) sc__law_fault.nd) (ss_one (ss_if (st_w (sw_or (st_cmp op_isN os_isN (se_ix ix_seq os_ix (se_var (i := 2)) (se_var (i := 3))) se_non (nomark _)) (sw_or1 (st_w (sw_and (st_cmp op_gt os_cmp (se_var (i := 3)) se_int (nomark _)) (sw_and1 (st_cmp (op_neA hr.units) os_ne (se_ix ix_seq os_ix (se_ix ix_seq os_ix (se_var (i := 2)) (se_var (i := 3))) se_int) (se_ix ix_seq os_ix (se_ix ix_seq os_ix (se_var (i := 2)) (se_bin op_sub os_sub (se_var (i := 3)) se_int)) se_int) (nomark _)))))))) (ss_one (ss_ret (se_tup (sa_cons se_str (sa_cons (se_var (i := 3)) sa_nil))))) ss_nil)))
 (ss_cons (ss_if (st_w (sw_and (st_cmp (op_neA hr.units) os_ne (se_var (i := 2)) (se_lst sa_nil) (nomark _)) (sw_and1 (st_cmp (op_neA hr.units) os_ne (se_ix ix_seq os_ix (se_ix ix_seq os_ix (se_var (i := 2)) se_int) se_int) (se_ix ix_seq os_ix (se_ix ix_seq os_ix (se_var (i := 2)) (se_un un_neg us_neg se_int)) se_int) (nomark _))))) (ss_one (ss_ret (se_tup (sa_cons se_str sa_nil)))) ss_nil)
 (ss_cons (ss_asg (se_lc (own := [(".0", 6), ("_law_step", 7)]) (g := (.one 7)) rfl sc__law_fault.nd (si_seq (se_var (i := 1))) (blkOk_by (own := [(".0", 6), ("_law_step", 7)]) (N := N__law_fault) (by kernel_rfl)) (by decide) (fun _ _ _ _ _ => (sl_one (i := 7) sc__law_fault.nd)) (fun _ _ _ _ _ => sts_nil) (fun _ _ _ _ _ => (se_ix ix_seq os_ix (se_var (i := 7)) se_int))) (sg_name (i := 4) sc__law_fault.nd))
 (ss_cons (ss_setLc (i := 5) (own := [(".0", 6), ("_law_k", 3)]) (g := (.one 3)) rfl sc__law_fault.nd (sw_true rfl rfl rfl (by decide +kernel)) (si_r1 (se_callB cr_len cs_len T.b_len (by decide +kernel) (sa_cons (se_ix ix_seq os_ix (se_var (i := 0)) se_int) sa_nil)) T.b_range) (blkOk_by (own := [(".0", 6), ("_law_k", 3)]) (N := N__law_fault) (by kernel_rfl)) (by decide) (fun _ _ _ _ _ => (sl_one (i := 3) sc__law_fault.nd)) (fun _ _ _ _ _ => (sts_one (st_cmp (op_notInA (hr_u65 hr)) os_notIn (se_var (i := 3)) (se_var (i := 4)) (by rfl)))) (fun _ _ _ _ _ => (se_var (i := 3))))
 (ss_one (ss_ret (se_ifExp (st_cmp (op_neA hr.units) os_ne (se_var (i := 5)) (se_lst sa_nil) (nomark _)) (se_tup (sa_cons se_str (sa_cons (se_ix ix_seq os_ix (se_var (i := 5)) se_int) sa_nil))) se_non))))))))
abbrev s__law_alike : Stmt := topS 24
abbrev N__law_alike : List Str := ["_law_found", "_law_due", "_law_same_kind", ".0", "_law_k"]
theorem sc__law_alike : FnScope N__law_alike ["_law_found", "_law_due"] (defScope s__law_alike) := ⟨rfl, rfl, rfl, by decide +kernel, rfl, by decide +kernel, by decide +kernel⟩
theorem c__law_alike_rec (T : Tx K mg)  : ∀ m : Nat, Cal P w K mg base "_law_alike" (1 + m) 2 (F__law_alike m)
  | 0 => cal_bad T.d__law_alike T.m__law_alike (ps := ["_law_found", "_law_due"]) rfl (fun _ _ _ _ _ _ us hl => match us, hl with | [_, _], _ => rfl)
  | m + 1 => by
    have C__law_alike := c__law_alike_rec T  m
    obtain ⟨fd, F⟩ := T.d__law_alike
    refine cal_of F T.m__law_alike sc__law_alike (ps := ["_law_found", "_law_due"]) (k := 1 + m) (fun _ _ _ _ _ _ us hl => match us, hl with | [_, _], _ => rfl) (fun cdv A outer s H E hr => ?_)
    exact (ss_cons (ss_if (st_tru (se_isi2 .tuple .list (se_var (i := 1)) T.b_isinstance T.b_tuple (by decide +kernel) T.b_list (by decide +kernel))) (ss_cons (ss_if (st_w (sw_or (st_cmp (op_neA hr.units) os_ne (se_isi .tuple (se_var (i := 0)) T.b_isinstance T.b_tuple (by decide +kernel)) (se_isi .tuple (se_var (i := 1)) T.b_isinstance T.b_tuple (by decide +kernel)) (nomark _)) (sw_or1 (st_not (st_tru (se_isi2 .tuple .list (se_var (i := 0)) T.b_isinstance T.b_tuple (by decide +kernel) T.b_list (by decide +kernel))))))) (ss_one (ss_ret se_bl)) ss_nil)
 (ss_cons (ss_if (st_cmp (op_neA hr.units) os_ne (se_callB cr_len cs_len T.b_len (by decide +kernel) (sa_cons (se_var (i := 0)) sa_nil)) (se_callB cr_len cs_len T.b_len (by decide +kernel) (sa_cons (se_var (i := 1)) sa_nil)) (nomark _)) (ss_one (ss_ret se_bl)) ss_nil)
 (ss_one (ss_ret (se_cmp (op_eqA hr.units) os_eq (se_lc (own := [(".0", 3), ("_law_k", 4)]) (g := (.one 4)) rfl sc__law_alike.nd (si_r1 (se_callB cr_len cs_len T.b_len (by decide +kernel) (sa_cons (se_var (i := 1)) sa_nil)) T.b_range) (blkOk_by (own := [(".0", 3), ("_law_k", 4)]) (N := N__law_alike) (by kernel_rfl)) (by decide) (fun _ _ _ _ _ => (sl_one (i := 4) sc__law_alike.nd)) (fun _ _ _ _ _ => (sts_one (st_not (st_tru (se_callC C__law_alike (hr.mono (Nat.le_refl _)) takes0 (sa_cons (se_ix ix_seq os_ix (se_var (i := 0)) (se_var (i := 4))) (sa_cons (se_ix ix_seq os_ix (se_var (i := 1)) (se_var (i := 4))) sa_nil))))))) (fun _ _ _ _ _ => (se_var (i := 4)))) (se_lst sa_nil) (nomark _)))))) ss_nil)
 (ss_cons (ss_if (st_w (sw_or (st_cmp op_isN os_isN (se_var (i := 1)) se_non (nomark _)) (sw_or1 (st_cmp op_isN os_isN (se_var (i := 0)) se_non (nomark _))))) (ss_one (ss_ret (se_and (se_cmp op_isN os_isN (se_var (i := 1)) se_non (nomark _)) (se_one (se_cmp op_isN os_isN (se_var (i := 0)) se_non (nomark _)))))) ss_nil)
 (ss_cons (ss_asg (se_cmp (op_eqA hr.units) os_eq (se_isi .str (se_var (i := 1)) T.b_isinstance T.b_str (by decide +kernel)) (se_isi .str (se_var (i := 0)) T.b_isinstance T.b_str (by decide +kernel)) (nomark _)) (sg_name (i := 2) sc__law_alike.nd))
 (ss_one (ss_ret (se_and (se_var (i := 2)) (se_and (se_cmp (op_eqA hr.units) os_eq (se_isi .bool (se_var (i := 1)) T.b_isinstance T.b_bool (by decide +kernel)) (se_isi .bool (se_var (i := 0)) T.b_isinstance T.b_bool (by decide +kernel)) (nomark _)) (se_one (se_cmp (op_eqA hr.units) os_eq (se_var (i := 0)) (se_var (i := 1)) (nomark _))))))))))
theorem c__law_alike (T : Tx K mg)  : Cal P w K mg base "_law_alike" 7 2 (F__law_alike 6) := c__law_alike_rec T  6
abbrev s_law : Stmt := topS 25
abbrev N_law : List Str := ["_law_script", "_law_row_here", "_law_turn", "_law_town_here", "_law_here", "_law_steps", "_law_k", "_law_step", "_law_some", "_law_many", "_law_odd", "_law_at", "_law_due", ".0", "_law_first", "_law_second", "_law_wide"]
theorem sc_law : FnScope N_law ["_law_script"] (defScope s_law) := ⟨rfl, rfl, rfl, by decide +kernel, rfl, by decide +kernel, by decide +kernel⟩
theorem c_law (T : Tx K mg) (C__law_row : Cal P w K mg base "_law_row" 1 1 F__law_row) (C__law_town : Cal P w K mg base "_law_town" 3 4 F__law_town) (C__law_taken : Cal P w K mg base "_law_taken" 1 2 F__law_taken) (C__law_joined : Cal P w K mg base "_law_joined" 3 4 F__law_joined) (C__law_arcs : Cal P w K mg base "_law_arcs" 1 1 F__law_arcs) (C__law_fault : Cal P w K mg base "_law_fault" 3 2 F__law_fault) (C_fault : Cal P w K mg base "fault" 4 2 F_fault) (C__law_alike : Cal P w K mg base "_law_alike" 7 2 (F__law_alike 6)) {fd : FuncData} (F : FunD K "law" "law" (defArgs (topS 25)) (defBody (topS 25)) (defScope (topS 25)) [] [] (He.fAd K ("law", none)) fd) : FOk P w K mg base 8 (He.fAd K ("law", none)) fd ["_law_script"] F_law := by
  unfold F_law
  refine fok_of F sc_law (ps := ["_law_script"]) (k := 7) (fun cdv A outer s H E hr => ?_)
  exact (ss_cons (ss_asg (se_callC C__law_row (hr.mono (by decide)) (takes_of rfl rfl rfl rfl) (sa_cons (se_var (i := 0)) sa_nil)) (sg_name (i := 1) sc_law.nd))
 (ss_cons (ss_for (passes_of rfl) rfl (si_r1 se_int T.b_range) (sg_name (i := 2) sc_law.nd) (ss_cons (ss_asg (se_callC C__law_town (hr.mono (by decide)) (takes_of rfl rfl rfl rfl) (sa_cons (se_var (i := 1)) (sa_cons se_int (sa_cons se_int (sa_cons se_int sa_nil))))) (sg_name (i := 3) sc_law.nd))
 (ss_cons (ss_if (st_cmp (op_eqA hr.units) os_eq (se_callC C__law_taken (hr.mono (by decide)) (takes_of rfl rfl rfl rfl) (sa_cons (se_var (i := 1)) (sa_cons se_int sa_nil))) se_int (nomark _)) (ss_one (ss_asg (se_callC C__law_joined (hr.mono (by decide)) (takes_of rfl rfl rfl rfl) (sa_cons (se_var (i := 1)) (sa_cons se_int (sa_cons se_int (sa_cons se_int sa_nil))))) (sg_name (i := 3) sc_law.nd))) ss_nil)
 (ss_cons (ss_asg (se_tup (sa_cons (se_callC C__law_taken (hr.mono (by decide)) (takes_of rfl rfl rfl rfl) (sa_cons (se_var (i := 1)) (sa_cons (se_ix ix_seq os_ix (se_var (i := 3)) se_int) sa_nil))) (sa_cons (se_lst sa_nil) sa_nil))) (sg_tup rfl (sgs_cons (sg_name (i := 4) sc_law.nd) (sgs_cons (sg_name (i := 5) sc_law.nd) sgs_nil))))
 (ss_cons (ss_for (passes_of rfl) rfl (si_r1 (se_callC C__law_taken (hr.mono (by decide)) (takes_of rfl rfl rfl rfl) (sa_cons (se_var (i := 1)) (sa_cons se_int sa_nil))) T.b_range) (sg_name (i := 6) sc_law.nd) (ss_cons (ss_setLc (i := 8) (own := [(".0", 13), ("_law_first", 14), ("_law_second", 15), ("_law_wide", 16), ("_law_step", 7)]) (g := (.many [14, 15, 16, 7])) rfl sc_law.nd (sw_true rfl rfl rfl (by decide +kernel)) (si_seq (se_callC C__law_arcs (hr.mono (by decide)) (takes_of rfl rfl rfl rfl) (sa_cons (se_var (i := 3)) sa_nil))) (blkOk_by (own := [(".0", 13), ("_law_first", 14), ("_law_second", 15), ("_law_wide", 16), ("_law_step", 7)]) (N := N_law) (by kernel_rfl)) (by decide) (fun _ _ _ _ _ => (sl_many rfl (sls_cons (i := 14) sc_law.nd (sls_cons (i := 15) sc_law.nd (sls_cons (i := 16) sc_law.nd (sls_cons (i := 7) sc_law.nd sls_nil)))))) (fun _ _ _ _ _ => (sts_one (st_cmp (op_eqA hr.units) os_eq (se_var (i := 14)) (se_var (i := 4)) (nomark _)))) (fun _ _ _ _ _ => (se_tup (sa_cons (se_var (i := 15)) (sa_cons (se_var (i := 7)) sa_nil)))))
 (ss_one (ss_if (st_cmp (op_neA hr.units) os_ne (se_var (i := 8)) (se_lst sa_nil) (nomark _)) (ss_cons (ss_asg (se_ix ix_seq os_ix (se_var (i := 8)) (se_callC C__law_taken (hr.mono (by decide)) (takes_of rfl rfl rfl rfl) (sa_cons (se_var (i := 1)) (sa_cons (se_callB cr_len cs_len T.b_len (by decide +kernel) (sa_cons (se_var (i := 8)) sa_nil)) sa_nil)))) (sg_tup rfl (sgs_cons (sg_name (i := 4) sc_law.nd) (sgs_cons (sg_name (i := 7) sc_law.nd) sgs_nil))))
 (ss_one (ss_expr (se_mt PySem.F.plainAttrs_list PySem.F.slot_list_append PySem.F.type_list_append mt_append ms_append (se_var (i := 5)) (sa_cons (se_var (i := 7)) sa_nil))))) ss_nil))))
 (ss_cons (ss_asg (se_callB cr_len cs_len T.b_len (by decide +kernel) (sa_cons (se_ix ix_seq os_ix (se_var (i := 3)) se_int) sa_nil)) (sg_name (i := 9) sc_law.nd))
 (ss_cons (ss_asg (se_lst (sa_cons (se_tup (sa_cons (se_var (i := 9)) (sa_cons se_int sa_nil))) (sa_cons (se_tup (sa_cons (se_bin op_sub os_sub se_int se_int) (sa_cons se_int sa_nil))) (sa_cons (se_tup (sa_cons se_int (sa_cons se_int sa_nil))) (sa_cons (se_tup (sa_cons se_int (sa_cons (se_bin op_sub os_sub se_int se_int) sa_nil))) (sa_cons (se_tup (sa_cons (se_bin op_addA os_add (se_var (i := 9)) se_int) (sa_cons se_int sa_nil))) (sa_cons (se_tup (sa_cons se_int sa_nil)) (sa_cons (se_tup (sa_cons se_int (sa_cons se_int (sa_cons se_int sa_nil)))) (sa_cons (se_tup sa_nil) (sa_cons (se_tup (sa_cons (se_var (i := 9)) (sa_cons se_int sa_nil))) (sa_cons (se_tup (sa_cons (se_bin op_sub os_sub se_int se_int) (sa_cons se_int sa_nil))) (sa_cons (se_tup (sa_cons se_int (sa_cons se_int sa_nil))) sa_nil)))))))))))) (sg_name (i := 10) sc_law.nd))
 (ss_cons (ss_asg (se_bin op_addA os_add (se_var (i := 10)) (se_lst (sa_cons (se_tup (sa_cons se_int (sa_cons se_int sa_nil))) (sa_cons (se_tup (sa_cons se_int (sa_cons se_int sa_nil))) sa_nil)))) (sg_name (i := 10) sc_law.nd))
 (ss_cons (ss_if (st_cmp (op_eqA hr.units) os_eq (se_callC C__law_taken (hr.mono (by decide)) (takes_of rfl rfl rfl rfl) (sa_cons (se_var (i := 1)) (sa_cons se_int sa_nil))) se_int (nomark _)) (ss_cons (ss_asg (se_callC C__law_taken (hr.mono (by decide)) (takes_of rfl rfl rfl rfl) (sa_cons (se_var (i := 1)) (sa_cons (se_bin op_addA os_add (se_callB cr_len cs_len T.b_len (by decide +kernel) (sa_cons (se_var (i := 5)) sa_nil)) se_int) sa_nil))) (sg_name (i := 11) sc_law.nd))
 (ss_one (ss_asg (se_bin op_addA os_add (se_bin op_addA os_add (se_slice (se_var (i := 5)) so_none (so_some (se_var (i := 11)))) (se_lst (sa_cons (se_ix ix_seq os_ix (se_var (i := 10)) (se_callC C__law_taken (hr.mono (by decide)) (takes_of rfl rfl rfl rfl) (sa_cons (se_var (i := 1)) (sa_cons se_int sa_nil)))) sa_nil))) (se_slice (se_var (i := 5)) (so_some (se_var (i := 11))) so_none)) (sg_name (i := 5) sc_law.nd)))) ss_nil)
 (ss_cons (ss_asg (se_callC C__law_fault (hr.mono (by decide)) (takes_of rfl rfl rfl rfl) (sa_cons (se_var (i := 3)) (sa_cons (se_var (i := 5)) sa_nil))) (sg_name (i := 12) sc_law.nd))
 (ss_one (ss_if (st_w (sw_or (st_not (st_tru (se_callC C__law_alike (hr.mono (by decide)) (takes_of rfl rfl rfl rfl) (sa_cons (se_callC C_fault (hr.mono (by decide)) (takes_of rfl rfl rfl rfl) (sa_cons (se_var (i := 3)) (sa_cons (se_var (i := 5)) sa_nil))) (sa_cons (se_var (i := 12)) sa_nil))))) (sw_or1 (st_not (st_tru (se_callC C__law_alike (hr.mono (by decide)) (takes_of rfl rfl rfl rfl) (sa_cons (se_callC C_fault (hr.mono (by decide)) (takes_of rfl rfl rfl rfl) (sa_cons (se_var (i := 3)) (sa_cons (se_callTy call_tuple_of cs_tuple T.b_tuple (by decide +kernel) (sa_cons (se_var (i := 5)) sa_nil)) sa_nil))) (sa_cons (se_var (i := 12)) sa_nil)))))))) (ss_one (ss_ret se_bl)) ss_nil))))))))))))
 (ss_one (ss_ret se_bl))))
end
def dd_is_number : He.DefD := ⟨("is_number", none), "is_number", "is_number", defArgs (topS 9), defBody (topS 9), defScope (topS 9), [], []⟩
def dd_is_street : He.DefD := ⟨("is_street", none), "is_street", "is_street", defArgs (topS 10), defBody (topS 10), defScope (topS 10), [], []⟩
def dd_need_town : He.DefD := ⟨("need_town", none), "need_town", "need_town", defArgs (topS 11), defBody (topS 11), defScope (topS 11), [], []⟩
def dd_ends_at : He.DefD := ⟨("ends_at", none), "ends_at", "ends_at", defArgs (topS 13), defBody (topS 13), defScope (topS 13), [], []⟩
def dd_fault : He.DefD := ⟨("fault", none), "fault", "fault", defArgs (topS 14), defBody (topS 14), defScope (topS 14), [], []⟩
def dd__law_row : He.DefD := ⟨("_law_row", none), "_law_row", "_law_row", defArgs (topS 16), defBody (topS 16), defScope (topS 16), [], []⟩
def dd__law_taken : He.DefD := ⟨("_law_taken", none), "_law_taken", "_law_taken", defArgs (topS 17), defBody (topS 17), defScope (topS 17), [], []⟩
def dd__law_street : He.DefD := ⟨("_law_street", none), "_law_street", "_law_street", defArgs (topS 18), defBody (topS 18), defScope (topS 18), [], []⟩
def dd__law_town : He.DefD := ⟨("_law_town", none), "_law_town", "_law_town", defArgs (topS 19), defBody (topS 19), defScope (topS 19), [], []⟩
def dd__law_joined : He.DefD := ⟨("_law_joined", none), "_law_joined", "_law_joined", defArgs (topS 20), defBody (topS 20), defScope (topS 20), [], []⟩
def dd__law_arcs : He.DefD := ⟨("_law_arcs", none), "_law_arcs", "_law_arcs", defArgs (topS 21), defBody (topS 21), defScope (topS 21), [], []⟩
def dd__law_ends : He.DefD := ⟨("_law_ends", none), "_law_ends", "_law_ends", defArgs (topS 22), defBody (topS 22), defScope (topS 22), [], []⟩
def dd__law_fault : He.DefD := ⟨("_law_fault", none), "_law_fault", "_law_fault", defArgs (topS 23), defBody (topS 23), defScope (topS 23), [], []⟩
def dd__law_alike : He.DefD := ⟨("_law_alike", none), "_law_alike", "_law_alike", defArgs (topS 24), defBody (topS 24), defScope (topS 24), [], []⟩
def dd_law : He.DefD := ⟨("law", none), "law", "law", defArgs (topS 25), defBody (topS 25), defScope (topS 25), [], []⟩
def fnD : List He.DefD := [dd_is_number, dd_is_street, dd_need_town, dd_ends_at, dd_fault, dd__law_row, dd__law_taken, dd__law_street, dd__law_town, dd__law_joined, dd__law_arcs, dd__law_ends, dd__law_fault, dd__law_alike, dd_law]
def faD : List He.Fa := [.glo "is_number", .glo "is_street", .glo "need_town", .glo "ends_at", .glo "fault", .glo "_law_row", .glo "_law_taken", .glo "_law_street", .glo "_law_town", .glo "_law_joined", .glo "_law_arcs", .glo "_law_ends", .glo "_law_fault", .glo "_law_alike", .glo "law", .free "bool", .free "enumerate", .free "int", .free "isinstance", .free "len", .free "list", .free "max", .free "range", .free "str", .free "tuple", .int "BACK" 1, .int "FORTH" 0, .int "MOST_CORNERS" 9, .int "MOST_LONG" 99, .int "MOST_STREETS" 16]
theorem tx {K : PySem.W.Frag} {h : Heap} {mg : Str → Option Value} (X : K.In h) (G : h.Ns mainGlobals mg) (c : He.SaysD faD fnD K) : Tx K mg where
  m_is_number := He.glo_ok X G (c.fact 0 (f := .glo "is_number") rfl)
  m_is_street := He.glo_ok X G (c.fact 1 (f := .glo "is_street") rfl)
  m_need_town := He.glo_ok X G (c.fact 2 (f := .glo "need_town") rfl)
  m_ends_at := He.glo_ok X G (c.fact 3 (f := .glo "ends_at") rfl)
  m_fault := He.glo_ok X G (c.fact 4 (f := .glo "fault") rfl)
  m__law_row := He.glo_ok X G (c.fact 5 (f := .glo "_law_row") rfl)
  m__law_taken := He.glo_ok X G (c.fact 6 (f := .glo "_law_taken") rfl)
  m__law_street := He.glo_ok X G (c.fact 7 (f := .glo "_law_street") rfl)
  m__law_town := He.glo_ok X G (c.fact 8 (f := .glo "_law_town") rfl)
  m__law_joined := He.glo_ok X G (c.fact 9 (f := .glo "_law_joined") rfl)
  m__law_arcs := He.glo_ok X G (c.fact 10 (f := .glo "_law_arcs") rfl)
  m__law_ends := He.glo_ok X G (c.fact 11 (f := .glo "_law_ends") rfl)
  m__law_fault := He.glo_ok X G (c.fact 12 (f := .glo "_law_fault") rfl)
  m__law_alike := He.glo_ok X G (c.fact 13 (f := .glo "_law_alike") rfl)
  m_law := He.glo_ok X G (c.fact 14 (f := .glo "law") rfl)
  d_is_number := c.def_ 0 (d := dd_is_number) rfl
  d_is_street := c.def_ 1 (d := dd_is_street) rfl
  d_need_town := c.def_ 2 (d := dd_need_town) rfl
  d_ends_at := c.def_ 3 (d := dd_ends_at) rfl
  d_fault := c.def_ 4 (d := dd_fault) rfl
  d__law_row := c.def_ 5 (d := dd__law_row) rfl
  d__law_taken := c.def_ 6 (d := dd__law_taken) rfl
  d__law_street := c.def_ 7 (d := dd__law_street) rfl
  d__law_town := c.def_ 8 (d := dd__law_town) rfl
  d__law_joined := c.def_ 9 (d := dd__law_joined) rfl
  d__law_arcs := c.def_ 10 (d := dd__law_arcs) rfl
  d__law_ends := c.def_ 11 (d := dd__law_ends) rfl
  d__law_fault := c.def_ 12 (d := dd__law_fault) rfl
  d__law_alike := c.def_ 13 (d := dd__law_alike) rfl
  d_law := c.def_ 14 (d := dd_law) rfl
  b_bool := He.free_ok X G (c.fact 15 (f := .free "bool") rfl)
  b_enumerate := He.free_ok X G (c.fact 16 (f := .free "enumerate") rfl)
  b_int := He.free_ok X G (c.fact 17 (f := .free "int") rfl)
  b_isinstance := He.free_ok X G (c.fact 18 (f := .free "isinstance") rfl)
  b_len := He.free_ok X G (c.fact 19 (f := .free "len") rfl)
  b_list := He.free_ok X G (c.fact 20 (f := .free "list") rfl)
  b_max := He.free_ok X G (c.fact 21 (f := .free "max") rfl)
  b_range := He.free_ok X G (c.fact 22 (f := .free "range") rfl)
  b_str := He.free_ok X G (c.fact 23 (f := .free "str") rfl)
  b_tuple := He.free_ok X G (c.fact 24 (f := .free "tuple") rfl)
  g_BACK := He.int_ok X G (c.fact 25 (f := .int "BACK" 1) rfl)
  g_FORTH := He.int_ok X G (c.fact 26 (f := .int "FORTH" 0) rfl)
  g_MOST_CORNERS := He.int_ok X G (c.fact 27 (f := .int "MOST_CORNERS" 9) rfl)
  g_MOST_LONG := He.int_ok X G (c.fact 28 (f := .int "MOST_LONG" 99) rfl)
  g_MOST_STREETS := He.int_ok X G (c.fact 29 (f := .int "MOST_STREETS" 16) rfl)
abbrev RL : PySem.W.OpenRow := PySem.W.OpenLaw.row PySem.Challenge.rw_streetrounds_k08_rounds_judged
abbrev hkL : PySem.W.Hook := He.hookD 4 faD fnD
def obL (s : PySem.W.SharedT) : He.AlD := He.obsDG 4 faD fnD (HandSHeadRun.getT s)
theorem obL_eq (s : PySem.W.SharedT) : obL s = hkL.obs s.abs := He.obsDG_eq (HandSHeadRun.getT_eq s)
def namesL : List PySem.Str := (["StreetError", "BadTown", "MOST_CORNERS", "MOST_STREETS", "MOST_LONG", "FORTH", "BACK", "is_number", "is_street", "need_town", "ends_at", "fault", "_law_row", "_law_taken", "_law_street", "_law_town", "_law_joined", "_law_arcs", "_law_ends", "_law_fault"] : List PySem.Str) ++ (["_law_alike"] : List PySem.Str)
set_option maxHeartbeats 0 in
theorem runL (w : World) : HandSHeadRun.RunEq RL (PySem.W.view RL.prog [25]) hkL obL 30000 namesL w := by
  intro os
  kernel_rfl
theorem allL {K : PySem.W.Frag} {h : Heap} {mg : Str → Option Value} {P : Program} {w : World} {f : Addr} (X : K.In h) (G : h.Ns mainGlobals mg) (hfa : mg ("law" : Str) = some (.ref f)) (c : He.SaysD faD fnD K) :
    ∃ fd : FuncData, (∀ (s : Shared) (v : Value), BindsTo s fd ⟨[v], []⟩ [("_law_script", v)]) ∧ ∀ base : Heap, K.In base → base.Ns mainGlobals mg → FOk P w K mg base 8 f fd ["_law_script"] F_law := by
  have T := tx X G c
  have e := hfa.symm.trans T.m_law
  cases e
  obtain ⟨fd, F⟩ := T.d_law
  have b := FunD.bindsA (ps := ["_law_script"]) F fun _ _ _ _ _ _ us hl => match us, hl with | [_], _ => rfl
  refine ⟨fd, fun s v => b s [v] rfl, fun base _ _ => ?_⟩
  have C_is_number := c_is_number (P := P) (w := w) (base := base) T 
  have C_is_street := c_is_street (P := P) (w := w) (base := base) T C_is_number
  have C_need_town := c_need_town (P := P) (w := w) (base := base) T C_is_number C_is_street
  have C_ends_at := c_ends_at (P := P) (w := w) (base := base) T C_is_number
  have C_fault := c_fault (P := P) (w := w) (base := base) T C_need_town C_ends_at
  have C__law_row := c__law_row (P := P) (w := w) (base := base) T 
  have C__law_taken := c__law_taken (P := P) (w := w) (base := base) T 
  have C__law_street := c__law_street (P := P) (w := w) (base := base) T C__law_taken
  have C__law_town := c__law_town (P := P) (w := w) (base := base) T C__law_taken C__law_street
  have C__law_joined := c__law_joined (P := P) (w := w) (base := base) T C__law_taken C__law_street
  have C__law_arcs := c__law_arcs (P := P) (w := w) (base := base) T 
  have C__law_ends := c__law_ends (P := P) (w := w) (base := base) T C__law_arcs
  have C__law_fault := c__law_fault (P := P) (w := w) (base := base) T C__law_ends
  have C__law_alike := c__law_alike (P := P) (w := w) (base := base) T 
  exact c_law T C__law_row C__law_town C__law_taken C__law_joined C__law_arcs C__law_fault C_fault C__law_alike F
end Lw

namespace Sm
open PySem L2
/-! what an outcome leaves -/
def Out.wp {α : Type} (o : Out α) (Q : α → Mem → Prop) (E : Ex → Mem → Prop) : Prop := match o with
  | .ok a M => Q a M
  | .ex x M => E x M
  | .bad => False
def SO.wp (o : SO) (N : Sl → Mem → Prop) (R : Val → Mem → Prop) (B C : Sl → Mem → Prop) (E : Ex → Sl → Mem → Prop) : Prop := match o with
  | .nx e M => N e M
  | .rt x M => R x M
  | .bk e M => B e M
  | .ct e M => C e M
  | .ex x e M => E x e M
  | .bad => False
def GO.wp (o : GO) (N : Sl → Mem → Prop) (E : Ex → Sl → Mem → Prop) : Prop := match o with
  | .nx e M => N e M
  | .ex x e M => E x e M
  | .bad => False
abbrev noE : Ex → Mem → Prop := fun _ _ => False
theorem Out.wp_mono {α : Type} {o : Out α} {Q Q' : α → Mem → Prop} {E E' : Ex → Mem → Prop} (h : o.wp Q E) (hq : ∀ a M, Q a M → Q' a M) (he : ∀ x M, E x M → E' x M) : o.wp Q' E' := by
  cases o with
  | ok a M => exact hq a M h
  | ex x M => exact he x M h
  | bad => exact h
theorem Out.wp_imp {α : Type} {o : Out α} {Q Q' : α → Mem → Prop} {E' : Ex → Mem → Prop} (h : o.wp Q noE) (hq : ∀ a M, Q a M → Q' a M) : o.wp Q' E' := Out.wp_mono h hq fun _ _ z => z.elim
theorem SO.wp_mono {o : SO} {N N' : Sl → Mem → Prop} {R R' : Val → Mem → Prop} {B B' C C' : Sl → Mem → Prop} {E E' : Ex → Sl → Mem → Prop} (h : o.wp N R B C E) (h1 : ∀ e M, N e M → N' e M) (h2 : ∀ x M, R x M → R' x M) (h3 : ∀ e M, B e M → B' e M) (h4 : ∀ e M, C e M → C' e M)
    (h5 : ∀ x e M, E x e M → E' x e M) : o.wp N' R' B' C' E' := by
  cases o with
  | nx e M => exact h1 e M h
  | rt x M => exact h2 x M h
  | bk e M => exact h3 e M h
  | ct e M => exact h4 e M h
  | ex x e M => exact h5 x e M h
  | bad => exact h
theorem Out.wp_ok {α : Type} {o : Out α} {Q : α → Mem → Prop} (h : o.wp Q noE) : ∃ a M, o = .ok a M ∧ Q a M := by
  cases o with
  | ok a M => exact ⟨a, M, rfl, h⟩
  | ex x M => exact h.elim
  | bad => exact h.elim
section
variable {α β : Type} {Q : α → Mem → Prop} {Qv : Val → Mem → Prop} {Qb : Bool → Mem → Prop} {Ql : List Val → Mem → Prop} {E : Ex → Mem → Prop} {e : Sl} {M : Mem} {N B C : Sl → Mem → Prop} {R : Val → Mem → Prop} {Es : Ex → Sl → Mem → Prop}
@[simp] theorem wp_ok (a : α) : (Out.ok a M).wp Q E = Q a M := rfl
@[simp] theorem wp_ex (x : Ex) : (Out.ex x M : Out α).wp Q E = E x M := rfl
@[simp] theorem wp_bad : (Out.bad : Out α).wp Q E = False := rfl
@[simp] theorem wp_snx : (SO.nx e M).wp N R B C Es = N e M := rfl
@[simp] theorem wp_srt (x : Val) : (SO.rt x M).wp N R B C Es = R x M := rfl
@[simp] theorem wp_sbk : (SO.bk e M).wp N R B C Es = B e M := rfl
@[simp] theorem wp_sct : (SO.ct e M).wp N R B C Es = C e M := rfl
@[simp] theorem wp_sex (x : Ex) : (SO.ex x e M).wp N R B C Es = Es x e M := rfl
@[simp] theorem wp_sbad : (SO.bad).wp N R B C Es = False := rfl
theorem wp_bind (o : Out α) (k : α → Mem → Out β) (Q : β → Mem → Prop) : (o.bind k).wp Q E = o.wp (fun a M => (k a M).wp Q E) E := by cases o <;> rfl
theorem wp_toS (o : Out α) (k : α → Mem → SO) : (o.toS e k).wp N R B C Es = o.wp (fun a M => (k a M).wp N R B C Es) (fun x M => Es x e M) := by cases o <;> rfl
theorem wp_gtoS (o : GO) (k : Sl → Mem → SO) : (o.toS k).wp N R B C Es = o.wp (fun a M => (k a M).wp N R B C Es) Es := by cases o <;> rfl
@[simp] theorem wp_eC (x : Val) : (eC x e M).wp Qv E = Qv x M := rfl
/-- a slot -/
def sget (e : Sl) (i : Nat) : Option Val := match e[i]? with
  | some o => o
  | none => none
@[simp] theorem wp_eVar (i : Nat) : (eVar i e M).wp Qv E = ∃ x, sget e i = some x ∧ Qv x M := by
  unfold eVar sget
  cases h : e[i]? with
  | none => simp
  | some o => cases o <;> simp
@[simp] theorem sget_0 (o : Option Val) (e : Sl) : sget (o :: e) 0 = o := rfl
@[simp] theorem sget_s (o : Option Val) (e : Sl) (i : Nat) : sget (o :: e) (i + 1) = sget e i := by unfold sget; simp
@[simp] theorem wp_eOp2 (g : Val → Val → Mem → Out Val) (fa fb : EF) : (eOp2 g fa fb e M).wp Qv E = (fa e M).wp (fun x M1 => (fb e M1).wp (fun y M2 => (g x y M2).wp Qv E) E) E := by
  unfold eOp2; simp only [wp_bind]
@[simp] theorem wp_eOp1 (g : Val → Mem → Out Val) (fa : EF) : (eOp1 g fa e M).wp Qv E = (fa e M).wp (fun x M1 => (g x M1).wp Qv E) E := by unfold eOp1; simp only [wp_bind]
@[simp] theorem wp_aNil : (aNil e M).wp Ql E = Ql [] M := rfl
@[simp] theorem wp_aCons (fa : EF) (fr : AF) : (aCons fa fr e M).wp Ql E = (fa e M).wp (fun x M1 => (fr e M1).wp (fun l M2 => Ql (x :: l) M2) E) E := by unfold aCons; simp only [wp_bind, wp_ok]
theorem wp_ite {c : Prop} [Decidable c] {o : Out α} : (if c then o else .bad).wp Q E = (c ∧ o.wp Q E) := by
  by_cases h : c <;> simp [h]
@[simp] theorem wp_eTup (fa : AF) : (eTup fa e M).wp Qv E = (fa e M).wp (fun l M1 => l.length ≤ sizeLine ∧ Qv (.tup l) M1) E := by unfold eTup; simp only [wp_bind, wp_ite, wp_ok]
@[simp] theorem wp_eLst (fa : AF) : (eLst fa e M).wp Qv E = (fa e M).wp (fun l M1 => l.length ≤ sizeLine ∧ Qv (.loc M1.length) (M1 ++ [.lst l])) E := by unfold eLst; simp only [wp_bind, wp_ite, wp_ok]
@[simp] theorem wp_eCall (F : FnS) (fa : AF) : (eCall F fa e M).wp Qv E = (fa e M).wp (fun l M1 => (F l M1).wp Qv E) E := by unfold eCall; simp only [wp_bind]
@[simp] theorem wp_eFn (np : Nat) (F : FnS) (fa : AF) : (eFn np F fa e M).wp Qv E = (fa e M).wp (fun l M1 => l.length = np ∧ (F l M1).wp Qv E) E := by unfold eFn; simp only [wp_bind, wp_ite]
@[simp] theorem wp_eIf (t : TF) (fa fb : EF) : (eIf t fa fb e M).wp Qv E = (t e M).wp (fun b M1 => if b = true then (fa e M1).wp Qv E else (fb e M1).wp Qv E) E := by
  unfold eIf; simp only [wp_bind]; congr 1; funext b M1; split <;> rfl
/-! tests -/
def isB (x : Val) : Option Bool := match x with
  | .bl b => some b
  | _ => none
@[simp] theorem isB_bl (b : Bool) : isB (.bl b) = some b := rfl
theorem wp_isB (x : Val) (M : Mem) : Out.wp (match x with | .bl b => .ok b M | _ => .bad) Qb E = ∃ b, x = .bl b ∧ Qb b M := by
  cases x <;> simp
@[simp] theorem wp_tCmp2 (g : Val → Val → Mem → Out Val) (fa fb : EF) : (tCmp2 g fa fb e M).wp Qb E = (fa e M).wp (fun x M1 => (fb e M1).wp (fun y M2 => (g x y M2).wp (fun z M3 => ∃ b, z = .bl b ∧ Qb b M3) E) E) E := by
  unfold tCmp2; simp only [wp_bind, wp_eOp2]; congr 1; funext x M1; congr 1; funext y M2; congr 1; funext z M3; cases z <;> simp
@[simp] theorem wp_tOfE (f : EF) : (tOfE f e M).wp Qb E = (f e M).wp (fun z M3 => ∃ b, z = .bl b ∧ Qb b M3) E := by unfold tOfE; simp only [wp_bind]; congr 1; funext z M3; cases z <;> simp
@[simp] theorem wp_tTru (f : EF) : (tTru f e M).wp Qb E = (f e M).wp (fun z M3 => ∃ b, truV z M3 = some b ∧ Qb b M3) E := by
  unfold tTru; simp only [wp_bind]; congr 1; funext z M3; cases truV z M3 <;> simp
@[simp] theorem wp_tNotF (t : TF) : (tNotF t e M).wp Qb E = (t e M).wp (fun b M1 => Qb (!b) M1) E := by unfold tNotF; simp only [wp_bind, wp_ok]
@[simp] theorem wp_tAndF (t u : TF) : (tAndF t u e M).wp Qb E = (t e M).wp (fun b M1 => if b = true then (u e M1).wp Qb E else Qb false M1) E := by
  unfold tAndF; simp only [wp_bind]; congr 1; funext b M1; split <;> rfl
@[simp] theorem wp_tOrF (t u : TF) : (tOrF t u e M).wp Qb E = (t e M).wp (fun b M1 => if b = true then Qb true M1 else (u e M1).wp Qb E) E := by
  unfold tOrF; simp only [wp_bind]; congr 1; funext b M1; split <;> rfl
@[simp] theorem wp_tTrue : (tTrue e M).wp Qb E = Qb true M := rfl
@[simp] theorem wp_eAnd (f g : EF) : (eAnd f g e M).wp Qv E = (f e M).wp (fun z M1 => ∃ b, z = .bl b ∧ if b = true then (g e M1).wp Qv E else Qv (.bl false) M1) E := by
  unfold eAnd; simp only [wp_bind]; congr 1; funext z M1; cases z <;> simp <;> split <;> simp_all
@[simp] theorem wp_eOr (f g : EF) : (eOr f g e M).wp Qv E = (f e M).wp (fun z M1 => ∃ b, z = .bl b ∧ if b = true then Qv (.bl true) M1 else (g e M1).wp Qv E) E := by
  unfold eOr; simp only [wp_bind]; congr 1; funext z M1; cases z <;> simp <;> split <;> simp_all
@[simp] theorem wp_eNot (f : EF) : (eNot f e M).wp Qv E = (f e M).wp (fun z M1 => ∃ b, z = .bl b ∧ Qv (.bl (!b)) M1) E := by
  unfold eNot; simp only [wp_bind]; congr 1; funext z M1; cases z <;> simp
@[simp] theorem wp_eChain (g g' : Val → Val → Mem → Out Val) (fa fb fc : EF) : (eChain g g' fa fb fc e M).wp Qv E = (fa e M).wp (fun x M1 => (fb e M1).wp (fun y M2 => (g x y M2).wp (fun z M3 => ∃ b, z = .bl b ∧
    if b = true then (fc e M3).wp (fun w M4 => (g' y w M4).wp Qv E) E else Qv (.bl false) M3) E) E) E := by
  unfold eChain; simp only [wp_bind]; congr 1; funext x M1; congr 1; funext y M2; congr 1; funext z M3; cases z <;> simp <;> split <;> simp_all [wp_bind]
@[simp] theorem sizeLine_val : sizeLine = 16777216 := by decide
/-! statements -/
@[simp] theorem wp_sNil : (sNil e M).wp N R B C Es = N e M := rfl
@[simp] theorem wp_sSeq (f g : SF) : (sSeq f g e M).wp N R B C Es = (f e M).wp (fun e1 M1 => (g e1 M1).wp N R B C Es) R B C Es := by
  unfold sSeq SO.seq; cases f e M <;> rfl
@[simp] theorem wp_sExpr (f : EF) : (sExpr f e M).wp N R B C Es = (f e M).wp (fun _ M1 => N e M1) (fun x M1 => Es x e M1) := by unfold sExpr; simp only [wp_toS, wp_snx]
@[simp] theorem wp_sRet (f : EF) : (sRet f e M).wp N R B C Es = (f e M).wp R (fun x M1 => Es x e M1) := by unfold sRet; simp only [wp_toS, wp_srt]
@[simp] theorem wp_sRetN : (sRetN e M).wp N R B C Es = R .non M := rfl
@[simp] theorem wp_sBrk : (sBrk e M).wp N R B C Es = B e M := rfl
@[simp] theorem wp_sCnt : (sCnt e M).wp N R B C Es = C e M := rfl
@[simp] theorem wp_sBad : (sBad e M).wp N R B C Es = False := rfl
@[simp] theorem wp_sIf (t : TF) (f g : SF) : (sIf t f g e M).wp N R B C Es = (t e M).wp (fun b M1 => if b = true then (f e M1).wp N R B C Es else (g e M1).wp N R B C Es) (fun x M1 => Es x e M1) := by
  unfold sIf; simp only [wp_toS]; congr 1; funext b M1; split <;> rfl
@[simp] theorem wp_gnx : (GO.nx e M).wp N Es = N e M := rfl
@[simp] theorem wp_gbad : (GO.bad).wp N Es = False := rfl
@[simp] theorem wp_sAsg (f : EF) (g : GF) : (sAsg f g e M).wp N R B C Es = (f e M).wp (fun x M1 => (g x e M1).wp N Es) (fun x M1 => Es x e M1) := by unfold sAsg; simp only [wp_toS, wp_gtoS, wp_snx]
@[simp] theorem wp_gNm (i : Nat) (x : Val) : (gNm i x e M).wp N Es = N (e.set i (some x)) M := rfl
theorem wp_gbind (o : GO) (k : Sl → Mem → GO) : (o.bind k).wp N Es = o.wp (fun a M => (k a M).wp N Es) Es := by cases o <;> rfl
@[simp] theorem wp_gTp (n : Nat) (gs : GsF) (l : List Val) : (gTp n gs (.tup l) e M).wp N Es = (l.length = n ∧ (gs l e M).wp N Es) := by
  unfold gTp; by_cases h : l.length = n <;> simp [h]
@[simp] theorem wp_gsNil : (gsNil [] e M).wp N Es = N e M := rfl
@[simp] theorem wp_gsCons (g : GF) (gs : GsF) (x : Val) (l : List Val) : (gsCons g gs (x :: l) e M).wp N Es = (g x e M).wp (fun e1 M1 => (gs l e1 M1).wp N Es) Es := by unfold gsCons; simp only [wp_gbind]
@[simp] theorem wp_gSb (fo fi : EF) (x : Val) : (gSb fo fi x e M).wp N Es = (fo e M).wp (fun o M1 => (fi e M1).wp (fun i M2 => ∃ M3, setV o i x M2 = some M3 ∧ N e M3) (fun y M2 => Es y e M2)) (fun y M1 => Es y e M1) := by
  unfold gSb
  cases fo e M with
  | ok o M1 =>
    simp only [wp_ok]
    cases fi e M1 with
    | ok i M2 => simp only [wp_ok]; cases setV o i x M2 <;> simp
    | ex _ _ => rfl
    | bad => rfl
  | ex _ _ => rfl
  | bad => rfl
@[simp] theorem wp_sPar (is : List Nat) (fa : AF) : (sPar is fa e M).wp N R B C Es = (fa e M).wp (fun l M1 => l.length = is.length ∧ N (setAll is l e) M1) (fun x M1 => Es x e M1) := by
  unfold sPar; simp only [wp_toS]; congr 1; funext l M1; by_cases h : l.length = is.length <;> simp [h]
@[simp] theorem setAll_nil (l : List Val) (e : Sl) : setAll [] l e = e := by cases l <;> rfl
@[simp] theorem setAll_cons (i : Nat) (is : List Nat) (x : Val) (l : List Val) (e : Sl) : setAll (i :: is) (x :: l) e = setAll is l (e.set i (some x)) := rfl
@[simp] theorem wp_sAug (i : Nat) (g : Val → Val → Mem → Out Val) (f : EF) : (sAug i g f e M).wp N R B C Es = ∃ x, sget e i = some x ∧ (f e M).wp (fun y M1 => (g x y M1).wp (fun z M2 => N (e.set i (some z)) M2) (fun x M1 => Es x e M1)) (fun x M1 => Es x e M1) := by
  unfold sAug sget
  cases h : e[i]? with
  | none => simp
  | some o => cases o <;> simp [wp_toS]
/-- a def, called -/
@[simp] theorem wp_fnS (np n : Nat) (body : SF) (l : List Val) : (fnS np n body l M).wp Qv E = (l.length = np ∧ (body (l.map some ++ List.replicate (n - np) none) M).wp (fun _ M => Qv .non M) Qv (fun _ _ => False) (fun _ _ => False) (fun x _ M => E x M)) := by
  unfold fnS
  by_cases h : l.length = np
  · rw [if_pos h]
    cases body (l.map some ++ List.replicate (n - np) none) M <;> simp [h]
  · simp [h]
/-! values -/
@[simp] theorem wp_add_ii (i j : Int) : (addV (.int i) (.int j) M).wp Qv E = Qv (.int (i + j)) M := rfl
@[simp] theorem wp_add_tt (a b : List Val) : (addV (.tup a) (.tup b) M).wp Qv E = (a.length + b.length ≤ sizeLine ∧ Qv (.tup (a ++ b)) M) := by unfold addV; simp only [wp_ite, wp_ok]
@[simp] theorem wp_add_ss (a b : Str) : (addV (.str a) (.str b) M).wp Qv E = (a.length + b.length ≤ sizeLine ∧ Qv (.str (a ++ b)) M) := by unfold addV; simp only [wp_ite, wp_ok]
@[simp] theorem wp_add_ll (m n : Nat) : (addV (.loc m) (.loc n) M).wp Qv E = ∃ a b, getL M m = some a ∧ getL M n = some b ∧ a.length + b.length ≤ sizeLine ∧ Qv (.loc M.length) (M ++ [.lst (a ++ b)]) := by
  cases h : getL M m with
  | none => simp [addV, h]
  | some a => cases h' : getL M n with
    | none => simp [addV, h, h']
    | some b => simp [addV, h, h', wp_ite]
@[simp] theorem wp_sub_ii (i j : Int) : (subV (.int i) (.int j) M).wp Qv E = Qv (.int (i - j)) M := rfl
@[simp] theorem wp_mul_ii (i j : Int) : (mulV (.int i) (.int j) M).wp Qv E = ((small64 i || small64 j) = true ∧ Qv (.int (i * j)) M) := by unfold mulV; simp only [wp_ite, wp_ok]
@[simp] theorem wp_mul_li (n : Nat) (k : Int) : (mulV (.loc n) (.int k) M).wp Qv E = ∃ l, getL M n = some l ∧ (-(2 ^ 63) ≤ k ∧ k < 2 ^ 63 ∧ l.length * k.toNat ≤ sizeLine) ∧ Qv (.loc M.length) (M ++ [.lst (List.replicate k.toNat l).flatten]) := by
  cases h : getL M n with
  | none => simp [mulV, h]
  | some a => simp [mulV, h, wp_ite]
@[simp] theorem wp_mul_ti (l : List Val) (k : Int) : (mulV (.tup l) (.int k) M).wp Qv E = ((l ≠ [] ∧ 2 ≤ k ∧ k ≤ 1000 ∧ l.length ≤ 1000) ∧ Qv (.tup (List.replicate k.toNat l).flatten) M) := by unfold mulV; simp only [wp_ite, wp_ok]
@[simp] theorem wp_div_ii (i j : Int) : (divV (.int i) (.int j) M).wp Qv E = ((0 < j ∧ j < 1073741824) ∧ Qv (.int (i / j)) M) := by unfold divV; simp only [wp_ite, wp_ok]
@[simp] theorem wp_mod_ii (i j : Int) : (modV (.int i) (.int j) M).wp Qv E = (0 < j ∧ Qv (.int (i % j)) M) := by unfold modV; simp only [wp_ite, wp_ok]
@[simp] theorem wp_pow_ii (i j : Int) : (powV (.int i) (.int j) M).wp Qv E = ((0 ≤ j ∧ j ≤ 1000000 ∧ i.natAbs < 2 ^ 64) ∧ Qv (.int (i ^ j.toNat)) M) := by unfold powV; simp only [wp_ite, wp_ok]
@[simp] theorem wp_cmp_ii (p : Int → Int → Bool) (i j : Int) : (cmpV p (.int i) (.int j) M).wp Qv E = Qv (.bl (p i j)) M := rfl
@[simp] theorem wp_neg_i (i : Int) : (negV (.int i) M).wp Qv E = Qv (.int (-i)) M := rfl
@[simp] theorem wp_isN (x : Val) : (isN x .non M).wp Qv E = Qv (.bl (isNon x)) M := rfl
@[simp] theorem wp_notN (x : Val) : (notN x .non M).wp Qv E = Qv (.bl (!isNon x)) M := rfl
@[simp] theorem isNon_non : isNon .non = true := rfl
@[simp] theorem isNon_int (i : Int) : isNon (.int i) = false := rfl
@[simp] theorem isNon_tup (l : List Val) : isNon (.tup l) = false := rfl
@[simp] theorem isNon_loc (l : Nat) : isNon (.loc l) = false := rfl
@[simp] theorem isNon_str (l : Str) : isNon (.str l) = false := rfl
@[simp] theorem isNon_bl (l : Bool) : isNon (.bl l) = false := rfl
@[simp] theorem wp_eqV (x y : Val) : (eqV x y M).wp Qv E = ∃ b, eqD x y M = some b ∧ Qv (.bl b) M := by unfold eqV; cases eqD x y M <;> simp
@[simp] theorem wp_neV (x y : Val) : (neV x y M).wp Qv E = ∃ b, eqD x y M = some b ∧ Qv (.bl (!b)) M := by unfold neV; cases eqD x y M <;> simp
@[simp] theorem eqD_ii (i j : Int) : eqD (.int i) (.int j) M = some (decide (i = j)) := rfl
@[simp] theorem eqD_ss (i j : Str) : eqD (.str i) (.str j) M = some (decide (i = j)) := rfl
@[simp] theorem eqD_bb (i j : Bool) : eqD (.bl i) (.bl j) M = some (decide (i = j)) := rfl
@[simp] theorem wp_inV (x y : Val) : (inV x y M).wp Qv E = ∃ b, inD x y M = some b ∧ Qv (.bl b) M := by unfold inV; cases inD x y M <;> simp
@[simp] theorem wp_notInV (x y : Val) : (notInV x y M).wp Qv E = ∃ b, inD x y M = some b ∧ Qv (.bl (!b)) M := by unfold notInV; cases inD x y M <;> simp
/-! subscripts -/
theorem wp_opt {γ : Type} (o : Option γ) (k : γ → Out α) : Out.wp (match o with | some v => k v | none => .bad) Q E = ∃ v, o = some v ∧ (k v).wp Q E := by cases o <;> simp
@[simp] theorem wp_ix_t (l : List Val) (i : Int) : (ixV (.tup l) (.int i) M).wp Qv E = ∃ v, atI l i = some v ∧ Qv v M := by unfold ixV; (repeat' split) <;> simp_all [wp_ite]
@[simp] theorem wp_ix_f (l : List Int) (i : Int) : (ixV (.frz l) (.int i) M).wp Qv E = ∃ v, atI l i = some v ∧ Qv (.int v) M := by unfold ixV; (repeat' split) <;> simp_all [wp_ite]
@[simp] theorem wp_ix_l (n : Nat) (i : Int) : (ixV (.loc n) (.int i) M).wp Qv E = ∃ l, getL M n = some l ∧ ∃ v, atI l i = some v ∧ Qv v M := by unfold ixV; (repeat' split) <;> simp_all [wp_ite]
@[simp] theorem atI_0 {γ : Type} (x : γ) (l : List γ) : atI (x :: l) 0 = some x := atI_nat (j := 0) rfl
@[simp] theorem atI_1 {γ : Type} (x y : γ) (l : List γ) : atI (x :: y :: l) 1 = some y := atI_nat (j := 1) rfl
@[simp] theorem atI_2 {γ : Type} (x y z : γ) (l : List γ) : atI (x :: y :: z :: l) 2 = some z := atI_nat (j := 2) rfl
@[simp] theorem atI_3 {γ : Type} (x y z w : γ) (l : List γ) : atI (x :: y :: z :: w :: l) 3 = some w := atI_nat (j := 3) rfl
theorem atI_ofNat {γ : Type} {l : List γ} {i : Nat} (h : i < l.length) : atI l (i : Int) = some l[i] := atI_nat (List.getElem?_eq_getElem h)
theorem atI_of {γ : Type} {l : List γ} {i : Int} (h0 : 0 ≤ i) (h : i < l.length) : atI l i = some (l[i.toNat]'(by omega)) := by
  have hh : i.toNat < l.length := by omega
  have e : (i.toNat : Int) = i := by omega
  have := atI_ofNat hh
  rw [e] at this
  exact this
@[simp] theorem wp_oNone {Qo : Option Int → Mem → Prop} : (oNone e M).wp Qo E = Qo none M := rfl
@[simp] theorem wp_oSome {Qo : Option Int → Mem → Prop} (f : EF) : (oSome f e M).wp Qo E = (f e M).wp (fun x M1 => ∃ i, x = .int i ∧ Qo (some i) M1) E := by
  unfold oSome; simp only [wp_bind]; congr 1; funext x M1; cases x <;> simp
@[simp] theorem wp_eSl (f : EF) (l h : OF) : (eSl f l h e M).wp Qv E = (f e M).wp (fun x M1 => (l e M1).wp (fun lo M2 => (h e M2).wp (fun hi M3 => (slV x lo hi M3).wp Qv E) E) E) E := by unfold eSl; simp only [wp_bind]
@[simp] theorem wp_sl_t (l : List Val) (lo hi : Option Int) : (slV (.tup l) lo hi M).wp Qv E = Qv (.tup (cutL l lo hi)) M := rfl
@[simp] theorem wp_sl_l (n : Nat) (lo hi : Option Int) : (slV (.loc n) lo hi M).wp Qv E = ∃ l, getL M n = some l ∧ Qv (.loc M.length) (M ++ [.lst (cutL l lo hi)]) := by unfold slV; (repeat' split) <;> simp_all [wp_ite]
/-! built-ins -/
@[simp] theorem wp_len_t (l : List Val) : (lenV [.tup l] M).wp Qv E = Qv (.int l.length) M := rfl
@[simp] theorem wp_len_f (l : List Int) : (lenV [.frz l] M).wp Qv E = Qv (.int l.length) M := rfl
@[simp] theorem wp_len_l (n : Nat) : (lenV [.loc n] M).wp Qv E = ∃ l, getL M n = some l ∧ Qv (.int l.length) M := by unfold lenV; (repeat' split) <;> simp_all [wp_ite]
@[simp] theorem wp_tuple_t (l : List Val) : (tupleV [.tup l] M).wp Qv E = Qv (.tup l) M := rfl
@[simp] theorem wp_tuple_l (n : Nat) : (tupleV [.loc n] M).wp Qv E = ∃ l, getL M n = some l ∧ Qv (.tup l) M := by unfold tupleV; (repeat' split) <;> simp_all [wp_ite]
@[simp] theorem wp_list_t (l : List Val) : (listV [.tup l] M).wp Qv E = Qv (.loc M.length) (M ++ [.lst l]) := rfl
@[simp] theorem wp_list_l (n : Nat) : (listV [.loc n] M).wp Qv E = ∃ l, getL M n = some l ∧ Qv (.loc M.length) (M ++ [.lst l]) := by unfold listV; (repeat' split) <;> simp_all [wp_ite]
@[simp] theorem wp_int_i (i : Int) : (intV [.int i] M).wp Qv E = Qv (.int i) M := rfl
@[simp] theorem wp_int_b (b : Bool) : (intV [.bl b] M).wp Qv E = Qv (.int (if b then 1 else 0)) M := rfl
@[simp] theorem wp_abs (i : Int) : (absV1 [.int i] M).wp Qv E = Qv (.int (if i < 0 then -i else i)) M := rfl
@[simp] theorem wp_max2 (i j : Int) : (max2V [.int i, .int j] M).wp Qv E = Qv (.int (if j > i then j else i)) M := rfl
@[simp] theorem wp_min2 (i j : Int) : (min2V [.int i, .int j] M).wp Qv E = Qv (.int (if j < i then j else i)) M := rfl
@[simp] theorem wp_sorted (n : Nat) : (sortedV [.loc n] M).wp Qv E = ∃ l, (getL M n).bind intsOf = some l ∧ l.length < 64 ∧ Qv (.loc M.length) (M ++ [.lst ((sortI l).map .int)]) := by unfold sortedV; dsimp only; generalize (getL M n).bind intsOf = o; cases o <;> simp [wp_ite]
@[simp] theorem wp_sum (n : Nat) : (sumV [.loc n] M).wp Qv E = ∃ l, (getL M n).bind intsOf = some l ∧ Qv (.int l.sum) M := by unfold sumV; dsimp only; generalize (getL M n).bind intsOf = o; cases o <;> simp [wp_ite]
@[simp] theorem wp_max (n : Nat) : (maxV [.loc n] M).wp Qv E = ∃ l, (getL M n).bind intsOf = some l ∧ 0 < l.length ∧ Qv (.int (maxL l)) M := by unfold maxV; dsimp only; generalize (getL M n).bind intsOf = o; cases o <;> simp [wp_ite]
@[simp] theorem wp_min (n : Nat) : (minV [.loc n] M).wp Qv E = ∃ l, (getL M n).bind intsOf = some l ∧ 0 < l.length ∧ Qv (.int (minL l)) M := by unfold minV; dsimp only; generalize (getL M n).bind intsOf = o; cases o <;> simp [wp_ite]
@[simp] theorem wp_any (n : Nat) : (anyV [.loc n] M).wp Qv E = ∃ l, (getL M n).bind boolsOf = some l ∧ Qv (.bl (l.any id)) M := by unfold anyV; dsimp only; generalize (getL M n).bind boolsOf = o; cases o <;> simp [wp_ite]
@[simp] theorem wp_all (n : Nat) : (allV [.loc n] M).wp Qv E = ∃ l, (getL M n).bind boolsOf = some l ∧ Qv (.bl (l.all id)) M := by unfold allV; dsimp only; generalize (getL M n).bind boolsOf = o; cases o <;> simp [wp_ite]
@[simp] theorem wp_eLr1 (f : EF) : (eLr1 f e M).wp Qv E = (f e M).wp (fun x M1 => ∃ n, x = .int n ∧ (-(2 ^ 62) ≤ n ∧ n < 2 ^ 62 ∧ n.toNat ≤ 2 ^ 24) ∧ Qv (.loc M1.length) (M1 ++ [.lst (rangeL 0 n)])) E := by
  unfold eLr1; simp only [wp_bind]; congr 1; funext x M1; cases x <;> simp [wp_ite]
@[simp] theorem wp_eIsi (ts : List Bt) (f : EF) : (eIsi ts f e M).wp Qv E = (f e M).wp (fun x M1 => (tyN x M1).isSome = true ∧ Qv (.bl (ts.any fun t => isT x t)) M1) E := by
  unfold eIsi; simp only [wp_bind]; congr 1; funext x M1; unfold isiV; cases tyN x M1 <;> simp
@[simp] theorem tyN_int (i : Int) : tyN (.int i) M = some "int" := rfl
@[simp] theorem tyN_tup (i : List Val) : tyN (.tup i) M = some "tuple" := rfl
@[simp] theorem tyN_bl (i : Bool) : tyN (.bl i) M = some "bool" := rfl
@[simp] theorem tyN_non : tyN .non M = some "NoneType" := rfl
@[simp] theorem tyN_str (i : Str) : tyN (.str i) M = some "str" := rfl
@[simp] theorem tyN_loc (n : Nat) : (tyN (.loc n) M).isSome = (getL M n).isSome := by unfold tyN; dsimp only; cases getL M n <;> rfl
/-! methods -/
@[simp] theorem wp_eMt (T : String) (g : MtF) (fo : EF) (fa : AF) : (eMt T g fo fa e M).wp Qv E = (fo e M).wp (fun x M1 => isTyM T x M1 = true ∧ (fa e M1).wp (fun l M2 => (g x l M2).wp Qv E) E) E := by unfold eMt; simp only [wp_bind, wp_ite]
@[simp] theorem isTyM_l (n : Nat) : isTyM "list" (.loc n) M = (getL M n).isSome := by simp [isTyM]
@[simp] theorem wp_append (n : Nat) (y : Val) : (appendV (.loc n) [y] M).wp Qv E = ∃ xs, getL M n = some xs ∧ xs.length < sizeLine ∧ Qv .non (M.set n (.lst (xs ++ [y]))) := by unfold appendV; dsimp only; generalize getL M n = o; cases o <;> simp [wp_ite]
@[simp] theorem wp_extend (n m : Nat) : (extendV (.loc n) [.loc m] M).wp Qv E = ∃ xs ys, getL M n = some xs ∧ getL M m = some ys ∧ xs.length + ys.length ≤ sizeLine ∧ Qv .non (M.set n (.lst (xs ++ ys))) := by
  cases h : getL M n with
  | none => simp [extendV, h]
  | some a => cases h' : getL M m with
    | none => simp [extendV, h, h']
    | some b => simp [extendV, h, h', wp_ite]
@[simp] theorem wp_pop (n : Nat) : (popV (.loc n) [] M).wp Qv E = ∃ xs, getL M n = some xs ∧ ∃ y, xs[xs.length - 1]? = some y ∧ Qv y (M.set n (.lst xs.dropLast)) := by unfold popV; (repeat' split) <;> simp_all [wp_ite]
@[simp] theorem wp_popAt (n : Nat) (i : Int) : (popAtV (.loc n) [.int i] M).wp Qv E = ∃ xs, getL M n = some xs ∧ (-(2 ^ 63) ≤ i ∧ i < 2 ^ 63) ∧ ∃ k, ixN xs.length i = some k ∧ ∃ y, xs[k]? = some y ∧ Qv y (M.set n (.lst (xs.eraseIdx k))) := by
  cases h : getL M n with
  | none => simp [popAtV, h]
  | some xs => cases hk : ixN xs.length i with
    | none => simp [popAtV, h, hk, wp_ite]
    | some k => cases hy : xs[k]? <;> simp [popAtV, h, hk, hy, wp_ite]
@[simp] theorem wp_ar (h : Int → Int → Int) (i j : Int) : (arI h (.int i) (.int j) M).wp Qv E = Qv (.int (h i j)) M := rfl
end
/-! the memory -/
theorem getL_append_new (M : Mem) (l : List Val) : getL (M ++ [.lst l]) M.length = some l := by simp [getL]
theorem getL_append {M : Mem} {c : Cell} {n : Nat} {l : List Val} (h : getL M n = some l) : getL (M ++ [c]) n = some l := by
  have h' := getL_ok h
  have hl := (List.getElem?_eq_some_iff.mp h').1
  unfold getL
  rw [List.getElem?_append_left hl, h']
theorem getL_lt {M : Mem} {n : Nat} {l : List Val} (h : getL M n = some l) : n < M.length := (List.getElem?_eq_some_iff.mp (getL_ok h)).1
theorem getL_set {M : Mem} {n : Nat} {l l' : List Val} (h : getL M n = some l) : getL (M.set n (.lst l')) n = some l' := by
  unfold getL
  rw [List.getElem?_set_self (getL_lt h)]
theorem getL_set_ne {M : Mem} {n m : Nat} {c : Cell} (h : m ≠ n) : getL (M.set n c) m = getL M m := by
  unfold getL
  rw [List.getElem?_set_ne (Ne.symm h)]
theorem getL_pre {M M' : Mem} {n : Nat} {l : List Val} (p : M <+: M') (h : getL M n = some l) : getL M' n = some l := by
  obtain ⟨t, rfl⟩ := p
  have h' := getL_ok h
  have hl := (List.getElem?_eq_some_iff.mp h').1
  unfold getL
  rw [List.getElem?_append_left hl, h']
theorem pre_append {M M' : Mem} (p : M <+: M') (t : List Cell) : M <+: M' ++ t := p.trans (List.prefix_append _ _)
theorem pre_set {M M' : Mem} {n : Nat} {c : Cell} (p : M <+: M') (h : M.length ≤ n) : M <+: M'.set n c := by
  obtain ⟨t, rfl⟩ := p
  refine ⟨t.set (n - M.length) c, ?_⟩
  rw [List.set_append_right _ _ h]
theorem pre_len {M M' : Mem} (p : M <+: M') : M.length ≤ M'.length := p.length_le
end Sm

namespace Sm
open PySem L2
section
variable {N B C : Sl → Mem → Prop} {R : Val → Mem → Prop} {Es : Ex → Sl → Mem → Prop} {E : Ex → Mem → Prop} {Qv : Val → Mem → Prop} {nxt : Nat → Mem → Option (Option Val)} {g : GF} {body : SF} {e : Sl} {M : Mem}
theorem wp_forG (l : List Val) (I : Nat → Sl → Mem → Prop) (hn : ∀ i e M, I i e M → nxt i M = some l[i]?)
    (hs : ∀ i x e M, l[i]? = some x → I i e M → (g x e M).wp (fun e1 M1 => (body e1 M1).wp (I (i + 1)) R N (I (i + 1)) Es) Es) (hd : ∀ e M, I l.length e M → N e M) :
    ∀ (m i : Nat) (e : Sl) (M : Mem), l.length < m + i → i ≤ l.length → I i e M → (forG nxt g body m i e M).wp N R B C Es
  | 0, i, e, M, h1, h2, _ => absurd h1 (by omega)
  | m + 1, i, e, M, h1, h2, hI => by
    unfold forG
    rw [hn i e M hI]
    cases hx : l[i]? with
    | none =>
      have : l.length ≤ i := List.getElem?_eq_none_iff.mp hx
      have e1 : i = l.length := by omega
      subst e1
      exact hd e M hI
    | some x =>
      have hlt : i < l.length := (List.getElem?_eq_some_iff.mp hx).1
      have := hs i x e M hx hI
      simp only [wp_gtoS]
      cases hg : g x e M with
      | nx e1 M1 =>
        rw [hg] at this
        simp only [wp_gnx] at this ⊢
        cases hb : body e1 M1 with
        | nx e2 M2 => rw [hb] at this; exact wp_forG l I hn hs hd m (i + 1) e2 M2 (by omega) (by omega) this
        | ct e2 M2 => rw [hb] at this; exact wp_forG l I hn hs hd m (i + 1) e2 M2 (by omega) (by omega) this
        | bk e2 M2 => rw [hb] at this; exact this
        | rt x M2 => rw [hb] at this; exact this
        | ex x e2 M2 => rw [hb] at this; exact this
        | bad => rw [hb] at this; exact this
      | ex x e1 M1 => rw [hg] at this; exact this
      | bad => rw [hg] at this; exact this
theorem wp_whG {t : TF} (I : Sl → Mem → Prop) (μ : Sl → Mem → Nat)
    (hs : ∀ e M, I e M → (t e M).wp (fun b M1 => if b = true then (body e M1).wp (fun e2 M2 => I e2 M2 ∧ μ e2 M2 < μ e M) R N (fun e2 M2 => I e2 M2 ∧ μ e2 M2 < μ e M) Es else N e M1) (fun x M => Es x e M)) :
    ∀ (m : Nat) (e : Sl) (M : Mem), μ e M < m → I e M → (whG t body m e M).wp N R B C Es
  | 0, e, M, h1, _ => absurd h1 (by omega)
  | m + 1, e, M, h1, hI => by
    unfold whG
    rw [wp_toS]
    refine Out.wp_mono (hs e M hI) (fun b M1 h => ?_) fun _ _ z => z
    by_cases hb : b = true
    · rw [if_pos hb] at h ⊢
      cases hbd : body e M1 with
      | nx e2 M2 => rw [hbd] at h; exact wp_whG I μ hs m e2 M2 (by have := h.2; omega) h.1
      | ct e2 M2 => rw [hbd] at h; exact wp_whG I μ hs m e2 M2 (by have := h.2; omega) h.1
      | bk e2 M2 => rw [hbd] at h; exact h
      | rt x M2 => rw [hbd] at h; exact h
      | ex x e2 M2 => rw [hbd] at h; exact h
      | bad => rw [hbd] at h; exact h
    · rw [if_neg hb] at h ⊢; exact h
theorem wp_while {n : Nat} {t : TF} (I : Sl → Mem → Prop) (μ : Sl → Mem → Nat) (h0 : I e M) (hm : μ e M < n)
    (hs : ∀ e M, I e M → (t e M).wp (fun b M1 => if b = true then (body e M1).wp (fun e2 M2 => I e2 M2 ∧ μ e2 M2 < μ e M) R N (fun e2 M2 => I e2 M2 ∧ μ e2 M2 < μ e M) Es else N e M1) (fun x M => Es x e M)) : (sWhile n t body e M).wp N R B C Es :=
  wp_whG I μ hs n e M hm h0
/-! what is walked -/
@[simp] theorem wp_sFor (f : IF) : (sFor f g body e M).wp N R B C Es = (f e M).wp (fun it M1 => (forG it.nxt g body it.fuel 0 e M1).wp N R B C Es) (fun x M1 => Es x e M1) := by unfold sFor; rw [wp_toS]
@[simp] theorem wp_iSq {Qi : Itr → Mem → Prop} (f : EF) : (iSq f e M).wp Qi E = (f e M).wp (fun x M1 => ∃ it, itSeq x M1 = some it ∧ Qi it M1) E := by
  unfold iSq iOf; simp only [wp_bind]; congr 1; funext x M1; cases itSeq x M1 <;> simp
@[simp] theorem wp_iEn {Qi : Itr → Mem → Prop} (f : EF) : (iEn f e M).wp Qi E = (f e M).wp (fun x M1 => ∃ it, itEnum x M1 = some it ∧ Qi it M1) E := by
  unfold iEn iOf; simp only [wp_bind]; congr 1; funext x M1; cases itEnum x M1 <;> simp
@[simp] theorem wp_iZp {Qi : Itr → Mem → Prop} (f f2 : EF) : (iZp f f2 e M).wp Qi E = (f e M).wp (fun x M1 => (f2 e M1).wp (fun y M2 => ∃ it, itZip x y M2 = some it ∧ Qi it M2) E) E := by
  unfold iZp; simp only [wp_bind]; congr 1; funext x M1; congr 1; funext y M2; cases itZip x y M2 <;> simp
@[simp] theorem wp_iR1 {Qi : Itr → Mem → Prop} (f : EF) : (iR1 f e M).wp Qi E = (f e M).wp (fun x M1 => ∃ j, x = .int j ∧ (-(2 ^ 62) ≤ j ∧ j < 2 ^ 62) ∧ Qi (itRng 0 j.toNat) M1) E := by
  unfold iR1; simp only [wp_bind]; congr 1; funext x M1; cases x <;> simp [wp_ite]
@[simp] theorem wp_iR2 {Qi : Itr → Mem → Prop} (f f2 : EF) : (iR2 f f2 e M).wp Qi E = (f e M).wp (fun x M1 => (f2 e M1).wp (fun y M2 => ∃ i j, x = .int i ∧ y = .int j ∧ (-(2 ^ 62) ≤ i ∧ i < 2 ^ 62 ∧ -(2 ^ 62) ≤ j ∧ j < 2 ^ 62) ∧ Qi (itRng i (j - i).toNat) M2) E) E := by
  unfold iR2; simp only [wp_bind]; congr 1; funext x M1; congr 1; funext y M2; cases x <;> cases y <;> simp [wp_ite]
theorem lenM_eq (n : Nat) : lenM n M = (getL M n).map List.length := by
  unfold lenM getL
  cases M[n]? with
  | none => rfl
  | some c => cases c <;> rfl
@[simp] theorem itSeq_t (l : List Val) : itSeq (.tup l) M = some (itTup l) := rfl
@[simp] theorem itSeq_f (l : List Int) : itSeq (.frz l) M = some (itFrz l) := rfl
@[simp] theorem itSeq_s (l : Str) : itSeq (.str l) M = some (itStr l) := rfl
theorem itSeq_l {n : Nat} {l : List Val} (h : getL M n = some l) : itSeq (.loc n) M = some (itLst n l.length) := by show (lenM n M).map _ = _; rw [lenM_eq, h]; rfl
@[simp] theorem itEnum_t (l : List Val) : itEnum (.tup l) M = some (itNum (itTup l)) := rfl
theorem itEnum_l {n : Nat} {l : List Val} (h : getL M n = some l) : itEnum (.loc n) M = some (itNum (itLst n l.length)) := by show (lenM n M).map _ = _; rw [lenM_eq, h]; rfl
@[simp] theorem itZip_t (l m : List Val) : itZip (.tup l) (.tup m) M = some (itZ (itTup l) (itTup m)) := rfl
theorem itZip_l {n k : Nat} {l m : List Val} (h : getL M n = some l) (h' : getL M k = some m) : itZip (.loc n) (.loc k) M = some (itZ (itLst n l.length) (itLst k m.length)) := by
  unfold itZip; dsimp only; rw [lenM_eq, lenM_eq, h, h']; rfl
/-- over a tuple -/
theorem wp_for_tup {l : List Val} (I : Nat → Sl → Mem → Prop) (h0 : I 0 e M)
    (hs : ∀ i x e M, l[i]? = some x → I i e M → (g x e M).wp (fun e1 M1 => (body e1 M1).wp (I (i + 1)) R N (I (i + 1)) Es) Es) (hd : ∀ e M, I l.length e M → N e M) : (forG (itTup l).nxt g body (itTup l).fuel 0 e M).wp N R B C Es :=
  wp_forG l I (fun _ _ _ _ => rfl) hs hd _ 0 e M (Nat.lt_succ_self _) (Nat.zero_le _) h0
/-- over a list that stays -/
theorem wp_for_lst {n b : Nat} {l : List Val} (I : Nat → Sl → Mem → Prop) (hb : l.length ≤ b) (hl : ∀ i e M, I i e M → getL M n = some l) (h0 : I 0 e M)
    (hs : ∀ i x e M, l[i]? = some x → I i e M → (g x e M).wp (fun e1 M1 => (body e1 M1).wp (I (i + 1)) R N (I (i + 1)) Es) Es) (hd : ∀ e M, I l.length e M → N e M) : (forG (itLst n b).nxt g body (itLst n b).fuel 0 e M).wp N R B C Es := by
  refine wp_forG l I (fun i e M h => ?_) hs hd _ 0 e M (by show _ < b + 1 + 0; omega) (Nat.zero_le _) h0
  have := getL_ok (hl i e M h)
  show (match M[n]? with | some (.lst l) => some l[i]? | _ => none) = _
  rw [this]
/-- the ints of a range -/
def rngL (lo : Int) (n : Nat) : List Val := (List.range n).map fun i => Val.int (lo + (i : Nat))
theorem rngL_get (lo : Int) (n i : Nat) : (rngL lo n)[i]? = if i < n then some (.int (lo + i)) else none := by
  unfold rngL
  by_cases h : i < n
  · simp [h]
  · simp [h]
@[simp] theorem rngL_length (lo : Int) (n : Nat) : (rngL lo n).length = n := by simp [rngL]
theorem wp_for_rng {lo : Int} {n : Nat} (I : Nat → Sl → Mem → Prop) (h0 : I 0 e M)
    (hs : ∀ i e M, i < n → I i e M → (g (.int (lo + i)) e M).wp (fun e1 M1 => (body e1 M1).wp (I (i + 1)) R N (I (i + 1)) Es) Es) (hd : ∀ e M, I n e M → N e M) : (forG (itRng lo n).nxt g body (itRng lo n).fuel 0 e M).wp N R B C Es := by
  refine wp_forG (rngL lo n) I (fun i e M _ => by rw [rngL_get]; rfl) (fun i x e M hx h => ?_) (fun e M h => hd e M (by simpa using h)) _ 0 e M (by rw [rngL_length]; exact Nat.lt_succ_self _) (Nat.zero_le _) h0
  rw [rngL_get] at hx
  split at hx
  · rename_i hi; cases hx; exact hs i e M hi h
  · cases hx
/-- over a list of the script -/
theorem wp_for_frz {l : List Int} (I : Nat → Sl → Mem → Prop) (h0 : I 0 e M)
    (hs : ∀ i x e M, l[i]? = some x → I i e M → (g (.int x) e M).wp (fun e1 M1 => (body e1 M1).wp (I (i + 1)) R N (I (i + 1)) Es) Es) (hd : ∀ e M, I l.length e M → N e M) : (forG (itFrz l).nxt g body (itFrz l).fuel 0 e M).wp N R B C Es := by
  refine wp_forG (l.map Val.int) I (fun i e M _ => by rw [List.getElem?_map]; rfl) (fun i x e M hx h => ?_) (fun e M h => hd e M (by simpa using h)) _ 0 e M (by rw [List.length_map]; exact Nat.lt_succ_self _) (Nat.zero_le _) h0
  rw [List.getElem?_map] at hx
  cases hi : l[i]? with
  | none => rw [hi] at hx; cases hx
  | some y => rw [hi] at hx; cases hx; exact hs i y e M hi h
/-- items with their numbers -/
def numL (l : List Val) : List Val := l.mapIdx fun i x => .tup [.int (i : Nat), x]
theorem numL_get (l : List Val) (i : Nat) : (numL l)[i]? = l[i]?.map fun x => Val.tup [.int (i : Nat), x] := by unfold numL; rw [List.getElem?_mapIdx]
@[simp] theorem numL_length (l : List Val) : (numL l).length = l.length := by simp [numL]
theorem wp_for_enumT {l : List Val} (I : Nat → Sl → Mem → Prop) (h0 : I 0 e M)
    (hs : ∀ i x e M, l[i]? = some x → I i e M → (g (.tup [.int (i : Nat), x]) e M).wp (fun e1 M1 => (body e1 M1).wp (I (i + 1)) R N (I (i + 1)) Es) Es) (hd : ∀ e M, I l.length e M → N e M) : (forG (itNum (itTup l)).nxt g body (itNum (itTup l)).fuel 0 e M).wp N R B C Es := by
  refine wp_forG (numL l) I (fun i e M _ => by rw [numL_get]; rfl) (fun i x e M hx h => ?_) (fun e M h => hd e M (by simpa using h)) _ 0 e M (by rw [numL_length]; exact Nat.lt_succ_self _) (Nat.zero_le _) h0
  rw [numL_get] at hx
  cases hi : l[i]? with
  | none => rw [hi] at hx; cases hx
  | some y => rw [hi] at hx; cases hx; exact hs i y e M hi h
theorem wp_for_enumL {n b : Nat} {l : List Val} (I : Nat → Sl → Mem → Prop) (hb : l.length ≤ b) (hl : ∀ i e M, I i e M → getL M n = some l) (h0 : I 0 e M)
    (hs : ∀ i x e M, l[i]? = some x → I i e M → (g (.tup [.int (i : Nat), x]) e M).wp (fun e1 M1 => (body e1 M1).wp (I (i + 1)) R N (I (i + 1)) Es) Es) (hd : ∀ e M, I l.length e M → N e M) : (forG (itNum (itLst n b)).nxt g body (itNum (itLst n b)).fuel 0 e M).wp N R B C Es := by
  refine wp_forG (numL l) I (fun i e M h => ?_) (fun i x e M hx h => ?_) (fun e M h => hd e M (by simpa using h)) _ 0 e M (by rw [numL_length]; show _ < b + 1 + 0; omega) (Nat.zero_le _) h0
  · have := getL_ok (hl i e M h)
    show Option.map _ (match M[n]? with | some (.lst l) => some l[i]? | _ => none) = _
    rw [this, numL_get]; rfl
  · rw [numL_get] at hx
    cases hi : l[i]? with
    | none => rw [hi] at hx; cases hx
    | some y => rw [hi] at hx; cases hx; exact hs i y e M hi h
theorem wp_for_zipT {l m : List Val} (hlm : l.length = m.length) (I : Nat → Sl → Mem → Prop) (h0 : I 0 e M)
    (hs : ∀ i x y e M, l[i]? = some x → m[i]? = some y → I i e M → (g (.tup [x, y]) e M).wp (fun e1 M1 => (body e1 M1).wp (I (i + 1)) R N (I (i + 1)) Es) Es) (hd : ∀ e M, I l.length e M → N e M) : (forG (itZ (itTup l) (itTup m)).nxt g body (itZ (itTup l) (itTup m)).fuel 0 e M).wp N R B C Es := by
  refine wp_forG ((l.zip m).map fun p => Val.tup [p.1, p.2]) I (fun i e M _ => ?_) (fun i x e M hx h => ?_) (fun e M h => hd e M (by simpa [hlm] using h)) _ 0 e M (by simp [hlm]; show _ < l.length + 1; omega) (Nat.zero_le _) h0
  · show (match some l[i]?, some m[i]? with
      | some (some x), some (some y) => some (some (Val.tup [x, y]))
      | some none, some _ => some none
      | some _, some none => some none
      | _, _ => none) = _
    by_cases hi : i < l.length
    · have hi' : i < m.length := by omega
      rw [List.getElem?_map, List.getElem?_eq_getElem (l := l.zip m) (by rw [List.length_zip]; omega), List.getElem_zip]
      simp [hi, hi']
    · have hi' : ¬ i < m.length := by omega
      rw [List.getElem?_map, List.getElem?_eq_none (l := l.zip m) (by rw [List.length_zip]; omega)]
      simp [hi, hi']
  · by_cases hi : i < l.length
    · have hi' : i < m.length := by omega
      rw [List.getElem?_map, List.getElem?_eq_getElem (by rw [List.length_zip]; omega), List.getElem_zip] at hx
      cases hx
      exact hs i l[i] m[i] e M (List.getElem?_eq_getElem hi) (List.getElem?_eq_getElem hi') h
    · rw [List.getElem?_map, List.getElem?_eq_none (l := l.zip m) (by rw [List.length_zip]; omega)] at hx
      cases hx
/-! comprehensions -/
@[simp] theorem wp_eLc (f : IF) (g : Tg) (t : TF) (el : EF) (vs : List Nat) : (eLc f g t el vs e M).wp Qv E = (f e M).wp (fun it M1 => (lcG it.nxt g t el M1.length (wipeS e vs) it.fuel 0 (M1 ++ [.lst []])).wp Qv E) E := by unfold eLc; rw [wp_bind]
theorem wp_lcG {g : Tg} {t : TF} {el : EF} {D : Nat} (l : List Val) (I : Nat → Mem → Prop) (hn : ∀ i M, I i M → nxt i M = some l[i]?)
    (hs : ∀ i x M, l[i]? = some x → I i M → ∃ e1, g.put x e = some e1 ∧ (t e1 M).wp (fun b M1 => if b = true then (el e1 M1).wp (fun y M2 => ∃ acc, getL M2 D = some acc ∧ acc.length < sizeLine ∧ I (i + 1) (M2.set D (.lst (acc ++ [y])))) noE else I (i + 1) M1) noE)
    (hd : ∀ M, I l.length M → Qv (.loc D) M) : ∀ (m i : Nat) (M : Mem), l.length < m + i → i ≤ l.length → I i M → (lcG nxt g t el D e m i M).wp Qv E
  | 0, i, M, h1, h2, _ => absurd h1 (by omega)
  | m + 1, i, M, h1, h2, hI => by
    unfold lcG
    rw [hn i M hI]
    cases hx : l[i]? with
    | none =>
      have : l.length ≤ i := List.getElem?_eq_none_iff.mp hx
      have e1 : i = l.length := by omega
      subst e1
      exact hd M hI
    | some x =>
      have hlt : i < l.length := (List.getElem?_eq_some_iff.mp hx).1
      obtain ⟨e1, hp, h⟩ := hs i x M hx hI
      dsimp only
      rw [hp]
      dsimp only
      cases ht : t e1 M with
      | bad => rw [ht] at h; exact h.elim
      | ex _ _ => rw [ht] at h; exact h.elim
      | ok b M1 =>
        rw [ht] at h
        simp only [wp_ok] at h
        dsimp only
        by_cases hb : b = true
        · rw [if_pos hb] at h ⊢
          cases hl : el e1 M1 with
          | bad => rw [hl] at h; exact h.elim
          | ex _ _ => rw [hl] at h; exact h.elim
          | ok y M2 =>
            rw [hl] at h
            simp only [wp_ok] at h
            obtain ⟨acc, ha, hz, hI'⟩ := h
            dsimp only
            rw [getL_ok ha]
            dsimp only
            rw [if_pos hz]
            exact wp_lcG l I hn hs hd m (i + 1) _ (by omega) (by omega) hI'
        · rw [if_neg hb] at h ⊢
          exact wp_lcG l I hn hs hd m (i + 1) _ (by omega) (by omega) h
/-- one whose elements and tests are functions of the item -/
theorem wp_lc_fun {g : Tg} {t : TF} {el : EF} {M1 : Mem} {b : Nat} (l : List Val) (p : Val → Bool) (f : Val → Val) (hb : l.length ≤ b) (hz : l.length ≤ sizeLine) (hn : ∀ (i : Nat) M, M1 <+: M → nxt i M = some l[i]?)
    (hs : ∀ (i : Nat) x M, l[i]? = some x → M1 <+: M → ∃ e1, g.put x e = some e1 ∧ (t e1 M).wp (fun b M' => b = p x ∧ M <+: M' ∧ (p x = true → (el e1 M').wp (fun y M'' => y = f x ∧ M' <+: M'') noE)) noE)
    (hd : ∀ M, M1 <+: M → getL M M1.length = some ((l.filter p).map f) → Qv (.loc M1.length) M) : (lcG nxt g t el M1.length e (b + 1) 0 (M1 ++ [.lst []])).wp Qv E := by
  refine wp_lcG l (fun i M => M1 <+: M ∧ getL M M1.length = some (((l.take i).filter p).map f)) (fun i M h => hn i M h.1) (fun i x M hx h => ?_) (fun M h => ?_) _ 0 _ (by omega) (Nat.zero_le _) ⟨List.prefix_append _ _, by simpa using getL_append_new M1 []⟩
  · obtain ⟨e1, h1, h2⟩ := hs i x M hx h.1
    have hi : i < l.length := (List.getElem?_eq_some_iff.mp hx).1
    have htk : l.take (i + 1) = l.take i ++ [x] := by
      rw [List.take_add_one, hx]; rfl
    refine ⟨e1, h1, Out.wp_mono h2 (fun b M' ⟨hb', hp, hel⟩ => ?_) fun _ _ z => z⟩
    subst hb'
    by_cases hpx : p x = true
    · rw [if_pos hpx]
      refine Out.wp_mono (hel hpx) (fun y M'' ⟨hy, hp2⟩ => ?_) fun _ _ z => z
      subst hy
      have hg := getL_pre (hp.trans hp2) h.2
      refine ⟨_, hg, ?_, pre_set ((h.1.trans hp).trans hp2) (Nat.le_refl _), ?_⟩
      · have h1 : ((l.take i).filter p).length ≤ (l.take i).length := List.length_filter_le _ _
        rw [List.length_map]
        rw [List.length_take] at h1
        omega
      · rw [getL_set hg, htk, List.filter_append, List.map_append]
        simp [hpx]
    · rw [if_neg hpx]
      refine ⟨h.1.trans hp, ?_⟩
      rw [getL_pre hp h.2, htk, List.filter_append, List.map_append]
      simp [hpx]
  · refine hd M h.1 ?_
    rw [h.2, List.take_length]
end
end Sm

namespace Sm
open PySem L2
/-- all but r (and what is new) stands -/
structure Kp (r : Nat) (M M' : Mem) : Prop where
  len : M.length ≤ M'.length
  at_ : ∀ i, i < M.length → i ≠ r → M'[i]? = M[i]?
theorem Kp.refl (r : Nat) (M : Mem) : Kp r M M := ⟨Nat.le_refl _, fun _ _ _ => rfl⟩
theorem Kp.trans {r : Nat} {M M1 M2 : Mem} (a : Kp r M M1) (b : Kp r M1 M2) : Kp r M M2 :=
  ⟨Nat.le_trans a.len b.len, fun i h1 h2 => (b.at_ i (Nat.lt_of_lt_of_le h1 a.len) h2).trans (a.at_ i h1 h2)⟩
theorem Kp.set {r : Nat} {M : Mem} {c : Cell} : Kp r M (M.set r c) := ⟨by simp, fun i h1 h2 => List.getElem?_set_ne (Ne.symm h2)⟩
theorem Kp.pre {r : Nat} {M M' : Mem} (p : M <+: M') : Kp r M M' := ⟨pre_len p, fun i h1 _ => by obtain ⟨t, rfl⟩ := p; rw [List.getElem?_append_left h1]⟩
theorem Kp.app {r : Nat} {M M' : Mem} (a : Kp r M M') (t : List Cell) : Kp r M (M' ++ t) := a.trans (.pre (List.prefix_append _ _))
theorem Kp.getL {r n : Nat} {M M' : Mem} {l : List Val} (k : Kp r M M') (h : getL M n = some l) (hn : n ≠ r) : getL M' n = some l := by
  unfold Sm.getL
  rw [k.at_ n (getL_lt h) hn, getL_ok h]
/-- a write beyond -/
theorem Kp.setN {r n : Nat} {M M' : Mem} {c : Cell} (k : Kp r M M') (h : M.length ≤ n) : Kp r M (M'.set n c) :=
  ⟨by simpa using k.len, fun i h1 h2 => by rw [List.getElem?_set_ne (by omega)]; exact k.at_ i h1 h2⟩
@[simp] theorem setV_get (n : Nat) (k : Int) (x : Val) (M : Mem) : setV (.loc n) (.int k) x M = (getL M n).bind fun l => (ixN l.length k).map fun j => M.set n (.lst (l.set j x)) := by
  unfold setV getL
  dsimp only
  cases M[n]? with
  | none => rfl
  | some c => cases c with
    | lst l => dsimp only; rw [Option.bind_some]; cases ixN l.length k <;> rfl
    | _ => rfl
theorem ixN_nat {n : Nat} {j : Nat} (h : j < n) : ixN n (j : Int) = some j := by
  unfold ixN
  rw [if_pos (by omega), if_pos (by omega)]; simp
theorem ixN_of {n : Nat} {i : Int} (h0 : 0 ≤ i) (h : i < n) : ixN n i = some i.toNat := by
  unfold ixN
  rw [if_pos h0, if_pos h]
@[simp] theorem small64_lit1 : small64 48271 = true := by decide
@[simp] theorem wipeS_nil (e : Sl) : wipeS e [] = e := rfl
@[simp] theorem wipeS_cons (e : Sl) (v : Nat) (vs : List Nat) : wipeS e (v :: vs) = (wipeS e vs).set v none := rfl
@[simp] theorem put_one (i : Nat) (x : Val) (e : Sl) : (Tg.one i).put x e = some (e.set i (some x)) := rfl
@[simp] theorem put_many (is : List Nat) (l : List Val) (e : Sl) : (Tg.many is).put (.tup l) e = if l.length = is.length then some (setAll is l e) else none := rfl
end Sm

namespace Sm
open PySem L2
/-! wp, held shut -/
@[irreducible] def owp {α : Type} (o : Out α) (Q : α → Mem → Prop) (E : Ex → Mem → Prop) : Prop := o.wp Q E
@[irreducible] def swp (o : SO) (N : Sl → Mem → Prop) (R : Val → Mem → Prop) (B C : Sl → Mem → Prop) (E : Ex → Sl → Mem → Prop) : Prop := o.wp N R B C E
@[irreducible] def gwp (o : GO) (N : Sl → Mem → Prop) (E : Ex → Sl → Mem → Prop) : Prop := o.wp N E
theorem owp_eq {α : Type} {o : Out α} {Q : α → Mem → Prop} {E : Ex → Mem → Prop} : owp o Q E = o.wp Q E := by unfold owp; rfl
theorem swp_eq {o : SO} {N : Sl → Mem → Prop} {R : Val → Mem → Prop} {B C : Sl → Mem → Prop} {E : Ex → Sl → Mem → Prop} : swp o N R B C E = o.wp N R B C E := by unfold swp; rfl
theorem gwp_eq {o : GO} {N : Sl → Mem → Prop} {E : Ex → Sl → Mem → Prop} : gwp o N E = o.wp N E := by unfold gwp; rfl
theorem wp_eDc0 (f : IF) (g : Tg) (t : TF) (ek ev : EF) (vs : List Nat) {e : Sl} {M : Mem} {Qv : Val → Mem → Prop} {E : Ex → Mem → Prop} : (eDc f g t ek ev vs e M).wp Qv E = (f e M).wp (fun it M1 => (dcG it.nxt g t ek ev M1.length (wipeS e vs) it.fuel 0 (M1 ++ [.dK []])).wp Qv E) E := by unfold eDc; rw [wp_bind]
namespace Kt
section
variable {α β : Type} {Q : α → Mem → Prop} {Qv : Val → Mem → Prop} {Qb : Bool → Mem → Prop} {Ql : List Val → Mem → Prop} {E : Ex → Mem → Prop} {e : Sl} {M : Mem} {N B C : Sl → Mem → Prop} {R : Val → Mem → Prop} {Es : Ex → Sl → Mem → Prop}
@[simp] theorem owp_ok (a : α) : owp (Out.ok a M) Q E = Q a M := by simp only [owp_eq, swp_eq, gwp_eq, wp_ok]
@[simp] theorem owp_ex (x : Ex) : owp (Out.ex x M : Out α) Q E = E x M := by simp only [owp_eq, swp_eq, gwp_eq, wp_ex]
@[simp] theorem owp_bad : owp (Out.bad : Out α) Q E = False := by simp only [owp_eq, swp_eq, gwp_eq, wp_bad]
@[simp] theorem owp_snx : swp (SO.nx e M) N R B C Es = N e M := by simp only [owp_eq, swp_eq, gwp_eq, wp_snx]
@[simp] theorem owp_srt (x : Val) : swp (SO.rt x M) N R B C Es = R x M := by simp only [owp_eq, swp_eq, gwp_eq, wp_srt]
@[simp] theorem owp_sbk : swp (SO.bk e M) N R B C Es = B e M := by simp only [owp_eq, swp_eq, gwp_eq, wp_sbk]
@[simp] theorem owp_sct : swp (SO.ct e M) N R B C Es = C e M := by simp only [owp_eq, swp_eq, gwp_eq, wp_sct]
@[simp] theorem owp_sex (x : Ex) : swp (SO.ex x e M) N R B C Es = Es x e M := by simp only [owp_eq, swp_eq, gwp_eq, wp_sex]
@[simp] theorem owp_sbad : swp (SO.bad) N R B C Es = False := by simp only [owp_eq, swp_eq, gwp_eq, wp_sbad]
@[simp] theorem owp_eC (x : Val) : owp (eC x e M) Qv E = Qv x M := by simp only [owp_eq, swp_eq, gwp_eq, wp_eC]
@[simp] theorem owp_eVar (i : Nat) : owp (eVar i e M) Qv E = ∃ x, sget e i = some x ∧ Qv x M := by simp only [owp_eq, swp_eq, gwp_eq, wp_eVar]
@[simp] theorem owp_aNil : owp (aNil e M) Ql E = Ql [] M := by simp only [owp_eq, swp_eq, gwp_eq, wp_aNil]
@[simp] theorem owp_tTrue : owp (tTrue e M) Qb E = Qb true M := by simp only [owp_eq, swp_eq, gwp_eq, wp_tTrue]
@[simp] theorem owp_sNil : swp (sNil e M) N R B C Es = N e M := by simp only [owp_eq, swp_eq, gwp_eq, wp_sNil]
@[simp] theorem owp_sRetN : swp (sRetN e M) N R B C Es = R .non M := by simp only [owp_eq, swp_eq, gwp_eq, wp_sRetN]
@[simp] theorem owp_sBrk : swp (sBrk e M) N R B C Es = B e M := by simp only [owp_eq, swp_eq, gwp_eq, wp_sBrk]
@[simp] theorem owp_sCnt : swp (sCnt e M) N R B C Es = C e M := by simp only [owp_eq, swp_eq, gwp_eq, wp_sCnt]
@[simp] theorem owp_sBad : swp (sBad e M) N R B C Es = False := by simp only [owp_eq, swp_eq, gwp_eq, wp_sBad]
@[simp] theorem owp_gnx : gwp (GO.nx e M) N Es = N e M := by simp only [owp_eq, swp_eq, gwp_eq, wp_gnx]
@[simp] theorem owp_gbad : gwp (GO.bad) N Es = False := by simp only [owp_eq, swp_eq, gwp_eq, wp_gbad]
@[simp] theorem owp_gNm (i : Nat) (x : Val) : gwp (gNm i x e M) N Es = N (e.set i (some x)) M := by simp only [owp_eq, swp_eq, gwp_eq, wp_gNm]
@[simp] theorem owp_gTp (n : Nat) (gs : GsF) (l : List Val) : gwp (gTp n gs (.tup l) e M) N Es = (l.length = n ∧ gwp (gs l e M) N Es) := by simp only [owp_eq, swp_eq, gwp_eq, wp_gTp]
@[simp] theorem owp_gsNil : gwp (gsNil [] e M) N Es = N e M := by simp only [owp_eq, swp_eq, gwp_eq, wp_gsNil]
@[simp] theorem owp_add_ii (i j : Int) : owp (addV (.int i) (.int j) M) Qv E = Qv (.int (i + j)) M := by simp only [owp_eq, swp_eq, gwp_eq, wp_add_ii]
@[simp] theorem owp_add_tt (a b : List Val) : owp (addV (.tup a) (.tup b) M) Qv E = (a.length + b.length ≤ sizeLine ∧ Qv (.tup (a ++ b)) M) := by simp only [owp_eq, swp_eq, gwp_eq, wp_add_tt]
@[simp] theorem owp_add_ss (a b : Str) : owp (addV (.str a) (.str b) M) Qv E = (a.length + b.length ≤ sizeLine ∧ Qv (.str (a ++ b)) M) := by simp only [owp_eq, swp_eq, gwp_eq, wp_add_ss]
@[simp] theorem owp_add_ll (m n : Nat) : owp (addV (.loc m) (.loc n) M) Qv E = ∃ a b, getL M m = some a ∧ getL M n = some b ∧ a.length + b.length ≤ sizeLine ∧ Qv (.loc M.length) (M ++ [.lst (a ++ b)]) := by simp only [owp_eq, swp_eq, gwp_eq, wp_add_ll]
@[simp] theorem owp_sub_ii (i j : Int) : owp (subV (.int i) (.int j) M) Qv E = Qv (.int (i - j)) M := by simp only [owp_eq, swp_eq, gwp_eq, wp_sub_ii]
@[simp] theorem owp_mul_ii (i j : Int) : owp (mulV (.int i) (.int j) M) Qv E = ((small64 i || small64 j) = true ∧ Qv (.int (i * j)) M) := by simp only [owp_eq, swp_eq, gwp_eq, wp_mul_ii]
@[simp] theorem owp_mul_li (n : Nat) (k : Int) : owp (mulV (.loc n) (.int k) M) Qv E = ∃ l, getL M n = some l ∧ (-(2 ^ 63) ≤ k ∧ k < 2 ^ 63 ∧ l.length * k.toNat ≤ sizeLine) ∧ Qv (.loc M.length) (M ++ [.lst (List.replicate k.toNat l).flatten]) := by simp only [owp_eq, swp_eq, gwp_eq, wp_mul_li]
@[simp] theorem owp_mul_ti (l : List Val) (k : Int) : owp (mulV (.tup l) (.int k) M) Qv E = ((l ≠ [] ∧ 2 ≤ k ∧ k ≤ 1000 ∧ l.length ≤ 1000) ∧ Qv (.tup (List.replicate k.toNat l).flatten) M) := by simp only [owp_eq, swp_eq, gwp_eq, wp_mul_ti]
@[simp] theorem owp_div_ii (i j : Int) : owp (divV (.int i) (.int j) M) Qv E = ((0 < j ∧ j < 1073741824) ∧ Qv (.int (i / j)) M) := by simp only [owp_eq, swp_eq, gwp_eq, wp_div_ii]
@[simp] theorem owp_mod_ii (i j : Int) : owp (modV (.int i) (.int j) M) Qv E = (0 < j ∧ Qv (.int (i % j)) M) := by simp only [owp_eq, swp_eq, gwp_eq, wp_mod_ii]
@[simp] theorem owp_pow_ii (i j : Int) : owp (powV (.int i) (.int j) M) Qv E = ((0 ≤ j ∧ j ≤ 1000000 ∧ i.natAbs < 2 ^ 64) ∧ Qv (.int (i ^ j.toNat)) M) := by simp only [owp_eq, swp_eq, gwp_eq, wp_pow_ii]
@[simp] theorem owp_cmp_ii (p : Int → Int → Bool) (i j : Int) : owp (cmpV p (.int i) (.int j) M) Qv E = Qv (.bl (p i j)) M := by simp only [owp_eq, swp_eq, gwp_eq, wp_cmp_ii]
@[simp] theorem owp_neg_i (i : Int) : owp (negV (.int i) M) Qv E = Qv (.int (-i)) M := by simp only [owp_eq, swp_eq, gwp_eq, wp_neg_i]
@[simp] theorem owp_isN (x : Val) : owp (isN x .non M) Qv E = Qv (.bl (isNon x)) M := by simp only [owp_eq, swp_eq, gwp_eq, wp_isN]
@[simp] theorem owp_notN (x : Val) : owp (notN x .non M) Qv E = Qv (.bl (!isNon x)) M := by simp only [owp_eq, swp_eq, gwp_eq, wp_notN]
@[simp] theorem owp_eqV (x y : Val) : owp (eqV x y M) Qv E = ∃ b, eqD x y M = some b ∧ Qv (.bl b) M := by simp only [owp_eq, swp_eq, gwp_eq, wp_eqV]
@[simp] theorem owp_neV (x y : Val) : owp (neV x y M) Qv E = ∃ b, eqD x y M = some b ∧ Qv (.bl (!b)) M := by simp only [owp_eq, swp_eq, gwp_eq, wp_neV]
@[simp] theorem owp_inV (x y : Val) : owp (inV x y M) Qv E = ∃ b, inD x y M = some b ∧ Qv (.bl b) M := by simp only [owp_eq, swp_eq, gwp_eq, wp_inV]
@[simp] theorem owp_notInV (x y : Val) : owp (notInV x y M) Qv E = ∃ b, inD x y M = some b ∧ Qv (.bl (!b)) M := by simp only [owp_eq, swp_eq, gwp_eq, wp_notInV]
@[simp] theorem owp_ix_t (l : List Val) (i : Int) : owp (ixV (.tup l) (.int i) M) Qv E = ∃ v, atI l i = some v ∧ Qv v M := by simp only [owp_eq, swp_eq, gwp_eq, wp_ix_t]
@[simp] theorem owp_ix_f (l : List Int) (i : Int) : owp (ixV (.frz l) (.int i) M) Qv E = ∃ v, atI l i = some v ∧ Qv (.int v) M := by simp only [owp_eq, swp_eq, gwp_eq, wp_ix_f]
@[simp] theorem owp_ix_l (n : Nat) (i : Int) : owp (ixV (.loc n) (.int i) M) Qv E = ∃ l, getL M n = some l ∧ ∃ v, atI l i = some v ∧ Qv v M := by simp only [owp_eq, swp_eq, gwp_eq, wp_ix_l]
@[simp] theorem owp_oNone {Qo : Option Int → Mem → Prop} : owp (oNone e M) Qo E = Qo none M := by simp only [owp_eq, swp_eq, gwp_eq, wp_oNone]
@[simp] theorem owp_sl_t (l : List Val) (lo hi : Option Int) : owp (slV (.tup l) lo hi M) Qv E = Qv (.tup (cutL l lo hi)) M := by simp only [owp_eq, swp_eq, gwp_eq, wp_sl_t]
@[simp] theorem owp_sl_l (n : Nat) (lo hi : Option Int) : owp (slV (.loc n) lo hi M) Qv E = ∃ l, getL M n = some l ∧ Qv (.loc M.length) (M ++ [.lst (cutL l lo hi)]) := by simp only [owp_eq, swp_eq, gwp_eq, wp_sl_l]
@[simp] theorem owp_len_t (l : List Val) : owp (lenV [.tup l] M) Qv E = Qv (.int l.length) M := by simp only [owp_eq, swp_eq, gwp_eq, wp_len_t]
@[simp] theorem owp_len_f (l : List Int) : owp (lenV [.frz l] M) Qv E = Qv (.int l.length) M := by simp only [owp_eq, swp_eq, gwp_eq, wp_len_f]
@[simp] theorem owp_len_l (n : Nat) : owp (lenV [.loc n] M) Qv E = ∃ l, getL M n = some l ∧ Qv (.int l.length) M := by simp only [owp_eq, swp_eq, gwp_eq, wp_len_l]
@[simp] theorem owp_tuple_t (l : List Val) : owp (tupleV [.tup l] M) Qv E = Qv (.tup l) M := by simp only [owp_eq, swp_eq, gwp_eq, wp_tuple_t]
@[simp] theorem owp_tuple_l (n : Nat) : owp (tupleV [.loc n] M) Qv E = ∃ l, getL M n = some l ∧ Qv (.tup l) M := by simp only [owp_eq, swp_eq, gwp_eq, wp_tuple_l]
@[simp] theorem owp_list_t (l : List Val) : owp (listV [.tup l] M) Qv E = Qv (.loc M.length) (M ++ [.lst l]) := by simp only [owp_eq, swp_eq, gwp_eq, wp_list_t]
@[simp] theorem owp_list_l (n : Nat) : owp (listV [.loc n] M) Qv E = ∃ l, getL M n = some l ∧ Qv (.loc M.length) (M ++ [.lst l]) := by simp only [owp_eq, swp_eq, gwp_eq, wp_list_l]
@[simp] theorem owp_int_i (i : Int) : owp (intV [.int i] M) Qv E = Qv (.int i) M := by simp only [owp_eq, swp_eq, gwp_eq, wp_int_i]
@[simp] theorem owp_int_b (b : Bool) : owp (intV [.bl b] M) Qv E = Qv (.int (if b then 1 else 0)) M := by simp only [owp_eq, swp_eq, gwp_eq, wp_int_b]
@[simp] theorem owp_abs (i : Int) : owp (absV1 [.int i] M) Qv E = Qv (.int (if i < 0 then -i else i)) M := by simp only [owp_eq, swp_eq, gwp_eq, wp_abs]
@[simp] theorem owp_max2 (i j : Int) : owp (max2V [.int i, .int j] M) Qv E = Qv (.int (if j > i then j else i)) M := by simp only [owp_eq, swp_eq, gwp_eq, wp_max2]
@[simp] theorem owp_min2 (i j : Int) : owp (min2V [.int i, .int j] M) Qv E = Qv (.int (if j < i then j else i)) M := by simp only [owp_eq, swp_eq, gwp_eq, wp_min2]
@[simp] theorem owp_sorted (n : Nat) : owp (sortedV [.loc n] M) Qv E = ∃ l, (getL M n).bind intsOf = some l ∧ l.length < 64 ∧ Qv (.loc M.length) (M ++ [.lst ((sortI l).map .int)]) := by simp only [owp_eq, swp_eq, gwp_eq, wp_sorted]
@[simp] theorem owp_sum (n : Nat) : owp (sumV [.loc n] M) Qv E = ∃ l, (getL M n).bind intsOf = some l ∧ Qv (.int l.sum) M := by simp only [owp_eq, swp_eq, gwp_eq, wp_sum]
@[simp] theorem owp_max (n : Nat) : owp (maxV [.loc n] M) Qv E = ∃ l, (getL M n).bind intsOf = some l ∧ 0 < l.length ∧ Qv (.int (maxL l)) M := by simp only [owp_eq, swp_eq, gwp_eq, wp_max]
@[simp] theorem owp_min (n : Nat) : owp (minV [.loc n] M) Qv E = ∃ l, (getL M n).bind intsOf = some l ∧ 0 < l.length ∧ Qv (.int (minL l)) M := by simp only [owp_eq, swp_eq, gwp_eq, wp_min]
@[simp] theorem owp_any (n : Nat) : owp (anyV [.loc n] M) Qv E = ∃ l, (getL M n).bind boolsOf = some l ∧ Qv (.bl (l.any id)) M := by simp only [owp_eq, swp_eq, gwp_eq, wp_any]
@[simp] theorem owp_all (n : Nat) : owp (allV [.loc n] M) Qv E = ∃ l, (getL M n).bind boolsOf = some l ∧ Qv (.bl (l.all id)) M := by simp only [owp_eq, swp_eq, gwp_eq, wp_all]
@[simp] theorem owp_append (n : Nat) (y : Val) : owp (appendV (.loc n) [y] M) Qv E = ∃ xs, getL M n = some xs ∧ xs.length < sizeLine ∧ Qv .non (M.set n (.lst (xs ++ [y]))) := by simp only [owp_eq, swp_eq, gwp_eq, wp_append]
@[simp] theorem owp_extend (n m : Nat) : owp (extendV (.loc n) [.loc m] M) Qv E = ∃ xs ys, getL M n = some xs ∧ getL M m = some ys ∧ xs.length + ys.length ≤ sizeLine ∧ Qv .non (M.set n (.lst (xs ++ ys))) := by simp only [owp_eq, swp_eq, gwp_eq, wp_extend]
@[simp] theorem owp_pop (n : Nat) : owp (popV (.loc n) [] M) Qv E = ∃ xs, getL M n = some xs ∧ ∃ y, xs[xs.length - 1]? = some y ∧ Qv y (M.set n (.lst xs.dropLast)) := by simp only [owp_eq, swp_eq, gwp_eq, wp_pop]
@[simp] theorem owp_popAt (n : Nat) (i : Int) : owp (popAtV (.loc n) [.int i] M) Qv E = ∃ xs, getL M n = some xs ∧ (-(2 ^ 63) ≤ i ∧ i < 2 ^ 63) ∧ ∃ k, ixN xs.length i = some k ∧ ∃ y, xs[k]? = some y ∧ Qv y (M.set n (.lst (xs.eraseIdx k))) := by simp only [owp_eq, swp_eq, gwp_eq, wp_popAt]
@[simp] theorem owp_ar (h : Int → Int → Int) (i j : Int) : owp (arI h (.int i) (.int j) M) Qv E = Qv (.int (h i j)) M := by simp only [owp_eq, swp_eq, gwp_eq, wp_ar]
end
/-! what follows, without binders: with these open, simp steps at the head alone -/
abbrev PV := Val → Mem → Prop
abbrev PB := Bool → Mem → Prop
abbrev PL := List Val → Mem → Prop
abbrev PS := Sl → Mem → Prop
abbrev PX := Ex → Mem → Prop
abbrev PXs := Ex → Sl → Mem → Prop
abbrev G2 := Val → Val → Mem → Out Val
def kB (g : G2) (x : Val) (Q : PV) (E : PX) : PV := fun y M => owp (g x y M) Q E
def kA (g : G2) (fb : EF) (e : Sl) (Q : PV) (E : PX) : PV := fun x M => owp (fb e M) (kB g x Q E) E
def kU (g : Val → Mem → Out Val) (Q : PV) (E : PX) : PV := fun x M => owp (g x M) Q E
def kD (x : Val) (Q : PL) : PL := fun l M => Q (x :: l) M
def kC (fr : AF) (e : Sl) (Q : PL) (E : PX) : PV := fun x M => owp (fr e M) (kD x Q) E
def kT (Q : PV) : PL := fun l M => l.length ≤ sizeLine ∧ Q (.tup l) M
def kL (Q : PV) : PL := fun l M => l.length ≤ sizeLine ∧ Q (.loc M.length) (M ++ [.lst l])
def kF (F : FnS) (Q : PV) (E : PX) : PL := fun l M => owp (F l M) Q E
def kN (np : Nat) (F : FnS) (Q : PV) (E : PX) : PL := fun l M => l.length = np ∧ owp (F l M) Q E
def kI (fa fb : EF) (e : Sl) (Q : PV) (E : PX) : PB := fun b M => if b = true then owp (fa e M) Q E else owp (fb e M) Q E
def kX (Q : PB) : PV := fun z M => ∃ b, z = .bl b ∧ Q b M
def kTr (Q : PB) : PV := fun z M => ∃ b, truV z M = some b ∧ Q b M
def kNt (Q : PB) : PB := fun b M => Q (!b) M
def kAn (u : TF) (e : Sl) (Q : PB) (E : PX) : PB := fun b M => if b = true then owp (u e M) Q E else Q false M
def kOr (u : TF) (e : Sl) (Q : PB) (E : PX) : PB := fun b M => if b = true then Q true M else owp (u e M) Q E
def kEa (u : EF) (e : Sl) (Q : PV) (E : PX) : PB := fun b M => if b = true then owp (u e M) Q E else Q (.bl false) M
def kEo (u : EF) (e : Sl) (Q : PV) (E : PX) : PB := fun b M => if b = true then Q (.bl true) M else owp (u e M) Q E
def kEn (Q : PV) : PB := fun b M => Q (.bl (!b)) M
def kCd (g' : G2) (y : Val) (fc : EF) (e : Sl) (Q : PV) (E : PX) : PB := fun b M => if b = true then owp (fc e M) (kB g' y Q E) E else Q (.bl false) M
def kCc (g g' : G2) (x : Val) (fc : EF) (e : Sl) (Q : PV) (E : PX) : PV := fun y M => owp (g x y M) (kX (kCd g' y fc e Q E)) E
def kCb (g g' : G2) (fb fc : EF) (e : Sl) (Q : PV) (E : PX) : PV := fun x M => owp (fb e M) (kCc g g' x fc e Q E) E
def kS (g : SF) (N : PS) (R : PV) (B C : PS) (Es : PXs) : PS := fun e M => swp (g e M) N R B C Es
def kEr (Es : PXs) (e : Sl) : PX := fun x M => Es x e M
def kEx (e : Sl) (N : PS) : PV := fun _ M => N e M
def kIf (f g : SF) (e : Sl) (N : PS) (R : PV) (B C : PS) (Es : PXs) : PB := fun b M => if b = true then swp (f e M) N R B C Es else swp (g e M) N R B C Es
def kAs (g : GF) (e : Sl) (N : PS) (Es : PXs) : PV := fun x M => gwp (g x e M) N Es
def kGs (gs : GsF) (l : List Val) (N : PS) (Es : PXs) : PS := fun e M => gwp (gs l e M) N Es
def kSc (o x : Val) (e : Sl) (N : PS) : PV := fun i M => ∃ M3, setV o i x M = some M3 ∧ N e M3
def kSb (fi : EF) (x : Val) (e : Sl) (N : PS) (Es : PXs) : PV := fun o M => owp (fi e M) (kSc o x e N) (kEr Es e)
def kPa (is : List Nat) (e : Sl) (N : PS) : PL := fun l M => l.length = is.length ∧ N (setAll is l e) M
def kAh (i : Nat) (e : Sl) (N : PS) : PV := fun z M => N (e.set i (some z)) M
def kAg (g : G2) (x : Val) (i : Nat) (e : Sl) (N : PS) (Es : PXs) : PV := fun y M => owp (g x y M) (kAh i e N) (kEr Es e)
def kRn (Q : PV) : PS := fun _ M => Q .non M
def kFF : PS := fun _ _ => False
def kE1 (E : PX) : PXs := fun x _ M => E x M
def kFo (g : GF) (body : SF) (e : Sl) (N : PS) (R : PV) (B C : PS) (Es : PXs) : Itr → Mem → Prop := fun it M => swp (forG it.nxt g body it.fuel 0 e M) N R B C Es
def kIs (Q : Itr → Mem → Prop) : PV := fun x M => ∃ it, itSeq x M = some it ∧ Q it M
def kIe (Q : Itr → Mem → Prop) : PV := fun x M => ∃ it, itEnum x M = some it ∧ Q it M
def kIz (x : Val) (Q : Itr → Mem → Prop) : PV := fun y M => ∃ it, itZip x y M = some it ∧ Q it M
def kIy (f : EF) (e : Sl) (Q : Itr → Mem → Prop) (E : PX) : PV := fun x M => owp (f e M) (kIz x Q) E
def kI1 (Q : Itr → Mem → Prop) : PV := fun x M => ∃ j, x = .int j ∧ (-(2 ^ 62) ≤ j ∧ j < 2 ^ 62) ∧ Q (itRng 0 j.toNat) M
def kI3 (x : Val) (Q : Itr → Mem → Prop) : PV := fun y M => ∃ i j, x = .int i ∧ y = .int j ∧ (-(2 ^ 62) ≤ i ∧ i < 2 ^ 62 ∧ -(2 ^ 62) ≤ j ∧ j < 2 ^ 62) ∧ Q (itRng i (j - i).toNat) M
def kI2 (f : EF) (e : Sl) (Q : Itr → Mem → Prop) (E : PX) : PV := fun x M => owp (f e M) (kI3 x Q) E
def kLc (g : Tg) (t : TF) (el : EF) (vs : List Nat) (e : Sl) (Q : PV) (E : PX) : Itr → Mem → Prop := fun it M => owp (lcG it.nxt g t el M.length (wipeS e vs) it.fuel 0 (M ++ [.lst []])) Q E
def kDc (g : Tg) (t : TF) (ek ev : EF) (vs : List Nat) (e : Sl) (Q : PV) (E : PX) : Itr → Mem → Prop := fun it M => owp (dcG it.nxt g t ek ev M.length (wipeS e vs) it.fuel 0 (M ++ [.dK []])) Q E
def kOs (Q : Option Int → Mem → Prop) : PV := fun x M => ∃ i, x = .int i ∧ Q (some i) M
def kSd (x : Val) (lo : Option Int) (Q : PV) (E : PX) : Option Int → Mem → Prop := fun hi M => owp (slV x lo hi M) Q E
def kSe (x : Val) (h : OF) (e : Sl) (Q : PV) (E : PX) : Option Int → Mem → Prop := fun lo M => owp (h e M) (kSd x lo Q E) E
def kSl (l h : OF) (e : Sl) (Q : PV) (E : PX) : PV := fun x M => owp (l e M) (kSe x h e Q E) E
def kR1 (Q : PV) : PV := fun x M => ∃ n, x = .int n ∧ (-(2 ^ 62) ≤ n ∧ n < 2 ^ 62 ∧ n.toNat ≤ 2 ^ 24) ∧ Q (.loc M.length) (M ++ [.lst (rangeL 0 n)])
def kTy (ts : List Bt) (Q : PV) : PV := fun x M => (tyN x M).isSome = true ∧ Q (.bl (ts.any fun t => isT x t)) M
def kMb (x : Val) (g : MtF) (Q : PV) (E : PX) : PL := fun l M => owp (g x l M) Q E
def kMt (T : String) (g : MtF) (fa : AF) (e : Sl) (Q : PV) (E : PX) : PV := fun x M => isTyM T x M = true ∧ owp (fa e M) (kMb x g Q E) E
section
variable {Q : PV} {Qb : PB} {Ql : PL} {E : PX} {e : Sl} {M : Mem} {N B C : PS} {R : PV} {Es : PXs} {x y : Val} {l : List Val} {b : Bool} {g g' : G2} {fa fb fc : EF} {af : AF} {t u : TF} {f h : SF} {Qi : Itr → Mem → Prop} {it : Itr} {Qo : Option Int → Mem → Prop} {lo : Option Int}
@[simp] theorem kB_ap : kB g x Q E y M = owp (g x y M) Q E := rfl
@[simp] theorem kA_ap : kA g fb e Q E x M = owp (fb e M) (kB g x Q E) E := rfl
@[simp] theorem kU_ap {g} : kU g Q E x M = owp (g x M) Q E := rfl
@[simp] theorem kD_ap : kD x Ql l M = Ql (x :: l) M := rfl
@[simp] theorem kC_ap : kC af e Ql E x M = owp (af e M) (kD x Ql) E := rfl
@[simp] theorem kT_ap : kT Q l M = (l.length ≤ sizeLine ∧ Q (.tup l) M) := rfl
@[simp] theorem kL_ap : kL Q l M = (l.length ≤ sizeLine ∧ Q (.loc M.length) (M ++ [.lst l])) := rfl
@[simp] theorem kF_ap {F} : kF F Q E l M = owp (F l M) Q E := rfl
@[simp] theorem kN_ap {np F} : kN np F Q E l M = (l.length = np ∧ owp (F l M) Q E) := rfl
@[simp] theorem kI_ap : kI fa fb e Q E b M = (if b = true then owp (fa e M) Q E else owp (fb e M) Q E) := rfl
@[simp] theorem kX_ap : kX Qb x M = (∃ b, x = .bl b ∧ Qb b M) := rfl
@[simp] theorem kTr_ap : kTr Qb x M = (∃ b, truV x M = some b ∧ Qb b M) := rfl
@[simp] theorem kNt_ap : kNt Qb b M = Qb (!b) M := rfl
@[simp] theorem kAn_ap : kAn u e Qb E b M = (if b = true then owp (u e M) Qb E else Qb false M) := rfl
@[simp] theorem kOr_ap : kOr u e Qb E b M = (if b = true then Qb true M else owp (u e M) Qb E) := rfl
@[simp] theorem kEa_ap : kEa fa e Q E b M = (if b = true then owp (fa e M) Q E else Q (.bl false) M) := rfl
@[simp] theorem kEo_ap : kEo fa e Q E b M = (if b = true then Q (.bl true) M else owp (fa e M) Q E) := rfl
@[simp] theorem kEn_ap : kEn Q b M = Q (.bl (!b)) M := rfl
@[simp] theorem kCd_ap : kCd g' y fc e Q E b M = (if b = true then owp (fc e M) (kB g' y Q E) E else Q (.bl false) M) := rfl
@[simp] theorem kCc_ap : kCc g g' x fc e Q E y M = owp (g x y M) (kX (kCd g' y fc e Q E)) E := rfl
@[simp] theorem kCb_ap : kCb g g' fb fc e Q E x M = owp (fb e M) (kCc g g' x fc e Q E) E := rfl
@[simp] theorem kS_ap : kS f N R B C Es e M = swp (f e M) N R B C Es := rfl
@[simp] theorem kEr_ap {x} : kEr Es e x M = Es x e M := rfl
@[simp] theorem kEx_ap : kEx e N x M = N e M := rfl
@[simp] theorem kIf_ap : kIf f h e N R B C Es b M = (if b = true then swp (f e M) N R B C Es else swp (h e M) N R B C Es) := rfl
@[simp] theorem kAs_ap {g} : kAs g e N Es x M = gwp (g x e M) N Es := rfl
@[simp] theorem kGs_ap {gs} : kGs gs l N Es e M = gwp (gs l e M) N Es := rfl
@[simp] theorem kSc_ap : kSc x y e N i M = (∃ M3, setV x i y M = some M3 ∧ N e M3) := rfl
@[simp] theorem kSb_ap : kSb fa y e N Es x M = owp (fa e M) (kSc x y e N) (kEr Es e) := rfl
@[simp] theorem kPa_ap {is} : kPa is e N l M = (l.length = is.length ∧ N (setAll is l e) M) := rfl
@[simp] theorem kAh_ap {i} : kAh i e N x M = N (e.set i (some x)) M := rfl
@[simp] theorem kAg_ap {i} : kAg g x i e N Es y M = owp (g x y M) (kAh i e N) (kEr Es e) := rfl
@[simp] theorem kRn_ap : kRn Q e M = Q .non M := rfl
@[simp] theorem kFF_ap : kFF e M = False := rfl
@[simp] theorem kE1_ap {x} : kE1 E x e M = E x M := rfl
@[simp] theorem kFo_ap {g} : kFo g f e N R B C Es it M = swp (forG it.nxt g f it.fuel 0 e M) N R B C Es := rfl
@[simp] theorem kIs_ap : kIs Qi x M = (∃ it, itSeq x M = some it ∧ Qi it M) := rfl
@[simp] theorem kIe_ap : kIe Qi x M = (∃ it, itEnum x M = some it ∧ Qi it M) := rfl
@[simp] theorem kIz_ap : kIz x Qi y M = (∃ it, itZip x y M = some it ∧ Qi it M) := rfl
@[simp] theorem kIy_ap : kIy fa e Qi E x M = owp (fa e M) (kIz x Qi) E := rfl
@[simp] theorem kI1_ap : kI1 Qi x M = (∃ j, x = .int j ∧ (-(2 ^ 62) ≤ j ∧ j < 2 ^ 62) ∧ Qi (itRng 0 j.toNat) M) := rfl
@[simp] theorem kI3_ap : kI3 x Qi y M = (∃ i j, x = .int i ∧ y = .int j ∧ (-(2 ^ 62) ≤ i ∧ i < 2 ^ 62 ∧ -(2 ^ 62) ≤ j ∧ j < 2 ^ 62) ∧ Qi (itRng i (j - i).toNat) M) := rfl
@[simp] theorem kI2_ap : kI2 fa e Qi E x M = owp (fa e M) (kI3 x Qi) E := rfl
@[simp] theorem kLc_ap {g vs} : kLc g t fa vs e Q E it M = owp (lcG it.nxt g t fa M.length (wipeS e vs) it.fuel 0 (M ++ [.lst []])) Q E := rfl
@[simp] theorem kDc_ap {g vs} : kDc g t fa fb vs e Q E it M = owp (dcG it.nxt g t fa fb M.length (wipeS e vs) it.fuel 0 (M ++ [.dK []])) Q E := rfl
@[simp] theorem kOs_ap : kOs Qo x M = (∃ i, x = .int i ∧ Qo (some i) M) := rfl
@[simp] theorem kSd_ap {hi} : kSd x lo Q E hi M = owp (slV x lo hi M) Q E := rfl
@[simp] theorem kSe_ap {h} : kSe x h e Q E lo M = owp (h e M) (kSd x lo Q E) E := rfl
@[simp] theorem kSl_ap {l h} : kSl l h e Q E x M = owp (l e M) (kSe x h e Q E) E := rfl
@[simp] theorem kR1_ap : kR1 Q x M = (∃ n, x = .int n ∧ (-(2 ^ 62) ≤ n ∧ n < 2 ^ 62 ∧ n.toNat ≤ 2 ^ 24) ∧ Q (.loc M.length) (M ++ [.lst (rangeL 0 n)])) := rfl
@[simp] theorem kTy_ap {ts} : kTy ts Q x M = ((tyN x M).isSome = true ∧ Q (.bl (ts.any fun t => isT x t)) M) := rfl
@[simp] theorem kMb_ap {g} : kMb x g Q E l M = owp (g x l M) Q E := rfl
@[simp] theorem kMt_ap {T g} : kMt T g af e Q E x M = (isTyM T x M = true ∧ owp (af e M) (kMb x g Q E) E) := rfl
@[simp] theorem w_eOp2 : owp (eOp2 g fa fb e M) Q E = owp (fa e M) (kA g fb e Q E) E := by simp only [owp_eq, swp_eq, gwp_eq, wp_eOp2]; (try rfl); (try delta kA); (try delta kB); (try simp only [owp_eq, swp_eq, gwp_eq]); (try rfl)
@[simp] theorem w_eOp1 {g} : owp (eOp1 g fa e M) Q E = owp (fa e M) (kU g Q E) E := by simp only [owp_eq, swp_eq, gwp_eq, wp_eOp1]; (try rfl); (try delta kU); (try simp only [owp_eq, swp_eq, gwp_eq]); (try rfl)
@[simp] theorem w_aCons : owp (aCons fa af e M) Ql E = owp (fa e M) (kC af e Ql E) E := by simp only [owp_eq, swp_eq, gwp_eq, wp_aCons]; (try rfl); (try delta kC); (try delta kD); (try simp only [owp_eq, swp_eq, gwp_eq]); (try rfl)
@[simp] theorem w_eTup : owp (eTup af e M) Q E = owp (af e M) (kT Q) E := by simp only [owp_eq, swp_eq, gwp_eq, wp_eTup]; (try rfl); (try delta kT); (try simp only [owp_eq, swp_eq, gwp_eq]); (try rfl)
@[simp] theorem w_eLst : owp (eLst af e M) Q E = owp (af e M) (kL Q) E := by simp only [owp_eq, swp_eq, gwp_eq, wp_eLst]; (try rfl); (try delta kL); (try simp only [owp_eq, swp_eq, gwp_eq]); (try rfl)
@[simp] theorem w_eCall {F} : owp (eCall F af e M) Q E = owp (af e M) (kF F Q E) E := by simp only [owp_eq, swp_eq, gwp_eq, wp_eCall]; (try rfl); (try delta kF); (try simp only [owp_eq, swp_eq, gwp_eq]); (try rfl)
@[simp] theorem w_eFn {np F} : owp (eFn np F af e M) Q E = owp (af e M) (kN np F Q E) E := by simp only [owp_eq, swp_eq, gwp_eq, wp_eFn]; (try rfl); (try delta kN); (try simp only [owp_eq, swp_eq, gwp_eq]); (try rfl)
@[simp] theorem w_eIf : owp (eIf t fa fb e M) Q E = owp (t e M) (kI fa fb e Q E) E := by simp only [owp_eq, swp_eq, gwp_eq, wp_eIf]; (try rfl); (try delta kI); (try simp only [owp_eq, swp_eq, gwp_eq]); (try rfl)
@[simp] theorem w_tCmp2 : owp (tCmp2 g fa fb e M) Qb E = owp (fa e M) (kA g fb e (kX Qb) E) E := by simp only [owp_eq, swp_eq, gwp_eq, wp_tCmp2]; (try rfl); (try delta kA); (try delta kB); (try delta kX); (try simp only [owp_eq, swp_eq, gwp_eq]); (try rfl)
@[simp] theorem w_tOfE : owp (tOfE fa e M) Qb E = owp (fa e M) (kX Qb) E := by simp only [owp_eq, swp_eq, gwp_eq, wp_tOfE]; (try rfl); (try delta kX); (try simp only [owp_eq, swp_eq, gwp_eq]); (try rfl)
@[simp] theorem w_tTru : owp (tTru fa e M) Qb E = owp (fa e M) (kTr Qb) E := by simp only [owp_eq, swp_eq, gwp_eq, wp_tTru]; (try rfl); (try delta kTr); (try simp only [owp_eq, swp_eq, gwp_eq]); (try rfl)
@[simp] theorem w_tNotF : owp (tNotF t e M) Qb E = owp (t e M) (kNt Qb) E := by simp only [owp_eq, swp_eq, gwp_eq, wp_tNotF]; (try rfl); (try delta kNt); (try simp only [owp_eq, swp_eq, gwp_eq]); (try rfl)
@[simp] theorem w_tAndF : owp (tAndF t u e M) Qb E = owp (t e M) (kAn u e Qb E) E := by simp only [owp_eq, swp_eq, gwp_eq, wp_tAndF]; (try rfl); (try delta kAn); (try simp only [owp_eq, swp_eq, gwp_eq]); (try rfl)
@[simp] theorem w_tOrF : owp (tOrF t u e M) Qb E = owp (t e M) (kOr u e Qb E) E := by simp only [owp_eq, swp_eq, gwp_eq, wp_tOrF]; (try rfl); (try delta kOr); (try simp only [owp_eq, swp_eq, gwp_eq]); (try rfl)
@[simp] theorem w_eAnd : owp (eAnd fa fb e M) Q E = owp (fa e M) (kX (kEa fb e Q E)) E := by simp only [owp_eq, swp_eq, gwp_eq, wp_eAnd]; (try rfl); (try delta kEa); (try delta kX); (try simp only [owp_eq, swp_eq, gwp_eq]); (try rfl)
@[simp] theorem w_eOr : owp (eOr fa fb e M) Q E = owp (fa e M) (kX (kEo fb e Q E)) E := by simp only [owp_eq, swp_eq, gwp_eq, wp_eOr]; (try rfl); (try delta kEo); (try delta kX); (try simp only [owp_eq, swp_eq, gwp_eq]); (try rfl)
@[simp] theorem w_eNot : owp (eNot fa e M) Q E = owp (fa e M) (kX (kEn Q)) E := by simp only [owp_eq, swp_eq, gwp_eq, wp_eNot]; (try rfl); (try delta kEn); (try delta kX); (try simp only [owp_eq, swp_eq, gwp_eq]); (try rfl)
@[simp] theorem w_eChain : owp (eChain g g' fa fb fc e M) Q E = owp (fa e M) (kCb g g' fb fc e Q E) E := by simp only [owp_eq, swp_eq, gwp_eq, wp_eChain]; (try rfl); (try delta kCb); (try delta kCc); (try delta kX); (try delta kCd); (try delta kB); (try simp only [owp_eq, swp_eq, gwp_eq]); (try rfl)
@[simp] theorem w_sSeq : swp (sSeq f h e M) N R B C Es = swp (f e M) (kS h N R B C Es) R B C Es := by simp only [owp_eq, swp_eq, gwp_eq, wp_sSeq]; (try rfl); (try delta kS); (try simp only [owp_eq, swp_eq, gwp_eq]); (try rfl)
@[simp] theorem w_sExpr : swp (sExpr fa e M) N R B C Es = owp (fa e M) (kEx e N) (kEr Es e) := by simp only [owp_eq, swp_eq, gwp_eq, wp_sExpr]; (try rfl); (try delta kEr); (try delta kEx); (try simp only [owp_eq, swp_eq, gwp_eq]); (try rfl)
@[simp] theorem w_sRet : swp (sRet fa e M) N R B C Es = owp (fa e M) R (kEr Es e) := by simp only [owp_eq, swp_eq, gwp_eq, wp_sRet]; (try rfl); (try delta kEr); (try simp only [owp_eq, swp_eq, gwp_eq]); (try rfl)
@[simp] theorem w_sIf : swp (sIf t f h e M) N R B C Es = owp (t e M) (kIf f h e N R B C Es) (kEr Es e) := by simp only [owp_eq, swp_eq, gwp_eq, wp_sIf]; (try rfl); (try delta kEr); (try delta kIf); (try simp only [owp_eq, swp_eq, gwp_eq]); (try rfl)
@[simp] theorem w_sAsg {g} : swp (sAsg fa g e M) N R B C Es = owp (fa e M) (kAs g e N Es) (kEr Es e) := by simp only [owp_eq, swp_eq, gwp_eq, wp_sAsg]; (try rfl); (try delta kAs); (try delta kEr); (try simp only [owp_eq, swp_eq, gwp_eq]); (try rfl)
@[simp] theorem w_gsCons {g gs} : gwp (gsCons g gs (x :: l) e M) N Es = gwp (g x e M) (kGs gs l N Es) Es := by simp only [owp_eq, swp_eq, gwp_eq, wp_gsCons]; (try rfl); (try delta kGs); (try simp only [owp_eq, swp_eq, gwp_eq]); (try rfl)
@[simp] theorem w_gSb : gwp (gSb fa fb x e M) N Es = owp (fa e M) (kSb fb x e N Es) (kEr Es e) := by simp only [owp_eq, swp_eq, gwp_eq, wp_gSb]; (try rfl); (try delta kEr); (try delta kSb); (try delta kSc); (try simp only [owp_eq, swp_eq, gwp_eq]); (try rfl)
@[simp] theorem w_sPar {is} : swp (sPar is af e M) N R B C Es = owp (af e M) (kPa is e N) (kEr Es e) := by simp only [owp_eq, swp_eq, gwp_eq, wp_sPar]; (try rfl); (try delta kEr); (try delta kPa); (try simp only [owp_eq, swp_eq, gwp_eq]); (try rfl)
@[simp] theorem w_sAug {i} : swp (sAug i g fa e M) N R B C Es = ∃ x, sget e i = some x ∧ owp (fa e M) (kAg g x i e N Es) (kEr Es e) := by simp only [owp_eq, swp_eq, gwp_eq, wp_sAug]; (try rfl); (try delta kAg); (try delta kAh); (try delta kEr); (try simp only [owp_eq, swp_eq, gwp_eq]); (try rfl)
@[simp] theorem w_fnS {np n} : owp (fnS np n f l M) Q E = (l.length = np ∧ swp (f (l.map some ++ List.replicate (n - np) none) M) (kRn Q) Q kFF kFF (kE1 E)) := by simp only [owp_eq, swp_eq, gwp_eq, wp_fnS]; (try rfl); (try delta kE1); (try delta kFF); (try delta kRn); (try simp only [owp_eq, swp_eq, gwp_eq]); (try rfl)
@[simp] theorem w_sFor {g} {i : IF} : swp (sFor i g f e M) N R B C Es = owp (i e M) (kFo g f e N R B C Es) (kEr Es e) := by simp only [owp_eq, swp_eq, gwp_eq, wp_sFor]; (try rfl); (try delta kEr); (try delta kFo); (try simp only [owp_eq, swp_eq, gwp_eq]); (try rfl)
@[simp] theorem w_iSq : owp (iSq fa e M) Qi E = owp (fa e M) (kIs Qi) E := by simp only [owp_eq, swp_eq, gwp_eq, wp_iSq]; (try rfl); (try delta kIs); (try simp only [owp_eq, swp_eq, gwp_eq]); (try rfl)
@[simp] theorem w_iEn : owp (iEn fa e M) Qi E = owp (fa e M) (kIe Qi) E := by simp only [owp_eq, swp_eq, gwp_eq, wp_iEn]; (try rfl); (try delta kIe); (try simp only [owp_eq, swp_eq, gwp_eq]); (try rfl)
@[simp] theorem w_iZp : owp (iZp fa fb e M) Qi E = owp (fa e M) (kIy fb e Qi E) E := by simp only [owp_eq, swp_eq, gwp_eq, wp_iZp]; (try rfl); (try delta kIy); (try delta kIz); (try simp only [owp_eq, swp_eq, gwp_eq]); (try rfl)
@[simp] theorem w_iR1 : owp (iR1 fa e M) Qi E = owp (fa e M) (kI1 Qi) E := by simp only [owp_eq, swp_eq, gwp_eq, wp_iR1]; (try rfl); (try delta kI1); (try simp only [owp_eq, swp_eq, gwp_eq]); (try rfl)
@[simp] theorem w_iR2 : owp (iR2 fa fb e M) Qi E = owp (fa e M) (kI2 fb e Qi E) E := by simp only [owp_eq, swp_eq, gwp_eq, wp_iR2]; (try rfl); (try delta kI2); (try delta kI3); (try simp only [owp_eq, swp_eq, gwp_eq]); (try rfl)
@[simp] theorem w_eLc {i : IF} {g vs} : owp (eLc i g t fa vs e M) Q E = owp (i e M) (kLc g t fa vs e Q E) E := by simp only [owp_eq, swp_eq, gwp_eq, wp_eLc]; (try rfl); (try delta kLc); (try simp only [owp_eq, swp_eq, gwp_eq]); (try rfl)
@[simp] theorem w_eDc {i : IF} {g vs} : owp (eDc i g t fa fb vs e M) Q E = owp (i e M) (kDc g t fa fb vs e Q E) E := by simp only [owp_eq, swp_eq, gwp_eq, wp_eDc0]; (try rfl); (try delta kDc); (try simp only [owp_eq, swp_eq, gwp_eq]); (try rfl)
@[simp] theorem w_oSome : owp (oSome fa e M) Qo E = owp (fa e M) (kOs Qo) E := by simp only [owp_eq, swp_eq, gwp_eq, wp_oSome]; (try rfl); (try delta kOs); (try simp only [owp_eq, swp_eq, gwp_eq]); (try rfl)
@[simp] theorem w_eSl {l h} : owp (eSl fa l h e M) Q E = owp (fa e M) (kSl l h e Q E) E := by simp only [owp_eq, swp_eq, gwp_eq, wp_eSl]; (try rfl); (try delta kSl); (try delta kSe); (try delta kSd); (try simp only [owp_eq, swp_eq, gwp_eq]); (try rfl)
@[simp] theorem w_eLr1 : owp (eLr1 fa e M) Q E = owp (fa e M) (kR1 Q) E := by simp only [owp_eq, swp_eq, gwp_eq, wp_eLr1]; (try rfl); (try delta kR1); (try simp only [owp_eq, swp_eq, gwp_eq]); (try rfl)
@[simp] theorem w_eIsi {ts} : owp (eIsi ts fa e M) Q E = owp (fa e M) (kTy ts Q) E := by simp only [owp_eq, swp_eq, gwp_eq, wp_eIsi]; (try rfl); (try delta kTy); (try simp only [owp_eq, swp_eq, gwp_eq]); (try rfl)
@[simp] theorem w_eMt {T g} : owp (eMt T g fa af e M) Q E = owp (fa e M) (kMt T g af e Q E) E := by simp only [owp_eq, swp_eq, gwp_eq, wp_eMt]; (try rfl); (try delta kMt); (try delta kMb); (try simp only [owp_eq, swp_eq, gwp_eq]); (try rfl)
end
end Kt
/-! specs, shut, and their use -/
structure Oq (o : Out Val) (Q : Val → Mem → Prop) : Prop where
  h : owp o Q noE
theorem owp_imp {α : Type} {o : Out α} {Q Q' : α → Mem → Prop} {E E' : Ex → Mem → Prop} (h : owp o Q E) (hq : ∀ a M, Q a M → Q' a M) (he : ∀ x M, E x M → E' x M) : owp o Q' E' := by
  rw [owp_eq] at *; exact Out.wp_mono h hq he
theorem Oq.use {o : Out Val} {Q Q' : Val → Mem → Prop} {E' : Ex → Mem → Prop} (h : Oq o Q) (hq : ∀ a M, Q a M → Q' a M) : owp o Q' E' := owp_imp h.h hq fun _ _ z => z.elim
theorem Oq.imp {o : Out Val} {Q Q' : Val → Mem → Prop} (h : Oq o Q) (hq : ∀ a M, Q a M → Q' a M) : Oq o Q' := ⟨h.use hq⟩
theorem Oq.ofW {o : Out Val} {Q : Val → Mem → Prop} (h : o.wp Q noE) : Oq o Q := ⟨by rw [owp_eq]; exact h⟩
theorem Oq.toW {o : Out Val} {Q : Val → Mem → Prop} (h : Oq o Q) : o.wp Q noE := by rw [← owp_eq]; exact h.h
theorem Oq.get {o : Out Val} {Q : Val → Mem → Prop} (h : Oq o Q) : ∃ a M, o = .ok a M ∧ Q a M := Out.wp_ok h.toW
theorem swp_imp {o : SO} {N N' : Sl → Mem → Prop} {R R' : Val → Mem → Prop} {B B' C C' : Sl → Mem → Prop} {E E' : Ex → Sl → Mem → Prop} (h : swp o N R B C E) (h1 : ∀ e M, N e M → N' e M) (h2 : ∀ x M, R x M → R' x M) (h3 : ∀ e M, B e M → B' e M) (h4 : ∀ e M, C e M → C' e M)
    (h5 : ∀ x e M, E x e M → E' x e M) : swp o N' R' B' C' E' := by
  rw [swp_eq] at *; exact SO.wp_mono h h1 h2 h3 h4 h5
section
variable {N B C : Sl → Mem → Prop} {R : Val → Mem → Prop} {Es : Ex → Sl → Mem → Prop} {E : Ex → Mem → Prop} {Qv : Val → Mem → Prop} {nxt : Nat → Mem → Option (Option Val)} {g : GF} {body : SF} {e : Sl} {M : Mem}
/-! loops -/
theorem o_forG (l : List Val) (I : Nat → Sl → Mem → Prop) (hn : ∀ i e M, I i e M → nxt i M = some l[i]?)
    (hs : ∀ i x e M, l[i]? = some x → I i e M → gwp (g x e M) (fun e1 M1 => swp (body e1 M1) (I (i + 1)) R N (I (i + 1)) Es) Es) (hd : ∀ e M, I l.length e M → N e M)
    (m : Nat) (h1 : l.length < m) (hI : I 0 e M) : swp (forG nxt g body m 0 e M) N R B C Es := by
  rw [swp_eq]
  simp only [gwp_eq, swp_eq] at hs
  exact wp_forG l I hn hs hd m 0 e M (by omega) (Nat.zero_le _) hI
theorem o_while {n : Nat} {t : TF} (I : Sl → Mem → Prop) (μ : Sl → Mem → Nat) (h0 : I e M) (hm : μ e M < n)
    (hs : ∀ e M, I e M → owp (t e M) (fun b M1 => if b = true then swp (body e M1) (fun e2 M2 => I e2 M2 ∧ μ e2 M2 < μ e M) R N (fun e2 M2 => I e2 M2 ∧ μ e2 M2 < μ e M) Es else N e M1) (fun x M => Es x e M)) : swp (sWhile n t body e M) N R B C Es := by
  rw [swp_eq]
  simp only [owp_eq, swp_eq] at hs
  exact wp_while I μ h0 hm hs
theorem o_for_tup {l : List Val} (I : Nat → Sl → Mem → Prop) (h0 : I 0 e M)
    (hs : ∀ i x e M, l[i]? = some x → I i e M → gwp (g x e M) (fun e1 M1 => swp (body e1 M1) (I (i + 1)) R N (I (i + 1)) Es) Es) (hd : ∀ e M, I l.length e M → N e M) : swp (forG (itTup l).nxt g body (itTup l).fuel 0 e M) N R B C Es := by
  rw [swp_eq]; simp only [gwp_eq, swp_eq] at hs; exact wp_for_tup I h0 hs hd
theorem o_for_lst {n b : Nat} {l : List Val} (I : Nat → Sl → Mem → Prop) (hb : l.length ≤ b) (hl : ∀ i e M, I i e M → getL M n = some l) (h0 : I 0 e M)
    (hs : ∀ i x e M, l[i]? = some x → I i e M → gwp (g x e M) (fun e1 M1 => swp (body e1 M1) (I (i + 1)) R N (I (i + 1)) Es) Es) (hd : ∀ e M, I l.length e M → N e M) : swp (forG (itLst n b).nxt g body (itLst n b).fuel 0 e M) N R B C Es := by
  rw [swp_eq]; simp only [gwp_eq, swp_eq] at hs; exact wp_for_lst I hb hl h0 hs hd
theorem o_for_rng {lo : Int} {n : Nat} (I : Nat → Sl → Mem → Prop) (h0 : I 0 e M)
    (hs : ∀ i e M, i < n → I i e M → gwp (g (.int (lo + i)) e M) (fun e1 M1 => swp (body e1 M1) (I (i + 1)) R N (I (i + 1)) Es) Es) (hd : ∀ e M, I n e M → N e M) : swp (forG (itRng lo n).nxt g body (itRng lo n).fuel 0 e M) N R B C Es := by
  rw [swp_eq]; simp only [gwp_eq, swp_eq] at hs; exact wp_for_rng I h0 hs hd
theorem o_for_frz {l : List Int} (I : Nat → Sl → Mem → Prop) (h0 : I 0 e M)
    (hs : ∀ i x e M, l[i]? = some x → I i e M → gwp (g (.int x) e M) (fun e1 M1 => swp (body e1 M1) (I (i + 1)) R N (I (i + 1)) Es) Es) (hd : ∀ e M, I l.length e M → N e M) : swp (forG (itFrz l).nxt g body (itFrz l).fuel 0 e M) N R B C Es := by
  rw [swp_eq]; simp only [gwp_eq, swp_eq] at hs; exact wp_for_frz I h0 hs hd
theorem o_for_enumT {l : List Val} (I : Nat → Sl → Mem → Prop) (h0 : I 0 e M)
    (hs : ∀ i x e M, l[i]? = some x → I i e M → gwp (g (.tup [.int (i : Nat), x]) e M) (fun e1 M1 => swp (body e1 M1) (I (i + 1)) R N (I (i + 1)) Es) Es) (hd : ∀ e M, I l.length e M → N e M) : swp (forG (itNum (itTup l)).nxt g body (itNum (itTup l)).fuel 0 e M) N R B C Es := by
  rw [swp_eq]; simp only [gwp_eq, swp_eq] at hs; exact wp_for_enumT I h0 hs hd
theorem o_for_enumL {n b : Nat} {l : List Val} (I : Nat → Sl → Mem → Prop) (hb : l.length ≤ b) (hl : ∀ i e M, I i e M → getL M n = some l) (h0 : I 0 e M)
    (hs : ∀ i x e M, l[i]? = some x → I i e M → gwp (g (.tup [.int (i : Nat), x]) e M) (fun e1 M1 => swp (body e1 M1) (I (i + 1)) R N (I (i + 1)) Es) Es) (hd : ∀ e M, I l.length e M → N e M) : swp (forG (itNum (itLst n b)).nxt g body (itNum (itLst n b)).fuel 0 e M) N R B C Es := by
  rw [swp_eq]; simp only [gwp_eq, swp_eq] at hs; exact wp_for_enumL I hb hl h0 hs hd
theorem o_for_zipT {l m : List Val} (hlm : l.length = m.length) (I : Nat → Sl → Mem → Prop) (h0 : I 0 e M)
    (hs : ∀ i x y e M, l[i]? = some x → m[i]? = some y → I i e M → gwp (g (.tup [x, y]) e M) (fun e1 M1 => swp (body e1 M1) (I (i + 1)) R N (I (i + 1)) Es) Es) (hd : ∀ e M, I l.length e M → N e M) : swp (forG (itZ (itTup l) (itTup m)).nxt g body (itZ (itTup l) (itTup m)).fuel 0 e M) N R B C Es := by
  rw [swp_eq]; simp only [gwp_eq, swp_eq] at hs; exact wp_for_zipT hlm I h0 hs hd
theorem o_lcG {g : Tg} {t : TF} {el : EF} {D : Nat} (l : List Val) (I : Nat → Mem → Prop) (hn : ∀ i M, I i M → nxt i M = some l[i]?)
    (hs : ∀ i x M, l[i]? = some x → I i M → ∃ e1, g.put x e = some e1 ∧ owp (t e1 M) (fun b M1 => if b = true then owp (el e1 M1) (fun y M2 => ∃ acc, getL M2 D = some acc ∧ acc.length < sizeLine ∧ I (i + 1) (M2.set D (.lst (acc ++ [y])))) noE else I (i + 1) M1) noE)
    (hd : ∀ M, I l.length M → Qv (.loc D) M) (m : Nat) (h1 : l.length < m) (hI : I 0 M) : owp (lcG nxt g t el D e m 0 M) Qv E := by
  rw [owp_eq]
  simp only [owp_eq] at hs
  exact wp_lcG l I hn hs hd m 0 M (by omega) (Nat.zero_le _) hI
/-- one whose elements and tests are functions of the item -/
theorem o_lc_fun {g : Tg} {t : TF} {el : EF} {M1 : Mem} {b : Nat} (l : List Val) (p : Val → Bool) (f : Val → Val) (hb : l.length ≤ b) (hz : l.length ≤ sizeLine) (hn : ∀ (i : Nat) M, M1 <+: M → nxt i M = some l[i]?)
    (hs : ∀ (i : Nat) x M, l[i]? = some x → M1 <+: M → ∃ e1, g.put x e = some e1 ∧ owp (t e1 M) (fun b M' => b = p x ∧ M <+: M' ∧ (p x = true → owp (el e1 M') (fun y M'' => y = f x ∧ M' <+: M'') noE)) noE)
    (hd : ∀ M, M1 <+: M → getL M M1.length = some ((l.filter p).map f) → Qv (.loc M1.length) M) : owp (lcG nxt g t el M1.length e (b + 1) 0 (M1 ++ [.lst []])) Qv E := by
  rw [owp_eq]; simp only [owp_eq] at hs; exact wp_lc_fun l p f hb hz hn hs hd
theorem wp_dcG0 {g : Tg} {t : TF} {ek ev : EF} {D : Nat} (l : List Val) (I : Nat → Mem → Prop) (hn : ∀ i M, I i M → nxt i M = some l[i]?)
    (hs : ∀ i x M, l[i]? = some x → I i M → ∃ e1, g.put x e = some e1 ∧ (t e1 M).wp (fun b M1 => if b = true then (ek e1 M1).wp (fun y M2 => (ev e1 M2).wp (fun z M3 => ∃ k kvs, keyOf y = some k ∧ M3[D]? = some (.dK kvs) ∧ kvs.length < sizeLine ∧ I (i + 1) (M3.set D (.dK (putV kvs k z)))) noE) noE else I (i + 1) M1) noE)
    (hd : ∀ M, I l.length M → Qv (.loc D) M) : ∀ (m i : Nat) (M : Mem), l.length < m + i → i ≤ l.length → I i M → (dcG nxt g t ek ev D e m i M).wp Qv E
  | 0, i, M, h1, h2, _ => absurd h1 (by omega)
  | m + 1, i, M, h1, h2, hI => by
    unfold dcG
    rw [hn i M hI]
    cases hx : l[i]? with
    | none =>
      have : l.length ≤ i := List.getElem?_eq_none_iff.mp hx
      have e1 : i = l.length := by omega
      subst e1
      exact hd M hI
    | some x =>
      have hlt : i < l.length := (List.getElem?_eq_some_iff.mp hx).1
      obtain ⟨e1, hp, h⟩ := hs i x M hx hI
      dsimp only
      rw [hp]
      dsimp only
      cases ht : t e1 M with
      | bad => rw [ht] at h; exact h.elim
      | ex _ _ => rw [ht] at h; exact h.elim
      | ok b M1 =>
        rw [ht] at h
        simp only [wp_ok] at h
        dsimp only
        by_cases hb : b = true
        · rw [if_pos hb] at h ⊢
          cases hk : ek e1 M1 with
          | bad => rw [hk] at h; exact h.elim
          | ex _ _ => rw [hk] at h; exact h.elim
          | ok y M2 =>
            rw [hk] at h
            simp only [wp_ok] at h
            dsimp only
            cases hv : ev e1 M2 with
            | bad => rw [hv] at h; exact h.elim
            | ex _ _ => rw [hv] at h; exact h.elim
            | ok z M3 =>
              rw [hv] at h
              simp only [wp_ok] at h
              obtain ⟨k, kvs, h1', h2', h3', h4'⟩ := h
              dsimp only
              rw [h1']
              dsimp only
              rw [h2']
              dsimp only
              rw [if_pos h3']
              exact wp_dcG0 l I hn hs hd m (i + 1) _ (by omega) (by omega) h4'
        · rw [if_neg hb] at h ⊢
          exact wp_dcG0 l I hn hs hd m (i + 1) _ (by omega) (by omega) h
theorem o_dcG {g : Tg} {t : TF} {ek ev : EF} {D : Nat} (l : List Val) (I : Nat → Mem → Prop) (hn : ∀ i M, I i M → nxt i M = some l[i]?)
    (hs : ∀ i x M, l[i]? = some x → I i M → ∃ e1, g.put x e = some e1 ∧ owp (t e1 M) (fun b M1 => if b = true then owp (ek e1 M1) (fun y M2 => owp (ev e1 M2) (fun z M3 => ∃ k kvs, keyOf y = some k ∧ M3[D]? = some (.dK kvs) ∧ kvs.length < sizeLine ∧ I (i + 1) (M3.set D (.dK (putV kvs k z)))) noE) noE else I (i + 1) M1) noE)
    (hd : ∀ M, I l.length M → Qv (.loc D) M) (m : Nat) (h1 : l.length < m) (hI : I 0 M) : owp (dcG nxt g t ek ev D e m 0 M) Qv E := by
  rw [owp_eq]
  simp only [owp_eq] at hs
  exact wp_dcG0 l I hn hs hd m 0 M (by omega) (Nat.zero_le _) hI
@[simp] theorem o_inKV (x y : Val) : owp (inKV x y M) Qv E = ∃ b, inKD x y M = some b ∧ Qv (.bl b) M := by rw [owp_eq]; unfold inKV; cases inKD x y M <;> simp
@[simp] theorem o_notInKV (x y : Val) : owp (notInKV x y M) Qv E = ∃ b, inKD x y M = some b ∧ Qv (.bl (!b)) M := by rw [owp_eq]; unfold notInKV; cases inKD x y M <;> simp
end
end Sm

namespace Lw
open PySem L2 Sm
/-- a row of draws at r -/
structure RowAt (M : Mem) (r : Nat) : Prop where
  ex : ∃ (ns : List Int) (a b c : Int), getL M r = some [.frz ns, .int a, .int b, .int c] ∧ 0 ≤ a ∧ 0 ≤ b ∧ 0 ≤ c
theorem emod_b {x k : Int} (hk : 0 < k) : 0 ≤ x % k ∧ x % k < k := ⟨Int.emod_nonneg _ (by omega), Int.emod_lt_of_pos _ hk⟩
theorem RowAt.mk' {M : Mem} {r : Nat} {l0 : List Val} {ns : List Int} {a b c : Int} (h : getL M r = some l0) (ha : 0 ≤ a) (hb : 0 ≤ b) (hc : 0 ≤ c) : RowAt (M.set r (.lst [.frz ns, .int a, .int b, .int c])) r := ⟨ns, a, b, c, getL_set h, ha, hb, hc⟩
theorem RowAt.kp {M M' : Mem} {r : Nat} (h : RowAt M r) (p : M <+: M') : RowAt M' r := by
  obtain ⟨ns, a, b, c, h, h1⟩ := h
  exact ⟨ns, a, b, c, getL_pre p h, h1⟩
theorem RowAt.lt {M : Mem} {r : Nat} (h : RowAt M r) : r < M.length := by
  obtain ⟨ns, a, b, c, h, h1⟩ := h
  exact getL_lt h
theorem RowAt.setN {M : Mem} {r n : Nat} {c : Cell} (h : RowAt M r) (hn : n ≠ r) : RowAt (M.set n c) r := by
  obtain ⟨ns, a, b, c, h, h1⟩ := h
  exact ⟨ns, a, b, c, by rw [getL_set_ne (Ne.symm hn)]; exact h, h1⟩
theorem row_spec {M : Mem} {ns : List Int} : (F__law_row [.frz ns] M).wp (fun v M' => v = .loc M.length ∧ RowAt M' M.length ∧ M <+: M') noE := by
  unfold F__law_row
  simp
  refine wp_for_frz (fun _ e M' => M' = M ∧ ∃ z i, e = [some (.frz ns), some (.int z), i] ∧ 0 ≤ z) ⟨rfl, _, _, rfl, by decide⟩ (fun i x e M' hx ⟨h1, z, o, h2, h3⟩ => ?_) (fun e M' ⟨h1, z, o, h2, h3⟩ => ?_)
  · subst h1 h2
    simp
    exact Int.emod_nonneg _ (by omega)
  · subst h1 h2
    simp
    exact ⟨ns, 0, 0, z, getL_append_new _ _, by omega, by omega, h3⟩
theorem taken_spec {M : Mem} {r : Nat} {k : Int} (h : RowAt M r) (hk : 0 < k) (hk2 : k < 10000) :
    (F__law_taken [.loc r, .int k] M).wp (fun v M' => ∃ i, v = .int i ∧ 0 ≤ i ∧ i < k ∧ RowAt M' r ∧ Kp r M M' ∧ M'.length = M.length) noE := by
  obtain ⟨ns, a, b, c, h, ha, hb, hc⟩ := h
  unfold F__law_taken
  by_cases hb0 : 0 < b
  · simp [h, hb0, hk, show k < 1073741824 by omega, ixN, emod_b hk, Kp.set]
    exact .mk' h ha (Int.ediv_nonneg hb (by omega)) hc
  · by_cases ha0 : a < ns.length
    · simp [h, hb0, hk, ha0, show k < 1073741824 by omega, ixN, emod_b hk, Kp.set, atI_of ha ha0, getL_set h]
      by_cases hx : (1000000000000000000 : Int) ≤ ns[a.toNat]'(by omega)
      · simp [hx, hk, show k < 1073741824 by omega, ixN, emod_b hk, Kp.set, getL_set h]
        exact .inr (RowAt.mk' h (by omega) (Int.ediv_nonneg (by omega) (by omega)) hc)
      · simp [hx, hk, show k < 1073741824 by omega, ixN, emod_b hk, Kp.set, getL_set h]
        exact ⟨by omega, RowAt.mk' h (by omega) hb hc⟩
    · simp [h, hb0, hk, ha0, show k < 1073741824 by omega, ixN, emod_b hk, Kp.set, getL_set h]
      exact .mk' h ha hb (Int.emod_nonneg _ (by omega))
/-- what is wanted behind a draw -/
theorem taken_k {M : Mem} {r : Nat} {k : Int} {Q : Val → Mem → Prop} {E : Ex → Mem → Prop} (h : RowAt M r) (hk : 0 < k) (hk2 : k < 10000)
    (hq : ∀ i M', 0 ≤ i → i < k → RowAt M' r → Kp r M M' → M'.length = M.length → Q (.int i) M') : (F__law_taken [.loc r, .int k] M).wp Q E :=
  Out.wp_imp (taken_spec h hk hk2) fun v M' ⟨i, e, h1, h2, h3, h4, h5⟩ => by subst e; exact hq i M' h1 h2 h3 h4 h5
structure Street where
  f : Int
  s : Int
  l : Int
  o : Int
def encS (t : Street) : Val := .tup [.int t.f, .int t.s, .int t.l, .int t.o]
structure StreetOk (n : Int) (t : Street) : Prop where
  f0 : 0 ≤ t.f
  f1 : t.f < n
  s0 : 0 ≤ t.s
  s1 : t.s < n
  ne : t.f ≠ t.s
  l0 : 1 ≤ t.l
  l1 : t.l ≤ 99
  o : t.o = 0 ∨ t.o = 1
def encT (n : Int) (ss : List Street) : Val := .tup [.int n, .tup (ss.map encS)]
structure TownOk (n : Int) (ss : List Street) : Prop where
  n0 : 1 ≤ n
  n1 : n ≤ 9
  len : ss.length ≤ 16
  all : ∀ t ∈ ss, StreetOk n t
theorem street_spec {M : Mem} {r : Nat} {n kind : Int} (h : RowAt M r) (hn : 2 ≤ n) (hn2 : n ≤ 9) (hk : 0 ≤ kind) (hk2 : kind ≤ 2) :
    (F__law_street [.loc r, .int n, .int kind] M).wp (fun v M' => ∃ t, v = encS t ∧ StreetOk n t ∧ (kind ≤ 1 → t.o = kind) ∧ RowAt M' r ∧ Kp r M M') noE := by
  unfold F__law_street
  simp [-wp_eIf]
  refine taken_k h (by omega) (by omega) fun f M1 f0 f1 r1 k1 l1 => ?_
  simp [-wp_eIf]
  refine taken_k r1 (by omega) (by omega) fun g M2 g0 g1 r2 k2 l2 => ?_
  simp [-wp_eIf]
  refine ⟨by omega, ?_⟩
  have hs : 0 ≤ (f + 1 + g) % n ∧ (f + 1 + g) % n < n := emod_b (by omega)
  have hne : f ≠ (f + 1 + g) % n := by
    by_cases hw : f + 1 + g < n
    · rw [Int.emod_eq_of_lt (by omega) hw]; omega
    · have e : f + 1 + g = (f + 1 + g - n) + n * 1 := by omega
      rw [e, Int.add_mul_emod_self_left, Int.emod_eq_of_lt (by omega) (by omega)]; omega
  refine Out.wp_mono (Q := fun v M3 => ∃ o, v = .int o ∧ (o = 0 ∨ o = 1) ∧ (kind ≤ 1 → o = kind) ∧ RowAt M3 r ∧ Kp r M M3) (E := noE) ?_ (fun v M3 ⟨o, ev, ho, hok, r3, k3⟩ => ?_) fun _ _ z => z.elim
  · by_cases hk3 : kind = 2
    · subst hk3
      simp
      exact taken_k r2 (by omega) (by omega) fun o M3 o0 o1 r3 k3 l3 => ⟨o, rfl, by omega, r3, k1.trans (k2.trans k3)⟩
    · simp [hk3]
      exact ⟨by omega, r2, k1.trans k2⟩
  · subst ev
    have hne3 : M3.length ≠ r := Nat.ne_of_gt r3.lt
    refine taken_k (r3.kp (List.prefix_append _ _)) (by omega) (by omega) fun i M4 i0 i1 r4 k4 l4 => ?_
    have hg : getL M4 M3.length = some [.int 3, .int 9, .int 99] := k4.getL (getL_append_new _ _) hne3
    have hw : ∃ w : Int, atI [Val.int 3, .int 9, .int 99] i = some (.int w) ∧ 3 ≤ w ∧ w ≤ 99 := by
      have : i = 0 ∨ i = 1 ∨ i = 2 := by omega
      rcases this with rfl | rfl | rfl
      · exact ⟨3, rfl, by omega, by omega⟩
      · exact ⟨9, rfl, by omega, by omega⟩
      · exact ⟨99, rfl, by omega, by omega⟩
    obtain ⟨w, hw, w0, w1⟩ := hw
    simp [hg, hw]
    refine taken_k r4 (by omega) (by omega) fun j M5 j0 j1 r5 k5 l5 => ?_
    simp
    exact ⟨⟨f, (f + 1 + g) % n, 1 + j, o⟩, rfl, ⟨f0, f1, hs.1, hs.2, hne, by show 1 ≤ 1 + j; omega, by show 1 + j ≤ 99; omega, ho⟩, hok, r5, (k3.trans (Kp.pre (List.prefix_append _ _))).trans (k4.trans k5)⟩
theorem town_spec {M : Mem} {r : Nat} {cs sn kind : Int} (h : RowAt M r) (hc : 1 ≤ cs) (hc2 : cs ≤ 9) (hs : 0 ≤ sn) (hs2 : sn ≤ 16) (hk : 0 ≤ kind) (hk2 : kind ≤ 2) :
    (F__law_town [.loc r, .int cs, .int sn, .int kind] M).wp (fun v M' => ∃ n ss, v = encT n ss ∧ TownOk n ss ∧ n ≤ cs ∧ ss.length ≤ sn ∧ (kind ≤ 1 → ∀ t ∈ ss, t.o = kind) ∧ RowAt M' r ∧ Kp r M M') noE := by
  unfold F__law_town
  simp
  refine taken_k h (by omega) (by omega) fun m M1 m0 m1 r1 k1 l1 => ?_
  by_cases hm : m = 0
  · subst hm
    simp
    exact ⟨1, [], rfl, ⟨by omega, by omega, by simp, by simp⟩, by omega, by simpa using hs, by simp, r1, k1⟩
  · simp [show ¬ (1 + m = 1) by omega]
    refine taken_k r1 (by omega) (by omega) fun j M2 j0 j1 r2 k2 l2 => ?_
    simp
    refine ⟨by omega, ?_⟩
    have hne2 : M2.length ≠ r := Nat.ne_of_gt r2.lt
    refine wp_lcG (rngL 0 j.toNat) (fun i M' => RowAt M' r ∧ Kp r M M' ∧ ∃ ss : List Street, getL M' M2.length = some (ss.map encS) ∧ ss.length = i ∧ (∀ t ∈ ss, StreetOk (1 + m) t ∧ (kind ≤ 1 → t.o = kind))) (fun i M' _ => by rw [rngL_get]; rfl) (fun i x M' hx ⟨ra, ka, ss, ga, la, pa⟩ => ?_) (fun M' ⟨ra, ka, ss, ga, la, pa⟩ => ?_) _ 0 _ (by simp [itRng]) (Nat.zero_le _) ⟨r2.kp (List.prefix_append _ _), (k1.trans k2).app _, [], by simpa using getL_append_new M2 [], rfl, by simp⟩
    · rw [rngL_get] at hx
      split at hx
      · rename_i hi
        cases hx
        refine ⟨_, rfl, ?_⟩
        simp
        refine Out.wp_imp (street_spec (n := 1 + m) ra (by omega) (by omega) hk hk2) fun v M3 ⟨t, ev, to, tk, r3, k3⟩ => ?_
        subst ev
        have g3 := k3.getL ga hne2
        refine ⟨ss.map encS, g3, by simp; omega, r3.setN hne2, ?_, ss ++ [t], by rw [getL_set g3]; simp, by simp [la], fun u hu => ?_⟩
        · exact (ka.trans k3).setN (by have := k1.len; have := k2.len; omega)
        · rcases List.mem_append.mp hu with hu | hu
          · exact pa u hu
          · have : u = t := by simpa using hu
            subst this
            exact ⟨to, tk⟩
      · cases hx
    · simp [ga]
      refine ⟨1 + m, ss, rfl, ⟨by omega, by omega, ?_, fun t ht => (pa t ht).1⟩, by omega, ?_, fun hk1 t ht => (pa t ht).2 hk1, ra, ka⟩
      · simp at la; omega
      · simp at la; omega

/-! ways between corners -/
structure Arc where
  f : Nat
  s : Nat
  l : Int
/-- a walk: its arcs, one behind the other -/
def Chain : List Arc → Nat → Nat → Prop
  | [], i, j => i = j
  | a :: p, i, j => a.f = i ∧ Chain p a.s j
def plen : List Arc → Int
  | [] => 0
  | a :: p => a.l + plen p
def Wk (A : List Arc) (i j : Nat) (L : Int) : Prop := ∃ p : List Arc, (∀ a ∈ p, a ∈ A) ∧ Chain p i j ∧ plen p = L
theorem Chain.append : ∀ {p q : List Arc} {i j k : Nat}, Chain p i j → Chain q j k → Chain (p ++ q) i k
  | [], _, _, _, _, h, k => by cases (show _ = _ from h); exact k
  | a :: p, _, _, _, _, ⟨h1, h2⟩, k => ⟨h1, Chain.append h2 k⟩
theorem Chain.split : ∀ {p q : List Arc} {i k : Nat}, Chain (p ++ q) i k → ∃ j, Chain p i j ∧ Chain q j k
  | [], _, i, _, h => ⟨i, rfl, h⟩
  | a :: p, _, _, _, ⟨h1, h2⟩ => by
    obtain ⟨j, k1, k2⟩ := Chain.split h2
    exact ⟨j, ⟨h1, k1⟩, k2⟩
theorem plen_append : ∀ p q : List Arc, plen (p ++ q) = plen p + plen q
  | [], q => by simp [plen]
  | a :: p, q => by simp [plen, plen_append p q]; omega
theorem plen_nn {p : List Arc} (h : ∀ a ∈ p, 0 ≤ a.l) : 0 ≤ plen p := by
  induction p with
  | nil => exact Int.le_refl 0
  | cons a p ih =>
    have h1 := h a (by simp)
    have h2 := ih fun b hb => h b (by simp [hb])
    show 0 ≤ a.l + plen p
    omega
theorem Wk.nil {A : List Arc} (i : Nat) : Wk A i i 0 := ⟨[], by simp, rfl, rfl⟩
theorem Wk.one {A : List Arc} {a : Arc} (h : a ∈ A) : Wk A a.f a.s a.l := ⟨[a], by simpa using h, ⟨rfl, rfl⟩, by simp [plen]⟩
theorem Wk.trans {A : List Arc} {i j k : Nat} {L M : Int} : Wk A i j L → Wk A j k M → Wk A i k (L + M)
  | ⟨p, h1, h2, h3⟩, ⟨q, k1, k2, k3⟩ => ⟨p ++ q, fun a ha => (List.mem_append.mp ha).elim (h1 a) (k1 a), h2.append k2, by rw [plen_append, h3, k3]⟩
/-! lengths, none for no way -/
def addO : Option Int → Option Int → Option Int
  | some a, some b => some (a + b)
  | _, _ => none
def leO (a b : Option Int) : Prop := ∀ y, b = some y → ∃ x, a = some x ∧ x ≤ y
def minO : Option Int → Option Int → Option Int
  | none, b => b
  | some a, none => some a
  | some a, some b => if b < a then some b else some a
theorem leO.refl (a : Option Int) : leO a a := fun y h => ⟨y, h, Int.le_refl _⟩
theorem leO.trans {a b c : Option Int} (h : leO a b) (k : leO b c) : leO a c := fun z hz => by
  obtain ⟨y, hy, h1⟩ := k z hz
  obtain ⟨x, hx, h2⟩ := h y hy
  exact ⟨x, hx, Int.le_trans h2 h1⟩
theorem minO_left (a b : Option Int) : leO (minO a b) a := fun y h => by
  subst h
  cases b with
  | none => exact ⟨y, rfl, Int.le_refl _⟩
  | some b => unfold minO; by_cases hb : b < y <;> simp [hb] <;> omega
theorem minO_right (a b : Option Int) : leO (minO a b) b := fun y h => by
  subst h
  cases a with
  | none => exact ⟨y, rfl, Int.le_refl _⟩
  | some a => unfold minO; by_cases hb : y < a <;> simp [hb] <;> omega
theorem minO_or (a b : Option Int) : minO a b = a ∨ minO a b = b := by
  cases a with
  | none => exact .inr rfl
  | some a => cases b with
    | none => exact .inl rfl
    | some b => unfold minO; by_cases hb : b < a <;> simp [hb]
theorem addO_mono {a b c d : Option Int} (h : leO a b) (k : leO c d) : leO (addO a c) (addO b d) := fun y hy => by
  cases b with
  | none => cases hy
  | some b => cases d with
    | none => cases hy
    | some d =>
      cases hy
      obtain ⟨x, hx, h1⟩ := h b rfl
      obtain ⟨z, hz, h2⟩ := k d rfl
      subst hx hz
      exact ⟨x + z, rfl, by omega⟩
abbrev Tb := Nat → Nat → Option Int
/-- the table tells the least lengths -/
def IsDist (A : List Arc) (n : Nat) (T : Tb) : Prop := ∀ i j, i < n → j < n → (∀ x, T i j = some x → Wk A i j x) ∧ ∀ L, Wk A i j L → leO (T i j) (some L)
theorem IsDist.uniq {A : List Arc} {n : Nat} {T U : Tb} (h : IsDist A n T) (k : IsDist A n U) (i j : Nat) (hi : i < n) (hj : j < n) : T i j = U i j := by
  obtain ⟨h1, h2⟩ := h i j hi hj
  obtain ⟨k1, k2⟩ := k i j hi hj
  cases hT : T i j with
  | none =>
    cases hU : U i j with
    | none => rfl
    | some y =>
      obtain ⟨x, hx, _⟩ := h2 y (k1 y hU) y rfl
      rw [hT] at hx; cases hx
  | some x =>
    obtain ⟨y, hy, hle⟩ := k2 x (h1 x hT) x rfl
    rw [hy]
    obtain ⟨x', hx', hle'⟩ := h2 y (k1 y hy) y rfl
    rw [hT] at hx'
    cases hx'
    exact congrArg some (Int.le_antisymm hle' hle)
structure ArcsOk (A : List Arc) (n : Nat) : Prop where
  f : ∀ a ∈ A, a.f < n
  s : ∀ a ∈ A, a.s < n
  l : ∀ a ∈ A, 1 ≤ a.l
  ne : ∀ a ∈ A, a.f ≠ a.s
/-! the table by corners in between -/
/-- what holds when the corners below m have been gone through -/
structure FwI (A : List Arc) (n m : Nat) (T : Tb) : Prop where
  dg : ∀ i, i < n → T i i = some 0
  sd : ∀ i j x, i < n → j < n → T i j = some x → Wk A i j x
  nn : ∀ i j x, i < n → j < n → T i j = some x → 0 ≤ x
  ar : ∀ a ∈ A, leO (T a.f a.s) (some a.l)
  tr : ∀ k, k < m → ∀ i j, i < n → j < n → leO (T i j) (addO (T i k) (T k j))
def fwT (m : Nat) (T : Tb) : Tb := fun i j => minO (T i j) (addO (T i m) (T m j))
theorem leO_nn {a b c : Option Int} (hb : ∀ x, b = some x → 0 ≤ x) (h : leO c a) : leO c (addO a b) := fun y hy => by
  cases a with
  | none => cases hy
  | some a => cases b with
    | none => cases hy
    | some b =>
      cases hy
      obtain ⟨x, hx, h1⟩ := h a rfl
      exact ⟨x, hx, by have := hb b rfl; omega⟩
theorem addO_assoc (a b c : Option Int) : addO (addO a b) c = addO a (addO b c) := by
  cases a <;> cases b <;> cases c <;> simp [addO]; omega
theorem addO_comm (a b : Option Int) : addO a b = addO b a := by
  cases a <;> cases b <;> simp [addO]; omega
theorem fw_row {A : List Arc} {n m : Nat} {T : Tb} (I : FwI A n m T) (hm : m < n) {j : Nat} (hj : j < n) : fwT m T m j = T m j := by
  unfold fwT
  rw [I.dg m hm]
  cases T m j with
  | none => rfl
  | some x => simp [addO, minO]
theorem fw_col {A : List Arc} {n m : Nat} {T : Tb} (I : FwI A n m T) (hm : m < n) {i : Nat} (hi : i < n) : fwT m T i m = T i m := by
  unfold fwT
  rw [I.dg m hm]
  cases T i m with
  | none => rfl
  | some x => simp [addO, minO]
theorem FwI.next {A : List Arc} {n m : Nat} {T : Tb} (I : FwI A n m T) (ok : ArcsOk A n) (hm : m < n) : FwI A n (m + 1) (fwT m T) where
  dg := fun i hi => by
    unfold fwT
    rw [I.dg i hi]
    cases h1 : T i m with
    | none => rfl
    | some x => cases h2 : T m i with
      | none => rfl
      | some y =>
        have := I.nn i m x hi hm h1
        have := I.nn m i y hm hi h2
        simp [addO, minO]; omega
  sd := fun i j x hi hj h => by
    unfold fwT at h
    rcases minO_or (T i j) (addO (T i m) (T m j)) with e | e
    · rw [e] at h; exact I.sd i j x hi hj h
    · rw [e] at h
      cases h1 : T i m with
      | none => rw [h1] at h; cases h
      | some y => cases h2 : T m j with
        | none => rw [h1, h2] at h; cases h
        | some z => rw [h1, h2] at h; cases h; exact (I.sd i m y hi hm h1).trans (I.sd m j z hm hj h2)
  nn := fun i j x hi hj h => by
    unfold fwT at h
    rcases minO_or (T i j) (addO (T i m) (T m j)) with e | e
    · rw [e] at h; exact I.nn i j x hi hj h
    · rw [e] at h
      cases h1 : T i m with
      | none => rw [h1] at h; cases h
      | some y => cases h2 : T m j with
        | none => rw [h1, h2] at h; cases h
        | some z =>
          rw [h1, h2] at h; cases h
          have := I.nn i m y hi hm h1
          have := I.nn m j z hm hj h2
          omega
  ar := fun a ha => (minO_left _ _).trans (I.ar a ha)
  tr := fun k hk i j hi hj => by
    have hnn : ∀ i j, i < n → j < n → ∀ x, T i j = some x → 0 ≤ x := fun i j hi hj x h => I.nn i j x hi hj h
    by_cases e : k = m
    · subst e
      rw [fw_col I hm hi, fw_row I hm hj]
      exact minO_right _ _
    · have hk' : k < m := by omega
      have hkn : k < n := by omega
      have old := I.tr k hk'
      rcases minO_or (T i k) (addO (T i m) (T m k)) with e1 | e1 <;> rcases minO_or (T k j) (addO (T k m) (T m j)) with e2 | e2 <;> (show leO (minO _ _) (addO (minO _ _) (minO _ _))) <;> rw [e1, e2]
      · exact (minO_left _ _).trans (old i j hi hj)
      · rw [← addO_assoc]
        exact (minO_right _ _).trans (addO_mono (old i m hi hm) (leO.refl _))
      · rw [addO_assoc]
        exact (minO_right _ _).trans (addO_mono (leO.refl _) (old m j hm hj))
      · rw [addO_assoc, ← addO_assoc (T m k), addO_comm (addO (T m k) (T k m)), ← addO_assoc]
        refine leO_nn (fun x hx => ?_) (minO_right _ _)
        cases h1 : T m k with
        | none => rw [h1] at hx; cases hx
        | some y => cases h2 : T k m with
          | none => rw [h1, h2] at hx; cases hx
          | some z =>
            rw [h1, h2] at hx; cases hx
            have := hnn m k hm hkn y h1
            have := hnn k m hkn hm z h2
            omega
theorem FwI.dist {A : List Arc} {n : Nat} {T : Tb} (I : FwI A n n T) (ok : ArcsOk A n) : IsDist A n T := fun i j hi hj => by
  refine ⟨fun x h => I.sd i j x hi hj h, ?_⟩
  rintro L ⟨p, h1, h2, rfl⟩
  induction p generalizing i with
  | nil =>
    have e : i = j := h2
    subst e
    rw [I.dg _ hi]
    exact leO.refl _
  | cons a p ih =>
    obtain ⟨e, h2⟩ := h2
    subst e
    have ha := h1 a (by simp)
    have hs := ok.s a ha
    refine (I.tr a.s hs a.f j hi hj).trans ?_
    exact addO_mono (c := T a.s j) (d := some (plen p)) (I.ar a ha) (ih a.s hs (fun b hb => h1 b (by simp [hb])) h2)
/-! the table by going on -/
theorem nodup_len : ∀ (n : Nat) (l : List Nat), l.Nodup → (∀ x ∈ l, x < n) → l.length ≤ n
  | 0, l, _, h => by
    cases l with
    | nil => exact Nat.le_refl _
    | cons x l => exact absurd (h x (by simp)) (by omega)
  | n + 1, l, hn, h => by
    have h1 := nodup_len n (l.erase n) (hn.erase n) fun x hx => by
      have h2 : x ≠ n ∧ x ∈ l := (hn.mem_erase_iff).mp hx
      have := h x h2.2
      omega
    have h2 : l.length ≤ (l.erase n).length + 1 := by
      rw [List.length_erase]
      split <;> omega
    omega
theorem dup_split : ∀ p : List Arc, ¬ (p.map (·.f)).Nodup → ∃ A a B b C, p = A ++ a :: (B ++ b :: C) ∧ a.f = b.f
  | [], h => absurd (by simp) h
  | a :: p, h => by
    by_cases hm : a.f ∈ p.map (·.f)
    · obtain ⟨b, hb, e⟩ := List.mem_map.mp hm
      obtain ⟨B, C, e2⟩ := List.append_of_mem hb
      exact ⟨[], a, B, b, C, by rw [e2]; rfl, e.symm⟩
    · have : ¬ (p.map (·.f)).Nodup := fun k => h (by rw [List.map_cons, List.nodup_cons]; exact ⟨hm, k⟩)
      obtain ⟨A, x, B, b, C, e, e2⟩ := dup_split p this
      exact ⟨a :: A, x, B, b, C, by rw [e]; rfl, e2⟩
/-- a walk of few arcs that is no longer -/
theorem short_walk {A : List Arc} {n : Nat} (ok : ArcsOk A n) : ∀ (m : Nat) (p : List Arc) (i j : Nat), p.length ≤ m → (∀ a ∈ p, a ∈ A) → Chain p i j → ∃ q : List Arc, q.length ≤ n ∧ (∀ a ∈ q, a ∈ A) ∧ Chain q i j ∧ plen q ≤ plen p
  | 0, p, i, j, hl, h1, h2 => ⟨p, by omega, h1, h2, Int.le_refl _⟩
  | m + 1, p, i, j, hl, h1, h2 => by
    by_cases hn : p.length ≤ n
    · exact ⟨p, hn, h1, h2, Int.le_refl _⟩
    · have hd : ¬ (p.map (·.f)).Nodup := fun k => by
        have := nodup_len n _ k fun x hx => by
          obtain ⟨a, ha, e⟩ := List.mem_map.mp hx
          rw [← e]; exact ok.f a (h1 a ha)
        simp at this
        omega
      obtain ⟨P, a, B, b, C, e, e2⟩ := dup_split p hd
      subst e
      obtain ⟨k, c1, c2⟩ := h2.split
      obtain ⟨c3, c4⟩ := c2
      have c5 : Chain (a :: B ++ b :: C) k j := ⟨c3, c4⟩
      obtain ⟨k', d1, d2⟩ := Chain.split c4
      obtain ⟨d3, d4⟩ := d2
      have hC : Chain (P ++ b :: C) i j := c1.append ⟨by rw [← e2]; exact c3, d4⟩
      have hlen : (P ++ b :: C).length ≤ m := by simp at hl ⊢; omega
      have hmem : ∀ x ∈ P ++ b :: C, x ∈ A := fun x hx => h1 x (by
        rcases List.mem_append.mp hx with h | h
        · simp [h]
        · rcases List.mem_cons.mp h with h | h <;> simp [h])
      obtain ⟨q, q1, q2, q3, q4⟩ := short_walk ok m _ i j hlen hmem hC
      refine ⟨q, q1, q2, q3, Int.le_trans q4 ?_⟩
      have hB : 0 ≤ plen (a :: B) := plen_nn fun x hx => by
        have := ok.l x (h1 x (by
          rcases List.mem_cons.mp hx with h | h <;> simp [h]))
        omega
      have e3 : P ++ a :: (B ++ b :: C) = P ++ ((a :: B) ++ b :: C) := rfl
      rw [e3, plen_append, plen_append, plen_append]
      omega
/-- what holds when so many turns have been gone, and of one more the arcs B -/
structure BfI (A : List Arc) (n t : Nat) (B : List Arc) (T : Tb) : Prop where
  dg : ∀ i, i < n → leO (T i i) (some 0)
  sd : ∀ i j x, i < n → j < n → T i j = some x → Wk A i j x
  hp : ∀ (p : List Arc) i j, p.length ≤ t → i < n → (∀ a ∈ p, a ∈ A) → Chain p i j → leO (T i j) (some (plen p))
  nw : ∀ (p : List Arc) i b, p.length ≤ t → i < n → (∀ a ∈ p, a ∈ A) → b ∈ B → Chain p i b.f → leO (T i b.s) (some (plen p + b.l))
theorem BfI.turn {A : List Arc} {n t : Nat} {T : Tb} (I : BfI A n t A T) (ok : ArcsOk A n) : BfI A n (t + 1) [] T where
  dg := I.dg
  sd := I.sd
  hp := fun p i j hl hi h1 h2 => by
    by_cases h : p.length ≤ t
    · exact I.hp p i j h hi h1 h2
    · have hne : p ≠ [] := fun e => by subst e; simp at h
      have e := List.dropLast_concat_getLast hne
      have hb : p.getLast hne ∈ A := h1 _ (List.getLast_mem hne)
      rw [← e] at h2
      obtain ⟨k, c1, c2⟩ := h2.split
      obtain ⟨c3, c4⟩ := c2
      cases (show (p.getLast hne).s = j from c4)
      rw [← c3] at c1
      have := I.nw p.dropLast i _ (by simp; omega) hi (fun a ha => h1 a (List.dropLast_subset p ha)) hb c1
      have e4 : plen p = plen p.dropLast + (p.getLast hne).l := by
        conv => lhs; rw [← e, plen_append]
        simp [plen]
      rw [e4]; exact this
  nw := fun p i b _ _ _ hb _ => by simp at hb
theorem BfI.dist {A : List Arc} {n : Nat} {T : Tb} (I : BfI A n n [] T) (ok : ArcsOk A n) : IsDist A n T := fun i j hi hj => by
  refine ⟨fun x h => I.sd i j x hi hj h, ?_⟩
  rintro L ⟨p, h1, h2, rfl⟩
  obtain ⟨q, q1, q2, q3, q4⟩ := short_walk ok p.length p i j (Nat.le_refl _) h1 h2
  exact (I.hp q i j q1 hi q2 q3).trans fun y hy => by cases hy; exact ⟨_, rfl, q4⟩
/-- one arc for all begins below k -/
def bfT (a : Arc) (k : Nat) (T : Tb) : Tb := fun i j => if i < k ∧ j = a.s then minO (T i j) (addO (T i a.f) (some a.l)) else T i j
theorem bfT_le (a : Arc) (k : Nat) (T : Tb) (i j : Nat) : leO (bfT a k T i j) (T i j) := by
  unfold bfT
  split
  · exact minO_left _ _
  · exact leO.refl _
theorem BfI.arc {A B : List Arc} {n t : Nat} {T : Tb} {a : Arc} (I : BfI A n t B T) (ok : ArcsOk A n) (ha : a ∈ A) : BfI A n t (B ++ [a]) (bfT a n T) where
  dg := fun i hi => (bfT_le a n T i i).trans (I.dg i hi)
  sd := fun i j x hi hj h => by
    unfold bfT at h
    split at h
    · rename_i hc
      rcases minO_or (T i j) (addO (T i a.f) (some a.l)) with e | e
      · rw [e] at h; exact I.sd i j x hi hj h
      · rw [e] at h
        cases h1 : T i a.f with
        | none => rw [h1] at h; cases h
        | some y =>
          rw [h1] at h; cases h
          rw [hc.2]
          exact (I.sd i a.f y hi (ok.f a ha) h1).trans (Wk.one ha)
    · exact I.sd i j x hi hj h
  hp := fun p i j hl hi h1 h2 => (bfT_le a n T i j).trans (I.hp p i j hl hi h1 h2)
  nw := fun p i b hl hi h1 hb h2 => by
    rcases List.mem_append.mp hb with hb | hb
    · exact (bfT_le a n T i b.s).trans (I.nw p i b hl hi h1 hb h2)
    · have e : b = a := by simpa using hb
      subst e
      have := I.hp p i b.f hl hi h1 h2
      unfold bfT
      rw [if_pos ⟨hi, rfl⟩]
      exact (minO_right _ _).trans (addO_mono (c := some b.l) (d := some b.l) this (leO.refl _))

@[simp] theorem getL_cons0 (l : List Val) (t : Mem) : getL (.lst l :: t) 0 = some l := rfl
@[simp] theorem getL_consS (c : Cell) (t : Mem) (k : Nat) : getL (c :: t) (k + 1) = getL t k := by simp [getL]
theorem getL_appk (M t : Mem) (k : Nat) : getL (M ++ t) (M.length + k) = getL t k := by
  unfold getL; rw [List.getElem?_append_right (by omega)]; simp
theorem getL_app0 (M t : Mem) : getL (M ++ t) M.length = getL t 0 := getL_appk M t 0
@[simp] theorem getL_snoc (M : Mem) (c : Cell) : getL (M ++ [c]) M.length = getL [c] 0 := getL_app0 M [c]
/-! the arcs of a town -/
abbrev ArcK := Arc × Nat × Int
def valA (x : ArcK) : Val := .tup [.int x.1.f, .int x.1.s, .int x.1.l, .tup [.int x.2.1, .int x.2.2]]
def oneA (k : Nat) (t : Street) : List ArcK := (⟨t.f.toNat, t.s.toNat, t.l⟩, k, 0) :: if t.o = 0 then [(⟨t.s.toNat, t.f.toNat, t.l⟩, k, 1)] else []
def arcsN (ss : List Street) : Nat → List ArcK
  | 0 => []
  | i + 1 => arcsN ss i ++ (match ss[i]? with
    | some t => oneA i t
    | none => [])
def arcsK (ss : List Street) : List ArcK := arcsN ss ss.length
def arcsA (ss : List Street) : List Arc := (arcsK ss).map (·.1)
theorem oneA_len (k : Nat) (t : Street) : (oneA k t).length ≤ 2 := by unfold oneA; split <;> simp
theorem arcsN_len (ss : List Street) : ∀ i, (arcsN ss i).length ≤ 2 * i
  | 0 => Nat.le_refl _
  | i + 1 => by
    have := arcsN_len ss i
    unfold arcsN
    rw [List.length_append]
    cases ss[i]? with
    | none => simp; omega
    | some t => have := oneA_len i t; simp only; omega
theorem arcsN_mem {ss : List Street} : ∀ {i : Nat} {x : ArcK}, x ∈ arcsN ss i → ∃ k t, ss[k]? = some t ∧ x ∈ oneA k t
  | 0, _, h => by cases h
  | i + 1, x, h => by
    unfold arcsN at h
    rcases List.mem_append.mp h with h | h
    · exact arcsN_mem h
    · cases ht : ss[i]? with
      | none => rw [ht] at h; cases h
      | some t => rw [ht] at h; exact ⟨i, t, ht, h⟩
theorem arcs_ok {n : Nat} {ss : List Street} (h : TownOk n ss) : ArcsOk (arcsA ss) n := by
  have key : ∀ a ∈ arcsA ss, a.f < n ∧ a.s < n ∧ 1 ≤ a.l ∧ a.f ≠ a.s := fun a ha => by
    obtain ⟨x, hx, rfl⟩ := List.mem_map.mp ha
    obtain ⟨k, t, ht, hx⟩ := arcsN_mem hx
    have ok := h.all t (List.mem_of_getElem? ht)
    have := ok.f0; have := ok.f1; have := ok.s0; have := ok.s1; have := ok.ne; have := ok.l0
    unfold oneA at hx
    split at hx
    · rcases List.mem_cons.mp hx with e | hx
      · subst e; simp only; omega
      · have e := List.mem_singleton.mp hx
        subst e; simp only; omega
    · have e := List.mem_singleton.mp hx
      subst e; simp only; omega
  exact ⟨fun a ha => (key a ha).1, fun a ha => (key a ha).2.1, fun a ha => (key a ha).2.2.1, fun a ha => (key a ha).2.2.2⟩
@[simp] theorem truV_bl (b : Bool) (M : Mem) : truV (.bl b) M = some b := rfl
theorem need_town_k {M : Mem} {n : Int} {ss : List Street} {Q : Val → Mem → Prop} {E : Ex → Mem → Prop} (h : TownOk n ss) (hq : Q .non M) : (F_need_town [encT n ss] M).wp Q E := by
  have h0 := h.n0; have h1 := h.n1; have hl := h.len
  unfold F_need_town encT
  simp [F_is_number, tyN, isT, h0, h1]
  refine wp_for_enumT (fun _ e M' => M' = M ∧ ∃ x y, e = [some (.tup [.int n, .tup (ss.map encS)]), x, y]) ⟨rfl, _, _, rfl⟩ (fun i x e M' hx ⟨hM, a, b, he⟩ => ?_) (fun e M' ⟨hM, a, b, he⟩ => ?_)
  · subst hM he
    rw [List.getElem?_map] at hx
    cases ht : ss[i]? with
    | none => rw [ht] at hx; cases hx
    | some t =>
      rw [ht] at hx
      cases hx
      have hi : i < ss.length := (List.getElem?_eq_some_iff.mp ht).1
      have ok := h.all t (List.mem_of_getElem? ht)
      have := ok.f0; have := ok.f1; have := ok.s0; have := ok.s1; have := ok.ne; have := ok.l0; have := ok.l1
      have ho : 0 ≤ t.o ∧ t.o ≤ 1 := by have := ok.o; omega
      simp [F_is_street, F_is_number, encS, tyN, isT, ok.f0, ok.s0, ok.ne, ok.l0, ok.l1, ho, show ¬ ((i : Int) = 16) by omega, show t.f ≤ n - 1 by omega, show t.s ≤ n - 1 by omega]
  · subst hM he
    exact hq

/-- held shut, else the conclusion is run -/
structure Wq (o : Out Val) (Q : Val → Mem → Prop) : Prop where
  h : o.wp Q noE
theorem Wq.imp {o : Out Val} {Q Q' : Val → Mem → Prop} {E' : Ex → Mem → Prop} (h : Wq o Q) (hq : ∀ a M, Q a M → Q' a M) : o.wp Q' E' := Out.wp_mono h.h hq fun _ _ z => z.elim
theorem arcsL_spec {M : Mem} {n : Int} {ss : List Street} (h : TownOk n ss) : Wq (F__law_arcs [encT n ss] M) (fun v M' => ∃ d, v = .loc d ∧ M.length ≤ d ∧ getL M' d = some ((arcsK ss).map valA) ∧ M <+: M') := by
  constructor
  have hl := h.len
  unfold F__law_arcs encT
  simp
  refine ⟨by omega, ?_⟩
  refine wp_for_rng (fun i e M' => M <+: M' ∧ ∃ D, M.length ≤ D ∧ getL M' D = some ((arcsN ss i).map valA) ∧ ∃ a b c d f, e = [some (.tup [.int n, .tup (ss.map encS)]), some (.loc D), a, b, c, d, f]) ⟨List.prefix_append _ _, _, Nat.le_refl _, getL_append_new _ _, _, _, _, _, _, rfl⟩ (fun i e M' hi ⟨hp, D, hD, hg, a, b, c, d, f, he⟩ => ?_) (fun e M' ⟨hp, D, hD, hg, a, b, c, d, f, he⟩ => ?_)
  · subst he
    have ht : ss[i]? = some ss[i] := List.getElem?_eq_getElem hi
    generalize ss[i] = t at ht
    have ok := h.all t (List.mem_of_getElem? ht)
    have hz := arcsN_len ss i
    have e1 : ((t.f.toNat : Nat) : Int) = t.f := by have := ok.f0; omega
    have e2 : ((t.s.toNat : Nat) : Int) = t.s := by have := ok.s0; omega
    have hat : atI (ss.map encS) (i : Int) = some (encS t) := atI_nat (by rw [List.getElem?_map, ht]; rfl)
    have hgt : ∀ u, getL (M' ++ u) D = some ((arcsN ss i).map valA) := fun u => getL_pre (List.prefix_append _ _) hg
    have ho : t.o = 0 ∨ t.o = 1 := ok.o
    have hM : M'.length + 2 + 1 = M'.length + 3 := rfl
    simp [hat, encS, hgt, getL_app0, getL_appk, hM]
    refine ⟨by omega, ⟨by omega, by omega, by omega⟩, by rcases ho with e | e <;> rw [e] <;> simp <;> omega, pre_append hp _, by have := pre_len hp; omega, ?_⟩
    rcases ho with e | e <;> rw [e] <;> simp [arcsN, ht, oneA, e, valA, e1, e2]
  · subst he
    simp
    exact ⟨hD, hg, hp⟩

def natV (k : Nat) : Val := .int (k : Int)
theorem inD_nat {M : Mem} {d k : Nat} {L : List Nat} (h : getL M d = some (L.map natV)) : inD (.int (k : Int)) (.loc d) M = some (decide (k ∈ L)) := by
  have hf : (L.map natV).all flat = true := by simp [natV, flat]
  unfold inD
  simp only [h, hf, flat]
  simp
  rw [Bool.eq_iff_iff]
  simp [natV, eqF]
  constructor
  · rintro ⟨x, hx, e⟩
    have : x = k := by omega
    exact this ▸ hx
  · exact fun hk => ⟨k, hk, rfl⟩
theorem inD_natT {M : Mem} {k : Nat} {L : List Nat} : inD (.int (k : Int)) (.tup (L.map natV)) M = some (decide (k ∈ L)) := by
  have hf : (L.map natV).all flat = true := by simp [natV, flat]
  unfold inD
  simp only [hf, flat]
  simp
  rw [Bool.eq_iff_iff]
  simp [natV, eqF]
  constructor
  · rintro ⟨x, hx, e⟩
    have : x = k := by omega
    exact this ▸ hx
  · exact fun hk => ⟨k, hk, rfl⟩
theorem natV_at {L : List Nat} {k x : Nat} (h : L[k]? = some x) : atI (L.map natV) (k : Int) = some (.int (x : Int)) := atI_nat (by rw [List.getElem?_map, h]; rfl)

/-! data of ints -/
def dN (L : List Nat) : List PyData := L.map fun k : Nat => PyData.int (k : Int)
theorem mapM_nat (M : Mem) (k : Nat) : ∀ L : List Nat, (L.map natV).mapM (toD M (k + 1)) = some (dN L)
  | [] => rfl
  | x :: L => by
    rw [List.map_cons, List.mapM_cons, mapM_nat M k L]
    rfl
theorem lay_dN : ∀ L : List Nat, PyData.canLayAll0 (dN L) = true
  | [] => rfl
  | x :: L => by show (true && PyData.canLayAll0 (dN L)) = true; rw [lay_dN L]; rfl
theorem depth_dN : ∀ L : List Nat, PyData.depthAll (dN L) = 0
  | [] => rfl
  | x :: L => by show max 0 (PyData.depthAll (dN L)) = 0; rw [depth_dN L]; rfl
theorem eqv_dN : ∀ L L' : List Nat, PyData.eqvAll (dN L) (dN L') = decide (L = L')
  | [], [] => rfl
  | [], y :: L' => by simp [dN, PyData.eqvAll]
  | x :: L, [] => by simp [dN, PyData.eqvAll]
  | x :: L, y :: L' => by
    show (((x : Int) == (y : Int)) && PyData.eqvAll (dN L) (dN L')) = _
    rw [eqv_dN L L', Bool.eq_iff_iff]
    simp
    omega
theorem shaped_list (L : List Nat) : SeqAt.shaped (.list (dN L)) = true := by
  show (PyData.canLayAll0 (dN L) && decide (PyData.depthAll (dN L) + 1 ≤ 64)) = true
  rw [lay_dN, depth_dN]; rfl
theorem shaped_tuple (L : List Nat) : SeqAt.shaped (.tuple (dN L)) = true := by
  show (PyData.canLayAll0 (dN L) && decide (PyData.depthAll (dN L) + 1 ≤ 64)) = true
  rw [lay_dN, depth_dN]; rfl
theorem eqD_natL {M : Mem} {a b : Nat} {L L' : List Nat} (h : getL M a = some (L.map natV)) (h' : getL M b = some (L'.map natV)) : eqD (.loc a) (.loc b) M = some (decide (L = L')) := by
  have e : ∀ c (K : List Nat), getL M c = some (K.map natV) → toD M 8 (.loc c) = some (.list (dN K)) := fun c K hc => by
    show (match getL M c with
      | some l => (l.mapM (toD M 7)).map PyData.list
      | none => none) = _
    rw [hc]
    show ((K.map natV).mapM (toD M 7)).map PyData.list = _
    rw [mapM_nat]; rfl
  show (match toD M 8 (.loc a), toD M 8 (.loc b) with
    | some d, some e => if SeqAt.shaped d && SeqAt.shaped e then some (PyData.eqv d e) else none
    | _, _ => none) = _
  rw [e a L h, e b L' h']
  show (if (SeqAt.shaped (.list (dN L)) && SeqAt.shaped (.list (dN L'))) = true then some (PyData.eqvAll (dN L) (dN L')) else none) = _
  rw [shaped_list, shaped_list, eqv_dN]; rfl
def valP (l : List Nat) : Val := .tup (l.map natV)
def dP (P : List (List Nat)) : List PyData := P.map fun l => PyData.tuple (dN l)
theorem toD_valP (M : Mem) (k : Nat) (l : List Nat) : toD M (k + 2) (valP l) = some (.tuple (dN l)) := by
  show ((l.map natV).mapM (toD M (k + 1))).map PyData.tuple = _
  rw [mapM_nat]; rfl
theorem mapM_valP (M : Mem) (k : Nat) : ∀ P : List (List Nat), (P.map valP).mapM (toD M (k + 2)) = some (dP P)
  | [] => rfl
  | l :: P => by
    rw [List.map_cons, List.mapM_cons, mapM_valP M k P, toD_valP]
    rfl
theorem lay_dP : ∀ P : List (List Nat), PyData.canLayAll0 (dP P) = true
  | [] => rfl
  | l :: P => by show (PyData.canLayAll0 (dN l) && PyData.canLayAll0 (dP P)) = true; rw [lay_dN, lay_dP P]; rfl
theorem depth_dP : ∀ P : List (List Nat), PyData.depthAll (dP P) ≤ 1
  | [] => Nat.zero_le _
  | l :: P => by show max (PyData.depthAll (dN l) + 1) (PyData.depthAll (dP P)) ≤ 1; rw [depth_dN]; have := depth_dP P; omega
theorem inD_valP {M : Mem} {d : Nat} {l : List Nat} {P : List (List Nat)} (h : getL M d = some (P.map valP)) : inD (valP l) (.loc d) M = some (decide (l ∈ P)) := by
  unfold inD
  simp only [h]
  rw [if_neg (by simp [valP, flat])]
  rw [show (8 : Nat) = 6 + 2 from rfl, show (7 : Nat) = 5 + 2 from rfl, toD_valP, mapM_valP]
  have h1 : SeqAt.shaped (.list (dP P)) = true := by
    show (PyData.canLayAll0 (dP P) && decide (PyData.depthAll (dP P) + 1 ≤ 64)) = true
    rw [lay_dP]; have := depth_dP P; simp; omega
  simp only [shaped_tuple, h1, Bool.and_self, if_true]
  congr 1
  unfold dP
  rw [List.any_map, Bool.eq_iff_iff]
  simp only [List.any_eq_true, decide_eq_true_eq, Function.comp]
  constructor
  · rintro ⟨m, hm, he⟩
    have : decide (m = l) = true := by rw [← eqv_dN]; exact he
    exact (of_decide_eq_true this) ▸ hm
  · exact fun hm => ⟨l, hm, by show PyData.eqvAll (dN l) (dN l) = true; rw [eqv_dN]; simp⟩
theorem nxt_lst {n b i : Nat} {l : List Val} {M : Mem} (h : getL M n = some l) : (itLst n b).nxt i M = some l[i]? := by
  have := getL_ok h
  show (match M[n]? with | some (.lst l) => some l[i]? | _ => none) = _
  rw [this]
theorem natF {C : List Nat} {p : Val → Bool} {f : Val → Val} {q : Nat → Bool} (hp : ∀ c ∈ C, p (natV c) = q c) (hf : ∀ c ∈ C, f (natV c) = natV c) : ((C.map natV).filter p).map f = (C.filter q).map natV := by
  induction C with
  | nil => rfl
  | cons c C ih =>
    have h1 := hp c (by simp)
    have h2 := ih (fun x hx => hp x (by simp [hx])) fun x hx => hf x (by simp [hx])
    rw [List.map_cons, List.filter_cons, List.filter_cons, h1]
    cases q c with
    | true => simp [hf c (by simp), h2]
    | false => simpa using h2

/-! alike -/
def Same (M : Mem) : Nat → Val → Val → Prop
  | 0, _, _ => False
  | k + 1, x, y => (x = y ∧ ((∃ i, x = .int i) ∨ (∃ z, x = .str z) ∨ x = .non)) ∨
    (∃ l l' : List Val, ((x = .tup l ∧ y = .tup l') ∨ ∃ a b, x = .loc a ∧ y = .loc b ∧ getL M a = some l ∧ getL M b = some l') ∧ l.length = l'.length ∧ l.length ≤ 1000 ∧ ∀ (i : Nat) (u v : Val), l[i]? = some u → l'[i]? = some v → Same M k u v)
theorem Same.pre {M M' : Mem} (p : M <+: M') : ∀ {k : Nat} {x y : Val}, Same M k x y → Same M' k x y
  | k + 1, x, y, .inl h => .inl h
  | k + 1, x, y, .inr ⟨l, l', h1, h2, h3, h4⟩ => by
    refine .inr ⟨l, l', ?_, h2, h3, fun i u v hu hv => (h4 i u v hu hv).pre p⟩
    rcases h1 with h1 | ⟨a, b, e1, e2, g1, g2⟩
    · exact .inl h1
    · exact .inr ⟨a, b, e1, e2, getL_pre p g1, getL_pre p g2⟩
theorem alike_spec : ∀ (k : Nat) {M : Mem} {x y : Val}, Same M k x y → Wq (F__law_alike k [x, y] M) (fun v M' => v = .bl true ∧ M <+: M')
  | 0, _, _, _, h => h.elim
  | k + 1, M, x, y, .inl ⟨e, h⟩ => by
    constructor
    subst e
    unfold F__law_alike
    rcases h with ⟨i, e⟩ | ⟨z, e⟩ | e <;> subst e <;> simp [tyN, isT]
  | k + 1, M, x, y, .inr ⟨l, l', .inl ⟨e1, e2⟩, hl, hl2, hs⟩ => by
    constructor
    subst e1 e2
    unfold F__law_alike
    simp [tyN, isT, hl]
    refine ⟨by omega, ?_⟩
    refine wp_lc_fun (rngL 0 l'.length) (fun _ => false) id (b := l'.length) (by simp) (by simp; omega) (fun j M _ => by rw [rngL_get]; rfl) (fun j x M3 hx hp3 => ?_) (fun M3 hp3 hg3 => ?_)
    · rw [rngL_get] at hx
      split at hx
      · rename_i hj
        cases hx
        refine ⟨_, rfl, ?_⟩
        have hj1 : j < l.length := by omega
        simp [atI_ofNat hj, atI_ofNat hj1]
        refine Wq.imp (alike_spec k ((hs j _ _ (List.getElem?_eq_getElem hj1) (List.getElem?_eq_getElem hj)).pre hp3)) fun v M4 ⟨ev, hp4⟩ => ?_
        subst ev
        simp
        exact hp4
      · cases hx
    · have hg3' : getL M3 M.length = some (([] : List Nat).map natV) := by rw [hg3]; simp
      refine ⟨?_, pre_append hp3 _⟩
      rw [eqD_natL (L := []) (L' := []) (getL_pre (List.prefix_append _ _) hg3') (by rw [getL_snoc]; rfl)]
      rfl
  | k + 1, M, x, y, .inr ⟨l, l', .inr ⟨a, b, e1, e2, g1, g2⟩, hl, hl2, hs⟩ => by
    constructor
    subst e1 e2
    unfold F__law_alike
    simp [tyN, isT, hl, g1, g2]
    refine ⟨by omega, ?_⟩
    refine wp_lc_fun (rngL 0 l'.length) (fun _ => false) id (b := l'.length) (by simp) (by simp; omega) (fun j M _ => by rw [rngL_get]; rfl) (fun j x M3 hx hp3 => ?_) (fun M3 hp3 hg3 => ?_)
    · rw [rngL_get] at hx
      split at hx
      · rename_i hj
        cases hx
        refine ⟨_, rfl, ?_⟩
        have hj1 : j < l.length := by omega
        simp [getL_pre hp3 g1, getL_pre hp3 g2, atI_ofNat hj, atI_ofNat hj1]
        refine Wq.imp (alike_spec k ((hs j _ _ (List.getElem?_eq_getElem hj1) (List.getElem?_eq_getElem hj)).pre hp3)) fun v M4 ⟨ev, hp4⟩ => ?_
        subst ev
        simp
        exact hp4
      · cases hx
    · have hg3' : getL M3 M.length = some (([] : List Nat).map natV) := by rw [hg3]; simp
      refine ⟨?_, pre_append hp3 _⟩
      rw [eqD_natL (L := []) (L' := []) (getL_pre (List.prefix_append _ _) hg3') (by rw [getL_snoc]; rfl)]
      rfl

/-! joined towns -/
theorem cutL_to {α : Type} (xs : List α) (k : Nat) : cutL xs none (some (k : Int)) = xs.take k := by
  unfold cutL
  rw [HT.sIx_nat, HT.sIx_none]
  simp [List.take_eq_take_iff]
theorem cutL_from {α : Type} (xs : List α) (k : Nat) : cutL xs (some (k : Int)) none = xs.drop k := by
  unfold cutL
  rw [HT.sIx_nat, HT.sIx_none]
  by_cases h : k ≤ xs.length
  · rw [Nat.min_eq_left h]
    exact List.take_of_length_le (by simp)
  · rw [Nat.min_eq_right (by omega), Nat.sub_self, List.take_zero, List.drop_eq_nil_of_le (by omega)]
theorem erase_map {α β : Type} (f : α → β) : ∀ (l : List α) (q : Nat), (l.map f).eraseIdx q = (l.eraseIdx q).map f
  | [], _ => rfl
  | _ :: _, 0 => rfl
  | x :: l, q + 1 => by
    show f x :: (l.map f).eraseIdx q = f x :: (l.eraseIdx q).map f
    rw [erase_map f l q]
theorem erase_perm {α : Type} : ∀ (l : List α) (q : Nat) (h : q < l.length), (l[q] :: l.eraseIdx q).Perm l
  | x :: l, 0, _ => List.Perm.refl _
  | x :: l, q + 1, h => (List.Perm.swap _ _ _).trans ((erase_perm l q (by simpa using h)).cons x)
structure JoinI (M M' : Mem) (r d n : Nat) (kind : Int) (ss : List Street) : Prop where
  row : RowAt M' r
  kp : Kp r M M'
  at_ : getL M' d = some (ss.map encS)
  ok : ∀ t ∈ ss, StreetOk n t ∧ (kind ≤ 1 → t.o = kind)
theorem JoinI.put {M M' M2 : Mem} {r d n : Nat} {kind : Int} {ss : List Street} {t : Street} (I : JoinI M M' r d n kind ss) (hr : RowAt M2 r) (hk : Kp r M' M2) (hd : d ≠ r) (hM : M.length ≤ d) (ht : StreetOk n t ∧ (kind ≤ 1 → t.o = kind)) :
    getL M2 d = some (ss.map encS) ∧ JoinI M (M2.set d (.lst (ss.map encS ++ [encS t]))) r d n kind (ss ++ [t]) := by
  have g := hk.getL I.at_ hd
  refine ⟨g, hr.setN hd, (I.kp.trans hk).setN hM, by rw [getL_set g]; simp, fun u hu => ?_⟩
  rcases List.mem_append.mp hu with hu | hu
  · exact I.ok u hu
  · rw [List.mem_singleton.mp hu]; exact ht
theorem joined_spec {M : Mem} {r : Nat} {cs sn kind : Int} (h : RowAt M r) (hc : 2 ≤ cs) (hc2 : cs ≤ 9) (hs : 0 ≤ sn) (hs2 : sn ≤ 16) (hk : 0 ≤ kind) (hk2 : kind ≤ 2) :
    Wq (F__law_joined [.loc r, .int cs, .int sn, .int kind] M) (fun v M' => ∃ (n : Nat) (ss : List Street), v = encT n ss ∧ TownOk n ss ∧ 2 ≤ n ∧ n ≤ cs ∧ n ≤ ss.length ∧ (ss.length ≤ n ∨ ss.length ≤ sn) ∧ (∀ c, c < n → ∃ t ∈ ss, t.f = c ∧ t.s = (c + 1 : Int) % n) ∧ (kind ≤ 1 → ∀ t ∈ ss, t.o = kind) ∧ RowAt M' r ∧ Kp r M M') := by
  constructor
  unfold F__law_joined
  simp
  refine taken_k h (by omega) (by omega) fun m M1 m0 m1 r1 k1 l1 => ?_
  obtain ⟨n, hn⟩ := Int.eq_ofNat_of_zero_le (show 0 ≤ 2 + m by omega)
  simp [hn]
  have hnn : 2 ≤ n ∧ n ≤ cs := by omega
  have hn9 : n ≤ 9 := by omega
  have hrd : M1.length ≠ r := Nat.ne_of_gt r1.lt
  have hML : M.length ≤ M1.length := k1.len
  refine ⟨by omega, ?_⟩
  refine wp_for_rng (fun i e M' => ∃ ss : List Street, JoinI M M' r M1.length n kind ss ∧ ss.length = i ∧ (∀ c, c < i → ∃ t ∈ ss, t.f = c ∧ t.s = (c + 1 : Int) % n) ∧ ∃ x6 x7 x8, e = [some (.loc r), some (.int cs), some (.int sn), some (.int kind), some (.int n), some (.loc M1.length), x6, x7, x8])
    ⟨[], ⟨r1.kp (List.prefix_append _ _), k1.app _, by simpa using getL_append_new M1 [], by simp⟩, rfl, by intro c hc; omega, _, _, _, rfl⟩ (fun i e M2 hi ⟨ss, I, hl, hring, x6, x7, x8, he⟩ => ?_) (fun e M2 ⟨ss, I, hl, hring, x6, x7, x8, he⟩ => ?_)
  · subst he
    simp
    refine Out.wp_imp (street_spec (n := (n : Int)) I.row (by omega) (by omega) hk hk2) fun v M3 ⟨t, ev, to, tk, r3, k3⟩ => ?_
    subst ev
    have hcut : cutL [Val.int t.f, .int t.s, .int t.l, .int t.o] (some 2) none = [.int t.l, .int t.o] := cutL_from _ 2
    have hok : StreetOk n ⟨i, (i + 1 : Int) % n, t.l, t.o⟩ := by
      have hb := emod_b (x := (i + 1 : Int)) (k := n) (by omega)
      refine ⟨by show 0 ≤ (i : Int); omega, by show (i : Int) < n; omega, hb.1, hb.2, ?_, to.l0, to.l1, to.o⟩
      show (i : Int) ≠ (i + 1 : Int) % n
      by_cases hw : (i : Int) + 1 < n
      · rw [Int.emod_eq_of_lt (by omega) hw]; omega
      · have : (i : Int) + 1 = n := by omega
        rw [this, Int.emod_self]; omega
    obtain ⟨g, J⟩ := I.put r3 k3 hrd hML ⟨hok, tk⟩
    simp [encS, hcut, g, show 0 < (n : Int) by omega]
    refine ⟨by omega, by omega, _, by simpa [encS] using J, by simp [hl], fun c hc => ?_⟩
    by_cases hci : c < i
    · obtain ⟨u, hu, h1, h2⟩ := hring c hci
      exact ⟨u, List.mem_append_left _ hu, h1, h2⟩
    · have : c = i := by omega
      subst this
      exact ⟨⟨c, (c + 1 : Int) % n, t.l, t.o⟩, by simp, rfl, rfl⟩
  · subst he
    simp
    have hmx : 0 < (if 1 < sn - (n : Int) + 1 then sn - (n : Int) + 1 else 1) ∧ (if 1 < sn - (n : Int) + 1 then sn - (n : Int) + 1 else 1) < 100 ∧ ((if 1 < sn - (n : Int) + 1 then sn - (n : Int) + 1 else 1) ≤ 1 ∨ (if 1 < sn - (n : Int) + 1 then sn - (n : Int) + 1 else 1) ≤ sn - n + 1) := by split <;> omega
    generalize (if 1 < sn - (n : Int) + 1 then sn - (n : Int) + 1 else 1) = mx at hmx ⊢
    refine taken_k I.row (by omega) (by omega) fun j M3 j0 j1 r3 k3 l3 => ?_
    have J3 : JoinI M M3 r M1.length n kind ss := ⟨r3, I.kp.trans k3, k3.getL I.at_ hrd, I.ok⟩
    obtain ⟨j, rfl⟩ := Int.eq_ofNat_of_zero_le j0
    simp
    refine ⟨by omega, ?_⟩
    refine wp_for_rng (fun i e M' => ∃ ss : List Street, JoinI M M' r M1.length n kind ss ∧ ss.length = n + i ∧ (∀ c, c < n → ∃ t ∈ ss, t.f = c ∧ t.s = (c + 1 : Int) % n) ∧ ∃ x6 x7 x8, e = [some (.loc r), some (.int cs), some (.int sn), some (.int kind), some (.int n), some (.loc M1.length), x6, x7, x8])
      ⟨ss, J3, by omega, hring, _, _, _, rfl⟩ (fun i e M4 hi ⟨ss, I, hl, hring, x6, x7, x8, he⟩ => ?_) (fun e M4 ⟨ss, I, hl, hring, x6, x7, x8, he⟩ => ?_)
    · subst he
      simp
      refine ⟨by rw [I.at_]; rfl, ?_⟩
      refine Out.wp_imp (street_spec (n := (n : Int)) I.row (by omega) (by omega) hk hk2) fun v M5 ⟨t, ev, to, tk, r5, k5⟩ => ?_
      subst ev
      obtain ⟨g, J⟩ := I.put r5 k5 hrd hML ⟨to, tk⟩
      simp [g]
      refine ⟨by omega, _, J, by simp [hl]; omega, fun c hc => ?_⟩
      obtain ⟨u, hu, h1, h2⟩ := hring c hc
      exact ⟨u, List.mem_append_left _ hu, h1, h2⟩
    · subst he
      have hl1 := hl
      simp [I.at_]
      refine ⟨by omega, ?_⟩
      refine wp_for_rng (fun i e M' => ∃ ss1 : List Street, JoinI M M' r M1.length n kind ss1 ∧ ss1.Perm ss ∧ ∃ x6 x7 x8, e = [some (.loc r), some (.int cs), some (.int sn), some (.int kind), some (.int n), some (.loc M1.length), x6, x7, x8])
        ⟨ss, I, List.Perm.refl _, _, _, _, rfl⟩ (fun i e M5 hi ⟨ss1, I1, hp, x6, x7, x8, he⟩ => ?_) (fun e M5 ⟨ss1, I1, hp, x6, x7, x8, he⟩ => ?_)
      · subst he
        have hpl := hp.length_eq
        simp [I1.at_]
        refine taken_k I1.row (by omega) (by omega) fun q M6 q0 q1 r6 k6 l6 => ?_
        obtain ⟨q, rfl⟩ := Int.eq_ofNat_of_zero_le q0
        have hq : q < ss1.length := by omega
        have g6 := k6.getL I1.at_ hrd
        simp [g6, ixN_nat hq, List.getElem?_eq_getElem hq, show (q : Int) < 9223372036854775808 by omega, show -9223372036854775808 ≤ (q : Int) by omega]
        have hem : (ss1.map encS).eraseIdx q = (ss1.eraseIdx q).map encS := erase_map _ _ _
        have hle : (ss1.eraseIdx q).length ≤ ss1.length := List.length_eraseIdx_le _ _
        refine ⟨_, getL_set g6, by rw [hem]; simp; omega, ss1.eraseIdx q ++ [ss1[q]], ⟨r6.setN hrd, (I1.kp.trans k6).setN hML, by rw [getL_set g6, hem]; simp, fun t ht => I1.ok t ?_⟩, ?_⟩
        · rcases List.mem_append.mp ht with ht | ht
          · exact List.mem_of_mem_eraseIdx ht
          · rw [List.mem_singleton.mp ht]; exact List.getElem_mem _
        · exact (List.perm_append_comm.trans (erase_perm _ _ hq)).trans hp
      · subst he
        have hpl := hp.length_eq
        simp [I1.at_]
        refine ⟨n, ss1, rfl, ⟨by omega, by omega, by omega, fun t ht => (I1.ok t ht).1⟩, by omega, by omega, by omega, by omega, fun c hc => ?_, fun hk1 t ht => (I1.ok t ht).2 hk1, I1.row, I1.kp⟩
        obtain ⟨u, hu, h1, h2⟩ := hring c hc
        exact ⟨u, hp.mem_iff.mpr hu, h1, h2⟩

/-! steps and their ends -/
def stepV (l : List Int) : Val := .tup (l.map .int)
def ends (ss : List Street) (l : List Int) : Option (Int × Int) := match l with
  | [k, d] => if 0 ≤ k ∧ 0 ≤ d ∧ d ≤ 1 then (match ss[k.toNat]? with
    | some t => if d = 1 then (if t.o = 1 then none else some (t.s, t.f)) else some (t.f, t.s)
    | none => none) else none
  | _ => none
def encE : Option (Int × Int) → Val
  | none => .non
  | some (a, b) => .tup [.int a, .int b]
theorem ends_at_spec {M : Mem} {n : Int} {ss : List Street} (h : TownOk n ss) (l : List Int) : Wq (F_ends_at [encT n ss, stepV l] M) (fun v M' => v = encE (ends ss l) ∧ M' = M) := by
  constructor
  unfold F_ends_at encT stepV
  match l with
  | [] => simp [isT, ends, encE]
  | [a] => simp [isT, ends, encE]
  | a :: b :: c :: l =>
    have : ¬ ((l.length : Int) + 1 + 1 + 1 = 2) := by omega
    simp [isT, ends, encE, this]
  | [k, d] =>
    have hle : ∀ k : Int, 0 ≤ k → k ≤ (ss.length : Int) - 1 → ∃ t, ss[k.toNat]? = some t ∧ atI (ss.map encS) k = some (encS t) := fun k h0 h1 => by
      have hk : k.toNat < ss.length := by omega
      refine ⟨ss[k.toNat], List.getElem?_eq_getElem hk, ?_⟩
      obtain ⟨q, rfl⟩ := Int.eq_ofNat_of_zero_le h0
      exact atI_nat (by simp at hk; simp [hk])
    by_cases hk : 0 ≤ k ∧ k ≤ (ss.length : Int) - 1
    · obtain ⟨t, ht, hat⟩ := hle k hk.1 hk.2
      by_cases hd : 0 ≤ d ∧ d ≤ 1
      · have hd' : d = 0 ∨ d = 1 := by omega
        rcases hd' with rfl | rfl
        · simp [isT, ends, encE, F_is_number, hk, ht, hat, encS]
        · by_cases ho : t.o = 1
          · simp [isT, ends, encE, F_is_number, hk, ht, hat, encS, ho]
          · simp [isT, ends, encE, F_is_number, hk, ht, hat, encS, ho]
      · have hd2 : ¬ (0 ≤ k ∧ 0 ≤ d ∧ d ≤ 1) := fun z => hd z.2
        have he : ends ss [k, d] = none := by unfold ends; dsimp only; rw [if_neg hd2]
        have hd3 : ¬ (0 ≤ d ∧ d ≤ 1) := hd
        by_cases h0 : 0 ≤ d
        · have h1 : ¬ d ≤ 1 := fun z => hd ⟨h0, z⟩
          simp [isT, encE, F_is_number, hk, he, h0, h1]
        · simp [isT, encE, F_is_number, hk, he, h0]
    · have hd2 : ends ss [k, d] = none := by
        unfold ends
        dsimp only
        split
        · rename_i hc
          rw [List.getElem?_eq_none (by omega)]
        · rfl
      by_cases h0 : 0 ≤ k
      · have h1 : ¬ k ≤ (ss.length : Int) - 1 := fun z => hk ⟨h0, z⟩
        simp [isT, encE, F_is_number, hd2, h0, h1]
      · simp [isT, encE, F_is_number, hd2, h0]

def dI (L : List Int) : List PyData := L.map PyData.int
theorem mapM_int (M : Mem) (k : Nat) : ∀ L : List Int, (L.map Val.int).mapM (toD M (k + 1)) = some (dI L)
  | [] => rfl
  | x :: L => by
    rw [List.map_cons, List.mapM_cons, mapM_int M k L]
    rfl
theorem lay_dI : ∀ L : List Int, PyData.canLayAll0 (dI L) = true
  | [] => rfl
  | x :: L => by show (true && PyData.canLayAll0 (dI L)) = true; rw [lay_dI L]; rfl
theorem depth_dI : ∀ L : List Int, PyData.depthAll (dI L) = 0
  | [] => rfl
  | x :: L => by show max 0 (PyData.depthAll (dI L)) = 0; rw [depth_dI L]; rfl
theorem eqv_dI : ∀ L L' : List Int, PyData.eqvAll (dI L) (dI L') = decide (L = L')
  | [], [] => rfl
  | [], y :: L' => by simp [dI, PyData.eqvAll]
  | x :: L, [] => by simp [dI, PyData.eqvAll]
  | x :: L, y :: L' => by
    show ((x == y) && PyData.eqvAll (dI L) (dI L')) = _
    rw [eqv_dI L L', Bool.eq_iff_iff]
    simp
theorem eqD_stepV (M : Mem) (a b : List Int) : eqD (stepV a) (stepV b) M = some (decide (a = b)) := by
  have e : ∀ c : List Int, toD M 8 (stepV c) = some (.tuple (dI c)) := fun c => by
    show ((c.map Val.int).mapM (toD M 7)).map PyData.tuple = _
    rw [mapM_int]; rfl
  have hs : ∀ c : List Int, SeqAt.shaped (.tuple (dI c)) = true := fun c => by
    show (PyData.canLayAll0 (dI c) && decide (PyData.depthAll (dI c) + 1 ≤ 64)) = true
    rw [lay_dI, depth_dI]; rfl
  show (match toD M 8 (stepV a), toD M 8 (stepV b) with
    | some d, some e => if SeqAt.shaped d && SeqAt.shaped e then some (PyData.eqv d e) else none
    | _, _ => none) = _
  rw [e a, e b]
  show (if (SeqAt.shaped (.tuple (dI a)) && SeqAt.shaped (.tuple (dI b))) = true then some (PyData.eqvAll (dI a) (dI b)) else none) = _
  rw [hs, hs, eqv_dI]; rfl
theorem arcsN_of {ss : List Street} {k : Nat} {t : Street} {x : ArcK} (h : ss[k]? = some t) (hx : x ∈ oneA k t) : ∀ i, k < i → x ∈ arcsN ss i
  | 0, hi => absurd hi (by omega)
  | i + 1, hi => by
    unfold arcsN
    by_cases e : k = i
    · subst e
      rw [h]
      exact List.mem_append_right _ hx
    · exact List.mem_append_left _ (arcsN_of h hx i (by omega))
theorem ends_sound {n : Int} {ss : List Street} (h : TownOk n ss) {x : ArcK} (hx : x ∈ arcsK ss) : ends ss [(x.2.1 : Int), x.2.2] = some ((x.1.f : Int), (x.1.s : Int)) := by
  obtain ⟨k, t, ht, hx⟩ := arcsN_mem hx
  have ok := h.all t (List.mem_of_getElem? ht)
  have e1 : ((t.f.toNat : Nat) : Int) = t.f := by have := ok.f0; omega
  have e2 : ((t.s.toNat : Nat) : Int) = t.s := by have := ok.s0; omega
  unfold oneA at hx
  split at hx
  · rename_i ho
    rcases List.mem_cons.mp hx with e | hx
    · subst e; simp [ends, ht, e1, e2]
    · have e := List.mem_singleton.mp hx
      subst e; simp [ends, ht, e1, e2, ho]
  · have e := List.mem_singleton.mp hx
    subst e; simp [ends, ht, e1, e2]
theorem ends_full {n : Int} {ss : List Street} (h : TownOk n ss) {k d : Int} {p : Int × Int} (he : ends ss [k, d] = some p) : ∃ x ∈ arcsK ss, (x.2.1 : Int) = k ∧ x.2.2 = d := by
  unfold ends at he
  dsimp only at he
  split at he
  · rename_i hc
    cases ht : ss[k.toNat]? with
    | none => rw [ht] at he; cases he
    | some t =>
      rw [ht] at he
      have hk := (List.getElem?_eq_some_iff.mp ht).1
      have ok := h.all t (List.mem_of_getElem? ht)
      by_cases hd : d = 1
      · subst hd
        dsimp only at he
        rw [if_pos rfl] at he
        by_cases ho : t.o = 1
        · rw [if_pos ho] at he; cases he
        · have ho : t.o = 0 := by have := ok.o; omega
          exact ⟨(⟨t.s.toNat, t.f.toNat, t.l⟩, k.toNat, 1), arcsN_of ht (by unfold oneA; rw [if_pos ho]; simp) _ hk, by show ((k.toNat : Nat) : Int) = k; omega, rfl⟩
      · have hd : d = 0 := by omega
        subst hd
        exact ⟨(⟨t.f.toNat, t.s.toNat, t.l⟩, k.toNat, 0), arcsN_of ht (by unfold oneA; simp) _ hk, by show ((k.toNat : Nat) : Int) = k; omega, rfl⟩
  · cases he
theorem law_ends_spec {M : Mem} {n : Int} {ss : List Street} (h : TownOk n ss) (l : List Int) (hl : l.length ≤ 1000) : Wq (F__law_ends [encT n ss, stepV l] M) (fun v M' => v = encE (ends ss l) ∧ M <+: M') := by
  constructor
  have LA := fun M3 => (show Wq (F__law_arcs [.tup [.int n, .tup (ss.map encS)]] M3) _ from arcsL_spec (M := M3) h)
  unfold F__law_ends encT
  by_cases h2 : l.length = 2
  · obtain ⟨k, d, rfl⟩ : ∃ k d, l = [k, d] := by
      match l, h2 with
      | [k, d], _ => exact ⟨k, d, rfl⟩
    simp [stepV, isT]
    refine wp_lc_fun [.int k, .int d] (fun _ => false) id (b := 2) (by simp) (by simp) (fun _ _ _ => rfl) (fun j x M3 hx hp3 => ?_) (fun M3 hp3 hg3 => ?_)
    · obtain ⟨i, rfl⟩ : ∃ i : Int, x = .int i := by
        match j, hx with
        | 0, hx => exact ⟨k, by cases hx; rfl⟩
        | 1, hx => exact ⟨d, by cases hx; rfl⟩
      exact ⟨_, rfl, by simp [isT]⟩
    · have g3 : getL M3 M.length = some (([] : List Nat).map natV) := by rw [hg3]; simp
      refine .inr ⟨by rw [eqD_natL (L := []) (L' := []) (getL_pre (List.prefix_append _ _) g3) (by rw [getL_snoc]; rfl)]; rfl, ?_⟩
      rw [show M3 ++ [Cell.lst [], Cell.lst []] = (M3 ++ [Cell.lst []]) ++ [Cell.lst []] by simp, show M3.length + 1 = (M3 ++ [Cell.lst []]).length by simp]
      have hp4 : M <+: M3 ++ [Cell.lst []] := pre_append hp3 _
      generalize M3 ++ [Cell.lst []] = M4 at hp4 ⊢
      refine wp_lc_fun [.int k, .int d] (fun _ => false) id (b := 2) (by simp) (by simp) (fun _ _ _ => rfl) (fun j x M3 hx hp3 => ?_) (fun M5 hp5 hg5 => ?_)
      · obtain ⟨i, rfl⟩ : ∃ i : Int, x = .int i := by
          match j, hx with
          | 0, hx => exact ⟨k, by cases hx; rfl⟩
          | 1, hx => exact ⟨d, by cases hx; rfl⟩
        exact ⟨_, rfl, by simp [isT]⟩
      · have g5 : getL M5 M4.length = some (([] : List Nat).map natV) := by rw [hg5]; simp
        refine .inr ⟨by rw [eqD_natL (L := []) (L' := []) (getL_pre (List.prefix_append _ _) g5) (by rw [getL_snoc]; rfl)]; rfl, ?_⟩
        have hp6 : M <+: M5 ++ [Cell.lst []] := pre_append (hp4.trans hp5) _
        generalize M5 ++ [Cell.lst []] = M6 at hp6 ⊢
        refine Wq.imp (LA M6) fun v M7 ⟨da, ev, hda, ga, hp7⟩ => ?_
        subst ev
        simp [itSeq_l ga]
        refine wp_for_lst (l := (arcsK ss).map valA) (fun i e M' => M <+: M' ∧ getL M' da = some ((arcsK ss).map valA) ∧ (∀ x ∈ (arcsK ss).take i, ¬ ((x.2.1 : Int) = k ∧ x.2.2 = d)) ∧
          ∃ x3 x4 x5 x6 x7 x8, e = [some (.tup [.int n, .tup (ss.map encS)]), some (.tup [.int k, .int d]), some (.bl true), x3, x4, x5, x6, x7, x8]) (by simp) (fun i e M h => h.2.1) ⟨hp6.trans hp7, ga, by simp, _, _, _, _, _, _, rfl⟩ (fun i x e M8 hx ⟨hp, ga, hno, x3, x4, x5, x6, x7, x8, he⟩ => ?_) (fun e M8 ⟨hp, ga, hno, x3, x4, x5, x6, x7, x8, he⟩ => ?_)
        · subst he
          rw [List.getElem?_map] at hx
          cases ha : (arcsK ss)[i]? with
          | none => rw [ha] at hx; cases hx
          | some a =>
            rw [ha] at hx
            cases hx
            have heq : eqD (.tup [.int a.2.1, .int a.2.2]) (.tup [.int k, .int d]) M8 = some (decide ([(a.2.1 : Int), a.2.2] = [k, d])) := eqD_stepV M8 [(a.2.1 : Int), a.2.2] [k, d]
            have hsd := ends_sound h (List.mem_of_getElem? ha)
            by_cases hm : (a.2.1 : Int) = k ∧ a.2.2 = d
            · rw [hm.1, hm.2] at hsd heq
              simp [valA, hm.1, hm.2, heq, hsd, encE]
              exact hp
            · have hn : ¬ ([(a.2.1 : Int), a.2.2] = [k, d]) := fun z => hm (by simpa using z)
              rw [decide_eq_false hn] at heq
              simp only [valA, wp_gTp, wp_gsCons, wp_gNm, wp_gsNil, wp_sIf, wp_tCmp2, wp_eVar]
              refine ⟨rfl, _, rfl, _, rfl, ?_⟩
              rw [wp_eqV]
              refine ⟨false, heq, false, rfl, ?_⟩
              rw [if_neg (by simp), wp_sNil]
              refine ⟨hp, ga, fun x hx => ?_, _, _, _, _, _, _, rfl⟩
              rw [List.take_add_one, ha] at hx
              rcases List.mem_append.mp hx with hx | hx
              · exact hno x hx
              · have e := List.mem_singleton.mp hx
                subst e
                exact hm
        · subst he
          have : ends ss [k, d] = none := by
            cases hh : ends ss [k, d] with
            | none => rfl
            | some p =>
              obtain ⟨x, hx, h1⟩ := ends_full h hh
              exact absurd h1 (hno x (by simpa using hx))
          rw [this]
          exact ⟨rfl, hp⟩
  · have he : ends ss l = none := by
      match l, h2 with
      | [], _ => rfl
      | [_], _ => rfl
      | _ :: _ :: _ :: _, _ => rfl
    have h3 : ¬ ((l.length : Int) = 2) := by omega
    simp [stepV, isT, h3, he, encE]

/-! a judgement -/
abbrev Ends := List (Option (Int × Int))
def badAt (es : Ends) (k : Nat) : Bool := match es[k]? with
  | some (some (a, _)) => decide (0 < k) && (match es[k - 1]? with
    | some (some (_, b)) => decide (b ≠ a)
    | _ => false)
  | _ => true
def openB (es : Ends) : Bool := match es.head?, es.getLast? with
  | some (some (a, _)), some (some (_, b)) => decide (b ≠ a)
  | _, _ => false
def goneB (ls : List (List Int)) (k : Nat) : Bool := ls.any fun l => decide (l.head? = some (k : Int))
def lackR (m : Nat) (ls : List (List Int)) : Val := match (List.range m).filter (fun k => !goneB ls k) with
  | [] => .non
  | k :: _ => .tup [.str "lacks", .int (k : Int)]
def faultR (ss : List Street) (ls : List (List Int)) : Val := match (List.range ls.length).find? (badAt (ls.map (ends ss))) with
  | some k => .tup [.str "step", .int (k : Int)]
  | none => if openB (ls.map (ends ss)) then .tup [.str "open"] else lackR ss.length ls
theorem find_first {p : Nat → Bool} {n k : Nat} (hk : k < n) (h : p k = true) (hf : ∀ j, j < k → p j = false) : (List.range n).find? p = some k := by
  rw [List.find?_eq_some_iff_append]
  refine ⟨h, List.range k, (List.range n).drop (k + 1), ?_, fun a ha => by rw [hf a (List.mem_range.mp ha)]; rfl⟩
  have h1 : (List.range n).take k = List.range k := by
    rw [List.take_range, Nat.min_eq_left (by omega)]
  have h2 : (List.range n)[k]? = some k := by simp [hk]
  have h3 := List.take_append_drop k (List.range n)
  rw [h1] at h3
  have hlen : k < (List.range n).length := by simpa using hk
  exact h3.symm.trans (by rw [List.drop_eq_getElem_cons hlen]; simp)
theorem find_none {p : Nat → Bool} {n : Nat} (hf : ∀ j, j < n → p j = false) : (List.range n).find? p = none := by
  rw [List.find?_eq_none]
  intro x hx
  rw [hf x (List.mem_range.mp hx)]
  simp

section
variable {E : Ex → Mem → Prop} {Qv : Val → Mem → Prop} {nxt : Nat → Mem → Option (Option Val)} {e : Sl} {M : Mem}
@[simp] theorem wp_eDc (f : IF) (g : Tg) (t : TF) (ek ev : EF) (vs : List Nat) : (eDc f g t ek ev vs e M).wp Qv E = (f e M).wp (fun it M1 => (dcG it.nxt g t ek ev M1.length (wipeS e vs) it.fuel 0 (M1 ++ [.dK []])).wp Qv E) E := by unfold eDc; rw [wp_bind]
theorem wp_dcG {g : Tg} {ek ev : EF} {D : Nat} (l : List Val) (I : Nat → Mem → Prop) (hn : ∀ i M, I i M → nxt i M = some l[i]?)
    (hs : ∀ i x M, l[i]? = some x → I i M → ∃ e1, g.put x e = some e1 ∧ (ek e1 M).wp (fun y M2 => (ev e1 M2).wp (fun z M3 => ∃ k kvs, keyOf y = some k ∧ M3[D]? = some (.dK kvs) ∧ kvs.length < sizeLine ∧ I (i + 1) (M3.set D (.dK (putV kvs k z)))) noE) noE)
    (hd : ∀ M, I l.length M → Qv (.loc D) M) : ∀ (m i : Nat) (M : Mem), l.length < m + i → i ≤ l.length → I i M → (dcG nxt g tTrue ek ev D e m i M).wp Qv E
  | 0, i, M, h1, h2, _ => absurd h1 (by omega)
  | m + 1, i, M, h1, h2, hI => by
    unfold dcG
    rw [hn i M hI]
    cases hx : l[i]? with
    | none =>
      have : l.length ≤ i := List.getElem?_eq_none_iff.mp hx
      have e1 : i = l.length := by omega
      subst e1
      exact hd M hI
    | some x =>
      have hlt : i < l.length := (List.getElem?_eq_some_iff.mp hx).1
      obtain ⟨e1, hp, h⟩ := hs i x M hx hI
      dsimp only
      rw [hp]
      show (match ek e1 M with
        | .ok y M2 => (match ev e1 M2 with
          | .ok z M3 => (match keyOf y with
            | some k => (match M3[D]? with
              | some (.dK kvs) => if kvs.length < sizeLine then dcG nxt g tTrue ek ev D e m (i + 1) (M3.set D (.dK (putV kvs k z))) else .bad
              | _ => .bad)
            | none => .bad)
          | _ => .bad)
        | _ => Out.bad).wp Qv E
      cases hk : ek e1 M with
      | bad => rw [hk] at h; exact h.elim
      | ex _ _ => rw [hk] at h; exact h.elim
      | ok y M2 =>
        rw [hk] at h
        simp only [wp_ok] at h
        dsimp only
        cases hv : ev e1 M2 with
        | bad => rw [hv] at h; exact h.elim
        | ex _ _ => rw [hv] at h; exact h.elim
        | ok z M3 =>
          rw [hv] at h
          simp only [wp_ok] at h
          obtain ⟨k, kvs, h1', h2', h3', h4'⟩ := h
          dsimp only
          rw [h1']
          dsimp only
          rw [h2']
          dsimp only
          rw [if_pos h3']
          exact wp_dcG l I hn hs hd m (i + 1) _ (by omega) (by omega) h4'
@[simp] theorem wp_inKV (x y : Val) : (inKV x y M).wp Qv E = ∃ b, inKD x y M = some b ∧ Qv (.bl b) M := by unfold inKV; cases inKD x y M <;> simp
@[simp] theorem wp_notInKV (x y : Val) : (notInKV x y M).wp Qv E = ∃ b, inKD x y M = some b ∧ Qv (.bl (!b)) M := by unfold notInKV; cases inKD x y M <;> simp
end
theorem putV_len {kvs : List (Key × Val)} {k : Key} {v : Val} : (putV kvs k v).length ≤ kvs.length + 1 := by
  unfold putV; split <;> simp
theorem putV_has {kvs : List (Key × Val)} {k j : Key} {v : Val} : hasK (putV kvs k v) j = (hasK kvs j || decide (k = j)) := by
  unfold putV
  split
  · rename_i h
    have e : hasK (kvs.map fun p => if p.1 = k then (p.1, v) else p) j = hasK kvs j := by
      unfold hasK
      rw [List.any_map]
      congr 1
      funext p
      by_cases hp : p.1 = k <;> simp [hp]
    rw [e]
    by_cases hk : k = j
    · subst hk; rw [h]; rfl
    · simp [hk]
  · unfold hasK; simp

/-- steps, as a list or as a tuple -/
def SrcAt (M : Mem) (x : Val) (L : List Val) : Prop := x = .tup L ∨ ∃ d, x = .loc d ∧ getL M d = some L
theorem SrcAt.pre {M M' : Mem} {x : Val} {L : List Val} (p : M <+: M') (h : SrcAt M x L) : SrcAt M' x L := by
  rcases h with h | ⟨d, h, g⟩
  · exact .inl h
  · exact .inr ⟨d, h, getL_pre p g⟩
theorem SrcAt.enum {M Mc : Mem} {x : Val} {L : List Val} (h : SrcAt M x L) (hm : M <+: Mc) {N B C : Sl → Mem → Prop} {R : Val → Mem → Prop} {Es : Ex → Sl → Mem → Prop} {e : Sl} {g : GF} {body : SF} (I : Nat → Sl → Mem → Prop) (hI : ∀ i e M', I i e M' → M <+: M') (h0 : I 0 e Mc)
    (hs : ∀ i y e M, L[i]? = some y → I i e M → (g (.tup [.int (i : Nat), y]) e M).wp (fun e1 M1 => (body e1 M1).wp (I (i + 1)) R N (I (i + 1)) Es) Es) (hd : ∀ e M, I L.length e M → N e M) :
    ∃ it, itEnum x Mc = some it ∧ (forG it.nxt g body it.fuel 0 e Mc).wp N R B C Es := by
  rcases h with h | ⟨d, h, gg⟩
  · subst h
    exact ⟨_, rfl, wp_for_enumT I h0 hs hd⟩
  · subst h
    exact ⟨_, itEnum_l (getL_pre hm gg), wp_for_enumL I (Nat.le_refl _) (fun i e M' h => getL_pre (hI i e M' h) gg) h0 hs hd⟩
def nxtOf (M : Mem) (x : Val) (L : List Val) (it : Itr) : Prop := itSeq x M = some it ∧ it.fuel = L.length + 1 ∧ ∀ i M', M <+: M' → it.nxt i M' = some L[i]?
theorem SrcAt.seq {M : Mem} {x : Val} {L : List Val} (h : SrcAt M x L) : ∃ it, nxtOf M x L it := by
  rcases h with h | ⟨d, h, g⟩
  · subst h; exact ⟨_, rfl, rfl, fun _ _ _ => rfl⟩
  · subst h; exact ⟨_, itSeq_l g, rfl, fun i M' p => nxt_lst (getL_pre p g)⟩
def dE : Option (Int × Int) → PyData
  | none => .none
  | some (a, b) => .tuple [.int a, .int b]
theorem mapM_encE (M : Mem) (k : Nat) : ∀ es : Ends, (es.map encE).mapM (toD M (k + 2)) = some (es.map dE)
  | [] => rfl
  | none :: es => by
    rw [List.map_cons, List.mapM_cons, mapM_encE M k es]; rfl
  | some (a, b) :: es => by
    rw [List.map_cons, List.mapM_cons, mapM_encE M k es]; rfl
theorem lay_dE : ∀ es : Ends, PyData.canLayAll0 (es.map dE) = true
  | [] => rfl
  | none :: es => by show (true && PyData.canLayAll0 (es.map dE)) = true; rw [lay_dE es]; rfl
  | some (a, b) :: es => by show (true && PyData.canLayAll0 (es.map dE)) = true; rw [lay_dE es]; rfl
theorem depth_dE : ∀ es : Ends, PyData.depthAll (es.map dE) ≤ 1
  | [] => Nat.zero_le _
  | none :: es => by show max 0 (PyData.depthAll (es.map dE)) ≤ 1; have := depth_dE es; omega
  | some (a, b) :: es => by show max 1 (PyData.depthAll (es.map dE)) ≤ 1; have := depth_dE es; omega
theorem eqD_ends {M : Mem} {a b : Nat} {es : Ends} (h : getL M a = some (es.map encE)) (h' : getL M b = some []) : eqD (.loc a) (.loc b) M = some (decide (es = [])) := by
  have e1 : toD M 8 (.loc a) = some (.list (es.map dE)) := by
    show (match getL M a with
      | some l => (l.mapM (toD M 7)).map PyData.list
      | none => none) = _
    rw [h]
    show ((es.map encE).mapM (toD M (5 + 2))).map PyData.list = _
    rw [mapM_encE]; rfl
  have e2 : toD M 8 (.loc b) = some (.list []) := by
    show (match getL M b with
      | some l => (l.mapM (toD M 7)).map PyData.list
      | none => none) = _
    rw [h']; rfl
  have hs : SeqAt.shaped (.list (es.map dE)) = true := by
    show (PyData.canLayAll0 (es.map dE) && decide (PyData.depthAll (es.map dE) + 1 ≤ 64)) = true
    rw [lay_dE]; have := depth_dE es; simp; omega
  show (match toD M 8 (.loc a), toD M 8 (.loc b) with
    | some d, some e => if SeqAt.shaped d && SeqAt.shaped e then some (PyData.eqv d e) else none
    | _, _ => none) = _
  rw [e1, e2]
  show (if (SeqAt.shaped (.list (es.map dE)) && SeqAt.shaped (.list [])) = true then some (PyData.eqvAll (es.map dE) []) else none) = _
  rw [hs]
  cases es with
  | nil => rfl
  | cons x es => simp [PyData.eqvAll]; rfl
theorem atI_last {α : Type} {l : List α} {y : α} (h : l[l.length - 1]? = some y) : atI l (-1) = some y := by
  have hl := (List.getElem?_eq_some_iff.mp h).1
  unfold atI ixN
  rw [if_neg (by omega), if_pos (by omega)]
  have : (-1 + (l.length : Int)).toNat = l.length - 1 := by omega
  rw [this]
  exact h
theorem badAt_some {es : Ends} {k : Nat} (h : badAt es k = false) : ∃ a b, es[k]? = some (some (a, b)) := by
  unfold badAt at h
  split at h
  · rename_i a b e; exact ⟨a, b, e⟩
  · cases h
def FaI (M : Mem) (n : Int) (ss : List Street) (x : Val) (ls : List (List Int)) (i : Nat) (e : Sl) (M' : Mem) : Prop := M <+: M' ∧ getL M' M.length = some (((ls.map (ends ss)).take i).map encE) ∧ (∀ k, k < i → badAt (ls.map (ends ss)) k = false) ∧
  ∃ x3 x4 x5, e = [some (.tup [.int n, .tup (ss.map encS)]), some x, some (.loc M.length), x3, x4, x5, none, none, none]

/-! what the steps lack -/
theorem lackR_eq {m : Nat} {ls : List (List Int)} : lackR m ls = match (List.range m).filter (fun k => !goneB ls k) with
  | [] => .non
  | k :: _ => .tup [.str "lacks", .int (k : Int)] := rfl
theorem rngL_nat (n : Nat) : rngL 0 n = (List.range n).map natV := by
  unfold rngL natV
  simp
theorem fault_lacks {n : Int} {ss : List Street} {M : Mem} {x : Val} {ls : List (List Int)} (hs : ss.length ≤ 16) (hx : SrcAt M x (ls.map stepV)) (hl : ls.length ≤ 100) (hne : ∀ l ∈ ls, ∃ k r, l = k :: r) {a b c d : Option Val} {N B C : Sl → Mem → Prop} {R : Val → Mem → Prop} {Es : Ex → Sl → Mem → Prop}
    (hR : ∀ M', M <+: M' → R (lackR ss.length ls) M') : swp (t_fault_3 [some (encT n ss), some x, a, b, c, d, none, none, none] M) N R B C Es := by
  obtain ⟨it, h1, h2, h3⟩ := hx.seq
  simp [h1]
  rw [h2]
  refine o_dcG (ls.map stepV) (fun i M' => M <+: M' ∧ ∃ kvs : List (Key × Val), M'[M.length]? = some (.dK kvs) ∧ kvs.length ≤ i ∧ ∀ k : Int, hasK kvs (.inl k) = (ls.take i).any fun l => decide (l.head? = some k)) (fun i M' h => h3 i M' h.1) (fun i y M' hy hI => ?_) (fun M' hI => ?_) _ ?_ ?_
  rotate_left 2
  · simp
  · exact ⟨List.prefix_append _ _, [], by simp, Nat.le_refl _, by simp [hasK]⟩
  · obtain ⟨hp, kvs, hg, hlen, hk⟩ := hI
    rw [List.getElem?_map] at hy
    cases hli : ls[i]? with
    | none => rw [hli] at hy; cases hy
    | some l =>
      rw [hli] at hy
      cases hy
      obtain ⟨k, r, e⟩ := hne l (List.mem_of_getElem? hli)
      subst e
      have hil := (List.getElem?_eq_some_iff.mp hli).1
      refine ⟨_, rfl, ?_⟩
      simp [stepV]
      refine ⟨.inl k, rfl, kvs, hg, by omega, pre_set hp (Nat.le_refl _), _, List.getElem?_set_self (List.getElem?_eq_some_iff.mp hg).1, ?_, fun j => ?_⟩
      · unfold putV; split <;> simp <;> omega
      · rw [putV_has, hk, List.take_add_one, hli]
        simp
  · obtain ⟨hp, kvs, hg, hlen, hk⟩ := hI
    rw [List.length_map, List.take_length] at hk
    simp [encT]
    refine ⟨by omega, ?_⟩
    have hi : ∀ M3, M' <+: M3 → ∀ (k : Nat), inKD (.int (k : Int)) (.loc M.length) M3 = some (goneB ls k) := fun M3 hp3 k => by
      have hg3 : M3[M.length]? = some (.dK kvs) := by
        obtain ⟨t, rfl⟩ := hp3
        rw [List.getElem?_append_left (List.getElem?_eq_some_iff.mp hg).1]
        exact hg
      unfold inKD
      simp only [hg3, keyOf]
      rw [Option.map_some, hk]; rfl
    refine o_lc_fun (rngL 0 ss.length) (fun x => match x with | .int k => !goneB ls k.toNat | _ => false) id (b := ss.length) (by simp) (by simp; omega) (fun j M _ => by rw [rngL_get]; rfl) (fun j x M3 hx hp3 => ?_) (fun M3 hp3 hg3 => ?_)
    · rw [rngL_get] at hx
      split at hx
      · cases hx
        refine ⟨_, rfl, ?_⟩
        simp [hi M3 hp3]
      · cases hx
    · rw [rngL_nat, natF (q := fun k => !goneB ls k) (fun c _ => by simp [natV]) (fun c _ => rfl)] at hg3
      simp
      rw [eqD_natL (L := (List.range ss.length).filter (fun k => !goneB ls k)) (L' := []) (getL_pre (List.prefix_append _ _) hg3) (by rw [getL_snoc]; rfl)]
      have hR' := hR (M3 ++ [Cell.lst []]) (pre_append (hp.trans hp3) _)
      rw [lackR_eq] at hR'
      have g3 := getL_pre (List.prefix_append M3 [Cell.lst []]) hg3
      cases hf : (List.range ss.length).filter (fun k => !goneB ls k) with
      | nil => rw [hf] at hR'; simp; exact hR'
      | cons k t =>
        rw [hf] at hR' g3
        simp [g3, natV]
        exact hR'

/-- the ends, as a list -/
def esL (es : Ends) : List Val := es.map encE
theorem esL_len (es : Ends) : (esL es).length = es.length := by simp [esL]
theorem eqD_esL {M : Mem} {a b : Nat} {es : Ends} (h : getL M a = some (esL es)) (h' : getL M b = some []) : eqD (.loc a) (.loc b) M = some (decide (es = [])) := eqD_ends h h'
theorem esL_last {es : Ends} {p : Option (Int × Int)} (h : es[es.length - 1]? = some p) : atI (esL es) (-1) = some (encE p) := by
  refine atI_last ?_
  rw [esL_len]
  unfold esL
  rw [List.getElem?_map, h]; rfl
theorem esL_at {es : Ends} {k : Nat} {p : Option (Int × Int)} (h : es[k]? = some p) : atI (esL es) (k : Int) = some (encE p) := atI_nat (by unfold esL; rw [List.getElem?_map, h]; rfl)
theorem getL_nil (M : Mem) : getL (M ++ [Cell.lst []]) M.length = some [] := getL_append_new M []
def FaI2 (M : Mem) (n : Int) (ss : List Street) (x : Val) (ls : List (List Int)) (i : Nat) (e : Sl) (M' : Mem) : Prop := M <+: M' ∧ getL M' M.length = some (esL ((ls.map (ends ss)).take i)) ∧ (∀ k, k < i → badAt (ls.map (ends ss)) k = false) ∧
  ∃ x3 x4 x5, e = [some (encT n ss), some x, some (.loc M.length), x3, x4, x5, none, none, none]
theorem fault_body {M M1 : Mem} {n : Int} {ss : List Street} (h : TownOk n ss) {x : Val} {ls : List (List Int)} (hl : ls.length ≤ 100) {i : Nat} {l : List Int} (hli : ls[i]? = some l) {x5 : Option Val} (hp : M <+: M1) (hg : getL M1 M.length = some (esL ((ls.map (ends ss)).take i)))
    (hb : ∀ k, k < i → badAt (ls.map (ends ss)) k = false) {N B C : Sl → Mem → Prop} {R : Val → Mem → Prop} {Es : Ex → Sl → Mem → Prop} (hR : ∀ M', M <+: M' → badAt (ls.map (ends ss)) i = true → R (.tup [.str "step", .int (i : Int)]) M')
    (hN : ∀ e M', badAt (ls.map (ends ss)) i = false → FaI2 M n ss x ls (i + 1) e M' → N e M') :
    swp (b_fault_1 [some (encT n ss), some x, some (.loc M.length), some (.int i), some (stepV l), x5, none, none, none] M1) N R B C Es := by
  have hil : i < ls.length := (List.getElem?_eq_some_iff.mp hli).1
  have hei : (ls.map (ends ss))[i]? = some (ends ss l) := by rw [List.getElem?_map, hli]; rfl
  have htk : (ls.map (ends ss)).take (i + 1) = (ls.map (ends ss)).take i ++ [ends ss l] := by rw [List.take_add_one, hei]; rfl
  have hlen : ((ls.map (ends ss)).take i).length = i := by rw [List.length_take, List.length_map]; omega
  generalize hes : (ls.map (ends ss)).take i = es at *
  have hnext : ∀ M3, M1 <+: M3 → badAt (ls.map (ends ss)) i = false → N [some (encT n ss), some x, some (.loc M.length), some (.int i), some (stepV l), some (encE (ends ss l)), none, none, none] (M3.set M.length (.lst (esL es ++ [encE (ends ss l)]))) := fun M3 hp3 hbd => by
    refine hN _ _ hbd ⟨pre_set (hp.trans hp3) (Nat.le_refl _), ?_, fun k hk => ?_, _, _, _, rfl⟩
    · rw [getL_set (getL_pre hp3 hg), htk]; simp [esL]
    · by_cases e : k = i
      · rw [e]; exact hbd
      · exact hb k (by omega)
  have hz : (esL es).length < 16777216 := by rw [esL_len]; omega
  simp
  refine (Oq.ofW (ends_at_spec h l).h).use fun v M2 hv => ?_
  obtain ⟨ev, em⟩ := hv
  subst ev em
  simp
  have g3 := getL_pre (List.prefix_append M2 [Cell.lst []]) hg
  cases hq : ends ss l with
  | none =>
    rw [hq] at hei
    simp [encE]
    exact hR _ hp (by unfold badAt; rw [hei])
  | some p =>
    obtain ⟨a, b⟩ := p
    rw [hq] at hei hnext
    simp [encE]
    rw [eqD_esL g3 (getL_nil _)]
    by_cases hi0 : i = 0
    · have he : es = [] := List.length_eq_zero_iff.mp (hlen.trans hi0)
      have := hnext _ (List.prefix_append M2 [Cell.lst []]) (by unfold badAt; rw [hei, hi0]; simp)
      simp [he, g3, hz]
      simp [he, encE] at this hz
      exact ⟨hz, this⟩
    · obtain ⟨c, d, hcd⟩ := badAt_some (hb (i - 1) (by omega))
      have hne : ¬ es = [] := fun z => hi0 (by rw [← hlen, z]; rfl)
      have hlast : atI (esL es) (-1) = some (.tup [.int c, .int d]) := by
        have hcd' : es[es.length - 1]? = some (some (c, d)) := by rw [hlen, ← hes, List.getElem?_take, if_pos (by omega), hcd]
        exact esL_last hcd'
      have hbd : badAt (ls.map (ends ss)) i = decide (d ≠ a) := by
        unfold badAt; rw [hei]; simp only; rw [hcd]; simp; omega
      simp [hne, g3, hlast]
      by_cases hda : d = a
      · have := hnext _ (List.prefix_append M2 [Cell.lst []]) (by rw [hbd]; simp [hda])
        simp [hda, g3, hz]
        simpa [encE] using this
      · simp [hda]
        exact hR _ (pre_append hp _) (by rw [hbd]; simp [hda])
theorem openB_at {es : Ends} (hb : ∀ k, k < es.length → ∃ a b, es[k]? = some (some (a, b))) (hne : es ≠ []) : ∃ a b c d, es[0]? = some (some (a, b)) ∧ es[es.length - 1]? = some (some (c, d)) ∧ openB es = decide (d ≠ a) := by
  have hl : 0 < es.length := by
    cases es with
    | nil => exact absurd rfl hne
    | cons _ _ => simp
  obtain ⟨a, b, h0⟩ := hb 0 hl
  obtain ⟨c, d, h1⟩ := hb (es.length - 1) (by omega)
  refine ⟨a, b, c, d, h0, h1, ?_⟩
  unfold openB
  rw [List.head?_eq_getElem?, List.getLast?_eq_getElem?, h0, h1]
theorem SrcAt.enumO {M Mc : Mem} {x : Val} {L : List Val} (h : SrcAt M x L) (hm : M <+: Mc) {N B C : Sl → Mem → Prop} {R : Val → Mem → Prop} {Es : Ex → Sl → Mem → Prop} {e : Sl} {g : GF} {body : SF} (I : Nat → Sl → Mem → Prop) (hI : ∀ i e M', I i e M' → M <+: M') (h0 : I 0 e Mc)
    (hs : ∀ i y e M, L[i]? = some y → I i e M → gwp (g (.tup [.int (i : Nat), y]) e M) (fun e1 M1 => swp (body e1 M1) (I (i + 1)) R N (I (i + 1)) Es) Es) (hd : ∀ e M, I L.length e M → N e M) :
    ∃ it, itEnum x Mc = some it ∧ swp (forG it.nxt g body it.fuel 0 e Mc) N R B C Es := by
  simp only [swp_eq, gwp_eq] at *
  exact h.enum hm I hI h0 hs hd
theorem fault_spec {M : Mem} {n : Int} {ss : List Street} (h : TownOk n ss) {x : Val} {ls : List (List Int)} (hx : SrcAt M x (ls.map stepV)) (hl : ls.length ≤ 100) : Oq (F_fault [encT n ss, x] M) (fun v M' => v = faultR ss ls ∧ M <+: M') := by
  constructor
  unfold F_fault
  simp
  refine (Oq.ofW (need_town_k (E := noE) (Q := fun v M' => v = .non ∧ M' = M) h ⟨rfl, rfl⟩)).use fun v M' hv => ?_
  obtain ⟨ev, em⟩ := hv
  subst ev em
  simp
  refine hx.enumO (List.prefix_append _ _) (FaI2 M' n ss x ls) (fun i e M1 h => h.1) ⟨List.prefix_append _ _, by simpa [esL] using getL_append_new M' [], by omega, _, _, _, rfl⟩ (fun i y e M1 hy hI => ?_) (fun e M1 hI => ?_)
  · obtain ⟨hp, hg, hb, x3, x4, x5, he⟩ := hI
    subst he
    rw [List.getElem?_map] at hy
    cases hli : ls[i]? with
    | none => rw [hli] at hy; cases hy
    | some l =>
      rw [hli] at hy
      cases hy
      have hil : i < ls.length := (List.getElem?_eq_some_iff.mp hli).1
      simp [-b_fault_1_ap]
      refine fault_body h hl hli hp hg hb (fun M2 hp2 hbd => ?_) (fun e2 M2 hbd hI2 => hI2)
      refine ⟨?_, hp2⟩
      unfold faultR
      rw [find_first hil hbd hb]
  · obtain ⟨hp, hg, hb, x3, x4, x5, he⟩ := hI
    subst he
    rw [List.length_map] at hb hg
    have hE : (ls.map (ends ss)).take ls.length = ls.map (ends ss) := List.take_of_length_le (by simp)
    rw [hE] at hg
    have hsome : ∀ k, k < (ls.map (ends ss)).length → ∃ a b, (ls.map (ends ss))[k]? = some (some (a, b)) := fun k hk => badAt_some (hb k (by simpa using hk))
    have hno : (List.range ls.length).find? (badAt (ls.map (ends ss))) = none := find_none hb
    have hhd : ∀ l ∈ ls, ∃ k r, l = k :: r := fun l hl => by
      obtain ⟨k, hk, e⟩ := List.getElem_of_mem hl
      obtain ⟨a, b, e2⟩ := badAt_some (hb k hk)
      rw [List.getElem?_map, List.getElem?_eq_getElem hk, e] at e2
      match l, e2 with
      | k :: r, _ => exact ⟨k, r, rfl⟩
      | [], e2 => simp [ends] at e2
    have hlack : ∀ M2, M1 <+: M2 → openB (ls.map (ends ss)) = false → swp (t_fault_3 [some (encT n ss), some x, some (.loc M'.length), x3, x4, x5, none, none, none] M2) (Kt.kRn fun v M'' => v = faultR ss ls ∧ M' <+: M'') (fun v M'' => v = faultR ss ls ∧ M' <+: M'') Kt.kFF Kt.kFF (Kt.kE1 noE) := fun M2 hp2 ho => by
      refine fault_lacks h.len (hx.pre (hp.trans hp2)) hl hhd fun M3 hp3 => ⟨?_, (hp.trans hp2).trans hp3⟩
      unfold faultR
      rw [hno]
      simp only [ho]
      simp
    have hopen : openB (ls.map (ends ss)) = true → faultR ss ls = .tup [.str "open"] := fun ho => by
      unfold faultR
      rw [hno]
      simp only [ho]
      simp
    generalize ls.map (ends ss) = es at *
    have g3 := getL_pre (List.prefix_append M1 [Cell.lst []]) hg
    simp [-t_fault_3_ap]
    rw [eqD_esL g3 (getL_nil _)]
    by_cases hne : es = []
    · simp [hne, -t_fault_3_ap]
      exact hlack _ (List.prefix_append M1 [Cell.lst []]) (by rw [hne]; rfl)
    · obtain ⟨a, b, c, d, h0, h1, ho⟩ := openB_at hsome hne
      have i0 : atI (esL es) 0 = some (encE (some (a, b))) := esL_at h0
      have i1 := esL_last h1
      simp [hne, g3, i0, i1, encE, -t_fault_3_ap]
      by_cases hda : d = a
      · simp [hda, -t_fault_3_ap]
        exact hlack _ (List.prefix_append M1 [Cell.lst []]) (by rw [ho]; simp [hda])
      · simp [hda]
        exact ⟨(hopen (by rw [ho]; simp [hda])).symm, pre_append hp _⟩

theorem inD_int {M : Mem} {d : Nat} {k : Int} {L : List Int} (h : getL M d = some (L.map Val.int)) : inD (.int k) (.loc d) M = some (decide (k ∈ L)) := by
  have hf : (L.map Val.int).all flat = true := by simp [flat]
  unfold inD
  simp only [h, hf, flat]
  simp
  rw [Bool.eq_iff_iff]
  simp [eqF]
theorem law_lacks {n : Int} {ss : List Street} {M : Mem} {x : Val} {ls : List (List Int)} (hs : ss.length ≤ 16) (hx : SrcAt M x (ls.map stepV)) (hl : ls.length ≤ 100) (hne : ∀ l ∈ ls, ∃ k r, l = k :: r) {a b c d f : Option Val} {N B C : Sl → Mem → Prop} {R : Val → Mem → Prop} {Es : Ex → Sl → Mem → Prop}
    (hR : ∀ M', M <+: M' → R (lackR ss.length ls) M') : swp (t__law_fault_2 [some (encT n ss), some x, a, b, c, d, f, none] M) N R B C Es := by
  obtain ⟨it, h1, h2, h3⟩ := hx.seq
  simp [h1]
  rw [h2]
  refine o_lcG (ls.map stepV) (fun i M' => M <+: M' ∧ getL M' M.length = some ((((ls.take i).map fun l => l.headD 0)).map Val.int)) (fun i M' h => h3 i M' h.1) (fun i y M' hy hI => ?_) (fun M' hI => ?_) _ ?_ ?_
  rotate_left 2
  · simp
  · exact ⟨List.prefix_append _ _, getL_append_new M []⟩
  · obtain ⟨hp, hg⟩ := hI
    rw [List.getElem?_map] at hy
    cases hli : ls[i]? with
    | none => rw [hli] at hy; cases hy
    | some l =>
      rw [hli] at hy
      cases hy
      obtain ⟨k, r, e⟩ := hne l (List.mem_of_getElem? hli)
      subst e
      have hil := (List.getElem?_eq_some_iff.mp hli).1
      refine ⟨_, rfl, ?_⟩
      simp [stepV, -List.map_map, -List.map_take]
      refine ⟨_, hg, by simp; omega, pre_set hp (Nat.le_refl _), ?_⟩
      rw [getL_set hg, List.take_add_one, hli]
      simp
  · obtain ⟨hp, hg⟩ := hI
    rw [List.length_map, List.take_length] at hg
    have hmem : ∀ k : Nat, decide ((k : Int) ∈ ls.map fun l => l.headD 0) = goneB ls k := fun k => by
      unfold goneB
      rw [Bool.eq_iff_iff, decide_eq_true_eq, List.any_eq_true, List.mem_map]
      constructor
      · rintro ⟨l, hl, e⟩
        obtain ⟨k', r, e'⟩ := hne l hl
        subst e'
        exact ⟨_, hl, by simpa using e⟩
      · rintro ⟨l, hl, e⟩
        obtain ⟨k', r, e'⟩ := hne l hl
        subst e'
        exact ⟨_, hl, by simpa using e⟩
    generalize (ls.map fun l => l.headD 0) = hds at *
    simp [encT]
    refine ⟨by omega, ?_⟩
    have hi : ∀ M3, M' <+: M3 → ∀ (k : Nat), inD (.int (k : Int)) (.loc M.length) M3 = some (goneB ls k) := fun M3 hp3 k => by
      rw [inD_int (getL_pre hp3 hg), hmem]
    refine o_lc_fun (rngL 0 ss.length) (fun x => match x with | .int k => !goneB ls k.toNat | _ => false) id (b := ss.length) (by simp) (by simp; omega) (fun j M _ => by rw [rngL_get]; rfl) (fun j x M3 hx hp3 => ?_) (fun M3 hp3 hg3 => ?_)
    · rw [rngL_get] at hx
      split at hx
      · cases hx
        refine ⟨_, rfl, ?_⟩
        simp [hi M3 hp3]
      · cases hx
    · rw [rngL_nat, natF (q := fun k => !goneB ls k) (fun c _ => by simp [natV]) (fun c _ => rfl)] at hg3
      simp
      rw [eqD_natL (L := (List.range ss.length).filter (fun k => !goneB ls k)) (L' := []) (getL_pre (List.prefix_append _ _) hg3) (by rw [getL_snoc]; rfl)]
      have hR' := hR (M3 ++ [Cell.lst []]) (pre_append (hp.trans hp3) _)
      rw [lackR_eq] at hR'
      have g3 := getL_pre (List.prefix_append M3 [Cell.lst []]) hg3
      cases hf : (List.range ss.length).filter (fun k => !goneB ls k) with
      | nil => rw [hf] at hR'; simp; exact hR'
      | cons k t =>
        rw [hf] at hR' g3
        simp [g3, natV]
        exact hR'

/-! the law's judgement -/
theorem mapV {α : Type} {f : α → Val} {g : Val → Val} {h : α → Val} {l : List α} (e : ∀ x ∈ l, g (f x) = h x) : (l.map f).map g = l.map h := by
  rw [List.map_map]
  exact List.map_congr_left fun x hx => e x hx
theorem law_fault_spec {M : Mem} {n : Int} {ss : List Street} (h : TownOk n ss) {x : Val} {ls : List (List Int)} (hx : SrcAt M x (ls.map stepV)) (hl : ls.length ≤ 100) (hw : ∀ l ∈ ls, l.length ≤ 1000) : Oq (F__law_fault [encT n ss, x] M) (fun v M' => v = faultR ss ls ∧ M <+: M') := by
  constructor
  obtain ⟨it, h1, h2, h3⟩ := hx.seq
  unfold F__law_fault
  simp [h1]
  rw [h2]
  have LE := fun M3 (l : List Int) hl => Oq.ofW (law_ends_spec (M := M3) h l hl).h
  refine o_lcG (ls.map stepV) (fun i M' => M <+: M' ∧ getL M' M.length = some (esL ((ls.map (ends ss)).take i))) (fun i M' h => h3 i M' h.1) (fun i y M1 hy hI => ?_) (fun M1 hI => ?_) _ ?_ ?_
  rotate_left 2
  · simp
  · exact ⟨List.prefix_append _ _, getL_append_new M []⟩
  · obtain ⟨hp, hg⟩ := hI
    rw [List.getElem?_map] at hy
    cases hli : ls[i]? with
    | none => rw [hli] at hy; cases hy
    | some l =>
      rw [hli] at hy
      cases hy
      refine ⟨_, rfl, ?_⟩
      simp
      refine (LE M1 l (hw l (List.mem_of_getElem? hli))).use fun v M2 hv => ?_
      obtain ⟨ev, hp2⟩ := hv
      subst ev
      have g2 := getL_pre hp2 hg
      have hil : i < ls.length := (List.getElem?_eq_some_iff.mp hli).1
      refine ⟨_, g2, by rw [esL_len]; simp; omega, pre_set (hp.trans hp2) (Nat.le_refl _), ?_⟩
      rw [getL_set g2, List.take_add_one, List.getElem?_map, hli]
      simp [esL]
  · obtain ⟨hp, hg⟩ := hI
    have hE : (ls.map (ends ss)).take (ls.map stepV).length = ls.map (ends ss) := List.take_of_length_le (by simp)
    rw [hE] at hg
    have hlen : (ls.map (ends ss)).length = ls.length := by simp
    have hbs : ∀ k, badAt (ls.map (ends ss)) k = false → ∃ a b, (ls.map (ends ss))[k]? = some (some (a, b)) := fun k => badAt_some
    have hR : ∀ k, k < ls.length → badAt (ls.map (ends ss)) k = true → (∀ j, j < k → badAt (ls.map (ends ss)) j = false) → Val.tup [.str "step", .int (k : Int)] = faultR ss ls := fun k hk hb hj => by
      unfold faultR
      rw [find_first hk hb hj]
    have hget : ∀ k, k < ls.length → ∃ p, (ls.map (ends ss))[k]? = some p := fun k hk => ⟨_, List.getElem?_eq_getElem (by simpa using hk)⟩
    have hhd : (∀ k, k < ls.length → badAt (ls.map (ends ss)) k = false) → ∀ l ∈ ls, ∃ k r, l = k :: r := fun hb l hl => by
      obtain ⟨k, hk, e⟩ := List.getElem_of_mem hl
      obtain ⟨a, b, e2⟩ := badAt_some (hb k hk)
      rw [List.getElem?_map, List.getElem?_eq_getElem hk, e] at e2
      match l, e2 with
      | k :: r, _ => exact ⟨k, r, rfl⟩
      | [], e2 => simp [ends] at e2
    have hF : (∀ k, k < ls.length → badAt (ls.map (ends ss)) k = false) → faultR ss ls = if openB (ls.map (ends ss)) then .tup [.str "open"] else lackR ss.length ls := fun hb => by
      unfold faultR
      rw [find_none hb]
    generalize ls.map (ends ss) = es at *
    simp [hg, esL_len, -b__law_fault_0_ap]
    refine ⟨by omega, ?_⟩
    refine o_for_rng (fun i e M2 => M2 = M1 ∧ (∀ k, k < i → badAt es k = false) ∧ ∃ a, e = [some (encT n ss), some x, some (.loc M.length), a, none, none, none, none]) ⟨rfl, by omega, _, rfl⟩ (fun i e M2 hi hI => ?_) (fun e M2 hI => ?_)
    · obtain ⟨em, hb, a, he⟩ := hI
      subst em he
      rw [hlen] at hi
      obtain ⟨p, hpi⟩ := hget i hi
      have i0 := esL_at hpi
      simp [hg, i0]
      cases p with
      | none =>
        simp [encE]
        exact ⟨hR i hi (by unfold badAt; rw [hpi]) hb, hp⟩
      | some p =>
        obtain ⟨c, d⟩ := p
        simp [encE]
        by_cases hi0 : i = 0
        · subst hi0
          simp
          unfold badAt; rw [hpi]; simp
        · obtain ⟨a', b', hq⟩ := hbs _ (hb (i - 1) (by omega))
          have i1 : atI (esL es) ((i : Int) - 1) = some (encE (some (a', b'))) := by
            have := esL_at hq
            rwa [show ((i - 1 : Nat) : Int) = (i : Int) - 1 by omega] at this
          have hbd : badAt es i = decide (b' ≠ c) := by
            unfold badAt; rw [hpi]; simp only; rw [hq]; simp; omega
          simp [show 0 < i by omega, hg, i0, i1, encE]
          by_cases hcb : c = b'
          · have : badAt es i = false := by rw [hbd]; simp [hcb]
            refine .inr ⟨hcb, fun k hk => ?_⟩
            by_cases e : k = i
            · rw [e]; exact this
            · exact hb k (by omega)
          · exact .inl ⟨hcb, hR i hi (by rw [hbd]; simp [Ne.symm hcb]) hb, hp⟩
    · obtain ⟨em, hb, a, he⟩ := hI
      subst em he
      rw [hlen] at hb
      have hf := hF hb
      have hsome : ∀ k, k < es.length → ∃ a b, es[k]? = some (some (a, b)) := fun k hk => hbs k (hb k (by rw [← hlen]; exact hk))
      have hlack : ∀ M3, M2 <+: M3 → openB es = false → swp (t__law_fault_2 [some (encT n ss), some x, some (.loc M.length), a, none, none, none, none] M3) (Kt.kRn fun v M'' => v = faultR ss ls ∧ M <+: M'') (fun v M'' => v = faultR ss ls ∧ M <+: M'') Kt.kFF Kt.kFF (Kt.kE1 noE) := fun M3 hp3 ho => by
        refine law_lacks h.len (hx.pre (hp.trans hp3)) hl (hhd hb) fun M4 hp4 => ⟨?_, (hp.trans hp3).trans hp4⟩
        rw [hf, ho]; rfl
      have g3 := getL_pre (List.prefix_append M2 [Cell.lst []]) hg
      simp [-t__law_fault_2_ap]
      rw [eqD_esL g3 (getL_nil _)]
      by_cases hne : es = []
      · simp [hne, -t__law_fault_2_ap]
        exact hlack _ (List.prefix_append M2 [Cell.lst []]) (by rw [hne]; rfl)
      · obtain ⟨a, b, c, d, h0, h1, ho⟩ := openB_at hsome hne
        have i0 : atI (esL es) 0 = some (encE (some (a, b))) := esL_at h0
        have i1 := esL_last h1
        simp [hne, g3, i0, i1, encE, -t__law_fault_2_ap]
        by_cases hda : a = d
        · simp [hda, -t__law_fault_2_ap]
          exact hlack _ (List.prefix_append M2 [Cell.lst []]) (by rw [ho]; simp [hda])
        · simp [hda]
          exact ⟨by rw [hf, ho]; simp [Ne.symm hda], pre_append hp _⟩

/-! plain data: values without places -/
mutual
def dV : Val → PyData
  | .non => .none
  | .bl b => .bool b
  | .int i => .int i
  | .str s => .str s
  | .tup l => .tuple (dVs l)
  | .frz _ => .none
  | .loc _ => .none
def dVs : List Val → List PyData
  | [] => []
  | x :: l => dV x :: dVs l
end
mutual
/-- plain, at most k deep; b: truths too -/
def pln (b : Bool) : Nat → Val → Bool
  | _, .non => true
  | _, .bl _ => b
  | _, .int _ => true
  | _, .str s => PyData.strOk s
  | 0, .tup _ => false
  | k + 1, .tup l => plns b k l
  | _, .frz _ => false
  | _, .loc _ => false
def plns (b : Bool) : Nat → List Val → Bool
  | _, [] => true
  | k, x :: l => pln b k x && plns b k l
end
theorem dVs_map : ∀ l : List Val, dVs l = l.map dV
  | [] => rfl
  | x :: l => by rw [dVs, dVs_map l]; rfl
theorem plns_all {b : Bool} {k : Nat} : ∀ {l : List Val}, plns b k l = true ↔ ∀ x ∈ l, pln b k x = true
  | [] => by simp [plns]
  | x :: l => by simp [plns, plns_all (l := l)]
theorem toD_plns {M : Mem} {b : Bool} {k : Nat} (ih : ∀ v, pln b k v = true → toD M (k + 1) v = some (dV v)) : ∀ (l : List Val), plns b k l = true → l.mapM (toD M (k + 1)) = some (dVs l)
  | [], _ => rfl
  | x :: l, h => by
    simp only [plns, Bool.and_eq_true] at h
    rw [List.mapM_cons, ih x h.1, toD_plns ih l h.2]; rfl
theorem toD_pln {M : Mem} {b : Bool} : ∀ (k : Nat) (v : Val), pln b k v = true → toD M (k + 1) v = some (dV v)
  | 0, v, h => by cases v <;> first | rfl | simp [pln] at h
  | k + 1, v, h => by
    cases v with
    | tup l =>
      have h : plns b k l = true := by simpa [pln] using h
      show (l.mapM (toD M (k + 1))).map PyData.tuple = _
      rw [toD_plns (toD_pln k) l h]; rfl
    | non => rfl
    | bl _ => rfl
    | int _ => rfl
    | str _ => rfl
    | frz _ => simp [pln] at h
    | loc _ => simp [pln] at h
theorem toD_plnM {M : Mem} {b : Bool} {k : Nat} {l : List Val} (h : plns b k l = true) : l.mapM (toD M (k + 1)) = some (dVs l) := toD_plns (toD_pln k) l h
theorem pln_le {b : Bool} : ∀ {k m : Nat} {v : Val}, k ≤ m → pln b k v = true → pln b m v = true
  | _, _, .non, _, _ => by simp [pln]
  | _, _, .bl _, _, h => by simpa [pln] using h
  | _, _, .int _, _, _ => by simp [pln]
  | _, _, .str _, _, h => by simpa [pln] using h
  | 0, _, .tup _, _, h => by simp [pln] at h
  | k + 1, 0, .tup _, hl, h => absurd hl (by omega)
  | k + 1, m + 1, .tup l, hl, h => by
    simp only [pln] at h ⊢
    rw [plns_all] at h ⊢
    exact fun x hx => pln_le (by omega) (h x hx)
  | _, _, .frz _, _, h => by simp [pln] at h
  | _, _, .loc _, _, h => by simp [pln] at h
theorem lay_plns {b : Bool} {k : Nat} (ih : ∀ v, pln b k v = true → (dV v).canLay0 = true ∧ (dV v).depth ≤ k) : ∀ l, plns b k l = true → PyData.canLayAll0 (dVs l) = true ∧ PyData.depthAll (dVs l) ≤ k
  | [], _ => ⟨rfl, Nat.zero_le _⟩
  | x :: l, h => by
    simp only [plns, Bool.and_eq_true] at h
    obtain ⟨h1, h2⟩ := ih x h.1
    obtain ⟨h3, h4⟩ := lay_plns ih l h.2
    refine ⟨by simp [dVs, PyData.canLayAll0, h1, h3], ?_⟩
    simp only [dVs, PyData.depthAll]
    omega
theorem lay_pln {b : Bool} : ∀ (k : Nat) (v : Val), pln b k v = true → (dV v).canLay0 = true ∧ (dV v).depth ≤ k
  | k, .non, _ => ⟨rfl, Nat.zero_le _⟩
  | k, .bl _, _ => ⟨rfl, Nat.zero_le _⟩
  | k, .int _, _ => ⟨rfl, Nat.zero_le _⟩
  | k, .str s, h => ⟨by simpa [pln, dV, PyData.canLay0] using h, Nat.zero_le _⟩
  | 0, .tup _, h => by simp [pln] at h
  | k + 1, .tup l, h => by
    have h : plns b k l = true := by simpa [pln] using h
    obtain ⟨h1, h2⟩ := lay_plns (fun v => lay_pln k v) l h
    refine ⟨by simpa [dV, PyData.canLay0] using h1, ?_⟩
    simp only [dV, PyData.depth]
    omega
  | _, .frz _, h => by simp [pln] at h
  | _, .loc _, h => by simp [pln] at h
theorem shaped_pln {b : Bool} {k : Nat} {v : Val} (hk : k ≤ 8) (h : pln b k v = true) : SeqAt.shaped (dV v) = true := by
  obtain ⟨h1, h2⟩ := lay_pln k v h
  show ((dV v).canLay0 && decide ((dV v).depth ≤ 64)) = true
  rw [h1]; simp; omega
theorem shaped_plns {b : Bool} {k : Nat} {l : List Val} (hk : k ≤ 8) (h : plns b k l = true) : SeqAt.shaped (.list (dVs l)) = true := by
  obtain ⟨h1, h2⟩ := lay_plns (fun v => lay_pln k v) l h
  show (PyData.canLayAll0 (dVs l) && decide (PyData.depthAll (dVs l) + 1 ≤ 64)) = true
  rw [h1]; simp; omega
theorem eqv_plns {k : Nat} (ih : ∀ v u, pln false k v = true → pln false k u = true → (PyData.eqv (dV v) (dV u) = true ↔ v = u)) : ∀ l m, plns false k l = true → plns false k m = true → (PyData.eqvAll (dVs l) (dVs m) = true ↔ l = m)
  | [], [], _, _ => by simp [dVs, PyData.eqvAll]
  | [], _ :: _, _, _ => by simp [dVs, PyData.eqvAll]
  | _ :: _, [], _, _ => by simp [dVs, PyData.eqvAll]
  | x :: l, y :: m, h, h' => by
    simp only [plns, Bool.and_eq_true] at h h'
    simp only [dVs, PyData.eqvAll, Bool.and_eq_true]
    rw [ih x y h.1 h'.1, eqv_plns ih l m h.2 h'.2]
    simp
theorem eqv_pln : ∀ (k : Nat) (v u : Val), pln false k v = true → pln false k u = true → (PyData.eqv (dV v) (dV u) = true ↔ v = u)
  | 0, v, u, h, h' => by cases v <;> cases u <;> first | (simp [pln] at h; done) | (simp [pln] at h'; done) | (simp [dV, PyData.eqv])
  | k + 1, v, u, h, h' => by
    cases v <;> cases u <;> first | (simp [pln] at h; done) | (simp [pln] at h'; done) | (simp [dV, PyData.eqv]; done) | skip
    rename_i l m
    simp only [pln] at h h'
    simp only [dV, PyData.eqv]
    rw [eqv_plns (fun v u => eqv_pln k v u) l m h h']
    simp
/-- == of plain values -/
theorem eqD_pln {M : Mem} {v u : Val} (hv : pln false 7 v = true) (hu : pln false 7 u = true) : ∃ b, eqD v u M = some b ∧ (b = true ↔ v = u) := by
  have key : (match toD M 8 v, toD M 8 u with
    | some d, some e => if SeqAt.shaped d && SeqAt.shaped e then some (PyData.eqv d e) else none
    | _, _ => none) = some (PyData.eqv (dV v) (dV u)) := by
    rw [toD_pln 7 v hv, toD_pln 7 u hu]
    simp only
    rw [shaped_pln (by omega) hv, shaped_pln (by omega) hu]; rfl
  unfold eqD
  split
  · exact ⟨_, rfl, by simp⟩
  · exact ⟨_, rfl, by simp⟩
  · exact ⟨_, rfl, by simp⟩
  · exact ⟨_, key, eqv_pln 7 v u hv hu⟩
/-- .. of lists of such -/
theorem eqD_plns {M : Mem} {a b : Nat} {l m : List Val} (h : getL M a = some l) (h' : getL M b = some m) (hl : plns false 6 l = true) (hm : plns false 6 m = true) : ∃ c, eqD (.loc a) (.loc b) M = some c ∧ (c = true ↔ l = m) := by
  have e : ∀ (c : Nat) (l : List Val), getL M c = some l → plns false 6 l = true → toD M 8 (.loc c) = some (.list (dVs l)) := fun c l hc hl => by
    show (match getL M c with
      | some l => (l.mapM (toD M 7)).map PyData.list
      | none => none) = _
    rw [hc]
    show (l.mapM (toD M 7)).map PyData.list = _
    rw [toD_plnM hl]; rfl
  refine ⟨PyData.eqvAll (dVs l) (dVs m), ?_, eqv_plns (fun v u => eqv_pln 6 v u) l m hl hm⟩
  show (match toD M 8 (.loc a), toD M 8 (.loc b) with
    | some d, some e => if SeqAt.shaped d && SeqAt.shaped e then some (PyData.eqv d e) else none
    | _, _ => none) = _
  rw [e a l h hl, e b m h' hm]
  show (if (SeqAt.shaped (.list (dVs l)) && SeqAt.shaped (.list (dVs m))) = true then some (PyData.eqvAll (dVs l) (dVs m)) else none) = _
  rw [shaped_plns (by omega) hl, shaped_plns (by omega) hm]; rfl
/-- a list against an empty one -/
theorem eqD_nil {M : Mem} {a b : Nat} {l : List Val} {t : Bool} (h : getL M a = some l) (h' : getL M b = some []) (hl : plns t 6 l = true) : eqD (.loc a) (.loc b) M = some l.isEmpty := by
  have e : ∀ (c : Nat) (l : List Val), getL M c = some l → plns t 6 l = true → toD M 8 (.loc c) = some (.list (dVs l)) := fun c l hc hl => by
    show (match getL M c with
      | some l => (l.mapM (toD M 7)).map PyData.list
      | none => none) = _
    rw [hc]
    show (l.mapM (toD M 7)).map PyData.list = _
    rw [toD_plnM hl]; rfl
  show (match toD M 8 (.loc a), toD M 8 (.loc b) with
    | some d, some e => if SeqAt.shaped d && SeqAt.shaped e then some (PyData.eqv d e) else none
    | _, _ => none) = _
  rw [e a l h hl, e b [] h' rfl]
  show (if (SeqAt.shaped (.list (dVs l)) && SeqAt.shaped (.list (dVs []))) = true then some (PyData.eqvAll (dVs l) (dVs [])) else none) = _
  rw [shaped_plns (by omega) hl, shaped_plns (l := []) (b := t) (k := 6) (by omega) rfl]
  cases l <;> rfl

/-! the law k08 -/
theorem takenO {M : Mem} {r : Nat} {k : Int} (h : RowAt M r) (hk : 0 < k) (hk2 : k < 10000) :
    Oq (F__law_taken [.loc r, .int k] M) (fun v M' => ∃ i, v = .int i ∧ 0 ≤ i ∧ i < k ∧ RowAt M' r ∧ Kp r M M' ∧ M'.length = M.length) := Oq.ofW (taken_spec h hk hk2)
theorem arcsO {M : Mem} {n : Int} {ss : List Street} (h : TownOk n ss) : Oq (F__law_arcs [encT n ss] M) (fun v M' => ∃ d, v = .loc d ∧ M.length ≤ d ∧ getL M' d = some ((arcsK ss).map valA) ∧ M <+: M') := Oq.ofW (arcsL_spec h).h
def someV (a : ArcK) : Val := .tup [.int a.1.s, stepV [(a.2.1 : Int), a.2.2]]
theorem plns_map {α : Type} {b : Bool} {k : Nat} {f : α → Val} {l : List α} (h : ∀ x, pln b k (f x) = true) : plns b k (l.map f) = true := by
  rw [plns_all]
  intro y hy
  obtain ⟨x, _, rfl⟩ := List.mem_map.mp hy
  exact h x
/-- steps so far -/
structure StI (M : Mem) (r st : Nat) (ls : List (List Int)) : Prop where
  row : RowAt M r
  ne : st ≠ r
  at_ : getL M st = some (ls.map stepV)
  w : ∀ l ∈ ls, l.length ≤ 1000
theorem StI.kp {M M' : Mem} {r st : Nat} {ls : List (List Int)} (h : StI M r st ls) (hr : RowAt M' r) (k : Kp r M M') : StI M' r st ls := ⟨hr, h.ne, k.getL h.at_ h.ne, h.w⟩
theorem StI.pre {M M' : Mem} {r st : Nat} {ls : List (List Int)} (h : StI M r st ls) (p : M <+: M') : StI M' r st ls := ⟨h.row.kp p, h.ne, getL_pre p h.at_, h.w⟩
theorem StI.push {M : Mem} {r st : Nat} {ls : List (List Int)} (h : StI M r st ls) {l : List Int} (hl : l.length ≤ 1000) : StI (M.set st (.lst (ls.map stepV ++ [stepV l]))) r st (ls ++ [l]) :=
  ⟨h.row.setN h.ne, h.ne, by rw [getL_set h.at_]; simp, fun m hm => by
    rcases List.mem_append.mp hm with hm | hm
    · exact h.w m hm
    · rw [List.mem_singleton.mp hm]; exact hl⟩
theorem walk_body {M : Mem} {r st : Nat} {ls : List (List Int)} {n : Int} {ss : List Street} (h : TownOk n ss) (I : StI M r st ls) (hl : ls.length < 100) {z a2 a6 a7 a8 a9 a10 a11 a12 : Option Val} {here : Int} {N B C : Sl → Mem → Prop} {R : Val → Mem → Prop} {Es : Ex → Sl → Mem → Prop}
    (hN : ∀ M' ls' here' b7 b8, StI M' r st ls' → ls'.length ≤ ls.length + 1 → N [z, some (.loc r), a2, some (encT n ss), some (.int here'), some (.loc st), a6, b7, b8, a9, a10, a11, a12, none, none, none, none] M') :
    swp (b_law_1 [z, some (.loc r), a2, some (encT n ss), some (.int here), some (.loc st), a6, a7, a8, a9, a10, a11, a12, none, none, none, none] M) N R B C Es := by
  simp
  refine (arcsO h).use fun v M1 hv => ?_
  obtain ⟨da, ev, hda, ga, hp⟩ := hv
  subst ev
  simp [itSeq_l ga]
  have hal : (arcsK ss).length ≤ 32 := by have := arcsN_len ss ss.length; have := h.len; unfold arcsK; omega
  refine o_lc_fun ((arcsK ss).map valA) (fun x => match x with | .tup (.int f :: _) => decide (f = here) | _ => false) (fun x => match x with | .tup [_, s, _, t] => .tup [s, t] | _ => .non) (b := (arcsK ss).length) (by simp) (by simp; omega) (fun j M h => nxt_lst (getL_pre h ga)) (fun j x M3 hx hp3 => ?_) (fun M3 hp3 hg3 => ?_)
  · rw [List.getElem?_map] at hx
    cases ha : (arcsK ss)[j]? with
    | none => rw [ha] at hx; cases hx
    | some a =>
      rw [ha] at hx
      cases hx
      refine ⟨_, rfl, ?_⟩
      simp [valA]
  · have e : (((arcsK ss).map valA).filter (fun x => match x with | .tup (.int f :: _) => decide (f = here) | _ => false)).map (fun x => match x with | .tup [_, s, _, t] => .tup [s, t] | _ => .non) = ((arcsK ss).filter fun a => decide ((a.1.f : Int) = here)).map someV := by
      rw [List.filter_map, List.map_map]
      rfl
    rw [e] at hg3
    generalize hbs : (arcsK ss).filter (fun a => decide ((a.1.f : Int) = here)) = bs at hg3
    have hbl : bs.length ≤ 32 := by rw [← hbs]; exact Nat.le_trans (List.length_filter_le _ _) hal
    have hI3 := I.pre (hp.trans hp3)
    have hpl : plns true 6 (bs.map someV) = true := plns_map fun x => by rfl
    have g4 := getL_pre (List.prefix_append M3 [Cell.lst []]) hg3
    have hne1 : M1.length ≠ r := Nat.ne_of_gt (Nat.lt_of_lt_of_le I.row.lt (pre_len hp))
    simp
    rw [eqD_nil g4 (getL_nil _) hpl]
    cases hb : bs with
    | nil =>
      simp
      exact hN _ ls here _ _ (hI3.pre (List.prefix_append _ _)) (by omega)
    | cons b0 bs0 =>
      rw [← hb]
      have hbe : (bs.map someV).isEmpty = false := by rw [hb]; rfl
      have hpos : 0 < bs.length := by rw [hb]; simp
      simp [hbe, g4]
      refine (takenO (k := (bs.length : Int)) (hI3.pre (List.prefix_append _ _)).row (by omega) (by omega)).use fun v M5 hv => ?_
      obtain ⟨q, ev, q0, q1, r5, k5, l5⟩ := hv
      subst ev
      have g5 := k5.getL g4 hne1
      have hat : atI (bs.map someV) q = some (someV (bs[q.toNat]'(by omega))) := by
        rw [atI_of q0 (by simpa using q1)]; simp
      generalize bs[q.toNat]'(by omega) = c at hat
      have I5 := (hI3.pre (List.prefix_append _ _)).kp r5 k5
      simp [g5, hat, someV, I5.at_]
      refine ⟨by omega, ?_⟩
      exact hN _ _ _ _ _ (I5.push (l := [(c.2.1 : Int), c.2.2]) (by simp)) (by simp)

theorem cutTo (xs : List Val) (k : Int) (h : 0 ≤ k) : cutL xs none (some k) = xs.take k.toNat := by
  obtain ⟨q, rfl⟩ := Int.eq_ofNat_of_zero_le h
  exact cutL_to xs q
theorem cutFrom (xs : List Val) (k : Int) (h : 0 ≤ k) : cutL xs (some k) none = xs.drop k.toNat := by
  obtain ⟨q, rfl⟩ := Int.eq_ofNat_of_zero_le h
  exact cutL_from xs q
theorem faultR_same (M : Mem) (ss : List Street) (ls : List (List Int)) : Same M 6 (faultR ss ls) (faultR ss ls) := by
  have two : ∀ (z : Str) (k : Int), Same M 6 (.tup [.str z, .int k]) (.tup [.str z, .int k]) := fun z k => by
    refine .inr ⟨_, _, .inl ⟨rfl, rfl⟩, rfl, by simp, fun i u v hu hv => ?_⟩
    rw [hu] at hv
    cases hv
    match i, hu with
    | 0, hu => cases hu; exact .inl ⟨rfl, .inr (.inl ⟨_, rfl⟩)⟩
    | 1, hu => cases hu; exact .inl ⟨rfl, .inl ⟨_, rfl⟩⟩
  unfold faultR
  split
  · exact two _ _
  · split
    · refine .inr ⟨_, _, .inl ⟨rfl, rfl⟩, rfl, by simp, fun i u v hu hv => ?_⟩
      rw [hu] at hv
      cases hv
      match i, hu with
      | 0, hu => cases hu; exact .inl ⟨rfl, .inr (.inl ⟨_, rfl⟩)⟩
    · rw [lackR_eq]
      split
      · exact .inl ⟨rfl, .inr (.inr rfl)⟩
      · exact two _ _
def ShE (z : Option Val) (r : Nat) (e : Sl) : Prop := ∃ a2 a3 a4 a5 a6 a7 a8 a9 a10 a11 a12, e = [z, some (.loc r), a2, a3, a4, a5, a6, a7, a8, a9, a10, a11, a12, none, none, none, none]
theorem law_tail {M : Mem} {r st : Nat} {ls : List (List Int)} {n : Int} {ss : List Street} (h : TownOk n ss) (I : StI M r st ls) (hl : ls.length ≤ 20) {z a2 a4 a6 a7 a8 a9 a10 a11 a12 : Option Val} {N B C : Sl → Mem → Prop} {R : Val → Mem → Prop} {Es : Ex → Sl → Mem → Prop}
    (hN : ∀ e M', ShE z r e → RowAt M' r → N e M') :
    swp (t_law_3 [z, some (.loc r), a2, some (encT n ss), a4, some (.loc st), a6, a7, a8, a9, a10, a11, a12, none, none, none, none] M) N R B C Es := by
  simp
  refine (law_fault_spec h (.inr ⟨st, rfl, I.at_⟩) (by omega) I.w).use fun v M1 hv => ?_
  obtain ⟨ev, hp1⟩ := hv
  subst ev
  have I1 := I.pre hp1
  simp
  refine (fault_spec h (.inr ⟨st, rfl, I1.at_⟩) (by omega)).use fun v M2 hv => ?_
  obtain ⟨ev, hp2⟩ := hv
  subst ev
  simp
  refine (Oq.ofW (alike_spec 6 (faultR_same M2 ss ls)).h).use fun v M3 hv => ?_
  obtain ⟨ev, hp3⟩ := hv
  subst ev
  have I3 := (I1.pre hp2).pre hp3
  simp [I3.at_]
  refine (fault_spec h (x := .tup (ls.map stepV)) (.inl rfl) (by omega)).use fun v M4 hv => ?_
  obtain ⟨ev, hp4⟩ := hv
  subst ev
  simp
  refine (Oq.ofW (alike_spec 6 (faultR_same M4 ss ls)).h).use fun v M5 hv => ?_
  obtain ⟨ev, hp5⟩ := hv
  subst ev
  simp
  exact hN _ _ ⟨_, _, _, _, _, _, _, _, _, _, _, rfl⟩ ((I3.row.kp hp4).kp hp5)
theorem odd_at (m : Int) (q : Int) (h0 : 0 ≤ q) (h1 : q < 13) : ∃ l : List Int, l.length ≤ 3 ∧ atI [stepV [m, 0], stepV [-1, 0], stepV [0, 2], stepV [0, -1], stepV [m + 9, 1], stepV [0], stepV [0, 0, 0], stepV [], stepV [m, 1], stepV [-9, 1], stepV [0, 9], stepV [0, 1], stepV [0, 0]] q = some (stepV l) := by
  have : q = 0 ∨ q = 1 ∨ q = 2 ∨ q = 3 ∨ q = 4 ∨ q = 5 ∨ q = 6 ∨ q = 7 ∨ q = 8 ∨ q = 9 ∨ q = 10 ∨ q = 11 ∨ q = 12 := by omega
  rcases this with e | e | e | e | e | e | e | e | e | e | e | e | e <;> subst e <;> exact ⟨_, by simp, rfl⟩
def WkI (z a2 : Option Val) (r st : Nat) (n : Int) (ss : List Street) (a9 a10 a11 a12 : Option Val) (i : Nat) (e : Sl) (M' : Mem) : Prop :=
  ∃ ls here b6 b7 b8, StI M' r st ls ∧ ls.length ≤ i ∧ e = [z, some (.loc r), a2, some (encT n ss), some (.int here), some (.loc st), b6, b7, b8, a9, a10, a11, a12, none, none, none, none]
theorem law_body {M : Mem} {r : Nat} {n : Int} {ss : List Street} (h : TownOk n ss) (hr : RowAt M r) {z a2 a4 a5 a6 a7 a8 a9 a10 a11 a12 : Option Val} {N B C : Sl → Mem → Prop} {R : Val → Mem → Prop} {Es : Ex → Sl → Mem → Prop}
    (hN : ∀ e M', ShE z r e → RowAt M' r → N e M') :
    swp (t_law_9 [z, some (.loc r), a2, some (encT n ss), a4, a5, a6, a7, a8, a9, a10, a11, a12, none, none, none, none] M) N R B C Es := by
  have h0 := h.n0
  have h1 := h.n1
  simp [encT]
  refine (takenO hr (by omega) (by omega)).use fun v M1 hv => ?_
  obtain ⟨here, ev, _, _, r1, k1, l1⟩ := hv
  subst ev
  simp
  refine (takenO (r1.kp (List.prefix_append _ _)) (by omega) (by omega)).use fun v M2 hv => ?_
  obtain ⟨m, ev, m0, m1, r2, k2, l2⟩ := hv
  subst ev
  have hne : M1.length ≠ r := Nat.ne_of_gt r1.lt
  simp [-b_law_1_ap]
  refine ⟨by omega, ?_⟩
  refine o_for_rng (WkI z a2 r M1.length n ss a9 a10 a11 a12) ⟨[], _, _, _, _, ⟨r2, hne, by simpa using k2.getL (getL_nil _) hne, by simp⟩, Nat.le_refl _, rfl⟩ (fun i e M' hi hI => ?_) (fun e M' hI => ?_)
  · obtain ⟨ls, here, b6, b7, b8, I, hl, he⟩ := hI
    subst he
    simp [-b_law_1_ap]
    refine walk_body h I (by omega) fun M'' ls' here' b7 b8 I' hl' => ?_
    exact ⟨ls', here', _, _, _, I', by omega, rfl⟩
  · obtain ⟨ls, here, b6, b7, b8, I, hl, he⟩ := hI
    subst he
    have hl : ls.length ≤ 16 := by omega
    simp [encT, getL_app0, getL_appk]
    have I1 : ∀ t, StI (M' ++ t) r M1.length ls := fun t => I.pre (List.prefix_append _ _)
    refine (takenO (I1 _).row (by omega) (by omega)).use fun v M3 hv => ?_
    obtain ⟨c, ev, c0, c1, r3, k3, l3⟩ := hv
    subst ev
    have I3 := (I1 _).kp r3 k3
    have hg3 : getL M3 (M'.length + 2) = some [stepV [(ss.length : Int), 0], stepV [-1, 0], stepV [0, 2], stepV [0, -1], stepV [(ss.length : Int) + 9, 1], stepV [0], stepV [0, 0, 0], stepV [], stepV [(ss.length : Int), 1], stepV [-9, 1], stepV [0, 9], stepV [0, 1], stepV [0, 0]] :=
      k3.getL (by rw [getL_appk]; rfl) (by have := I.row.lt; omega)
    by_cases hc : c = 0
    · subst hc
      simp [-t_law_3_ap, I3.at_]
      refine (takenO I3.row (by omega) (by omega)).use fun v M4 hv => ?_
      obtain ⟨p, ev, p0, p1, r4, k4, l4⟩ := hv
      subst ev
      have I4 := I3.kp r4 k4
      have hg4 := k4.getL hg3 (by have := I.row.lt; omega)
      simp [-t_law_3_ap, I4.at_, cutTo _ _ p0]
      refine (takenO (r4.kp (List.prefix_append _ _)) (by omega) (by omega)).use fun v M5 hv => ?_
      obtain ⟨q, ev, q0, q1, r5, k5, l5⟩ := hv
      subst ev
      have I5 := (I4.pre (List.prefix_append _ _)).kp r5 k5
      have hg5 := k5.getL (getL_pre (List.prefix_append _ _) hg4) (by have := I.row.lt; omega)
      obtain ⟨lq, hq3, hq⟩ := odd_at (ss.length : Int) q q0 q1
      have hcut := k5.getL (getL_append_new M4 _) (Nat.ne_of_gt r4.lt)
      simp [-t_law_3_ap, I5.at_, hg5, hq, cutFrom _ _ p0, getL_pre (List.prefix_append _ _) hcut, getL_app0, getL_appk, getL_pre (List.prefix_append _ _) I5.at_]
      refine ⟨by omega, by omega, ?_⟩
      have hI6 : StI (M5 ++ [Cell.lst [stepV lq], Cell.lst (List.take p.toNat (List.map stepV ls) ++ [stepV lq]), Cell.lst (List.drop p.toNat (List.map stepV ls)), Cell.lst (List.take p.toNat (List.map stepV ls) ++ stepV lq :: List.drop p.toNat (List.map stepV ls))]) r (M5.length + 3) (ls.take p.toNat ++ lq :: ls.drop p.toNat) :=
        ⟨r5.kp (List.prefix_append _ _), by have := r5.lt; omega, by rw [getL_appk]; simp, fun l hl => by
          rcases List.mem_append.mp hl with hl | hl
          · exact I5.w l (List.mem_of_mem_take hl)
          · rcases List.mem_cons.mp hl with hl | hl
            · subst hl; omega
            · exact I5.w l (List.mem_of_mem_drop hl)⟩
      exact law_tail h hI6 (by simp; omega) hN
    · simp [hc, -t_law_3_ap]
      exact law_tail h I3 (by omega) hN

def LwI (z : Option Val) (r : Nat) (i : Nat) (e : Sl) (M : Mem) : Prop := ShE z r e ∧ RowAt M r
theorem pure_law : ∀ ns : List Int, ns.length ≤ 63 → ∃ M, F_law [.frz ns] [] = .ok (.bl true) M := by
  intro ns hns
  have key : Oq (F_law [.frz ns] []) (fun v _ => v = .bl true) := by
    constructor
    unfold F_law
    simp
    refine (Oq.ofW (row_spec (M := []) (ns := ns))).use fun v M1 hv => ?_
    obtain ⟨ev, r1, _⟩ := hv
    subst ev
    simp [-b_law_11_ap]
    refine o_for_rng (LwI (some (.frz ns)) 0) ⟨⟨_, _, _, _, _, _, _, _, _, _, _, rfl⟩, r1⟩ (fun i e M' hi hI => ?_) (fun e M' hI => ?_)
    · obtain ⟨⟨a2, a3, a4, a5, a6, a7, a8, a9, a10, a11, a12, he⟩, hr⟩ := hI
      subst he
      simp [-t_law_9_ap]
      refine (Oq.ofW (town_spec (cs := 5) (sn := 7) (kind := 2) hr (by decide) (by decide) (by decide) (by decide) (by decide) (by decide))).use fun v M2 hv => ?_
      obtain ⟨n, ss, ev, hT, _, _, _, r2, k2⟩ := hv
      subst ev
      simp [-t_law_9_ap]
      refine (takenO r2 (by decide) (by decide)).use fun v M3 hv => ?_
      obtain ⟨c, ev, c0, c1, r3, k3, l3⟩ := hv
      subst ev
      by_cases hc : c = 0
      · simp [hc, -t_law_9_ap]
        refine (Oq.ofW (joined_spec (cs := 4) (sn := 6) (kind := 2) r3 (by decide) (by decide) (by decide) (by decide) (by decide) (by decide)).h).use fun v M4 hv => ?_
        obtain ⟨n', ss', ev, hT', _, _, _, _, _, _, r4, k4⟩ := hv
        subst ev
        simp [-t_law_9_ap]
        exact law_body hT' r4 fun e M' h h' => ⟨h, h'⟩
      · simp [hc, -t_law_9_ap]
        exact law_body hT r3 fun e M' h h' => ⟨h, h'⟩
    · obtain ⟨⟨a2, a3, a4, a5, a6, a7, a8, a9, a10, a11, a12, he⟩, hr⟩ := hI
      simp
  obtain ⟨v, M, e, hv⟩ := key.get
  exact ⟨M, by rw [e, hv]⟩

end Lw
open PySem PySem.W PySem.Calls PyProof.Rows
set_option maxRecDepth 100000 in
set_option maxHeartbeats 0 in
theorem PySem.Challenge.cw_streetrounds_k08_rounds_judged_holds : PySem.Challenge.rw_streetrounds_k08_rounds_judged.Holds := by
  w_on; o_law
  refine HandSHeadRun.head_any (r := OpenLaw.row PySem.Challenge.rw_streetrounds_k08_rounds_judged) (q := view (OpenLaw.row PySem.Challenge.rw_streetrounds_k08_rounds_judged).prog [25]) (H := Lw.hkL) (ob := Lw.obL) (M := 30000) (loose := Lw.namesL) (d := HandSHeadRun.topDef (OpenLaw.row PySem.Challenge.rw_streetrounds_k08_rounds_judged).prog 25) (kwd := []) Lw.obL_eq
    (by kernel_rfl) (fun s => by kernel_rfl) Lw.runL (by kernel_rfl) (by kernel_rfl) (by kernel_rfl) (by rfl) (by first | assumption | decide +kernel) (by decide +kernel) ⟨rfl, rfl, rfl, rfl, rfl, by decide +kernel⟩ ?hw ?hc
  case hw => w_witness2
  case hc =>
    refine Sm.endAt (l := PySem.Challenge.rw_streetrounds_k08_rounds_judged) (n := 63) (k := 8) rfl (by decide) (by kernel_rfl) ⟨rfl, by decide, by decide⟩ Lw.pure_law ?_
    intro w mg fa h Y G hmg0
    obtain ⟨K, KX, c⟩ := Y
    have hmg : mg ("law" : PySem.Str) = some (.ref fa) := by
      have e : (HandSHeadRun.topDef (OpenLaw.row PySem.Challenge.rw_streetrounds_k08_rounds_judged).prog 25).name = ("law" : PySem.Str) := by kernel_rfl
      rw [← e]
      exact hmg0
    obtain ⟨fd, hb, hF⟩ := Lw.allL (P := (PySem.Challenge.rw_streetrounds_k08_rounds_judged).prog) (w := w) KX G hmg c
    exact ⟨K, fd, KX, hb, hF⟩
