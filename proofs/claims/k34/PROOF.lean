import PyProof.Rows.All
import Wide.All
import OpenK.AllK
import Wide.FinOn
import PySem.Challenge.RW_slipguard_k34_whole_measures_read
import HandS.ForMost
import HandS.Exc
import HandS.TryOnly
import HandS.ExcOwn
import HandS.WordsExc
import HandS.Evl
import HandS.Deep
import HandS.Lambda
import HandS.Text
import HandS.Style
import HandS.TupAny
import HandS.TupMul
import HandS.Replace
import HandS.StrMore
import HandS.ExcCtx
import HandS.Iter
import HandS.Zip
import KE.GoesNew
import HandS.Comp
import HandS.Rev
import HandS.Conv
import HandS.SetKeys
import HandS.SetFor
import HandS.TupSets
import KE.SortData
import HandS.HotCalls
import HandS.ExcIs
import HandS.EndTab
import PyProof.ReprRoads
import HandS.Wide
set_option Elab.async false
set_option linter.all false
set_option maxRecDepth 100000
/-! ## DL: Python defs as functions on plain data -/
namespace DL
open PySem PySem.Spec PyProof.Rows L2
open Evl (Ex)
abbrev D := PyData
abbrev Frg := PySem.W.Frag
abbrev St := L2.St

/-! ### data that stands in an abstract heap -/
mutual
inductive Rp (H : Hp) : V → D → Prop
  | non : Rp H .non .none
  | bl (b : Bool) : Rp H (.bl b) (.bool b)
  | int (i : Int) : Rp H (.int i) (.int i)
  | str (x : Str) : Rp H (.str x) (.str x)
  | lst {a : Addr} {xs : List V} {ds : List D} : H a = some (.lst xs) → RpAll H xs ds → Rp H (.ref a) (.list ds)
  | tup {a : Addr} {xs : List V} {ds : List D} : H a = some (.tup xs) → RpAll H xs ds → Rp H (.ref a) (.tuple ds)
inductive RpAll (H : Hp) : List V → List D → Prop
  | nil : RpAll H [] []
  | cons {v : V} {vs : List V} {d : D} {ds : List D} : Rp H v d → RpAll H vs ds → RpAll H (v :: vs) (d :: ds)
end
mutual
theorem Rp.mono {H H' : Hp} (e : Ex H H') : ∀ {d : D} {v : V}, Rp H v d → Rp H' v d
  | .none, _, h => by cases h; exact .non
  | .bool b, _, h => by cases h; exact .bl b
  | .int i, _, h => by cases h; exact .int i
  | .str x, _, h => by cases h; exact .str x
  | .list ds, _, h => by
    cases h with
    | lst a b => exact .lst (e _ _ a) (RpAll.mono e b)
  | .tuple ds, _, h => by
    cases h with
    | tup a b => exact .tup (e _ _ a) (RpAll.mono e b)
  | .dict _, _, h => by cases h
theorem RpAll.mono {H H' : Hp} (e : Ex H H') : ∀ {ds : List D} {vs : List V}, RpAll H vs ds → RpAll H' vs ds
  | [], _, h => by cases h; exact .nil
  | d :: ds, _, h => by
    cases h with
    | cons a b => exact .cons (Rp.mono e a) (RpAll.mono e b)
end
mutual
theorem Rp.dp {H : Hp} (K : Frg) : ∀ {d : D} {v : V}, Rp H v d → Dp K H v d
  | .none, _, h => by cases h; exact .non
  | .bool b, _, h => by cases h; exact .bl b
  | .int i, _, h => by cases h; exact .int i
  | .str x, _, h => by cases h; exact .str x
  | .list ds, _, h => by
    cases h with
    | lst a b => exact .lst (SqL.of a) (RpAll.dp K b)
  | .tuple ds, _, h => by
    cases h with
    | tup a b => exact .tup (SqT.of a) (RpAll.dp K b)
  | .dict _, _, h => by cases h
theorem RpAll.dp {H : Hp} (K : Frg) : ∀ {ds : List D} {vs : List V}, RpAll H vs ds → DpAll K H vs ds
  | [], _, h => by cases h; exact .nil
  | d :: ds, _, h => by
    cases h with
    | cons a b => exact .cons (Rp.dp K a) (RpAll.dp K b)
end
theorem RpAll.length {H : Hp} : ∀ {ds : List D} {vs : List V}, RpAll H vs ds → vs.length = ds.length
  | [], _, h => by cases h; rfl
  | d :: ds, _, h => by
    cases h with
    | cons a b => rw [List.length_cons, List.length_cons, RpAll.length b]
theorem RpAll.get {H : Hp} : ∀ {ds : List D} {vs : List V} {i : Nat} {d : D}, RpAll H vs ds → ds[i]? = some d → ∃ v, vs[i]? = some v ∧ Rp H v d
  | [], _, _, _, _, h => by simp at h
  | d :: ds, _, 0, _, h, e => by
    cases h with
    | cons a b =>
      rw [List.getElem?_cons_zero] at e
      cases e
      exact ⟨_, rfl, a⟩
  | d :: ds, _, i + 1, _, h, e => by
    cases h with
    | cons a b =>
      rw [List.getElem?_cons_succ] at e
      obtain ⟨v, h1, h2⟩ := RpAll.get b e
      exact ⟨v, by rw [List.getElem?_cons_succ]; exact h1, h2⟩
theorem RpAll.append {H : Hp} : ∀ {ds es : List D} {vs ws : List V}, RpAll H vs ds → RpAll H ws es → RpAll H (vs ++ ws) (ds ++ es)
  | [], _, _, _, h, k => by cases h; exact k
  | d :: ds, _, _, _, h, k => by
    cases h with
    | cons a b => exact .cons a (RpAll.append b k)
theorem RpAll.take {H : Hp} : ∀ {ds : List D} {vs : List V} (n : Nat), RpAll H vs ds → RpAll H (vs.take n) (ds.take n)
  | _, _, 0, _ => .nil
  | [], _, n + 1, h => by cases h; exact .nil
  | d :: ds, _, n + 1, h => by
    cases h with
    | cons a b => exact .cons a (RpAll.take n b)
theorem RpAll.drop {H : Hp} : ∀ {ds : List D} {vs : List V} (n : Nat), RpAll H vs ds → RpAll H (vs.drop n) (ds.drop n)
  | _, _, 0, h => h
  | [], _, n + 1, h => by cases h; exact .nil
  | d :: ds, _, n + 1, h => by
    cases h with
    | cons a b => exact RpAll.drop n b
theorem RpAll.set {H : Hp} {v : V} {d : D} (r : Rp H v d) : ∀ {ds : List D} {vs : List V} (n : Nat), RpAll H vs ds → RpAll H (vs.set n v) (ds.set n d)
  | [], _, n, h => by cases h; exact .nil
  | d :: ds, _, 0, h => by
    cases h with
    | cons a b => exact .cons r b
  | d :: ds, _, n + 1, h => by
    cases h with
    | cons a b => exact .cons a (RpAll.set r n b)
theorem RpAll.reverse {H : Hp} : ∀ {ds : List D} {vs : List V}, RpAll H vs ds → RpAll H vs.reverse ds.reverse
  | [], _, h => by cases h; exact .nil
  | d :: ds, _, h => by
    cases h with
    | cons a b => rw [List.reverse_cons, List.reverse_cons]; exact RpAll.append (RpAll.reverse b) (.cons a .nil)

/-! ### results, environments -/
/-- a variable: plain data; a list of one's own (s: the parameter that is changed in place) -/
inductive SV where
  | val (d : D)
  | own (s : Bool) (d : D)
  | seq (ds : List D)
abbrev Env := List (Option SV)
inductive R (α : Type) where
  | ok (a : α) (ρ : Env)
  | er (c : Str) (ρ : Env)
  | bad
abbrev M (α : Type) := Env → R α
def M.bind {α β : Type} (m : M α) (k : α → M β) : M β := fun ρ => match m ρ with
  | .ok a ρ' => k a ρ'
  | .er c ρ' => .er c ρ'
  | .bad => .bad
def M.pure {α : Type} (a : α) : M α := fun ρ => .ok a ρ
def M.bad {α : Type} : M α := fun _ => .bad
@[simp] theorem M.bind_def {α β : Type} (m : M α) (k : α → M β) (ρ : Env) : M.bind m k ρ = match m ρ with
  | .ok a ρ' => k a ρ'
  | .er c ρ' => .er c ρ'
  | .bad => .bad := rfl
@[simp] theorem M.pure_def {α : Type} (a : α) (ρ : Env) : M.pure a ρ = .ok a ρ := rfl
/-- a pure partial result -/
def opt {α : Type} : Option α → M α
  | some a => M.pure a
  | none => M.bad
@[simp] theorem opt_some {α : Type} (a : α) (ρ : Env) : opt (some a) ρ = .ok a ρ := rfl
@[simp] theorem opt_none {α : Type} (ρ : Env) : opt (none : Option α) ρ = .bad := rfl
inductive SR where
  | nx (ρ : Env)
  | rt (d : D) (ρ : Env)
  | bk (ρ : Env)
  | ct (ρ : Env)
  | er (c : Str) (ρ : Env)
  | bad
/-- a def's result -/
inductive Rz where
  | ok (d : D)
  | er (c : Str)
  | bad

/-! ### what an environment says of the slots and the heap -/
inductive OwnO (Fz : Hp) : HO → D → Prop
  | lst {vs : List V} {ds : List D} : RpAll Fz vs ds → OwnO Fz (.lst vs) (.list ds)
theorem OwnO.mono {F F' : Hp} (e : Ex F F') {o : HO} {d : D} (h : OwnO F o d) : OwnO F' o d := by
  cases h with
  | lst a => exact .lst (a.mono e)
/-- the known classes and functions; the tables of code objects -/
structure TbT where
  l : List (Addr × Str)
  o : Bool
structure KT where
  k : Frg
  t : TbT
structure Rl (K : KT) (P : Addr) (F0 B Fz H : Hp) (σ : St) (ρ : Env) : Prop where
  e0 : Ex F0 Fz
  ef : Ex Fz H
  eb : Ex B H
  fr : ∀ a, Fz a ≠ none → F0 a ≠ none ∨ B a = none
  len : ρ.length = σ.length
  val : ∀ (i : Nat) d, ρ[i]? = some (some (.val d)) → ∃ v, σ[i]? = some (some v) ∧ Rp Fz v d
  own : ∀ (i : Nat) s d, ρ[i]? = some (some (.own s d)) → ∃ p o, σ[i]? = some (some (.ref p)) ∧ (s = true → p = P) ∧ Fz p = none ∧ B p = none ∧ H p = some o ∧ OwnO Fz o d
  seq : ∀ (i : Nat) ds, ρ[i]? = some (some (.seq ds)) → ∃ a vs, σ[i]? = some (some (.ref a)) ∧ SqL K.k Fz a vs ∧ RpAll Fz vs ds
  ap : ∀ (i j : Nat) s t d e p, i ≠ j → ρ[i]? = some (some (.own s d)) → ρ[j]? = some (some (.own t e)) → σ[i]? = some (some (.ref p)) → σ[j]? = some (some (.ref p)) → False
  tab : LamX.Tabs K.t.l H
  nt : K.t.o = true → ∀ t ∈ K.t.l, Fz t.1 = none ∧ B t.1 = none
theorem tab_some {T : List (Addr × Str)} {H : Hp} {t : Addr × Str} (h : LamX.Tabs T H) (ht : t ∈ T) : ∃ ps, H t.1 = some (.tbl ps) := by
  obtain ⟨ps, h1, _⟩ := h t ht
  exact ⟨ps, h1⟩
theorem tab_ne {T : List (Addr × Str)} {H : Hp} {t : Addr × Str} {p : Addr} {vs : List V} (h : LamX.Tabs T H) (ht : t ∈ T) (hp : H p = some (.lst vs)) : t.1 ≠ p := fun e => by
  obtain ⟨ps, h1⟩ := tab_some h ht
  rw [e, hp] at h1
  cases h1
theorem nt_grow {T : List (Addr × Str)} {H Fz Fz' : Hp} {t : Addr × Str} (h : LamX.Tabs T H) (ht : t ∈ T) (hF : Fz t.1 = none) (nw : ∀ a, Fz' a ≠ none → Fz a ≠ none ∨ H a = none) : Fz' t.1 = none := by
  cases e : Fz' t.1 with
  | none => rfl
  | some u =>
    obtain ⟨ps, h1⟩ := tab_some h ht
    rcases nw t.1 (by rw [e]; exact nofun) with z | z
    · exact absurd hF z
    · rw [h1] at z; cases z
/-- a list changes: the tables stand -/
theorem tabs_keep {T : List (Addr × Str)} {H H' : Hp} {p : Addr} {vs : List V} (t : LamX.Tabs T H) (hp : H p = some (.lst vs)) (k : ∀ a u, a ≠ p → H a = some u → H' a = some u) : LamX.Tabs T H' := fun y hy => by
  obtain ⟨ps, h1, h2, h3⟩ := t y hy
  refine ⟨ps, k _ _ (fun z => ?_) h1, h2, fun pos cv hc => ?_⟩
  · rw [z, hp] at h1
    cases h1
  · obtain ⟨c, e1, e2⟩ := h3 pos cv hc
    refine ⟨c, e1, k _ _ (fun z => ?_) e2⟩
    rw [z, hp] at e2
    unfold LamX.CodeO at e2
    cases e2
theorem tabs_upd {T : List (Addr × Str)} {H : Hp} {p : Addr} {vs : List V} {o : HO} (t : LamX.Tabs T H) (hp : H p = some (.lst vs)) : LamX.Tabs T (upd H p o) := tabs_keep t hp fun a u ne e => by rw [upd_ne ne]; exact e

section
variable {K : KT} {P : Addr} {F0 B Fz H : Hp} {σ : St} {ρ : Env}
/-- the heap grows, what is known grows with it -/
theorem Rl.grow {Fz' H' : Hp} (r : Rl K P F0 B Fz H σ ρ) (eH : Ex H H') (eF : Ex Fz Fz') (eFH : Ex Fz' H') (nw : ∀ a, Fz' a ≠ none → Fz a ≠ none ∨ H a = none) : Rl K P F0 B Fz' H' σ ρ where
  e0 := r.e0.trans eF
  ef := eFH
  eb := r.eb.trans eH
  fr := fun a h => by
    rcases nw a h with q | q
    · exact r.fr a q
    · cases e : B a with
      | none => exact .inr rfl
      | some o => rw [r.eb a o e] at q; cases q
  len := r.len
  val := fun i d h => by
    obtain ⟨v, h1, h2⟩ := r.val i d h
    exact ⟨v, h1, h2.mono eF⟩
  own := fun i s d h => by
    obtain ⟨p, o, h1, h2, h3, h4, h5, h6⟩ := r.own i s d h
    refine ⟨p, o, h1, h2, ?_, h4, eH p o h5, h6.mono eF⟩
    cases e : Fz' p with
    | none => rfl
    | some u =>
      rcases nw p (by rw [e]; exact nofun) with q | q
      · exact absurd h3 q
      · rw [q] at h5; cases h5
  seq := fun i ds h => by
    obtain ⟨a, vs, h1, h2, h3⟩ := r.seq i ds h
    exact ⟨a, vs, h1, Evl.ex_l eF h2, h3.mono eF⟩
  ap := r.ap
  tab := r.tab.ext eH
  nt := fun ho t ht => ⟨nt_grow r.tab ht (r.nt ho t ht).1 nw, (r.nt ho t ht).2⟩
theorem Rl.heap {H' : Hp} (r : Rl K P F0 B Fz H σ ρ) (eH : Ex H H') : Rl K P F0 B Fz H' σ ρ := r.grow eH (Ex.refl _) (r.ef.trans eH) fun _ h => .inl h
/-- a new object, known from now on -/
theorem Rl.new {p : Addr} {o : HO} (r : Rl K P F0 B Fz H σ ρ) (hp : H p = none) : Rl K P F0 B (upd Fz p o) (upd H p o) σ ρ := by
  have hF : Fz p = none := Evl.fresh_back r.ef hp
  refine r.grow (Ex.new hp) (Ex.new hF) (fun a u e => ?_) fun a h => ?_
  · by_cases ea : a = p
    · subst ea; rw [upd_same] at e ⊢; exact e
    · rw [upd_ne ea] at e ⊢; exact r.ef a u e
  · by_cases ea : a = p
    · subst ea; exact .inr hp
    · rw [upd_ne ea] at h; exact .inl h
theorem Rl.newF {p : Addr} {o : HO} (r : Rl K P F0 B Fz H σ ρ) (hp : H p = none) : Ex Fz (upd Fz p o) := Ex.new (Evl.fresh_back r.ef hp)
/-- another view of what must stay -/
theorem Rl.base {F0' B' : Hp} (r : Rl K P F0 B Fz H σ ρ) (e0 : Ex F0' Fz) (eb : Ex B' H) (fr : ∀ a, Fz a ≠ none → F0' a ≠ none ∨ B' a = none)
    (hb : ∀ (i : Nat) s d p, ρ[i]? = some (some (.own s d)) → σ[i]? = some (some (.ref p)) → B' p = none) (hnt : K.t.o = true → ∀ t ∈ K.t.l, B' t.1 = none) : Rl K P F0' B' Fz H σ ρ :=
  ⟨e0, r.ef, eb, fr, r.len, r.val, fun i s d h => by
    obtain ⟨p, o, h1, h2, h3, h4, h5, h6⟩ := r.own i s d h
    exact ⟨p, o, h1, h2, h3, hb i s d p h h1, h5, h6⟩, r.seq, r.ap, r.tab, fun ho t ht => ⟨(r.nt ho t ht).1, hnt ho t ht⟩⟩
/-- forgetting -/
theorem Rl.weak {σ' : St} {ρ' : Env} (r : Rl K P F0 B Fz H σ ρ) (hl : ρ'.length = σ'.length) (h1 : ∀ (i : Nat) s, ρ'[i]? = some (some s) → ρ[i]? = some (some s) ∧ σ'[i]? = σ[i]?) : Rl K P F0 B Fz H σ' ρ' where
  e0 := r.e0
  ef := r.ef
  eb := r.eb
  fr := r.fr
  len := hl
  val := fun i d h => by
    obtain ⟨a, b⟩ := h1 i _ h
    rw [b]; exact r.val i d a
  own := fun i s d h => by
    obtain ⟨a, b⟩ := h1 i _ h
    rw [b]; exact r.own i s d a
  seq := fun i ds h => by
    obtain ⟨a, b⟩ := h1 i _ h
    rw [b]; exact r.seq i ds a
  ap := fun i j s t d e p hij hi hj h2 h3 => by
    obtain ⟨a1, b1⟩ := h1 i _ hi
    obtain ⟨a2, b2⟩ := h1 j _ hj
    rw [b1] at h2
    rw [b2] at h3
    exact r.ap i j s t d e p hij a1 a2 h2 h3
  tab := r.tab
  nt := r.nt
theorem set_get {α : Type} {l : List (Option α)} {i j : Nat} {x y : Option α} (h : (l.set i x)[j]? = some y) : (j = i ∧ y = x) ∨ (j ≠ i ∧ l[j]? = some y) := by
  by_cases e : j = i
  · subst e
    by_cases hl : j < l.length
    · rw [List.getElem?_set_self hl] at h
      exact .inl ⟨rfl, (Option.some.inj h).symm⟩
    · rw [List.getElem?_eq_none (by rw [List.length_set]; omega)] at h
      cases h
  · rw [List.getElem?_set_ne (Ne.symm e)] at h
    exact .inr ⟨e, h⟩
/-- a slot is given known data -/
theorem Rl.setVal {i : Nat} {v : V} {d : D} (r : Rl K P F0 B Fz H σ ρ) (h : Rp Fz v d) : Rl K P F0 B Fz H (σ.set i (some v)) (ρ.set i (some (.val d))) where
  e0 := r.e0
  ef := r.ef
  eb := r.eb
  fr := r.fr
  len := by rw [List.length_set, List.length_set, r.len]
  val := fun j e hj => by
    rcases set_get hj with ⟨rfl, q⟩ | ⟨ne, q⟩
    · have q' : e = d := by
        have := Option.some.inj q
        injection this
      subst q'
      have hl : j < σ.length := by
        rw [← r.len]
        have := (List.getElem?_eq_some_iff.mp hj).1
        rwa [List.length_set] at this
      exact ⟨v, by rw [List.getElem?_set_self hl], h⟩
    · obtain ⟨w, h1, h2⟩ := r.val j e q
      exact ⟨w, by rw [List.getElem?_set_ne (Ne.symm ne)]; exact h1, h2⟩
  own := fun j s e hj => by
    rcases set_get hj with ⟨rfl, q⟩ | ⟨ne, q⟩
    · cases q
    · obtain ⟨p, o, h1, h2⟩ := r.own j s e q
      exact ⟨p, o, by rw [List.getElem?_set_ne (Ne.symm ne)]; exact h1, h2⟩
  seq := fun j ds hj => by
    rcases set_get hj with ⟨rfl, q⟩ | ⟨ne, q⟩
    · cases q
    · obtain ⟨a, vs, h1, h2⟩ := r.seq j ds q
      exact ⟨a, vs, by rw [List.getElem?_set_ne (Ne.symm ne)]; exact h1, h2⟩
  ap := fun a b s t d e p hab ha hb h1 h2 => by
    rcases set_get ha with ⟨rfl, q⟩ | ⟨na, q⟩
    · cases q
    · rcases set_get hb with ⟨rfl, q2⟩ | ⟨nb, q2⟩
      · cases q2
      · rw [List.getElem?_set_ne (Ne.symm na)] at h1
        rw [List.getElem?_set_ne (Ne.symm nb)] at h2
        exact r.ap a b s t d e p hab q q2 h1 h2
  tab := r.tab
  nt := r.nt
/-- a slot is given an object of its own -/
theorem Rl.setOwn {i : Nat} {p : Addr} {o : HO} {d : D} (r : Rl K P F0 B Fz H σ ρ) (hf : Fz p = none) (hb : B p = none) (ho : H p = some o) (hd : OwnO Fz o d)
    (hn : ∀ (j : Nat) s e, ρ[j]? = some (some (.own s e)) → σ[j]? ≠ some (some (.ref p))) : Rl K P F0 B Fz H (σ.set i (some (.ref p))) (ρ.set i (some (.own false d))) where
  e0 := r.e0
  ef := r.ef
  eb := r.eb
  fr := r.fr
  len := by rw [List.length_set, List.length_set, r.len]
  val := fun j e hj => by
    rcases set_get hj with ⟨rfl, q⟩ | ⟨ne, q⟩
    · cases q
    · obtain ⟨w, h1, h2⟩ := r.val j e q
      exact ⟨w, by rw [List.getElem?_set_ne (Ne.symm ne)]; exact h1, h2⟩
  own := fun j s e hj => by
    rcases set_get hj with ⟨rfl, q⟩ | ⟨ne, q⟩
    · have hl : j < σ.length := by
        rw [← r.len]
        have := (List.getElem?_eq_some_iff.mp hj).1
        rwa [List.length_set] at this
      injection q with q
      injection q with q1 q2
      subst q1 q2
      exact ⟨p, o, by rw [List.getElem?_set_self hl], nofun, hf, hb, ho, hd⟩
    · obtain ⟨p, o, h1, h2⟩ := r.own j s e q
      exact ⟨p, o, by rw [List.getElem?_set_ne (Ne.symm ne)]; exact h1, h2⟩
  seq := fun j ds hj => by
    rcases set_get hj with ⟨rfl, q⟩ | ⟨ne, q⟩
    · cases q
    · obtain ⟨a, vs, h1, h2⟩ := r.seq j ds q
      exact ⟨a, vs, by rw [List.getElem?_set_ne (Ne.symm ne)]; exact h1, h2⟩
  ap := fun a b s t d' e' q hab ha hb' h1 h2 => by
    rcases set_get ha with ⟨rfl, e1⟩ | ⟨na, e1⟩
    · rcases set_get hb' with ⟨rfl, e2⟩ | ⟨nb, e2⟩
      · exact hab rfl
      · rcases set_get h1 with ⟨_, z⟩ | ⟨nz, z⟩
        · rw [List.getElem?_set_ne (Ne.symm nb)] at h2
          cases z
          exact hn b t e' e2 h2
        · exact nz rfl
    · rcases set_get hb' with ⟨rfl, e2⟩ | ⟨nb, e2⟩
      · rcases set_get h2 with ⟨_, z⟩ | ⟨nz, z⟩
        · rw [List.getElem?_set_ne (Ne.symm na)] at h1
          cases z
          exact hn a s d' e1 h1
        · exact nz rfl
      · rw [List.getElem?_set_ne (Ne.symm na)] at h1
        rw [List.getElem?_set_ne (Ne.symm nb)] at h2
        exact r.ap a b s t d' e' q hab e1 e2 h1 h2
  tab := r.tab
  nt := r.nt
/-- an object of one's own is changed -/
theorem Rl.mut {i : Nat} {p : Addr} {s : Bool} {d d' : D} {o' : HO} (r : Rl K P F0 B Fz H σ ρ) (hi : ρ[i]? = some (some (.own s d))) (hp : σ[i]? = some (some (.ref p))) (ho : OwnO Fz o' d') :
    Rl K P F0 B Fz (upd H p o') σ (ρ.set i (some (.own s d'))) := by
  obtain ⟨p', o, h1, h2, h3, h4, h5, h6⟩ := r.own i s d hi
  rw [hp] at h1
  cases h1
  have il : i < ρ.length := (List.getElem?_eq_some_iff.mp hi).1
  refine ⟨r.e0, ?_, ?_, r.fr, by rw [List.length_set, r.len], fun j e hj => ?_, fun j t e hj => ?_, fun j e hj => ?_, fun a b s' t d1 e1 q hab ha hb e2 e3 => ?_, by cases h6 with | lst _ => exact tabs_upd r.tab h5, r.nt⟩
  · exact Ex.mut r.ef h3
  · exact Ex.mut r.eb h4
  · rcases set_get hj with ⟨rfl, q⟩ | ⟨ne, q⟩
    · cases q
    · exact r.val j e q
  · rcases set_get hj with ⟨rfl, q⟩ | ⟨ne, q⟩
    · injection q with q
      injection q with q1 q2
      subst q1 q2
      exact ⟨p, o', hp, h2, h3, h4, upd_same, ho⟩
    · obtain ⟨p2, o2, k1, k2, k3, k4, k5, k6⟩ := r.own j t e q
      refine ⟨p2, o2, k1, k2, k3, k4, ?_, k6⟩
      rw [upd_ne]
      · exact k5
      · rintro rfl
        exact r.ap j i t s e d p2 ne q hi k1 hp
  · rcases set_get hj with ⟨rfl, q⟩ | ⟨ne, q⟩
    · cases q
    · exact r.seq j e q
  · have back : ∀ {c : Nat} {u : Bool} {f : D}, (ρ.set i (some (SV.own s d')))[c]? = some (some (.own u f)) → ∃ u' f', ρ[c]? = some (some (.own u' f')) := fun {c u f} h => by
      rcases set_get h with ⟨rfl, q⟩ | ⟨ne, q⟩
      · exact ⟨s, d, hi⟩
      · exact ⟨u, f, q⟩
    obtain ⟨u1, f1, b1⟩ := back ha
    obtain ⟨u2, f2, b2⟩ := back hb
    exact r.ap a b u1 u2 f1 f2 q hab b1 b2 e2 e3
/-- an object of one's own is given away: it is known from now on and changes no more -/
theorem Rl.freeze {i : Nat} {ds : List D} {s : Bool} (r : Rl K P F0 B Fz H σ ρ) (hi : ρ[i]? = some (some (.own s (.list ds)))) : ∃ Fz', Ex Fz Fz' ∧ Rl K P F0 B Fz' H σ (ρ.set i (some (.val (.list ds)))) := by
  obtain ⟨p, o, h1, h2, h3, h4, h5, h6⟩ := r.own i s _ hi
  cases h6 with
  | @lst vs _ hv =>
    have eF : Ex Fz (upd Fz p (.lst vs)) := Ex.new h3
    refine ⟨upd Fz p (.lst vs), eF, r.e0.trans eF, fun a u e => ?_, r.eb, fun a h => ?_, by rw [List.length_set, r.len], fun j e hj => ?_, fun j t e hj => ?_, fun j e hj => ?_, fun a b s' t d1 e1 q hab ha hb e2 e3 => ?_, r.tab, fun ho t ht => ⟨by rw [upd_ne (tab_ne r.tab ht h5)]; exact (r.nt ho t ht).1, (r.nt ho t ht).2⟩⟩
    · by_cases ea : a = p
      · subst ea; rw [upd_same] at e; rw [h5]; exact e
      · rw [upd_ne ea] at e; exact r.ef a u e
    · by_cases ea : a = p
      · subst ea; exact .inr h4
      · rw [upd_ne ea] at h; exact r.fr a h
    · rcases set_get hj with ⟨rfl, q⟩ | ⟨ne, q⟩
      · injection q with q
        injection q with q
        subst q
        exact ⟨.ref p, h1, .lst upd_same (hv.mono eF)⟩
      · obtain ⟨w, k1, k2⟩ := r.val j e q
        exact ⟨w, k1, k2.mono eF⟩
    · rcases set_get hj with ⟨rfl, q⟩ | ⟨ne, q⟩
      · cases q
      · obtain ⟨p2, o2, k1, k2, k3, k4, k5, k6⟩ := r.own j t e q
        refine ⟨p2, o2, k1, k2, ?_, k4, k5, k6.mono eF⟩
        rw [upd_ne]
        · exact k3
        · rintro rfl
          exact r.ap j i t s e _ p2 ne q hi k1 h1
    · rcases set_get hj with ⟨rfl, q⟩ | ⟨ne, q⟩
      · cases q
      · obtain ⟨a, ws, k1, k2, k3⟩ := r.seq j e q
        exact ⟨a, ws, k1, Evl.ex_l eF k2, k3.mono eF⟩
    · rcases set_get ha with ⟨rfl, z⟩ | ⟨na, z⟩
      · cases z
      · rcases set_get hb with ⟨rfl, z2⟩ | ⟨nb, z2⟩
        · cases z2
        · exact r.ap a b s' t d1 e1 q hab z z2 e2 e3
end

/-! ### the readings -/
section
variable (K : KT) (mg : Str → Option Value) (W : WX)
/-- an exception leaves -/
def Er (P : Addr) (F0 B Fz : Hp) (σ : St) (c : Str) (ρ : Env) : Prop := ∀ H' Fz' C, Rl K P F0 B Fz' H' σ ρ → Ex Fz Fz' → mg c = some (.ref C) → W (.ref C) none σ H'
/-- what a result leads to; T: what is wanted of it -/
def Po {α : Type} (P : Addr) (F0 B : Hp) (σ : St) (Fz : Hp) (x : R α) (T : α → Env → Hp → Hp → Prop) : Prop := match x with
  | .ok a ρ' => ∀ H' Fz', Rl K P F0 B Fz' H' σ ρ' → Ex Fz Fz' → T a ρ' H' Fz'
  | .er c ρ' => Er K mg W P F0 B Fz σ c ρ'
  | .bad => False
/-- an expression -/
def tD (f : M D) : TE := fun σ H Q => ∃ P F0 B Fz ρ, Rl K P F0 B Fz H σ ρ ∧ Po K mg W P F0 B σ Fz (f ρ) fun d _ H' Fz' => ∀ v, Rp Fz' v d → Q v H'
/-- an expression that makes a new list -/
def tN (f : M (List D)) : TE := fun σ H Q => ∃ P F0 B Fz ρ, Rl K P F0 B Fz H σ ρ ∧ Po K mg W P F0 B σ Fz (f ρ) fun ds ρ' H' Fz' => ∀ p vs, Fz' p = none → B p = none → H' p = some (.lst vs) → RpAll Fz' vs ds →
      (∀ (j : Nat) s e, ρ'[j]? = some (some (.own s e)) → σ[j]? ≠ some (some (.ref p))) → Q (.ref p) H'
/-- arguments -/
def tA (f : M (List D)) : TA := fun σ H Q => ∃ P F0 B Fz ρ, Rl K P F0 B Fz H σ ρ ∧ Po K mg W P F0 B σ Fz (f ρ) fun ds _ H' Fz' => ∀ vs, RpAll Fz' vs ds → Q vs H'
/-- a test -/
def tTs (f : M Bool) : TT := fun σ H Q => ∃ P F0 B Fz ρ, Rl K P F0 B Fz H σ ρ ∧ Po K mg W P F0 B σ Fz (f ρ) fun b _ H' _ => Q b H'
/-- what a statement's result leads to -/
def So (P : Addr) (F0 B Fz : Hp) (x : SR) (Dn : Ends) : Prop := match x with
  | .nx ρ' => ∀ σ' H' Fz', Rl K P F0 B Fz' H' σ' ρ' → Ex Fz Fz' → Dn.nx σ' H'
  | .bk ρ' => ∀ σ' H' Fz', Rl K P F0 B Fz' H' σ' ρ' → Ex Fz Fz' → Dn.bk σ' H'
  | .ct ρ' => ∀ σ' H' Fz', Rl K P F0 B Fz' H' σ' ρ' → Ex Fz Fz' → Dn.ct σ' H'
  | .rt d ρ' => ∀ v σ' H' Fz', Rl K P F0 B Fz' H' σ' ρ' → Ex Fz Fz' → Rp Fz' v d → Dn.rt v H'
  | .er c ρ' => ∀ σ', Er K mg W P F0 B Fz σ' c ρ'
  | .bad => False
/-- a statement -/
def tS (f : Env → SR) : TS := fun Dn σ H => ∃ P F0 B Fz ρ, Rl K P F0 B Fz H σ ρ ∧ So K mg W P F0 B Fz (f ρ) Dn
end
section
variable {K : KT} {mg : Str → Option Value} {W : WX} {P : Addr} {F0 B Fz Fz' H : Hp} {σ : St} {ρ : Env}
theorem Er.mono {c : Str} (h : Er K mg W P F0 B Fz σ c ρ) (e : Ex Fz Fz') : Er K mg W P F0 B Fz' σ c ρ := fun H' F' C r e' hm => h H' F' C r (e.trans e') hm
theorem Po.imp {α : Type} {x : R α} {T T' : α → Env → Hp → Hp → Prop} (h : Po K mg W P F0 B σ Fz x T) (i : ∀ a ρ' H' Fz', Rl K P F0 B Fz' H' σ ρ' → Ex Fz Fz' → T a ρ' H' Fz' → T' a ρ' H' Fz') : Po K mg W P F0 B σ Fz x T' := by
  cases x with
  | ok a ρ' => exact fun H' Fz' r e => i a ρ' H' Fz' r e (h H' Fz' r e)
  | er c ρ' => exact h
  | bad => exact h
theorem Po.mono {α : Type} {x : R α} {T : α → Env → Hp → Hp → Prop} (h : Po K mg W P F0 B σ Fz x T) (e : Ex Fz Fz') : Po K mg W P F0 B σ Fz' x T := by
  cases x with
  | ok a ρ' => exact fun H' F' r e' => h H' F' r (e.trans e')
  | er c ρ' => exact Er.mono h e
  | bad => exact h
theorem Po.bind {α β : Type} {m : M α} {k : α → M β} {T : β → Env → Hp → Hp → Prop} (h : Po K mg W P F0 B σ Fz (M.bind m k ρ) T) : Po K mg W P F0 B σ Fz (m ρ) fun a ρ' H' Fz' => Po K mg W P F0 B σ Fz' (k a ρ') T := by
  rw [M.bind_def] at h
  cases e : m ρ with
  | ok a ρ' =>
    rw [e] at h
    exact fun H' Fz' r e' => h.mono e'
  | er c ρ' => rw [e] at h; exact h
  | bad => rw [e] at h; exact h
theorem Po.now {α : Type} {a : α} {T : α → Env → Hp → Hp → Prop} (h : Po K mg W P F0 B σ Fz (.ok a ρ) T) (r : Rl K P F0 B Fz H σ ρ) : T a ρ H Fz := h H Fz r (Ex.refl _)
/-- a pure result -/
theorem Po.opt {α : Type} {o : Option α} {T : α → Env → Hp → Hp → Prop} (h : Po K mg W P F0 B σ Fz (opt o ρ) T) : ∃ a, o = some a ∧ ∀ H' Fz', Rl K P F0 B Fz' H' σ ρ → Ex Fz Fz' → T a ρ H' Fz' := by
  cases o with
  | none => exact h.elim
  | some a => exact ⟨a, rfl, h⟩
theorem So.mono {x : SR} {Dn : Ends} (h : So K mg W P F0 B Fz x Dn) (e : Ex Fz Fz') : So K mg W P F0 B Fz' x Dn := by
  cases x with
  | nx ρ' => exact fun σ' H' F' r e' => h σ' H' F' r (e.trans e')
  | bk ρ' => exact fun σ' H' F' r e' => h σ' H' F' r (e.trans e')
  | ct ρ' => exact fun σ' H' F' r e' => h σ' H' F' r (e.trans e')
  | rt d ρ' => exact fun v σ' H' F' r e' => h v σ' H' F' r (e.trans e')
  | er c ρ' => exact fun σ' => (h σ').mono e
  | bad => exact h
end
abbrev DE (Tb : TbT) (X : Cx) (W : WX) (e : Expr) (f : M D) : Prop := PE X e (tD (KT.mk X.K Tb) X.mg W f)
abbrev DN (Tb : TbT) (X : Cx) (W : WX) (e : Expr) (f : M (List D)) : Prop := PE X e (tN (KT.mk X.K Tb) X.mg W f)
structure DA (Tb : TbT) (X : Cx) (W : WX) (es : List Expr) (f : M (List D)) : Prop where
  pa : PA X es (tA (KT.mk X.K Tb) X.mg W f)
  len : ∀ ρ ds ρ', f ρ = .ok ds ρ' → ds.length = es.length
abbrev DT (Tb : TbT) (X : Cx) (W : WX) (e : Expr) (f : M Bool) : Prop := PT X e (tTs (KT.mk X.K Tb) X.mg W f)
abbrev DW (Tb : TbT) (X : Cx) (W : WX) (e : Expr) (f : M Bool) : Prop := PW X e (tTs (KT.mk X.K Tb) X.mg W f)
abbrev DS (Tb : TbT) (X : Cx) (W : WX) (s : Stmt) (f : Env → SR) : Prop := PS X s (tS (KT.mk X.K Tb) X.mg W f)
abbrev DSs (Tb : TbT) (X : Cx) (W : WX) (s : List Stmt) (f : Env → SR) : Prop := PSs X s (tS (KT.mk X.K Tb) X.mg W f)

section
variable {Tb : TbT} {X : Cx} {W : WX}
theorem pe_imp {e : Expr} {t t' : TE} (h : PE X e t) (i : ∀ σ H Q, t' σ H Q → t σ H Q) : PE X e t' := ⟨fun pins s σ H Q I hq => h.run pins s σ H Q I (i σ H Q hq)⟩
theorem pt_imp {e : Expr} {t t' : TT} (h : PT X e t) (i : ∀ σ H Q, t' σ H Q → t σ H Q) : PT X e t' := ⟨fun pins s σ H Q I hq => h.run pins s σ H Q I (i σ H Q hq)⟩
theorem pw_imp {e : Expr} {t t' : TT} (h : PW X e t) (i : ∀ σ H Q, t' σ H Q → t σ H Q) : PW X e t' := ⟨fun wh pins s σ H Q I hq => h.run wh pins s σ H Q I (i σ H Q hq)⟩
theorem pa_imp {e : List Expr} {t t' : TA} (h : PA X e t) (i : ∀ σ H Q, t' σ H Q → t σ H Q) : PA X e t' := ⟨fun pos pins s σ H Q I hq => h.run pos pins s σ H Q I (i σ H Q hq)⟩
theorem ps_imp {e : Stmt} {t t' : TS} (h : PS X e t) (i : ∀ D σ H, t' D σ H → t D σ H) : PS X e t' := ⟨fun pins s σ H D I hq => h.run pins s σ H D I (i D σ H hq)⟩
theorem pss_imp {e : List Stmt} {t t' : TS} (h : PSs X e t) (i : ∀ D σ H, t' D σ H → t D σ H) : PSs X e t' := ⟨fun pins s σ H D I hq => h.run pins s σ H D I (i D σ H hq)⟩
end
end DL

/-! ## DL2: expressions -/
namespace DL
open PySem PySem.Spec PyProof.Rows L2
open Evl (Ex)

/-! ### values out of operations -/
/-- nothing but new objects becomes known -/
def Nw (Fz H Fz' : Hp) : Prop := ∀ a, Fz' a ≠ none → Fz a ≠ none ∨ H a = none
def Out (Fz H : Hp) (d : D) (Q : VK) : Prop := ∀ v H' Fz', Ex H H' → Ex Fz Fz' → Ex Fz' H' → Nw Fz H Fz' → Rp Fz' v d → Q v H'
def OutN (Fz H : Hp) (ds : List D) (Q : VK) : Prop := ∀ p vs H' Fz', Ex H H' → Ex Fz Fz' → Ex Fz' H' → Nw Fz H Fz' → H p = none → Fz' p = none → H' p = some (.lst vs) → RpAll Fz' vs ds → Q (.ref p) H'
theorem Nw.refl {Fz H : Hp} : Nw Fz H Fz := fun _ h => .inl h
theorem Nw.new {Fz H : Hp} {p : Addr} {o : HO} (hp : H p = none) : Nw Fz H (upd Fz p o) := fun a h => by
  by_cases e : a = p
  · subst e; exact .inr hp
  · rw [upd_ne e] at h; exact .inl h
theorem ex_upd2 {Fz H : Hp} {p : Addr} {o : HO} (e : Ex Fz H) : Ex (upd Fz p o) (upd H p o) := fun a u h => by
  by_cases ea : a = p
  · subst ea; rw [upd_same] at h ⊢; exact h
  · rw [upd_ne ea] at h ⊢; exact e a u h
theorem Out.here {Fz H : Hp} {d : D} {Q : VK} {v : V} (h : Out Fz H d Q) (e : Ex Fz H) (r : Rp Fz v d) : Q v H := h v H Fz (Ex.refl _) (Ex.refl _) e Nw.refl r
theorem Out.tup {Fz H : Hp} {ds : List D} {Q : VK} {vs : List V} {p : Addr} (h : Out Fz H (.tuple ds) Q) (e : Ex Fz H) (hp : H p = none) (r : RpAll Fz vs ds) : Q (.ref p) (upd H p (.tup vs)) :=
  h (.ref p) _ (upd Fz p (.tup vs)) (Ex.new hp) (Ex.new (Evl.fresh_back e hp)) (ex_upd2 e) (Nw.new hp) (.tup upd_same (r.mono (Ex.new (Evl.fresh_back e hp))))
theorem Out.lst {Fz H : Hp} {ds : List D} {Q : VK} {vs : List V} {p : Addr} (h : Out Fz H (.list ds) Q) (e : Ex Fz H) (hp : H p = none) (r : RpAll Fz vs ds) : Q (.ref p) (upd H p (.lst vs)) :=
  h (.ref p) _ (upd Fz p (.lst vs)) (Ex.new hp) (Ex.new (Evl.fresh_back e hp)) (ex_upd2 e) (Nw.new hp) (.lst upd_same (r.mono (Ex.new (Evl.fresh_back e hp))))
theorem OutN.here {Fz H : Hp} {ds : List D} {Q : VK} {vs : List V} {p : Addr} (h : OutN Fz H ds Q) (e : Ex Fz H) (hp : H p = none) (r : RpAll Fz vs ds) : Q (.ref p) (upd H p (.lst vs)) :=
  h p vs _ Fz (Ex.new hp) (Ex.refl _) (e.trans (Ex.new hp)) Nw.refl hp (Evl.fresh_back e hp) upd_same r
/-- a new list is as good as known -/
theorem Out.n {Fz H : Hp} {ds : List D} {Q : VK} (h : Out Fz H (.list ds) Q) : OutN Fz H ds Q := fun p vs H' Fz' e1 e2 e3 nw hp hf hl r =>
  h (.ref p) H' (upd Fz' p (.lst vs)) e1 (e2.trans (Ex.new hf)) (fun a u q => by
    by_cases ea : a = p
    · subst ea; rw [upd_same] at q; rw [hl]; exact q
    · rw [upd_ne ea] at q; exact e3 a u q) (fun a q => by
    by_cases ea : a = p
    · subst ea; exact .inr hp
    · rw [upd_ne ea] at q; exact nw a q) (.lst upd_same (r.mono (Ex.new hf)))

/-! ### operations by values -/
def rD (g : D → D → Option D) : R2 := fun x y H Q => ∃ Fz dx dy d, Ex Fz H ∧ Rp Fz x dx ∧ Rp Fz y dy ∧ g dx dy = some d ∧ Out Fz H d Q
abbrev OpD (X : Cx) (f : Value → Value → Sem Value) (g : D → D → Option D) : Prop := OpR X f (rD g)
def rUD (g : D → Option D) : V → Hp → VK → Prop := fun x H Q => ∃ Fz dx d, Ex Fz H ∧ Rp Fz x dx ∧ g dx = some d ∧ Out Fz H d Q
def rCD (g : List D → Option D) : List V → Hp → VK → Prop := fun xs H Q => ∃ Fz ds d, Ex Fz H ∧ RpAll Fz xs ds ∧ g ds = some d ∧ Out Fz H d Q
def rCN (g : List D → Option (List D)) : List V → Hp → VK → Prop := fun xs H Q => ∃ Fz ds d, Ex Fz H ∧ RpAll Fz xs ds ∧ g ds = some d ∧ OutN Fz H d Q
abbrev CallD (X : Cx) (f : Value) (g : List D → Option D) : Prop := CallR X f (rCD g)
abbrev CallN (X : Cx) (f : Value) (g : List D → Option (List D)) : Prop := CallR X f (rCN g)

theorem Rp.int_of {H : Hp} {v : V} {i : Int} (h : Rp H v (.int i)) : v = .int i := by cases h; rfl
theorem Rp.str_of {H : Hp} {v : V} {x : Str} (h : Rp H v (.str x)) : v = .str x := by cases h; rfl
theorem Rp.bl_of {H : Hp} {v : V} {b : Bool} (h : Rp H v (.bool b)) : v = .bl b := by cases h; rfl
theorem Rp.non_of {H : Hp} {v : V} (h : Rp H v .none) : v = .non := by cases h; rfl
theorem Rp.lst_of {H : Hp} {v : V} {ds : List D} (h : Rp H v (.list ds)) : ∃ a vs, v = .ref a ∧ H a = some (.lst vs) ∧ RpAll H vs ds := by
  cases h with
  | lst a b => exact ⟨_, _, rfl, a, b⟩
theorem Rp.tup_of {H : Hp} {v : V} {ds : List D} (h : Rp H v (.tuple ds)) : ∃ a vs, v = .ref a ∧ H a = some (.tup vs) ∧ RpAll H vs ds := by
  cases h with
  | tup a b => exact ⟨_, _, rfl, a, b⟩
theorem RpAll.one {H : Hp} {vs : List V} {d : D} (h : RpAll H vs [d]) : ∃ v, vs = [v] ∧ Rp H v d := by
  cases h with
  | cons a b => cases b; exact ⟨_, rfl, a⟩
theorem RpAll.two {H : Hp} {vs : List V} {d e : D} (h : RpAll H vs [d, e]) : ∃ v w, vs = [v, w] ∧ Rp H v d ∧ Rp H w e := by
  cases h with
  | cons a b =>
    obtain ⟨w, rfl, c⟩ := b.one
    exact ⟨_, _, rfl, a, c⟩

/-- how long a text or a list may be -/
abbrev lim : Nat := 1000000
theorem lim_ok {n : Nat} (h : n ≤ lim) : n ≤ sizeLine := Nat.le_trans h (by decide)
theorem lim_lt {n : Nat} (h : n < lim) : n < sizeLine := Nat.lt_of_lt_of_le h (by decide)

section
variable {X : Cx}
/-! ### + - * // % ** -/
def addD : D → D → Option D
  | .int i, .int j => some (.int (i + j))
  | .str a, .str b => if a.length + b.length ≤ lim then some (.str (a ++ b)) else none
  | .list xs, .list ys => if xs.length + ys.length ≤ lim then some (.list (xs ++ ys)) else none
  | .tuple (x :: xs), .tuple ys => if xs.length + 1 + ys.length ≤ lim then some (.tuple (x :: xs ++ ys)) else none
  | _, _ => none
theorem opd_add : OpD X (binaryOp .Add) addD := by
  intro pins s σ H x y v u Q I rx ry h
  obtain ⟨Fz, dx, dy, d, e, hx, hy, hg, o⟩ := h
  unfold addD at hg
  split at hg
  · cases hg
    cases hx.int_of
    cases hy.int_of
    exact op_add pins s σ H _ _ v u Q I rx ry ⟨_, _, rfl, rfl, o.here e (.int _)⟩
  · split at hg
    · rename_i hl
      cases hg
      cases hx.str_of
      cases hy.str_of
      exact op_add_str pins s σ H _ _ v u Q I rx ry ⟨_, _, rfl, rfl, lim_ok hl, o.here e (.str _)⟩
    · cases hg
  · split at hg
    · rename_i hl
      cases hg
      obtain ⟨a, vs, rfl, ha, hvs⟩ := hx.lst_of
      obtain ⟨b, ws, rfl, hb, hws⟩ := hy.lst_of
      exact op_cat pins s σ H _ _ v u Q I rx ry ⟨a, b, vs, ws, rfl, rfl, e _ _ ha, e _ _ hb, lim_ok (by rw [hvs.length, hws.length]; exact hl), fun p hp => o.lst e hp (hvs.append hws)⟩
    · cases hg
  · split at hg
    · rename_i hl
      cases hg
      obtain ⟨a, vs, rfl, ha, hvs⟩ := hx.tup_of
      obtain ⟨b, ws, rfl, hb, hws⟩ := hy.tup_of
      have hne : vs ≠ [] := by
        intro z
        subst z
        cases hvs
      refine op_catT pins s σ H _ _ v u Q I rx ry ⟨a, b, vs, ws, rfl, rfl, SqT.of (e _ _ ha), SqT.of (e _ _ hb), hne, lim_ok (by rw [hvs.length, hws.length]; exact hl), fun z => ?_, fun z p hp => o.tup e hp (hvs.append hws)⟩
      subst z
      cases hws
      rw [List.append_nil] at o
      exact o.here e (.tup ha hvs)
    · cases hg
  · cases hg
def subD : D → D → Option D
  | .int i, .int j => some (.int (i - j))
  | _, _ => none
theorem opd_sub : OpD X (binaryOp .Sub) subD := by
  intro pins s σ H x y v u Q I rx ry h
  obtain ⟨Fz, dx, dy, d, e, hx, hy, hg, o⟩ := h
  unfold subD at hg
  split at hg
  · cases hg
    cases hx.int_of
    cases hy.int_of
    exact op_sub pins s σ H _ _ v u Q I rx ry ⟨_, _, rfl, rfl, o.here e (.int _)⟩
  · cases hg
def mulOk (i j : Int) : Bool := decide (i.natAbs < 2 ^ 64) || decide (j.natAbs < 2 ^ 64)
theorem mulOk_ok {i j : Int} (h : mulOk i j = true) : CMul i j := by
  unfold mulOk at h
  rw [Bool.or_eq_true, decide_eq_true_eq, decide_eq_true_eq] at h
  unfold CMul
  rcases h with h | h
  · left; constructor <;> omega
  · right; constructor <;> omega
def mulD : D → D → Option D
  | .int i, .int j => if mulOk i j then some (.int (i * j)) else none
  | .list xs, .int k => if xs.length * k.toNat ≤ lim ∧ k.natAbs < 2 ^ 62 then some (.list ((List.replicate k.toNat xs).flatten)) else none
  | _, _ => none
theorem rpAll_rep {H : Hp} {vs : List V} {ds : List D} (h : RpAll H vs ds) : ∀ n, RpAll H (List.replicate n vs).flatten (List.replicate n ds).flatten
  | 0 => .nil
  | n + 1 => by
    rw [List.replicate_succ, List.replicate_succ, List.flatten_cons, List.flatten_cons]
    exact h.append (rpAll_rep h n)

def repS (x : Str) (k : Int) : Str := ⟨((List.replicate k.toNat x.cps.toList).flatten).toArray⟩
def mulD2 : D → D → Option D
  | .str x, .int k => if x.length * k.toNat ≤ lim ∧ 2 ≤ k ∧ k < 2 ^ 30 ∧ 0 < x.length then some (.str (repS x k)) else none
  | x, y => mulD x y
theorem foldl_app (x : Array Nat) : ∀ (n : Nat) (acc : Array Nat), (List.replicate n x).foldl (· ++ ·) acc = acc ++ ((List.replicate n x.toList).flatten).toArray
  | 0, acc => by simp
  | n + 1, acc => by
    rw [List.replicate_succ, List.foldl_cons, foldl_app x n, List.replicate_succ, List.flatten_cons]
    apply Array.ext'
    simp
theorem opd_mul : OpD X (binaryOp .Mult) mulD2 := by
  intro pins s σ H x y v u Q I rx ry h
  obtain ⟨Fz, dx, dy, d, e, hx, hy, hg, o⟩ := h
  unfold mulD2 at hg
  split at hg
  · split at hg
    · rename_i hl
      obtain ⟨h1, h2, h3, h4⟩ := hl
      cases hg
      cases hx.str_of
      cases hy.int_of
      obtain ⟨t, rfl⟩ := rx
      obtain ⟨t', rfl⟩ := ry
      rename_i x k
      have hlim : x.length * k.toNat ≤ 1000000 := h1
      refine PySem.P.mul_str ?_ (fun _ _ => ?_) (fun _ _ => ?_) ?_
      · rw [decide_eq_false (by omega), decide_eq_false (by omega)]; rfl
      · have hx1 : x.length ≤ 1000000 := by
          have : x.length * 1 ≤ x.length * k.toNat := Nat.mul_le_mul_left _ (by omega)
          omega
        have h5 : (1000000 : Int) * k ≤ 2 ^ 63 - 1 := by omega
        have h6 : (1000000 : Int) ≤ (2 ^ 63 - 1) / k := (Int.le_ediv_iff_mul_le (by omega)).mpr h5
        omega
      · unfold PySem.Builtin.Str.tooLong
        exact decide_eq_false (by have := lim_ok hlim; omega)
      · rw [if_neg (by omega), if_neg (by rw [Bool.not_eq_true, Bool.or_eq_false_iff]; exact ⟨beq_eq_false_iff_ne.mpr (by omega), beq_eq_false_iff_ne.mpr (by omega)⟩)]
        have e2 : (⟨(List.replicate k.toNat x.cps).foldl (· ++ ·) #[]⟩ : Str) = repS x k := by
          unfold repS
          rw [foldl_app]
          simp
        rw [e2]
        refine ⟨?_, ⟨.str (repS x k), H, I.tok _, ⟨_, rfl⟩, o.here e (.str _)⟩⟩
        show ((List.replicate k.toNat x.cps.toList).flatten).toArray.size ≤ sizeLine
        rw [List.size_toArray, List.length_flatten, List.map_replicate, List.sum_replicate_nat]
        have : k.toNat * x.cps.toList.length = x.length * k.toNat := by
          rw [Nat.mul_comm, Array.length_toList]; rfl
        rw [this]
        exact lim_ok hlim
    · cases hg
  · unfold mulD at hg
    split at hg
    · split at hg
      · rename_i hm
        cases hg
        cases hx.int_of
        cases hy.int_of
        exact op_mul pins s σ H _ _ v u Q I rx ry ⟨_, _, rfl, rfl, mulOk_ok hm, o.here e (.int _)⟩
      · cases hg
    · split at hg
      · rename_i hl
        cases hg
        obtain ⟨a, vs, rfl, ha, hvs⟩ := hx.lst_of
        cases hy.int_of
        refine op_rep pins s σ H _ _ v u Q I rx ry ⟨a, _, vs, rfl, rfl, e _ _ ha, by omega, by omega, lim_ok (by rw [hvs.length]; exact hl.1), fun p hp => ?_⟩
        exact o.lst e hp (rpAll_rep hvs _)
      · cases hg
    · cases hg
def fdivD : D → D → Option D
  | .int i, .int j => if 0 < j ∧ j < 1073741824 then some (.int (i / j)) else none
  | _, _ => none
theorem opd_fdiv : OpD X (binaryOp .FloorDiv) fdivD := by
  intro pins s σ H x y v u Q I rx ry h
  obtain ⟨Fz, dx, dy, d, e, hx, hy, hg, o⟩ := h
  unfold fdivD at hg
  split at hg
  · split at hg
    · rename_i hc
      cases hg
      cases hx.int_of
      cases hy.int_of
      exact op_fdiv pins s σ H _ _ v u Q I rx ry ⟨_, _, rfl, rfl, hc, o.here e (.int _)⟩
    · cases hg
  · cases hg
def modD : D → D → Option D
  | .int i, .int j => if 0 < j then some (.int (i % j)) else none
  | _, _ => none
theorem opd_mod : OpD X (binaryOp .Mod) modD := by
  intro pins s σ H x y v u Q I rx ry h
  obtain ⟨Fz, dx, dy, d, e, hx, hy, hg, o⟩ := h
  unfold modD at hg
  split at hg
  · split at hg
    · rename_i hc
      cases hg
      cases hx.int_of
      cases hy.int_of
      exact op_mod pins s σ H _ _ v u Q I rx ry ⟨_, _, rfl, rfl, hc, o.here e (.int _)⟩
    · cases hg
  · cases hg
def powD : D → D → Option D
  | .int i, .int j => if 0 ≤ j ∧ j ≤ 1000 ∧ i.natAbs < 2 ^ 64 then some (.int (i ^ j.toNat)) else none
  | _, _ => none
theorem opd_pow : OpD X (binaryOp .Pow) powD := by
  intro pins s σ H x y v u Q I rx ry h
  obtain ⟨Fz, dx, dy, d, e, hx, hy, hg, o⟩ := h
  unfold powD at hg
  split at hg
  · split at hg
    · rename_i hc
      cases hg
      cases hx.int_of
      cases hy.int_of
      exact op_pow pins s σ H _ _ v u Q I rx ry ⟨_, _, rfl, rfl, ⟨hc.1, by omega, hc.2.2⟩, o.here e (.int _)⟩
    · cases hg
  · cases hg

/-! ### comparisons -/
def flatD : D → Bool
  | .none | .bool _ | .int _ | .str _ => true
  | _ => false
theorem flat_of {H : Hp} {v : V} {d : D} (h : Rp H v d) (f : flatD d = true) : flatV v = true := by
  cases h <;> first | rfl | cases f
theorem flats_of {H : Hp} : ∀ {ds : List D} {vs : List V}, RpAll H vs ds → ds.all flatD = true → vs.all flatV = true
  | [], _, h, _ => by cases h; rfl
  | d :: ds, _, h, f => by
    cases h with
    | cons a b =>
      rw [List.all_cons, Bool.and_eq_true] at f ⊢
      exact ⟨flat_of a f.1, flats_of b f.2⟩
theorem eqV_of {H : Hp} {v w : V} {d e : D} (h : Rp H v d) (k : Rp H w e) (f : flatD d = true) (f2 : flatD e = true) : eqV v w = PyData.eqv d e := by
  cases h <;> first | (cases f; done) | skip
  all_goals (cases k <;> first | (cases f2; done) | (simp [eqV, PyData.eqv]; done) | rfl)
theorem inV_of {H : Hp} {v : V} {d : D} (h : Rp H v d) (f : flatD d = true) : ∀ {ds : List D} {vs : List V}, RpAll H vs ds → ds.all flatD = true → inV v vs = ds.any fun z => PyData.eqv z d
  | [], _, h, _ => by cases h; rfl
  | e :: ds, _, k, g => by
    cases k with
    | cons a b =>
      rw [List.all_cons, Bool.and_eq_true] at g
      unfold inV
      rw [List.any_cons, List.any_cons, eqV_of a h g.1 f]
      have := inV_of h f b g.2
      unfold inV at this
      rw [this]
def eqB : D → D → Option Bool
  | .int i, .int j => some (decide (i = j))
  | .str x, .str y => some (decide (x = y))
  | .bool x, .bool y => some (decide (x = y))
  | x, y => if SeqAt.shaped x && SeqAt.shaped y then some (PyData.eqv x y) else none
theorem eq_run {op : CmpOp} {f : Bool → Bool} (hs : OpR X (compareOp op) fun x y H Q => scal x y = true ∧ Q (.bl (f (decide (x = y)))) H)
    (hd : OpR X (compareOp op) fun x y H Q => ∃ d e, Dp X.K H x d ∧ Dp X.K H y e ∧ SeqAt.shaped d = true ∧ SeqAt.shaped e = true ∧ Q (.bl (f (PyData.eqv d e))) H) :
    OpD X (compareOp op) fun x y => (eqB x y).map fun b => .bool (f b) := by
  intro pins s σ H x y v u Q I rx ry h
  obtain ⟨Fz, dx, dy, d, e, hx, hy, hg, o⟩ := h
  dsimp only at hg
  cases hb : eqB dx dy with
  | none => rw [hb] at hg; cases hg
  | some b =>
    rw [hb] at hg
    have hd' : d = .bool (f b) := (Option.some.inj hg).symm
    subst hd'
    have fin : Q (.bl (f b)) H := o.here e (.bl _)
    unfold eqB at hb
    split at hb
    · cases hb
      cases hx.int_of
      cases hy.int_of
      refine hs pins s σ H _ _ v u Q I rx ry ⟨rfl, ?_⟩
      rename_i i j
      have : decide (V.int i = V.int j) = decide (i = j) := by simp
      rw [this]; exact fin
    · cases hb
      cases hx.str_of
      cases hy.str_of
      refine hs pins s σ H _ _ v u Q I rx ry ⟨rfl, ?_⟩
      rename_i i j
      have : decide (V.str i = V.str j) = decide (i = j) := by simp
      rw [this]; exact fin
    · cases hb
      cases hx.bl_of
      cases hy.bl_of
      refine hs pins s σ H _ _ v u Q I rx ry ⟨rfl, ?_⟩
      rename_i i j
      have : decide (V.bl i = V.bl j) = decide (i = j) := by simp
      rw [this]; exact fin
    · split at hb
      · rename_i hsh
        cases hb
        rw [Bool.and_eq_true] at hsh
        exact hd pins s σ H _ _ v u Q I rx ry ⟨_, _, (hx.mono e).dp _, (hy.mono e).dp _, hsh.1, hsh.2, fin⟩
      · cases hb
def eqD (x y : D) : Option D := (eqB x y).map fun b => .bool b
def neD (x y : D) : Option D := (eqB x y).map fun b => .bool (!b)
theorem opd_eq (hu : X.A.units + 64 < cLine) : OpD X (compareOp .Eq) eqD := eq_run (f := id) op_eq (op_eqD hu)
theorem opd_ne (hu : X.A.units + 64 < cLine) : OpD X (compareOp .NotEq) neD := eq_run (f := Bool.not) op_ne (op_neD hu)
def intC (p : Int → Int → Bool) : D → D → Option D
  | .int i, .int j => some (.bool (p i j))
  | _, _ => none
def ltD : D → D → Option D
  | .int i, .int j => some (.bool (decide (i < j)))
  | .str i, .str j => some (.bool (decide (i.cps.toList < j.cps.toList)))
  | _, _ => none
theorem opd_lt : OpD X (compareOp .Lt) ltD := by
  intro pins s σ H x y v u Q I rx ry h
  obtain ⟨Fz, dx, dy, d, e, hx, hy, hg, o⟩ := h
  unfold ltD at hg
  split at hg
  · cases hg
    cases hx.int_of
    cases hy.int_of
    exact op_lt pins s σ H _ _ v u Q I rx ry ⟨_, _, rfl, rfl, o.here e (.bl _)⟩
  · cases hg
    cases hx.str_of
    cases hy.str_of
    exact op_lt_str pins s σ H _ _ v u Q I rx ry ⟨_, _, rfl, rfl, o.here e (.bl _)⟩
  · cases hg
theorem opd_int {op : CmpOp} {p : Int → Int → Bool} (hr : OpR X (compareOp op) (rI0 fun i j => .bl (p i j))) : OpD X (compareOp op) (intC p) := by
  intro pins s σ H x y v u Q I rx ry h
  obtain ⟨Fz, dx, dy, d, e, hx, hy, hg, o⟩ := h
  unfold intC at hg
  split at hg
  · cases hg
    cases hx.int_of
    cases hy.int_of
    exact hr pins s σ H _ _ v u Q I rx ry ⟨_, _, rfl, rfl, o.here e (.bl _)⟩
  · cases hg
def leD : D → D → Option D := intC fun i j => decide (i ≤ j)
def gtD : D → D → Option D := intC fun i j => decide (j < i)
def geD : D → D → Option D := intC fun i j => decide (j ≤ i)
theorem opd_le : OpD X (compareOp .LtE) leD := opd_int op_le
theorem opd_gt : OpD X (compareOp .Gt) gtD := opd_int op_gt
theorem opd_ge : OpD X (compareOp .GtE) geD := opd_int op_ge
/-- in -/
def inStr (a b : Str) : Bool := match a.cps.toList with
  | [c] => decide (c ∈ b.cps.toList)
  | _ => !(Builtin.Str.occurrences b a 0 b.length 1).isEmpty
def inB : D → D → Option Bool
  | .str a, .str b => some (inStr a b)
  | d, .list ds => if flatD d && ds.all flatD then some (ds.any fun z => PyData.eqv z d) else if SeqAt.shaped d && SeqAt.shaped (.list ds) then some (ds.any fun z => PyData.eqv z d) else none
  | d, .tuple ds => if flatD d && ds.all flatD then some (ds.any fun z => PyData.eqv z d) else none
  | _, _ => none
theorem str_one {a : Str} {c : Nat} (h : a.cps.toList = [c]) : a = ⟨#[c]⟩ := by
  obtain ⟨l⟩ := a
  obtain ⟨l⟩ := l
  have h : l = [c] := h
  subst h
  rfl
theorem in_run {op : CmpOp} {f : Bool → Bool} (h1 : OpR X (compareOp op) fun x y H Q => ∃ (c : Nat) (z : Str), x = .str ⟨#[c]⟩ ∧ y = .str z ∧ Q (.bl (f (decide (c ∈ z.cps.toList)))) H)
    (h2 : OpR X (compareOp op) fun x y H Q => ∃ i j, x = .str i ∧ y = .str j ∧ Q (.bl (f (!(Builtin.Str.occurrences j i 0 j.length 1).isEmpty))) H)
    (h3 : OpR X (compareOp op) fun x y H Q => ∃ p xs, y = .ref p ∧ (SqL X.K H p xs ∨ SqT X.K H p xs) ∧ flatV x = true ∧ xs.all flatV = true ∧ Q (.bl (f (inV x xs))) H)
    (h4 : OpR X (compareOp op) fun x y H Q => ∃ d ds, Dp X.K H x d ∧ Dp X.K H y (.list ds) ∧ SeqAt.shaped d = true ∧ SeqAt.shaped (.list ds) = true ∧ Q (.bl (f (ds.any fun z => PyData.eqv z d))) H) :
    OpD X (compareOp op) fun x y => (inB x y).map fun b => .bool (f b) := by
  intro pins s σ H x y v u Q I rx ry h
  obtain ⟨Fz, dx, dy, d, e, hx, hy, hg, o⟩ := h
  dsimp only at hg
  cases hb : inB dx dy with
  | none => rw [hb] at hg; cases hg
  | some b =>
    rw [hb] at hg
    have hd' : d = .bool (f b) := (Option.some.inj hg).symm
    subst hd'
    have fin : Q (.bl (f b)) H := o.here e (.bl _)
    unfold inB at hb
    split at hb
    · cases hb
      cases hx.str_of
      cases hy.str_of
      rename_i i j
      unfold inStr at fin
      split at fin
      · rename_i c hc
        exact h1 pins s σ H _ _ v u Q I rx ry ⟨c, j, by rw [str_one hc], rfl, fin⟩
      · exact h2 pins s σ H _ _ v u Q I rx ry ⟨i, j, rfl, rfl, fin⟩
    · obtain ⟨a, vs, rfl, ha, hvs⟩ := hy.lst_of
      split at hb
      · rename_i hf
        cases hb
        rw [Bool.and_eq_true] at hf
        exact h3 pins s σ H _ _ v u Q I rx ry ⟨a, vs, rfl, .inl (SqL.of (e _ _ ha)), flat_of hx hf.1, flats_of hvs hf.2, by rw [inV_of hx hf.1 hvs hf.2]; exact fin⟩
      · split at hb
        · rename_i hsh
          cases hb
          rw [Bool.and_eq_true] at hsh
          exact h4 pins s σ H _ _ v u Q I rx ry ⟨_, _, (hx.mono e).dp _, .lst (SqL.of (e _ _ ha)) ((hvs.mono e).dp _), hsh.1, hsh.2, fin⟩
        · cases hb
    · obtain ⟨a, vs, rfl, ha, hvs⟩ := hy.tup_of
      split at hb
      · rename_i hf
        cases hb
        rw [Bool.and_eq_true] at hf
        exact h3 pins s σ H _ _ v u Q I rx ry ⟨a, vs, rfl, .inr (SqT.of (e _ _ ha)), flat_of hx hf.1, flats_of hvs hf.2, by rw [inV_of hx hf.1 hvs hf.2]; exact fin⟩
      · cases hb
    · cases hb
def inD (x y : D) : Option D := (inB x y).map fun b => .bool b
def ninD (x y : D) : Option D := (inB x y).map fun b => .bool (!b)
theorem opd_in (hu : X.A.units + 65 < cLine) : OpD X (compareOp .In) inD := in_run (f := id) op_in_sign op_in_str op_in_seq (op_inD hu)
theorem opd_nin (hu : X.A.units + 65 < cLine) : OpD X (compareOp .NotIn) ninD := in_run (f := Bool.not) op_notIn_sign op_notin_str op_notIn_seq (op_notInD hu)
end
end DL

/-! ## DL3: rules for expressions -/
namespace DL
open PySem PySem.Spec PyProof.Rows L2
open Evl (Ex)

def getV (i : Nat) : M D := fun ρ => match ρ[i]? with
  | some (some (.val d)) => .ok d ρ
  | _ => .bad
/-- what stands at a place of one's own -/
def peek (ρ : Env) (i : Nat) : Option (List D) := match ρ[i]? with
  | some (some (.own _ (.list ds))) => some ds
  | _ => none
theorem peek_some {ρ : Env} {i : Nat} {ds : List D} (h : peek ρ i = some ds) : ∃ s, ρ[i]? = some (some (.own s (.list ds))) := by
  unfold peek at h
  split at h
  · rename_i s ds' e
    cases h
    exact ⟨s, e⟩
  · cases h
def getO (i : Nat) : M (List D) := fun ρ => opt (peek ρ i) ρ
theorem OwnO.lst_of {Fz : Hp} {o : HO} {ds : List D} (h : OwnO Fz o (.list ds)) : ∃ vs, o = .lst vs ∧ RpAll Fz vs ds := by
  cases h with
  | lst a => exact ⟨_, rfl, a⟩
theorem Rl.peek {K : KT} {P : Addr} {F0 B Fz H : Hp} {σ : St} {ρ : Env} {i : Nat} {ds : List D} (r : Rl K P F0 B Fz H σ ρ) (h : peek ρ i = some ds) :
    ∃ p vs, σ[i]? = some (some (.ref p)) ∧ Fz p = none ∧ B p = none ∧ H p = some (.lst vs) ∧ RpAll Fz vs ds := by
  obtain ⟨s, e⟩ := peek_some h
  obtain ⟨p, o, h1, _, h3, h4, h5, h6⟩ := r.own i s _ e
  obtain ⟨vs, rfl, h7⟩ := h6.lst_of
  exact ⟨p, vs, h1, h3, h4, h5, h7⟩

section
variable {Tb : TbT} {X : Cx} {W : WX} {K : KT} {mg : Str → Option Value} {P : Addr} {F0 B Fz H : Hp} {σ : St} {ρ : Env}
/-- behind an operation -/
theorem outOf {d : D} {Q : VK} (r : Rl K P F0 B Fz H σ ρ) (k : ∀ H' Fz', Rl K P F0 B Fz' H' σ ρ → Ex Fz Fz' → ∀ v, Rp Fz' v d → Q v H') : Out Fz H d Q :=
  fun v H' F' eH eF eFH nw hr => k H' F' (r.grow eH eF eFH nw) eF v hr
theorem outOfN {ds : List D} {Q : VK} (r : Rl K P F0 B Fz H σ ρ)
    (k : ∀ H' Fz', Rl K P F0 B Fz' H' σ ρ → Ex Fz Fz' → ∀ p vs, Fz' p = none → B p = none → H' p = some (.lst vs) → RpAll Fz' vs ds → (∀ (j : Nat) s e, ρ[j]? = some (some (.own s e)) → σ[j]? ≠ some (some (.ref p))) → Q (.ref p) H') : OutN Fz H ds Q :=
  fun p vs H' F' eH eF eFH nw hp hf hl hr => k H' F' (r.grow eH eF eFH nw) eF p vs hf (by
    cases e : B p with
    | none => rfl
    | some o => rw [r.eb p o e] at hp; cases hp) hl hr fun j s e he hz => by
    obtain ⟨p', o, h1, _, _, _, h5, _⟩ := r.own j s e he
    rw [hz] at h1
    cases h1
    rw [hp] at h5
    cases h5

variable {a b c e : Expr} {fa fb fc f : M D} {pos : Pos}
/-! ### names, constants -/
theorem de_var (i : Nat) {x : Str} (hN : X.N[i]? = some x := by rfl) (hv : Vis X.env.scope x := by first | exact Or.inl rfl | exact Or.inr (Or.inl rfl) | exact Or.inr (Or.inr rfl)) (hd : (x == ("__debug__" : Str)) = false := by decide)
    (hcd : (x == ("__classdict__" : Str)) = false := by decide) : DE Tb X W (.Name x pos) (getV i) :=
  pe_imp (pe_var hN hv hd hcd) fun σ H Q ⟨P, F0, B, Fz, ρ, r, h⟩ => by
    unfold getV at h
    split at h
    · rename_i d e
      obtain ⟨v, h1, h2⟩ := r.val i d e
      exact ⟨v, h1, h.now r v h2⟩
    · exact h.elim
theorem de_const {v : V} {d : D} (h : PE X e (tC v)) (hr : ∀ Fz, Rp Fz v d) : DE Tb X W e (M.pure d) := pe_imp h fun σ H Q ⟨P, F0, B, Fz, ρ, r, h⟩ => h.now r v (hr _)
theorem de_int {i j} : DE Tb X W (.Constant (.int i) j pos) (M.pure (.int i)) := de_const pe_int fun _ => .int _
theorem de_str {x j} : DE Tb X W (.Constant (.str x) j pos) (M.pure (.str x)) := de_const pe_str fun _ => .str _
theorem de_bool {x j} : DE Tb X W (.Constant (.bool x) j pos) (M.pure (.bool x)) := de_const pe_bl fun _ => .bl _
theorem de_none {j} : DE Tb X W (.Constant .none j pos) (M.pure .none) := de_const pe_non fun _ => .non
theorem de_globI {x : Str} {i : Int} (hg : Gl X x) (hm : ∃ t, X.mg x = some (.int i t)) (hd : (x == ("__debug__" : Str)) = false := by decide) : DE Tb X W (.Name x pos) (M.pure (.int i)) := by
  obtain ⟨t, hm⟩ := hm
  exact de_const (v := V.int i) (pe_glob hg hm ⟨t, rfl⟩ hd) fun _ => .int _
theorem de_globS {x : Str} {i : Str} (hg : Gl X x) (hm : ∃ t, X.mg x = some (.str i t)) (hd : (x == ("__debug__" : Str)) = false := by decide) : DE Tb X W (.Name x pos) (M.pure (.str i)) := by
  obtain ⟨t, hm⟩ := hm
  exact de_const (v := V.str i) (pe_glob hg hm ⟨t, rfl⟩ hd) fun _ => .str _

/-! ### operators -/
theorem de_op {op : Operator} {g : D → D → Option D} (ho : OpD X (binaryOp op) g) (ha : DE Tb X W a fa) (hb : DE Tb X W b fb) : DE Tb X W (.BinOp a op b pos) (M.bind fa fun x => M.bind fb fun y => opt (g x y)) :=
  pe_imp (pe_op ho ha hb) fun σ H Q ⟨P, F0, B, Fz, ρ, r, h⟩ => ⟨P, F0, B, Fz, ρ, r, h.bind.imp fun x ρ1 H1 F1 r1 e1 h1 v hv => ⟨P, F0, B, F1, ρ1, r1, h1.bind.imp fun y ρ2 H2 F2 r2 e2 h2 w hw => by
    obtain ⟨d, hd, k⟩ := h2.opt
    exact ⟨F2, x, y, d, r2.ef, hv.mono e2, hw, hd, outOf r2 k⟩⟩⟩
theorem de_cmp {op : CmpOp} {g : D → D → Option D} (ho : OpD X (compareOp op) g) (ha : DE Tb X W a fa) (hb : DE Tb X W b fb) (hm : behindInMarks op b = false) : DE Tb X W (.Compare a [op] [b] pos) (M.bind fa fun x => M.bind fb fun y => opt (g x y)) :=
  pe_imp (pe_cmpR ho ha hb hm) fun σ H Q ⟨P, F0, B, Fz, ρ, r, h⟩ => ⟨P, F0, B, Fz, ρ, r, h.bind.imp fun x ρ1 H1 F1 r1 e1 h1 v hv => ⟨P, F0, B, F1, ρ1, r1, h1.bind.imp fun y ρ2 H2 F2 r2 e2 h2 w hw => by
    obtain ⟨d, hd, k⟩ := h2.opt
    exact ⟨F2, x, y, d, r2.ef, hv.mono e2, hw, hd, outOf r2 k⟩⟩⟩
def boolOf : D → Option Bool
  | .bool b => some b
  | _ => none
theorem boolOf_some {d : D} {b : Bool} (h : boolOf d = some b) : d = .bool b := by
  unfold boolOf at h
  split at h
  · cases h; rfl
  · cases h
theorem dt_cmp {op : CmpOp} {g : D → D → Option D} (ho : OpD X (compareOp op) g) (ha : DE Tb X W a fa) (hb : DE Tb X W b fb) (hm : behindInMarks op b = false) : DT Tb X W (.Compare a [op] [b] pos) (M.bind fa fun x => M.bind fb fun y => opt ((g x y).bind boolOf)) :=
  pt_imp (pt_cmpR ho ha hb hm) fun σ H Q ⟨P, F0, B, Fz, ρ, r, h⟩ => ⟨P, F0, B, Fz, ρ, r, h.bind.imp fun x ρ1 H1 F1 r1 e1 h1 v hv => ⟨P, F0, B, F1, ρ1, r1, h1.bind.imp fun y ρ2 H2 F2 r2 e2 h2 w hw => by
    obtain ⟨t, ht, k⟩ := h2.opt
    cases hg : g x y with
    | none => rw [hg] at ht; cases ht
    | some d =>
      rw [hg] at ht
      have hb' := boolOf_some ht
      subst hb'
      refine ⟨F2, x, y, _, r2.ef, hv.mono e2, hw, hg, outOf r2 fun H' F' r' e' u hu => ?_⟩
      exact ⟨t, hu.bl_of, k H' F' r' e'⟩⟩⟩
/-- a op1 b op2 c -/
def chainM (g g' : D → D → Option D) (fa fb fc : M D) : M Bool := M.bind fa fun x => M.bind fb fun y => M.bind (opt ((g x y).bind boolOf)) fun t => if t = true then M.bind fc fun z => opt ((g' y z).bind boolOf) else M.pure false
theorem chain_read {g g' : D → D → Option D} (ha : DE Tb X W a fa) (hb : DE Tb X W b fb) (hc : DE Tb X W c fc) {Q : VK}
    (h : ∃ P F0 B Fz ρ, Rl (KT.mk X.K Tb) P F0 B Fz H σ ρ ∧ Po (KT.mk X.K Tb) X.mg W P F0 B σ Fz (chainM g g' fa fb fc ρ) fun t _ H' _ => Q (.bl t) H') :
    tChain (rD g) (rD g') (tD (KT.mk X.K Tb) X.mg W fa) (tD (KT.mk X.K Tb) X.mg W fb) (tD (KT.mk X.K Tb) X.mg W fc) σ H Q := by
  obtain ⟨P, F0, B, Fz, ρ, r, h⟩ := h
  refine ⟨P, F0, B, Fz, ρ, r, h.bind.imp fun x ρ1 H1 F1 r1 e1 h1 v hv => ⟨P, F0, B, F1, ρ1, r1, h1.bind.imp fun y ρ2 H2 F2 r2 e2 h2 w hw => ?_⟩⟩
  obtain ⟨t, ht, k⟩ := (h2.bind).opt
  cases hg : g x y with
  | none => rw [hg] at ht; cases ht
  | some d =>
    rw [hg] at ht
    have hb' := boolOf_some ht
    subst hb'
    refine ⟨F2, x, y, _, r2.ef, hv.mono e2, hw, hg, outOf r2 fun H' F' r' e' u hu => ?_⟩
    have k' := k H' F' r' e'
    refine ⟨t, hu.bl_of, ?_⟩
    cases t with
    | false =>
      simp only [Bool.false_eq_true, if_false] at k' ⊢
      exact k'.now r'
    | true =>
      simp only [if_true] at k' ⊢
      refine ⟨P, F0, B, F', ρ2, r', k'.bind.imp fun z ρ3 H3 F3 r3 e3 h3 q hq => ?_⟩
      obtain ⟨t2, ht2, k2⟩ := h3.opt
      cases hg2 : g' y z with
      | none => rw [hg2] at ht2; cases ht2
      | some d2 =>
        rw [hg2] at ht2
        have hb2 := boolOf_some ht2
        subst hb2
        refine ⟨F3, y, z, _, r3.ef, (hw.mono e').mono e3, hq, hg2, outOf r3 fun H4 F4 r4 e4 u4 hu4 => ?_⟩
        rw [hu4.bl_of]
        exact k2 H4 F4 r4 e4
theorem de_chain {op op' : CmpOp} {g g' : D → D → Option D} (ho : OpD X (compareOp op) g) (ho' : OpD X (compareOp op') g') (ha : DE Tb X W a fa) (hb : DE Tb X W b fb) (hc : DE Tb X W c fc) (hm : lastMarks [op, op'] [b, c] = false := by with_unfolding_all rfl) :
    DE Tb X W (.Compare a [op, op'] [b, c] pos) (M.bind (chainM g g' fa fb fc) fun t => M.pure (.bool t)) :=
  pe_imp (pe_chain ho ho' ha hb hc hm) fun σ H Q ⟨P, F0, B, Fz, ρ, r, h⟩ => chain_read ha hb hc ⟨P, F0, B, Fz, ρ, r, h.bind.imp fun t ρ1 H1 F1 r1 e1 h1 => h1.now r1 _ (.bl t)⟩
theorem dt_chain {op op' : CmpOp} {g g' : D → D → Option D} (ho : OpD X (compareOp op) g) (ho' : OpD X (compareOp op') g') (ha : DE Tb X W a fa) (hb : DE Tb X W b fb) (hc : DE Tb X W c fc) (hm : lastMarks [op, op'] [b, c] = false := by with_unfolding_all rfl) :
    DT Tb X W (.Compare a [op, op'] [b, c] pos) (chainM g g' fa fb fc) :=
  pt_imp (pt_chain ho ho' ha hb hc hm) fun σ H Q ⟨P, F0, B, Fz, ρ, r, h⟩ => chain_read ha hb hc ⟨P, F0, B, Fz, ρ, r, h.imp fun t ρ1 H1 F1 r1 e1 h1 => ⟨t, rfl, h1⟩⟩

/-! ### tests -/
theorem dt_val {f : M D} (h : DE Tb X W e f) (he : ∀ whole, isTrue e X.env whole = (do let v ← whole; standAt e.pos; holding [v] (truthy v)) := by intro _; rfl) : DT Tb X W e (M.bind f fun d => opt (boolOf d)) :=
  pt_imp (pt_val h he) fun σ H Q ⟨P, F0, B, Fz, ρ, r, h⟩ => ⟨P, F0, B, Fz, ρ, r, h.bind.imp fun x ρ1 H1 F1 r1 e1 h1 v hv => by
    obtain ⟨t, ht, k⟩ := h1.opt
    have hb := boolOf_some ht
    subst hb
    exact ⟨t, hv.bl_of, k H1 F1 r1 (Ex.refl _)⟩⟩
/-- a value by its truth -/
def truD : D → Option Bool
  | .bool b => some b
  | .int i => some (i != 0)
  | .str x => if x.length ≤ lim then some ((x.length : Int) != 0) else none
  | .list ds => some (!ds.isEmpty)
  | .tuple ds => some (!ds.isEmpty)
  | .none => some false
  | _ => none
theorem RpAll.isEmpty {H : Hp} {vs : List V} {ds : List D} (h : RpAll H vs ds) : vs.isEmpty = ds.isEmpty := by
  cases h <;> rfl
theorem tru_of {K : Frg} {v : V} {d : D} {t : Bool} (hv : Rp Fz v d) (e : Ex Fz H) (h : truD d = some t) : TruV K v H t := by
  unfold truD at h
  split at h
  · cases h; cases hv.bl_of; rfl
  · cases h; cases hv.int_of; rfl
  · split at h
    · rename_i hl
      cases h; cases hv.str_of; exact ⟨lim_ok hl, rfl⟩
    · cases h
  · cases h
    obtain ⟨p, vs, rfl, hp, hvs⟩ := hv.lst_of
    exact .inl ⟨vs, SqL.of (e _ _ hp), by rw [hvs.isEmpty]⟩
  · cases h
    obtain ⟨p, vs, rfl, hp, hvs⟩ := hv.tup_of
    exact .inr (.inl ⟨vs, SqT.of (e _ _ hp), by rw [hvs.isEmpty]⟩)
  · cases h; cases hv.non_of; rfl
  · cases h
theorem dt_truth {f : M D} (h : DE Tb X W e f) (he : ∀ whole, isTrue e X.env whole = (do let v ← whole; standAt e.pos; holding [v] (truthy v)) := by intro _; rfl) : DT Tb X W e (M.bind f fun d => opt (truD d)) :=
  pt_imp (pt_truth h he) fun σ H Q ⟨P, F0, B, Fz, ρ, r, h⟩ => ⟨P, F0, B, Fz, ρ, r, h.bind.imp fun x ρ1 H1 F1 r1 e1 h1 v hv => by
    obtain ⟨t, ht, k⟩ := h1.opt
    exact ⟨t, tru_of hv r1.ef ht, k H1 F1 r1 (Ex.refl _)⟩⟩
variable {ga gb : M Bool} {rest : List Expr}
theorem dt_not (h : DT Tb X W a ga) : DT Tb X W (.UnaryOp .Not a pos) (M.bind ga fun t => M.pure (!t)) :=
  pt_imp (pt_not h) fun σ H Q ⟨P, F0, B, Fz, ρ, r, h⟩ => ⟨P, F0, B, Fz, ρ, r, h.bind.imp fun t ρ1 H1 F1 r1 e1 h1 => h1.now r1⟩
theorem dw_and1 (h : DT Tb X W a ga) : DW Tb X W (.BoolOp .And [a] pos) ga := pw_and1 h
theorem dw_or1 (h : DT Tb X W a ga) : DW Tb X W (.BoolOp .Or [a] pos) ga := pw_or1 h
theorem dw_and (h : DT Tb X W a ga) (k : DW Tb X W (.BoolOp .And (b :: rest) pos) gb) : DW Tb X W (.BoolOp .And (a :: b :: rest) pos) (M.bind ga fun t => if t = true then gb else M.pure false) :=
  pw_imp (pw_and h k) fun σ H Q ⟨P, F0, B, Fz, ρ, r, h⟩ => ⟨P, F0, B, Fz, ρ, r, h.bind.imp fun t ρ1 H1 F1 r1 e1 h1 => by
    cases t with
    | true => simp only [if_true] at h1 ⊢; exact ⟨P, F0, B, F1, ρ1, r1, h1⟩
    | false => simp only [Bool.false_eq_true, if_false] at h1 ⊢; exact h1.now r1⟩
theorem dw_or (h : DT Tb X W a ga) (k : DW Tb X W (.BoolOp .Or (b :: rest) pos) gb) : DW Tb X W (.BoolOp .Or (a :: b :: rest) pos) (M.bind ga fun t => if t = true then M.pure true else gb) :=
  pw_imp (pw_or h k) fun σ H Q ⟨P, F0, B, Fz, ρ, r, h⟩ => ⟨P, F0, B, Fz, ρ, r, h.bind.imp fun t ρ1 H1 F1 r1 e1 h1 => by
    cases t with
    | true => simp only [if_true] at h1 ⊢; exact h1.now r1
    | false => simp only [Bool.false_eq_true, if_false] at h1 ⊢; exact ⟨P, F0, B, F1, ρ1, r1, h1⟩⟩
theorem dt_w (h : DW Tb X W e ga) : DT Tb X W e ga := PW.pt h
/-! ### .. as values -/
theorem de_one {op} (h : DE Tb X W a fa) : DE Tb X W (.BoolOp op [a] pos) fa := pe_one h
theorem de_and (h : DE Tb X W a fa) (k : DE Tb X W (.BoolOp .And (b :: rest) pos) fb) : DE Tb X W (.BoolOp .And (a :: b :: rest) pos) (M.bind fa fun x => M.bind (opt (boolOf x)) fun t => if t = true then fb else M.pure (.bool false)) :=
  pe_imp (pe_and h k) fun σ H Q ⟨P, F0, B, Fz, ρ, r, h⟩ => ⟨P, F0, B, Fz, ρ, r, h.bind.imp fun x ρ1 H1 F1 r1 e1 h1 v hv => by
    obtain ⟨t, ht, k⟩ := (h1.bind).opt
    have hb := boolOf_some ht
    subst hb
    have k' := k H1 F1 r1 (Ex.refl _)
    refine ⟨t, hv.bl_of, ?_⟩
    cases t with
    | true => simp only [if_true] at k' ⊢; exact ⟨P, F0, B, F1, ρ1, r1, k'⟩
    | false => simp only [Bool.false_eq_true, if_false] at k' ⊢; exact k'.now r1 _ (.bl false)⟩
theorem de_or (h : DE Tb X W a fa) (k : DE Tb X W (.BoolOp .Or (b :: rest) pos) fb) : DE Tb X W (.BoolOp .Or (a :: b :: rest) pos) (M.bind fa fun x => M.bind (opt (boolOf x)) fun t => if t = true then M.pure (.bool true) else fb) :=
  pe_imp (pe_or h k) fun σ H Q ⟨P, F0, B, Fz, ρ, r, h⟩ => ⟨P, F0, B, Fz, ρ, r, h.bind.imp fun x ρ1 H1 F1 r1 e1 h1 v hv => by
    obtain ⟨t, ht, k⟩ := (h1.bind).opt
    have hb := boolOf_some ht
    subst hb
    have k' := k H1 F1 r1 (Ex.refl _)
    refine ⟨t, hv.bl_of, ?_⟩
    cases t with
    | true => simp only [if_true] at k' ⊢; exact k'.now r1 _ (.bl true)
    | false => simp only [Bool.false_eq_true, if_false] at k' ⊢; exact ⟨P, F0, B, F1, ρ1, r1, k'⟩⟩
theorem de_not (h : DE Tb X W a fa) : DE Tb X W (.UnaryOp .Not a pos) (M.bind fa fun x => opt ((boolOf x).map fun t => .bool (!t))) :=
  pe_imp (pe_not h) fun σ H Q ⟨P, F0, B, Fz, ρ, r, h⟩ => ⟨P, F0, B, Fz, ρ, r, h.bind.imp fun x ρ1 H1 F1 r1 e1 h1 v hv => by
    obtain ⟨d, hd, k⟩ := h1.opt
    cases ht : boolOf x with
    | none => rw [ht] at hd; cases hd
    | some t =>
      rw [ht] at hd
      cases hd
      have hb := boolOf_some ht
      subst hb
      exact ⟨t, hv.bl_of, k H1 F1 r1 (Ex.refl _) _ (.bl _)⟩⟩
theorem de_if (h : DT Tb X W c ga) (ha : DE Tb X W a fa) (hb : DE Tb X W b fb) : DE Tb X W (.IfExp c a b pos) (M.bind ga fun t => if t = true then fa else fb) :=
  pe_imp (pe_ifExp h ha hb) fun σ H Q ⟨P, F0, B, Fz, ρ, r, h⟩ => ⟨P, F0, B, Fz, ρ, r, h.bind.imp fun t ρ1 H1 F1 r1 e1 h1 => by
    cases t with
    | true => simp only [if_true] at h1 ⊢; exact ⟨P, F0, B, F1, ρ1, r1, h1⟩
    | false => simp only [Bool.false_eq_true, if_false] at h1 ⊢; exact ⟨P, F0, B, F1, ρ1, r1, h1⟩⟩
def negD : D → Option D
  | .int i => some (.int (-i))
  | _ => none
theorem de_neg (h : DE Tb X W a fa) : DE Tb X W (.UnaryOp .USub a pos) (M.bind fa fun x => opt (negD x)) :=
  pe_imp (pe_un un_neg h) fun σ H Q ⟨P, F0, B, Fz, ρ, r, h⟩ => ⟨P, F0, B, Fz, ρ, r, h.bind.imp fun x ρ1 H1 F1 r1 e1 h1 v hv => by
    obtain ⟨d, hd, k⟩ := h1.opt
    unfold negD at hd
    split at hd
    · cases hd
      exact ⟨_, hv.int_of, k H1 F1 r1 (Ex.refl _) _ (.int _)⟩
    · cases hd⟩

/-! ### arguments, displays -/
theorem da_nil : DA Tb X W [] (M.pure []) where
  pa := pa_imp pa_nil fun σ H Q ⟨P, F0, B, Fz, ρ, r, h⟩ => h.now r [] .nil
  len := fun ρ ds ρ' h => by cases h; rfl
variable {es : List Expr} {fs : M (List D)}
theorem da_cons (ha : DE Tb X W e f) (hr : DA Tb X W es fs) (hs : starEach (e :: es) X.env = (false, eval e X.env) :: starEach es X.env := by rfl) : DA Tb X W (e :: es) (M.bind f fun d => M.bind fs fun ds => M.pure (d :: ds)) where
  pa := pa_imp (pa_cons ha hr.pa hs) fun σ H Q ⟨P, F0, B, Fz, ρ, r, h⟩ => ⟨P, F0, B, Fz, ρ, r, h.bind.imp fun x ρ1 H1 F1 r1 e1 h1 v hv => ⟨P, F0, B, F1, ρ1, r1, h1.bind.imp fun ds ρ2 H2 F2 r2 e2 h2 vs hvs => h2.now r2 (v :: vs) (.cons (hv.mono e2) hvs)⟩⟩
  len := fun ρ ds ρ' h => by
    rw [M.bind_def] at h
    split at h
    · rw [M.bind_def] at h
      split at h
      · rename_i xs ρ2 h2
        cases h
        rw [List.length_cons, List.length_cons, hr.len _ _ _ h2]
      · cases h
      · cases h
    · cases h
    · cases h
theorem de_tup {x1} (h : DA Tb X W es fs) (hl : es.length ≤ 1000 := by decide) : DE Tb X W (.Tuple es x1 pos) (M.bind fs fun ds => M.pure (.tuple ds)) :=
  pe_imp (pe_tup h.pa) fun σ H Q ⟨P, F0, B, Fz, ρ, r, h'⟩ => by
    refine ⟨P, F0, B, Fz, ρ, r, ?_⟩
    cases hf : fs ρ with
    | bad => rw [M.bind_def, hf] at h'; exact h'.elim
    | er c ρ' => rw [M.bind_def, hf] at h'; exact h'
    | ok ds ρ1 =>
      rw [M.bind_def, hf] at h'
      intro H1 F1 r1 e1 vs hvs
      have hlen := h.len _ _ _ hf
      refine ⟨by rw [hvs.length, hlen]; exact Nat.le_trans hl (by decide), fun p hp => ?_⟩
      exact (outOf r1 fun H' F' r' e' v hv => h' H' F' r' (e1.trans e') v hv : Out F1 H1 (.tuple ds) Q).tup r1.ef hp hvs
theorem dn_lst (h : DA Tb X W es fs) (hl : es.length ≤ 1000 := by decide) : DN Tb X W (.List es pos) fs :=
  pe_imp (pe_lst h.pa) fun σ H Q ⟨P, F0, B, Fz, ρ, r, h'⟩ => by
    refine ⟨P, F0, B, Fz, ρ, r, ?_⟩
    cases hf : fs ρ with
    | bad => rw [hf] at h'; exact h'.elim
    | er c ρ' => rw [hf] at h'; exact h'
    | ok ds ρ1 =>
      rw [hf] at h'
      intro H1 F1 r1 e1 vs hvs
      have hlen := h.len _ _ _ hf
      refine ⟨by rw [hvs.length, hlen]; exact Nat.le_trans hl (by decide), fun p hp => ?_⟩
      exact (outOfN r1 fun H' F' r' e' => h' H' F' r' (e1.trans e') : OutN F1 H1 ds Q).here r1.ef hp hvs
/-- a new list, known from now on -/
theorem de_n (h : DN Tb X W e fs) : DE Tb X W e (M.bind fs fun ds => M.pure (.list ds)) :=
  pe_imp h fun σ H Q ⟨P, F0, B, Fz, ρ, r, h'⟩ => ⟨P, F0, B, Fz, ρ, r, h'.bind.imp fun ds ρ1 H1 F1 r1 e1 h1 p vs hf hb hl hvs hno => by
    have eF : Ex F1 (upd F1 p (.lst vs)) := Ex.new hf
    refine h1 H1 (upd F1 p (.lst vs)) ⟨r1.e0.trans eF, fun a u q => ?_, r1.eb, fun a q => ?_, r1.len, fun i d q => ?_, fun i s d q => ?_, fun i ds q => ?_, r1.ap, r1.tab, fun ho t ht => ⟨by rw [upd_ne (tab_ne r1.tab ht hl)]; exact (r1.nt ho t ht).1, (r1.nt ho t ht).2⟩⟩ eF _ (.lst upd_same (hvs.mono eF))
    · by_cases ea : a = p
      · subst ea; rw [upd_same] at q; rw [hl]; exact q
      · rw [upd_ne ea] at q; exact r1.ef a u q
    · by_cases ea : a = p
      · subst ea; exact .inr hb
      · rw [upd_ne ea] at q; exact r1.fr a q
    · obtain ⟨v, k1, k2⟩ := r1.val i d q
      exact ⟨v, k1, k2.mono eF⟩
    · obtain ⟨p', o, k1, k2, k3, k4, k5, k6⟩ := r1.own i s d q
      refine ⟨p', o, k1, k2, ?_, k4, k5, k6.mono eF⟩
      rw [upd_ne]
      · exact k3
      · rintro rfl
        exact hno i s d q k1
    · obtain ⟨a, ws, k1, k2, k3⟩ := r1.seq i ds q
      exact ⟨a, ws, k1, Evl.ex_l eF k2, k3.mono eF⟩⟩

/-! ### subscripts, slices -/
def ixD : D → D → Option D
  | .list ds, .int i => atI ds i
  | .tuple ds, .int i => atI ds i
  | .str x, .int i => if x.length ≤ lim then (atI x.cps.toList i).map fun c => .str ⟨#[c]⟩ else none
  | _, _ => none
theorem RpAll.atI {H : Hp} {vs : List V} {ds : List D} {i : Int} {d : D} (h : RpAll H vs ds) (e : L2.atI ds i = some d) : ∃ v, L2.atI vs i = some v ∧ Rp H v d := by
  unfold L2.atI at e ⊢
  rw [h.length]
  cases hj : ixN ds.length i with
  | none => rw [hj] at e; cases e
  | some j =>
    rw [hj] at e
    exact RpAll.get h e
theorem ixd : IxR X (rD ixD) := by
  intro value slice pins s σ H x y v u Q I rx ry h hs
  obtain ⟨Fz, dx, dy, d, e, hx, hy, hg, o⟩ := h
  unfold ixD at hg
  split at hg
  · obtain ⟨p, vs, rfl, hp, hvs⟩ := hx.lst_of
    cases hy.int_of
    obtain ⟨w, hw, hr⟩ := hvs.atI hg
    exact ix_list value slice pins s σ H _ _ v u Q I rx ry ⟨p, vs, _, w, rfl, rfl, SqL.of (e _ _ hp), hw, o.here e hr⟩ hs
  · obtain ⟨p, vs, rfl, hp, hvs⟩ := hx.tup_of
    cases hy.int_of
    obtain ⟨w, hw, hr⟩ := hvs.atI hg
    exact ix_tup value slice pins s σ H _ _ v u Q I rx ry ⟨p, vs, _, w, rfl, rfl, SqT.of (e _ _ hp), hw, o.here e hr⟩ hs
  · split at hg
    · rename_i hl
      cases hx.str_of
      cases hy.int_of
      rename_i z i
      cases hc : L2.atI z.cps.toList i with
      | none => rw [hc] at hg; cases hg
      | some c =>
        rw [hc] at hg
        cases hg
        exact ix_str value slice pins s σ H _ _ v u Q I rx ry ⟨z, i, c, rfl, rfl, lim_ok hl, hc, o.here e (.str _)⟩ hs
    · cases hg
  · cases hg
theorem de_ix (ha : DE Tb X W a fa) (hb : DE Tb X W b fb) (hs : PlainIx b) : DE Tb X W (.Subscript a b pos) (M.bind fa fun x => M.bind fb fun y => opt (ixD x y)) :=
  pe_imp (pe_ix ixd ha hb hs) fun σ H Q ⟨P, F0, B, Fz, ρ, r, h⟩ => ⟨P, F0, B, Fz, ρ, r, h.bind.imp fun x ρ1 H1 F1 r1 e1 h1 v hv => ⟨P, F0, B, F1, ρ1, r1, h1.bind.imp fun y ρ2 H2 F2 r2 e2 h2 w hw => by
    obtain ⟨d, hd, k⟩ := h2.opt
    exact ⟨F2, x, y, d, r2.ef, hv.mono e2, hw, hd, outOf r2 k⟩⟩⟩
theorem ixD_list {ds : List D} {y d : D} (h : ixD (.list ds) y = some d) : ∃ i, y = .int i ∧ L2.atI ds i = some d := by
  cases y with
  | int i => exact ⟨i, rfl, h⟩
  | _ => cases h
/-- x[e], x a list of one's own -/
theorem de_ixO (i : Nat) {x : Str} {px : Pos} (hb : DE Tb X W b fb) (hs : PlainIx b) (hN : X.N[i]? = some x := by rfl) (hv : Vis X.env.scope x := by first | exact Or.inl rfl | exact Or.inr (Or.inl rfl) | exact Or.inr (Or.inr rfl)) (hd : (x == ("__debug__" : Str)) = false := by decide)
    (hcd : (x == ("__classdict__" : Str)) = false := by decide) : DE Tb X W (.Subscript (.Name x px) b pos) (M.bind (getO i) fun _ => M.bind fb fun y => M.bind (getO i) fun ds => opt (ixD (.list ds) y)) :=
  pe_imp (pe_ix ix_list (pe_var hN hv hd hcd) hb hs) fun σ H Q ⟨P, F0, B, Fz, ρ, r, h⟩ => by
    obtain ⟨ds0, h0, k0⟩ := (h.bind).opt
    obtain ⟨p, vs, hp, _⟩ := r.peek h0
    refine ⟨.ref p, hp, P, F0, B, Fz, ρ, r, (k0 H Fz r (Ex.refl _)).bind.imp fun y ρ1 H1 F1 r1 e1 h1 v hv => ?_⟩
    obtain ⟨ds, hds, k1⟩ := (h1.bind).opt
    obtain ⟨p', vs', hp', _, _, hl, hvs⟩ := r1.peek hds
    rw [hp] at hp'
    cases hp'
    have k2 := k1 H1 F1 r1 (Ex.refl _)
    obtain ⟨d, hd, k⟩ := k2.opt
    obtain ⟨j, rfl, hd⟩ := ixD_list hd
    cases hv.int_of
    obtain ⟨w, hw, hr⟩ := hvs.atI hd
    exact ⟨p, vs', _, w, rfl, rfl, SqL.of hl, hw, k H1 F1 r1 (Ex.refl _) _ hr⟩
end
end DL

/-! ## DL4: calls -/
namespace DL
open PySem PySem.Spec PyProof.Rows L2
open Evl (Ex)

section
variable {Tb : TbT} {X : Cx} {W : WX} {K : KT} {mg : Str → Option Value} {P : Addr} {F0 B Fz H : Hp} {σ : St} {ρ : Env}
variable {a b c e : Expr} {fa fb fc f : M D} {pos p : Pos} {es : List Expr} {fs : M (List D)}
/-! ### built-ins by name -/
theorem de_callB {x : Str} {id : String} {g : List D → Option D} (hc : CallD X (.builtin id) g) (hg : Gl X x) (hm : X.mg x = none) (hv : bootBuiltins x = some (.builtin id)) (ha : DA Tb X W (e :: es) fs) (hn : x ≠ "__name__" := by decide) (hdb : (x == ("__debug__" : Str)) = false := by decide)
    (he : starEach (e :: es) X.env = (false, eval e X.env) :: starEach es X.env := by rfl) (hpl : (backTo pos (starEach es X.env)).any (·.1) = false := by rfl) : DE Tb X W (.Call (.Name x p) (e :: es) [] pos) (M.bind fs fun ds => opt (g ds)) :=
  pe_imp (pe_callB hc hg hm hv ha.pa hn hdb he hpl) fun σ H Q ⟨P, F0, B, Fz, ρ, r, h⟩ => ⟨P, F0, B, Fz, ρ, r, h.bind.imp fun ds ρ1 H1 F1 r1 e1 h1 vs hvs => by
    obtain ⟨d, hd, k⟩ := h1.opt
    exact ⟨F1, ds, d, r1.ef, hvs, hd, outOf r1 k⟩⟩
theorem dn_callB {x : Str} {id : String} {g : List D → Option (List D)} (hc : CallN X (.builtin id) g) (hg : Gl X x) (hm : X.mg x = none) (hv : bootBuiltins x = some (.builtin id)) (ha : DA Tb X W (e :: es) fs) (hn : x ≠ "__name__" := by decide) (hdb : (x == ("__debug__" : Str)) = false := by decide)
    (he : starEach (e :: es) X.env = (false, eval e X.env) :: starEach es X.env := by rfl) (hpl : (backTo pos (starEach es X.env)).any (·.1) = false := by rfl) : DN Tb X W (.Call (.Name x p) (e :: es) [] pos) (M.bind fs fun ds => opt (g ds)) :=
  pe_imp (pe_callB hc hg hm hv ha.pa hn hdb he hpl) fun σ H Q ⟨P, F0, B, Fz, ρ, r, h⟩ => ⟨P, F0, B, Fz, ρ, r, h.bind.imp fun ds ρ1 H1 F1 r1 e1 h1 vs hvs => by
    obtain ⟨d, hd, k⟩ := h1.opt
    exact ⟨F1, ds, d, r1.ef, hvs, hd, outOfN r1 k⟩⟩
theorem de_callT {x : Str} {id : String} {g : List D → Option D} (hc : CallD X (.type id) g) (hg : Gl X x) (hm : X.mg x = none) (hv : bootBuiltins x = some (.type id)) (ha : DA Tb X W (e :: es) fs) (hn : x ≠ "__name__" := by decide) (hdb : (x == ("__debug__" : Str)) = false := by decide)
    (he : starEach (e :: es) X.env = (false, eval e X.env) :: starEach es X.env := by rfl) (hpl : (backTo pos (starEach es X.env)).any (·.1) = false := by rfl) : DE Tb X W (.Call (.Name x p) (e :: es) [] pos) (M.bind fs fun ds => opt (g ds)) :=
  pe_imp (pe_callTy hc hg hm hv ha.pa hn hdb he hpl) fun σ H Q ⟨P, F0, B, Fz, ρ, r, h⟩ => ⟨P, F0, B, Fz, ρ, r, h.bind.imp fun ds ρ1 H1 F1 r1 e1 h1 vs hvs => by
    obtain ⟨d, hd, k⟩ := h1.opt
    exact ⟨F1, ds, d, r1.ef, hvs, hd, outOf r1 k⟩⟩
theorem dn_callT {x : Str} {id : String} {g : List D → Option (List D)} (hc : CallN X (.type id) g) (hg : Gl X x) (hm : X.mg x = none) (hv : bootBuiltins x = some (.type id)) (ha : DA Tb X W (e :: es) fs) (hn : x ≠ "__name__" := by decide) (hdb : (x == ("__debug__" : Str)) = false := by decide)
    (he : starEach (e :: es) X.env = (false, eval e X.env) :: starEach es X.env := by rfl) (hpl : (backTo pos (starEach es X.env)).any (·.1) = false := by rfl) : DN Tb X W (.Call (.Name x p) (e :: es) [] pos) (M.bind fs fun ds => opt (g ds)) :=
  pe_imp (pe_callTy hc hg hm hv ha.pa hn hdb he hpl) fun σ H Q ⟨P, F0, B, Fz, ρ, r, h⟩ => ⟨P, F0, B, Fz, ρ, r, h.bind.imp fun ds ρ1 H1 F1 r1 e1 h1 vs hvs => by
    obtain ⟨d, hd, k⟩ := h1.opt
    exact ⟨F1, ds, d, r1.ef, hvs, hd, outOfN r1 k⟩⟩

/-! ### len, abs, int, any, all, sum, tuple, list -/
def lenD : List D → Option D
  | [.list ds] => some (.int ds.length)
  | [.tuple ds] => some (.int ds.length)
  | [.str x] => if x.length ≤ lim then some (.int x.length) else none
  | _ => none
theorem cd_len : CallD X (.builtin "len") lenD := by
  intro pins s σ H xs us Q I r h
  obtain ⟨Fz, ds, d, e, hx, hg, o⟩ := h
  unfold lenD at hg
  split at hg
  · cases hg
    obtain ⟨v, rfl, hv⟩ := hx.one
    obtain ⟨q, vs, rfl, hp, hvs⟩ := hv.lst_of
    exact call_len pins s σ H _ us Q I r ⟨_, _, rfl, .inl ⟨vs, SqL.of (e _ _ hp), hvs.length.symm⟩, o.here e (.int _)⟩
  · cases hg
    obtain ⟨v, rfl, hv⟩ := hx.one
    obtain ⟨q, vs, rfl, hp, hvs⟩ := hv.tup_of
    exact call_len pins s σ H _ us Q I r ⟨_, _, rfl, .inr ⟨vs, SqT.of (e _ _ hp), hvs.length.symm⟩, o.here e (.int _)⟩
  · split at hg
    · rename_i hl
      cases hg
      obtain ⟨v, rfl, hv⟩ := hx.one
      cases hv.str_of
      exact call_len pins s σ H _ us Q I r ⟨_, _, rfl, ⟨lim_ok hl, rfl⟩, o.here e (.int _)⟩
    · cases hg
  · cases hg
/-- len(x), x a list of one's own -/
theorem de_lenO (i : Nat) {x : Str} {px : Pos} (hg : Gl X "len") (hm : X.mg "len" = none) (hN : X.N[i]? = some x := by rfl) (hv : Vis X.env.scope x := by first | exact Or.inl rfl | exact Or.inr (Or.inl rfl) | exact Or.inr (Or.inr rfl)) (hd : (x == ("__debug__" : Str)) = false := by decide)
    (hcd : (x == ("__classdict__" : Str)) = false := by decide) (he : starEach [Expr.Name x px] X.env = (false, eval (Expr.Name x px) X.env) :: starEach [] X.env := by rfl) (hpl : (backTo pos (starEach [] X.env)).any (·.1) = false := by rfl) :
    DE Tb X W (.Call (.Name "len" p) [.Name x px] [] pos) (M.bind (getO i) fun ds => M.pure (.int ds.length)) :=
  pe_imp (pe_callB call_len hg hm PySem.boot_len (pa_cons (pe_var hN hv hd hcd) pa_nil he) (by decide) (by decide) he hpl) fun σ H Q ⟨P, F0, B, Fz, ρ, r, h⟩ => by
    obtain ⟨ds, h0, k0⟩ := (h.bind).opt
    obtain ⟨q, vs, hp, _, _, hl, hvs⟩ := r.peek h0
    exact ⟨.ref q, hp, _, _, rfl, .inl ⟨vs, SqL.of hl, hvs.length.symm⟩, (k0 H Fz r (Ex.refl _)).now r _ (.int _)⟩
def absD : List D → Option D
  | [.int i] => some (.int (if i < 0 then -i else i))
  | _ => none
theorem cd_abs : CallD X (.builtin "abs") absD := by
  intro pins s σ H xs us Q I r h
  obtain ⟨Fz, ds, d, e, hx, hg, o⟩ := h
  unfold absD at hg
  split at hg
  · cases hg
    obtain ⟨v, rfl, hv⟩ := hx.one
    cases hv.int_of
    exact call_abs pins s σ H _ us Q I r ⟨_, rfl, o.here e (.int _)⟩
  · cases hg
def intD : List D → Option D
  | [.int i] => some (.int i)
  | [.bool b] => some (.int (if b then 1 else 0))
  | _ => none
theorem cd_int : CallD X (.type "int") intD := by
  intro pins s σ H xs us Q I r h
  obtain ⟨Fz, ds, d, e, hx, hg, o⟩ := h
  unfold intD at hg
  split at hg
  · cases hg
    obtain ⟨v, rfl, hv⟩ := hx.one
    cases hv.int_of
    exact call_int1 pins s σ H _ us Q I r (.inl ⟨_, rfl, o.here e (.int _)⟩)
  · cases hg
    obtain ⟨v, rfl, hv⟩ := hx.one
    cases hv.bl_of
    exact call_int1 pins s σ H _ us Q I r (.inr ⟨_, rfl, o.here e (.int _)⟩)
  · cases hg
def boolsOf : List D → Option (List Bool)
  | [] => some []
  | .bool b :: r => (boolsOf r).map (b :: ·)
  | _ :: _ => none
theorem bools_of {H : Hp} : ∀ {ds : List D} {vs : List V} {bs : List Bool}, RpAll H vs ds → boolsOf ds = some bs → vs = bs.map V.bl
  | [], _, _, h, e => by cases h; cases e; rfl
  | d :: ds, _, _, h, e => by
    cases h with
    | cons h1 h2 =>
      unfold boolsOf at e
      split at e
      · rename_i e1; cases e1
      · rename_i e1
        cases e1
        cases hb : boolsOf ds with
        | none => rw [hb] at e; cases e
        | some bs =>
          rw [hb] at e
          cases e
          rw [h1.bl_of, bools_of h2 hb]
          rfl
      · cases e
def intsOf : List D → Option (List Int)
  | [] => some []
  | .int b :: r => (intsOf r).map (b :: ·)
  | _ :: _ => none
theorem ints_of {H : Hp} : ∀ {ds : List D} {vs : List V} {bs : List Int}, RpAll H vs ds → intsOf ds = some bs → vs = bs.map V.int
  | [], _, _, h, e => by cases h; cases e; rfl
  | d :: ds, _, _, h, e => by
    cases h with
    | cons h1 h2 =>
      unfold intsOf at e
      split at e
      · rename_i e1; cases e1
      · rename_i e1
        cases e1
        cases hb : intsOf ds with
        | none => rw [hb] at e; cases e
        | some bs =>
          rw [hb] at e
          cases e
          rw [h1.int_of, ints_of h2 hb]
          rfl
      · cases e
def strsOf : List D → Option (List Str)
  | [] => some []
  | .str b :: r => (strsOf r).map (b :: ·)
  | _ :: _ => none
theorem strs_of {H : Hp} : ∀ {ds : List D} {vs : List V} {bs : List Str}, RpAll H vs ds → strsOf ds = some bs → vs = bs.map V.str
  | [], _, _, h, e => by cases h; cases e; rfl
  | d :: ds, _, _, h, e => by
    cases h with
    | cons h1 h2 =>
      unfold strsOf at e
      split at e
      · rename_i e1; cases e1
      · rename_i e1
        cases e1
        cases hb : strsOf ds with
        | none => rw [hb] at e; cases e
        | some bs =>
          rw [hb] at e
          cases e
          rw [h1.str_of, strs_of h2 hb]
          rfl
      · cases e
theorem rp_ints {H : Hp} : ∀ ns : List Int, RpAll H (ns.map V.int) (ns.map PyData.int)
  | [] => .nil
  | n :: ns => .cons (.int n) (rp_ints ns)
theorem rp_strs {H : Hp} : ∀ ns : List Str, RpAll H (ns.map V.str) (ns.map PyData.str)
  | [] => .nil
  | n :: ns => .cons (.str n) (rp_strs ns)
def anyD : List D → Option D
  | [.list ds] => (boolsOf ds).map fun bs => .bool (bs.any id)
  | _ => none
def allD : List D → Option D
  | [.list ds] => (boolsOf ds).map fun bs => .bool (bs.all id)
  | _ => none
theorem cd_any (hc : X.calm = true) : CallD X (.builtin "any") anyD := by
  intro pins s σ H xs us Q I r h
  obtain ⟨Fz, ds, d, e, hx, hg, o⟩ := h
  unfold anyD at hg
  split at hg
  · rename_i ds
    obtain ⟨v, rfl, hv⟩ := hx.one
    obtain ⟨q, vs, rfl, hp, hvs⟩ := hv.lst_of
    cases hb : boolsOf ds with
    | none => rw [hb] at hg; cases hg
    | some bs =>
      rw [hb] at hg
      cases hg
      have ev := bools_of hvs hb
      subst ev
      exact cr_any hc pins s σ H _ us Q I r ⟨q, bs, rfl, SqL.of (e _ _ hp), o.here e (.bl _)⟩
  · cases hg
theorem cd_all (hc : X.calm = true) : CallD X (.builtin "all") allD := by
  intro pins s σ H xs us Q I r h
  obtain ⟨Fz, ds, d, e, hx, hg, o⟩ := h
  unfold allD at hg
  split at hg
  · rename_i ds
    obtain ⟨v, rfl, hv⟩ := hx.one
    obtain ⟨q, vs, rfl, hp, hvs⟩ := hv.lst_of
    cases hb : boolsOf ds with
    | none => rw [hb] at hg; cases hg
    | some bs =>
      rw [hb] at hg
      cases hg
      have ev := bools_of hvs hb
      subst ev
      exact cr_all hc pins s σ H _ us Q I r ⟨q, bs, rfl, SqL.of (e _ _ hp), o.here e (.bl _)⟩
  · cases hg
def sumD : List D → Option D
  | [.list ds] => (intsOf ds).map fun bs => .int bs.sum
  | _ => none
theorem cd_sum (hc : X.calm = true) : CallD X (.builtin "sum") sumD := by
  intro pins s σ H xs us Q I r h
  obtain ⟨Fz, ds, d, e, hx, hg, o⟩ := h
  unfold sumD at hg
  split at hg
  · rename_i ds
    obtain ⟨v, rfl, hv⟩ := hx.one
    obtain ⟨q, vs, rfl, hp, hvs⟩ := hv.lst_of
    cases hb : intsOf ds with
    | none => rw [hb] at hg; cases hg
    | some bs =>
      rw [hb] at hg
      cases hg
      have ev := ints_of hvs hb
      subst ev
      exact cr_sum hc pins s σ H _ us Q I r ⟨q, bs, rfl, SqL.of (e _ _ hp), o.here e (.int _)⟩
  · cases hg
def tupleD : List D → Option D
  | [.list ds] => some (.tuple ds)
  | [.tuple ds] => some (.tuple ds)
  | _ => none
theorem cd_tuple : CallD X (.type "tuple") tupleD := by
  intro pins s σ H xs us Q I r h
  obtain ⟨Fz, ds, d, e, hx, hg, o⟩ := h
  unfold tupleD at hg
  split at hg
  · cases hg
    obtain ⟨v, rfl, hv⟩ := hx.one
    obtain ⟨q, vs, rfl, hp, hvs⟩ := hv.lst_of
    exact call_tuple_of pins s σ H _ us Q I r ⟨_, _, rfl, .inl ⟨SqL.of (e _ _ hp), fun l hl => o.tup e hl hvs⟩⟩
  · cases hg
    obtain ⟨v, rfl, hv⟩ := hx.one
    obtain ⟨q, vs, rfl, hp, hvs⟩ := hv.tup_of
    exact call_tuple_of pins s σ H _ us Q I r ⟨_, _, rfl, .inr ⟨SqT.of (e _ _ hp), o.here e (.tup hp hvs)⟩⟩
  · cases hg
def listD : List D → Option (List D)
  | [.list ds] => some ds
  | [.tuple ds] => some ds
  | _ => none
theorem cn_list : CallN X (.type "list") listD := by
  intro pins s σ H xs us Q I r h
  obtain ⟨Fz, ds, d, e, hx, hg, o⟩ := h
  unfold listD at hg
  split at hg
  · cases hg
    obtain ⟨v, rfl, hv⟩ := hx.one
    obtain ⟨q, vs, rfl, hp, hvs⟩ := hv.lst_of
    exact call_list_of pins s σ H _ us Q I r ⟨_, _, rfl, .inl (SqL.of (e _ _ hp)), fun l hl => o.here e hl hvs⟩
  · cases hg
    obtain ⟨v, rfl, hv⟩ := hx.one
    obtain ⟨q, vs, rfl, hp, hvs⟩ := hv.tup_of
    exact call_list_of pins s σ H _ us Q I r ⟨_, _, rfl, .inr (SqT.of (e _ _ hp)), fun l hl => o.here e hl hvs⟩
  · cases hg
def max2D : List D → Option D
  | [.int i, .int j] => some (.int (if j > i then j else i))
  | _ => none
def min2D : List D → Option D
  | [.int i, .int j] => some (.int (if j < i then j else i))
  | _ => none
theorem cd_max2 (hc : X.calm = true) : CallD X (.builtin "max") max2D := by
  intro pins s σ H xs us Q I r h
  obtain ⟨Fz, ds, d, e, hx, hg, o⟩ := h
  unfold max2D at hg
  split at hg
  · cases hg
    obtain ⟨v, w, rfl, hv, hw⟩ := hx.two
    cases hv.int_of
    cases hw.int_of
    exact call_max2 hc pins s σ H _ us Q I r ⟨_, _, rfl, o.here e (.int _)⟩
  · cases hg
theorem cd_min2 (hc : X.calm = true) : CallD X (.builtin "min") min2D := by
  intro pins s σ H xs us Q I r h
  obtain ⟨Fz, ds, d, e, hx, hg, o⟩ := h
  unfold min2D at hg
  split at hg
  · cases hg
    obtain ⟨v, w, rfl, hv, hw⟩ := hx.two
    cases hv.int_of
    cases hw.int_of
    exact call_min2 hc pins s σ H _ us Q I r ⟨_, _, rfl, o.here e (.int _)⟩
  · cases hg

/-! ### slices -/
def cutD (ds : List D) (lo hi : Option Int) : List D := (ds.drop (HT.sIx ds.length 0 lo)).take (HT.sIx ds.length ds.length hi - HT.sIx ds.length 0 lo)
theorem RpAll.cut {H : Hp} {vs : List V} {ds : List D} (h : RpAll H vs ds) (lo hi : Option Int) : RpAll H (cutV vs lo hi) (cutD ds lo hi) := by
  unfold cutV cutD
  rw [h.length]
  exact (h.drop _).take _
/-- a slice's part -/
structure DO (Tb : TbT) (X : Cx) (W : WX) (e : Option Expr) (f : M (Option Int)) : Prop where
  po : PO X e fun σ H Q => ∃ P F0 B Fz ρ, Rl (KT.mk X.K Tb) P F0 B Fz H σ ρ ∧ Po (KT.mk X.K Tb) X.mg W P F0 B σ Fz (f ρ) fun d _ H' _ => Q d H'
theorem do_none : DO Tb X W none (M.pure none) := ⟨⟨fun pins s σ H Q I ⟨P, F0, B, Fz, ρ, r, h⟩ => po_none.run pins s σ H Q I (h.now r)⟩⟩
def partOf : D → Option (Option Int)
  | .int i => some (some i)
  | _ => none
theorem do_some (h : DE Tb X W e f) : DO Tb X W (some e) (M.bind f fun d => opt (partOf d)) := ⟨⟨fun pins s σ H Q I ⟨P, F0, B, Fz, ρ, r, k⟩ => (po_some h).run pins s σ H Q I ⟨P, F0, B, Fz, ρ, r, k.bind.imp fun x ρ1 H1 F1 r1 e1 h1 v hv => by
  obtain ⟨d, hd, k⟩ := h1.opt
  unfold partOf at hd
  split at hd
  · cases hd
    exact ⟨_, hv.int_of, k H1 F1 r1 (Ex.refl _)⟩
  · cases hd⟩⟩⟩
def slD : D → Option Int → Option Int → Option D
  | .tuple ds, lo, hi => some (.tuple (cutD ds lo hi))
  | .str x, lo, hi => if x.length ≤ lim then some (.str (cutS x lo hi)) else none
  | .list ds, lo, hi => some (.list (cutD ds lo hi))
  | _, _, _ => none
theorem cutD_whole {ds : List D} {lo hi : Option Int} (h : HT.sIx ds.length 0 lo = 0 ∧ HT.sIx ds.length ds.length hi = ds.length) : cutD ds lo hi = ds := by
  unfold cutD
  rw [h.1, h.2, List.drop_zero, Nat.sub_zero, List.take_length]
def rSlD : V → Option Int → Option Int → Hp → VK → Prop := fun x lo hi H Q => ∃ Fz dx d, Ex Fz H ∧ Rp Fz x dx ∧ slD dx lo hi = some d ∧ Out Fz H d Q
theorem sld : SlR X rSlD := by
  intro pins s σ H x v vl vu lo hi sl Q I rx hs pl pu h
  obtain ⟨Fz, dx, d, e, hx, hg, o⟩ := h
  unfold slD at hg
  split at hg
  · cases hg
    obtain ⟨q, vs, rfl, hp, hvs⟩ := hx.tup_of
    refine sl_tupA pins s σ H _ v vl vu _ _ sl Q I rx hs pl pu ⟨q, vs, rfl, SqT.of (e _ _ hp), fun hw => ?_, fun _ z hz => o.tup e hz (hvs.cut _ _)⟩
    rw [hvs.length] at hw
    rw [cutD_whole hw] at o
    exact o.here e (.tup hp hvs)
  · split at hg
    · rename_i hl
      cases hg
      cases hx.str_of
      exact sl_str pins s σ H _ v vl vu _ _ sl Q I rx hs pl pu ⟨_, rfl, lim_ok hl, o.here e (.str _)⟩
    · cases hg
  · cases hg
    obtain ⟨q, vs, rfl, hp, hvs⟩ := hx.lst_of
    exact sl_list pins s σ H _ v vl vu _ _ sl Q I rx hs pl pu ⟨q, vs, rfl, SqL.of (e _ _ hp), fun z hz => o.lst e hz (hvs.cut _ _)⟩
  · cases hg
variable {lo hi : Option Expr} {fl fh : M (Option Int)} {p2 : Pos}
theorem de_slice (ha : DE Tb X W e f) (hl : DO Tb X W lo fl) (hh : DO Tb X W hi fh) : DE Tb X W (.Subscript e (.Slice lo hi none p2) pos) (M.bind f fun x => M.bind fl fun l => M.bind fh fun u => opt (slD x l u)) :=
  pe_imp (pe_slice sld ha hl.po hh.po) fun σ H Q ⟨P, F0, B, Fz, ρ, r, h⟩ => ⟨P, F0, B, Fz, ρ, r, h.bind.imp fun x ρ1 H1 F1 r1 e1 h1 v hv => ⟨P, F0, B, F1, ρ1, r1, h1.bind.imp fun l ρ2 H2 F2 r2 e2 h2 => ⟨P, F0, B, F2, ρ2, r2, h2.bind.imp fun u ρ3 H3 F3 r3 e3 h3 => by
    obtain ⟨d, hd, k⟩ := h3.opt
    exact ⟨F3, x, d, r3.ef, (hv.mono e2).mono e3, hd, outOf r3 k⟩⟩⟩⟩
/-- x[::-1], a list -/
def revLD : D → Option (List D)
  | .list ds => some ds.reverse
  | _ => none
theorem dn_rev {k : Nat} {p1 p3 : Pos} (ha : DE Tb X W e f) : DN Tb X W (.Subscript e (.Slice none none (some (.UnaryOp .USub (.Constant (.int 1) k p1) p2)) p3) pos) (M.bind f fun x => opt (revLD x)) :=
  pe_imp (pe_revL ha) fun σ H Q ⟨P, F0, B, Fz, ρ, r, h⟩ => ⟨P, F0, B, Fz, ρ, r, h.bind.imp fun x ρ1 H1 F1 r1 e1 h1 v hv => by
    obtain ⟨d, hd, k⟩ := h1.opt
    unfold revLD at hd
    split at hd
    · cases hd
      obtain ⟨q, vs, rfl, hp, hvs⟩ := hv.lst_of
      exact ⟨q, vs, rfl, SqL.of (r1.ef _ _ hp), fun z hz => (outOfN r1 k).here r1.ef hz hvs.reverse⟩
    · cases hd⟩

/-! ### methods of texts -/
def strOf : D → Option Str
  | .str x => some x
  | _ => none
theorem strOf_some {d : D} {x : Str} (h : strOf d = some x) : d = .str x := by
  unfold strOf at h
  split at h
  · cases h; rfl
  · cases h
def seqOf : D → Option (List D)
  | .list ds => some ds
  | .tuple ds => some ds
  | _ => none
theorem seqOf_some {H : Hp} {v : V} {d : D} {ds : List D} (hv : Rp H v d) (h : seqOf d = some ds) : ∃ q vs, v = .ref q ∧ (H q = some (.lst vs) ∨ H q = some (.tup vs)) ∧ RpAll H vs ds := by
  unfold seqOf at h
  split at h
  · cases h
    obtain ⟨q, vs, h1, h2, h3⟩ := hv.lst_of
    exact ⟨q, vs, h1, .inl h2, h3⟩
  · cases h
    obtain ⟨q, vs, h1, h2, h3⟩ := hv.tup_of
    exact ⟨q, vs, h1, .inr h2, h3⟩
  · cases h
def joinD (a : Str) (y : D) : Option D := (seqOf y).bind fun ds => (strsOf ds).bind fun ys => if (ys.map (·.length)).sum + ys.length * a.length ≤ lim then some (.str (Txt.join a ys)) else none
theorem de_join {apos : Pos} (ha : DE Tb X W a fa) (hb : DE Tb X W b fb) (hs : starEach [b] X.env = [(false, eval b X.env)] := by rfl) (hbase : attributeBase a "join" X.env (eval a X.env) = eval a X.env := by rfl) (hline : (apos.endLine == pos.line) = true := by rfl) :
    DE Tb X W (.Call (.Attribute a "join" apos) [b] [] pos) (M.bind fa fun x => M.bind (opt (strOf x)) fun z => M.bind fb fun y => opt (joinD z y)) :=
  pe_imp (pe_join ha hb hs hbase hline) fun σ H Q ⟨P, F0, B, Fz, ρ, r, h⟩ => ⟨P, F0, B, Fz, ρ, r, h.bind.imp fun x ρ1 H1 F1 r1 e1 h1 v hv => by
    obtain ⟨z, hx, k1⟩ := (h1.bind).opt
    cases strOf_some hx
    cases hv.str_of
    refine ⟨⟨_, rfl⟩, P, F0, B, F1, ρ1, r1, (k1 H1 F1 r1 (Ex.refl _)).bind.imp fun y ρ2 H2 F2 r2 e2 h2 w hw => ?_⟩
    obtain ⟨d, hd, k⟩ := h2.opt
    unfold joinD at hd
    cases hq : seqOf y with
    | none => rw [hq] at hd; cases hd
    | some ds =>
      rw [hq, Option.bind_some] at hd
      cases hy : strsOf ds with
      | none => rw [hy] at hd; cases hd
      | some ys =>
        rw [hy, Option.bind_some] at hd
        split at hd
        · rename_i hl
          cases hd
          obtain ⟨q, vs, rfl, hp, hvs⟩ := seqOf_some hw hq
          have ev := strs_of hvs hy
          subst ev
          refine ⟨z, q, ys, rfl, rfl, ?_, Nat.le_trans hl (by decide), k H2 F2 r2 (Ex.refl _) _ (.str _)⟩
          rcases hp with hp | hp
          · exact .inl (SqL.of (r2.ef _ _ hp))
          · exact .inr (SqT.of (r2.ef _ _ hp))
        · cases hd⟩
/-- s.index(t), t found in s -/
def sidxD (x : Str) : D → Option D
  | .str y => (Builtin.Str.occurrences x y 0 x.length 1).head?.map fun i => .int (i : Nat)
  | _ => none
theorem de_sindex {apos : Pos} (ha : DE Tb X W a fa) (hb : DE Tb X W b fb) (hbase : attributeBase a "index" X.env (eval a X.env) = eval a X.env := by rfl)
    (hfew : ((backTo pos (starEach [b] X.env)).all (fun x => !x.1) && (backToKw pos (keywordEach [] X.env)).all (fun x => x.1.isSome) && decide (([b] : List Expr).length + ([] : List Keyword).length + (if ([] : List Keyword).isEmpty then 0 else 1) < 30)) = true := by rfl)
    (hline : (apos.endLine == pos.line) = true := by rfl) (hs : starEach [b] X.env = (false, eval b X.env) :: starEach [] X.env := by rfl) (hplain : (backTo pos (starEach [] X.env)).any (·.1) = false := by rfl) :
    DE Tb X W (.Call (.Attribute a "index" apos) [b] [] pos) (M.bind fa fun x => M.bind (opt (strOf x)) fun z => M.bind fb fun y => opt (sidxD z y)) :=
  pe_imp (pe_bm PySem.F.plainAttrs_str PySem.F.slot_str_index PySem.F.type_str_index mt_sindex ha (da_cons hb da_nil hs).pa hbase hfew hline hs hplain) fun σ H Q ⟨P, F0, B, Fz, ρ, r, h⟩ => ⟨P, F0, B, Fz, ρ, r, h.bind.imp fun x ρ1 H1 F1 r1 e1 h1 v hv => by
    obtain ⟨z, hx, k1⟩ := (h1.bind).opt
    cases strOf_some hx
    cases hv.str_of
    refine ⟨rfl, P, F0, B, F1, ρ1, r1, ?_⟩
    have k2 := (k1 H1 F1 r1 (Ex.refl _)).bind
    cases hf : fb ρ1 with
    | bad => rw [hf] at k2; exact k2.elim
    | er c ρ' =>
      rw [hf] at k2
      rw [M.bind_def, hf]
      exact k2
    | ok y ρ2 =>
      rw [hf] at k2
      rw [M.bind_def, hf]
      simp only [M.bind_def, M.pure_def]
      intro H2 F2 r2 e2 vs hvs
      obtain ⟨w, rfl, hw⟩ := hvs.one
      obtain ⟨d, hd, k⟩ := (k2 H2 F2 r2 e2).opt
      cases y with
      | str y =>
        cases hw.str_of
        unfold sidxD at hd
        dsimp only at hd
        cases hy : Builtin.Str.occurrences z y 0 z.length 1 with
        | nil => rw [hy] at hd; cases hd
        | cons i rest =>
          rw [hy] at hd
          cases hd
          exact ⟨z, y, i, rest, rfl, rfl, hy, k H2 F2 r2 (Ex.refl _) _ (.int _)⟩
      | _ => cases hd⟩

/-! ### defs -/
/-- a def's promise: data in, data out -/
def spD (Tb : List (Addr × Str)) (mg : Str → Option Value) (n : Nat) (F : List D → Rz) : Sp := fun vs H Q E => LamX.Tabs Tb H ∧ ∃ Fz ds, Ex Fz H ∧ RpAll Fz vs ds ∧ ds.length = n ∧ match F ds with
  | .ok d => Out Fz H d Q
  | .er c => ∀ H' C, Ex H H' → mg c = some (.ref C) → E (.ref C) none H'
  | .bad => False
def callM : Rz → M D
  | .ok d => M.pure d
  | .er c => fun ρ => .er c ρ
  | .bad => M.bad
theorem de_call {x : Str} {k n : Nat} {g : Addr} {fd : FuncData} {ps : List Str} {F : List D → Rz} (G : FnOk X.prog X.w X.K X.mg X.base (L2N.CX X.prog X.w) k g fd ps (spD Tb.l X.mg n F)) (hr : Room k X.A) (hg : Gl X x) (hm : X.mg x = some (.ref g)) (hk : PySem.W.keepIn X.K (.ref g) = true)
    (hb : Binds X.K fd ps []) (tk : L2N.Takes X W) (ha : DA Tb X W (e :: es) fs) (hn : (e :: es).length = n := by rfl) (hdb : (x == ("__debug__" : Str)) = false := by decide) (he : starEach (e :: es) X.env = (false, eval e X.env) :: starEach es X.env := by rfl)
    (hpl : (backTo pos (starEach es X.env)).any (·.1) = false := by rfl) : DE Tb X W (.Call (.Name x p) (e :: es) [] pos) (M.bind fs fun ds => callM (F ds)) :=
  pe_imp (pe_callS G hr hg hm hk hb (fun σ => L2N.passAt tk σ) ha.pa hdb he hpl) fun σ H Q ⟨P, F0, B, Fz, ρ, r, h⟩ => by
    refine ⟨P, F0, B, Fz, ρ, r, ?_⟩
    cases hf : fs ρ with
    | bad => rw [M.bind_def, hf] at h; exact h.elim
    | er c ρ' => rw [M.bind_def, hf] at h; exact h
    | ok ds ρ1 =>
      rw [M.bind_def, hf] at h
      have h : Po (KT.mk X.K Tb) X.mg W P F0 B σ Fz (callM (F ds) ρ1) _ := h
      intro H1 F1 r1 e1 vs hvs
      refine ⟨r1.tab, F1, ds, r1.ef, hvs, (ha.len _ _ _ hf).trans hn, ?_⟩
      cases hF : F ds with
      | bad => rw [hF] at h; exact h.elim
      | ok d =>
        rw [hF] at h
        exact outOf r1 fun H' F' r' e' => h H' F' r' (e1.trans e')
      | er c =>
        rw [hF] at h
        exact fun H' C eH hC => h H' F1 C (r1.heap eH) e1 hC
/-- behind a call that changed an object of one's own -/
theorem Rl.called {i : Nat} {q : Addr} {sb : Bool} {d : D} {F' H' : Hp} {ws' : List V} {s1 : List D} (r : Rl K P F0 B Fz H σ ρ) (hi : ρ[i]? = some (some (.own sb d))) (hq : σ[i]? = some (some (.ref q)))
    (hkeep : ∀ a u, a ≠ q → H a = some u → H' a = some u) (eF : Ex Fz F') (eFH : Ex F' H') (nw : Nw Fz H F') (hF'q : F' q = none) (hH'q : H' q = some (.lst ws')) (hws : RpAll F' ws' s1) : Rl K P F0 B F' H' σ (ρ.set i (some (.own sb (.list s1)))) := by
  obtain ⟨q', o, h1, h2, h3, h4, h5, h6⟩ := r.own i sb d hi
  rw [hq] at h1
  cases h1
  refine ⟨r.e0.trans eF, eFH, fun a u e => hkeep a u (ne_of_none e h4) (r.eb a u e), fun a h => ?_, by rw [List.length_set, r.len], fun j e hj => ?_, fun j t e hj => ?_, fun j e hj => ?_, fun a b s' t d1 e1 p hab ha hb e2 e3 => ?_, by cases h6 with | lst _ => exact tabs_keep r.tab h5 hkeep, fun ho t ht => ⟨nt_grow r.tab ht (r.nt ho t ht).1 nw, (r.nt ho t ht).2⟩⟩
  · rcases nw a h with z | z
    · exact r.fr a z
    · cases e : B a with
      | none => exact .inr rfl
      | some o => rw [r.eb a o e] at z; cases z
  · rcases set_get hj with ⟨rfl, z⟩ | ⟨ne, z⟩
    · cases z
    · obtain ⟨v, k1, k2⟩ := r.val j e z
      exact ⟨v, k1, k2.mono eF⟩
  · rcases set_get hj with ⟨rfl, z⟩ | ⟨ne, z⟩
    · injection z with z
      injection z with z1 z2
      subst z1 z2
      exact ⟨q, .lst ws', hq, h2, hF'q, h4, hH'q, .lst hws⟩
    · obtain ⟨p2, o2, k1, k2, k3, k4, k5, k6⟩ := r.own j t e z
      have npq : p2 ≠ q := by
        rintro rfl
        exact r.ap j i t sb e d p2 ne z hi k1 hq
      refine ⟨p2, o2, k1, k2, ?_, k4, hkeep p2 o2 npq k5, k6.mono eF⟩
      cases e4 : F' p2 with
      | none => rfl
      | some u =>
        rcases nw p2 (by rw [e4]; exact nofun) with y | y
        · exact absurd k3 y
        · rw [y] at k5; cases k5
  · rcases set_get hj with ⟨rfl, z⟩ | ⟨ne, z⟩
    · cases z
    · obtain ⟨a, vs, k1, k2, k3⟩ := r.seq j e z
      exact ⟨a, vs, k1, Evl.ex_l eF k2, k3.mono eF⟩
  · have back : ∀ {c : Nat} {u : Bool} {f : D}, (ρ.set i (some (SV.own sb (.list s1))))[c]? = some (some (.own u f)) → ∃ u' f', ρ[c]? = some (some (.own u' f')) := fun {c u f} h => by
      rcases set_get h with ⟨rfl, z⟩ | ⟨ne, z⟩
      · exact ⟨sb, d, hi⟩
      · exact ⟨u, f, z⟩
    obtain ⟨u1, f1, b1⟩ := back ha
    obtain ⟨u2, f2, b2⟩ := back hb
    exact r.ap a b u1 u2 f1 f2 p hab b1 b2 e2 e3
/-- a def that changes its first argument, a list -/
def spO (Tb : List (Addr × Str)) (n : Nat) (F : List D → List D → Option (D × List D)) : Sp := fun vs H Q _ => LamX.Tabs Tb H ∧ ∃ Fz ds q ws us s0, vs = .ref q :: us ∧ Ex Fz H ∧ Fz q = none ∧ H q = some (.lst ws) ∧ RpAll Fz ws s0 ∧ RpAll Fz us ds ∧ ds.length + 1 = n ∧ ∃ d s1, F s0 ds = some (d, s1) ∧
  ∀ v H' Fz' ws', (∀ a u, a ≠ q → H a = some u → H' a = some u) → Ex Fz Fz' → Ex Fz' H' → Nw Fz H Fz' → Fz' q = none → H' q = some (.lst ws') → RpAll Fz' ws' s1 → Rp Fz' v d → Q v H'
def putO (i : Nat) (ds : List D) : M Unit := fun ρ => match ρ[i]? with
  | some (some (.own s _)) => .ok () (ρ.set i (some (.own s (.list ds))))
  | _ => .bad
theorem de_callO (i : Nat) {x y : Str} {py : Pos} {k n : Nat} {g : Addr} {fd : FuncData} {ps : List Str} {F : List D → List D → Option (D × List D)} (G : FnOk X.prog X.w X.K X.mg X.base (L2N.CX X.prog X.w) k g fd ps (spO Tb.l n F)) (hr : Room k X.A) (hg : Gl X x) (hm : X.mg x = some (.ref g)) (hk : PySem.W.keepIn X.K (.ref g) = true)
    (hb : Binds X.K fd ps []) (ha : DA Tb X W es fs) (hn : es.length + 1 = n := by rfl) (hN : X.N[i]? = some y := by rfl) (hv : Vis X.env.scope y := by first | exact Or.inl rfl | exact Or.inr (Or.inl rfl) | exact Or.inr (Or.inr rfl)) (hd : (y == ("__debug__" : Str)) = false := by decide)
    (hcd : (y == ("__classdict__" : Str)) = false := by decide) (hdb : (x == ("__debug__" : Str)) = false := by decide) (he : starEach (Expr.Name y py :: es) X.env = (false, eval (Expr.Name y py) X.env) :: starEach es X.env := by rfl)
    (hpl : (backTo pos (starEach es X.env)).any (·.1) = false := by rfl) :
    DE Tb X W (.Call (.Name x p) (.Name y py :: es) [] pos) (M.bind (getO i) fun _ => M.bind fs fun ds => M.bind (getO i) fun s0 => M.bind (opt (F s0 ds)) fun z => M.bind (putO i z.2) fun _ => M.pure z.1) :=
  pe_imp (pe_callS (E := fun _ _ _ _ => False) G hr hg hm hk hb (fun σ pins H s e s' I c => by
    obtain ⟨_, _, _, _, _, _, _, _, _, _, _, _, z⟩ := c
    exact z.elim) (pa_cons (pe_var hN hv hd hcd) ha.pa he) hdb he hpl) fun σ H Q ⟨P, F0, B, Fz, ρ, r, h⟩ => by
    obtain ⟨s00, h00, k0⟩ := (h.bind).opt
    obtain ⟨q, vs0, hq, _⟩ := r.peek h00
    refine ⟨.ref q, hq, P, F0, B, Fz, ρ, r, ?_⟩
    have k1 := k0 H Fz r (Ex.refl _)
    cases hf : fs ρ with
    | bad => rw [M.bind_def, hf] at k1; exact k1.elim
    | er c ρ' => rw [M.bind_def, hf] at k1; exact k1
    | ok ds ρ1 =>
      rw [M.bind_def, hf] at k1
      intro H1 F1 r1 e1 us hus
      have k2 := (k1 : Po (KT.mk X.K Tb) X.mg W P F0 B σ Fz ((M.bind (getO i) fun s0 => M.bind (opt (F s0 ds)) fun z => M.bind (putO i z.2) fun _ => M.pure z.1) ρ1) _).mono e1
      obtain ⟨s0, h0, k3⟩ := (k2.bind).opt
      obtain ⟨z, hz, k4⟩ := ((k3 H1 F1 r1 (Ex.refl _)).bind).opt
      obtain ⟨q', ws, hq', hFq, hBq, hHq, hws⟩ := r1.peek h0
      rw [hq] at hq'
      cases hq'
      obtain ⟨sb, hown⟩ := peek_some h0
      refine ⟨r1.tab, F1, ds, q, ws, us, s0, rfl, r1.ef, hFq, hHq, hws, hus, by rw [ha.len _ _ _ hf]; exact hn, z.1, z.2, hz, fun v H' F' ws' hkeep eF eFH nw hF'q hH'q hws' hv' => ?_⟩
      have k5 := k4 H1 F1 r1 (Ex.refl _)
      have hput : putO i z.2 ρ1 = .ok () (ρ1.set i (some (.own sb (.list z.2)))) := by
        unfold putO
        rw [hown]
      rw [M.bind_def, hput] at k5
      have rn := r1.called hown hq hkeep eF eFH nw hF'q hH'q hws'
      exact (k5 : Po (KT.mk X.K Tb) X.mg W P F0 B σ F1 (.ok z.1 (ρ1.set i (some (.own sb (.list z.2))))) _) H' F' rn eF v hv'
end
end DL

/-! ## DL5: what is walked, loops, comprehensions -/
namespace DL
open PySem PySem.Spec PyProof.Rows L2
open Evl (Ex)

/-! ### iterators over data -/
def ItD (items : List D) (Fz : Hp) : It :=
  ⟨fun i H => i < items.length ∧ Ex Fz H,
   fun i H x H' => ∃ d, items[i]? = some d ∧ Ex H H' ∧ ∀ Fc, Ex Fz Fc → Ex Fc H → ∃ F', Ex Fc F' ∧ Ex F' H' ∧ Nw Fc H F' ∧ Rp F' x d,
   fun i H => i = items.length ∧ Ex Fz H⟩
theorem turn_imp {P : Program} {w : World} {K : Frg} {tg : Expr} {J J' : It} {fp : List Addr} {it : Addr} {tn : Nat → Heap → Prop} (T : Turn P w K tg J fp it tn) (h1 : ∀ i H, J'.go i H → J.go i H) (h2 : ∀ i H x H', J'.go i H → J.yld i H x H' → J'.yld i H x H')
    (h3 : ∀ i H, J'.stop i H → J.stop i H) : Turn P w K tg J' fp it tn where
  mem := T.mem
  obj := T.obj
  keep := T.keep
  item := fun X hP hw hK hc i pins s σ H E I hf st hg => thn (T.item X hP hw hK hc i pins s σ H E I hf st (h1 i H hg)) fun r s1 ⟨u, hr, q⟩ => ⟨u, hr, thn q fun _ s2 ⟨x, H', I', rv, y, t, n⟩ => ⟨x, H', I', rv, h2 i H x H' hg y, t, n⟩⟩
  done := fun X hP hw hK hc i pins s σ H E I hf st hg => T.done X hP hw hK hc i pins s σ H E I hf st (h3 i H hg)
  self := T.self
theorem itd_list {P : Program} {w : World} {K : Frg} {tg : Expr} {a it : Addr} {vs : List V} {ds : List D} {Fz : Hp} (ha : Fz a = some (.lst vs)) (hv : RpAll Fz vs ds) : Turn P w K tg (ItD ds Fz) [it] it (fun i h => h.IsListIter it a i) := by
  refine turn_imp (turn_list a it) (fun i H h => ?_) (fun i H x H' hg h => ?_) fun i H h => ?_
  · have hl : i < vs.length := by rw [hv.length]; exact h.1
    exact ⟨vs, vs[i], SqL.of (h.2 _ _ ha), List.getElem?_eq_getElem hl⟩
  · obtain ⟨hi, eH⟩ := hg
    obtain ⟨rfl, hx⟩ := h
    obtain ⟨v, h1, h2⟩ := hv.get (List.getElem?_eq_getElem hi)
    have h3 := hx vs (SqL.of (eH _ _ ha))
    rw [h1] at h3
    cases h3
    exact ⟨ds[i], List.getElem?_eq_getElem hi, Ex.refl _, fun Fc e1 e2 => ⟨Fc, Ex.refl _, e2, Nw.refl, h2.mono e1⟩⟩
  · exact ⟨vs, SqL.of (h.2 _ _ ha), by rw [hv.length]; exact Nat.le_of_eq h.1.symm⟩
theorem itd_tup {P : Program} {w : World} {K : Frg} {tg : Expr} {a it : Addr} {vs : List V} {ds : List D} {Fz : Hp} (ha : Fz a = some (.tup vs)) (hv : RpAll Fz vs ds) : Turn P w K tg (ItD ds Fz) [it] it (fun i h => h.IsTupleIter it a i) := by
  refine turn_imp (turn_tuple a it) (fun i H h => ?_) (fun i H x H' hg h => ?_) fun i H h => ?_
  · have hl : i < vs.length := by rw [hv.length]; exact h.1
    exact ⟨vs, vs[i], SqT.of (h.2 _ _ ha), List.getElem?_eq_getElem hl⟩
  · obtain ⟨hi, eH⟩ := hg
    obtain ⟨rfl, hx⟩ := h
    obtain ⟨v, h1, h2⟩ := hv.get (List.getElem?_eq_getElem hi)
    have h3 := hx vs (SqT.of (eH _ _ ha))
    rw [h1] at h3
    cases h3
    exact ⟨ds[i], List.getElem?_eq_getElem hi, Ex.refl _, fun Fc e1 e2 => ⟨Fc, Ex.refl _, e2, Nw.refl, h2.mono e1⟩⟩
  · exact ⟨vs, SqT.of (h.2 _ _ ha), by rw [hv.length]; exact Nat.le_of_eq h.1.symm⟩
/-- the signs of a text -/
def signsOf (x : Str) : List D := x.cps.toList.map fun c => .str ⟨#[c]⟩
theorem signsOf_length (x : Str) : (signsOf x).length = x.length := by
  unfold signsOf
  rw [List.length_map, Array.length_toList]
  rfl
theorem itd_str {P : Program} {w : World} {K : Frg} {tg : Expr} {it : Addr} {x : Str} {t : Tok} {ty : String} {Fz : Hp} (hty : ty = "str_ascii_iterator" ∨ ty = "str_iterator") : Turn P w K tg (ItD (signsOf x) Fz) [it] it (fun i h => h.IsStrIter it ty x t i) := by
  have hl : (signsOf x).length = x.cps.size := signsOf_length x
  refine turn_imp (turn_str it x t ty hty) (fun i H h => ?_) (fun i H y H' hg h => ?_) fun i H h => ?_
  · show i < x.cps.size
    rw [← hl]; exact h.1
  · obtain ⟨rfl, c, hc, rfl⟩ := h
    refine ⟨.str ⟨#[c]⟩, ?_, Ex.refl _, fun Fc e1 e2 => ⟨Fc, Ex.refl _, e2, Nw.refl, .str _⟩⟩
    unfold signsOf
    rw [List.getElem?_map, Array.getElem?_toList, hc]
    rfl
  · show x.cps.size ≤ i
    rw [← hl]; exact Nat.le_of_eq h.1.symm
/-- lo, lo + 1, .. -/
def rangeL (lo : Int) (n : Nat) : List D := (List.range n).map fun i => .int (lo + (i : Nat))
theorem rangeL_length (lo : Int) (n : Nat) : (rangeL lo n).length = n := by
  unfold rangeL
  rw [List.length_map, List.length_range]
theorem itd_range {P : Program} {w : World} {K : Frg} {tg : Expr} {it : Addr} {lo : Int} {n : Nat} {Fz : Hp} : Turn P w K tg (ItD (rangeL lo n) Fz) [it] it (fun i h => IsRangeIter h it (lo + (i : Nat) * 1) ((n : Int) - (i : Nat)) 1) := by
  refine turn_imp (turn_range it lo n) (fun i H h => ?_) (fun i H y H' hg h => ?_) fun i H h => ?_
  · have := h.1; rw [rangeL_length] at this; exact this
  · obtain ⟨rfl, rfl⟩ := h
    have hi := hg.1
    rw [rangeL_length] at hi
    refine ⟨.int (lo + (i : Nat)), ?_, Ex.refl _, fun Fc e1 e2 => ⟨Fc, Ex.refl _, e2, Nw.refl, .int _⟩⟩
    unfold rangeL
    rw [List.getElem?_map, List.getElem?_range hi]
    rfl
  · have := h.1; rw [rangeL_length] at this; exact Nat.le_of_eq this.symm

section
variable (K : KT) (mg : Str → Option Value) (W : WX)
/-- what is walked, as data -/
def iD (f : M (List D)) : TI := fun σ H R => ∃ P F0 B Fz ρ, Rl K P F0 B Fz H σ ρ ∧ Po K mg W P F0 B σ Fz (f ρ) fun items _ H' Fz' => items.length ≤ sizeLine → R (ItD items Fz') H'
end
abbrev DI (Tb : TbT) (X : Cx) (W : WX) (tg e : Expr) (f : M (List D)) : Prop := PI X tg e (iD (KT.mk X.K Tb) X.mg W f)
/-- list, tuple, text: its items -/
def itemsOf : D → Option (List D)
  | .list ds => some ds
  | .tuple ds => some ds
  | .str x => if x.length ≤ lim then some (signsOf x) else none
  | _ => none

section
variable {Tb : TbT} {X : Cx} {W : WX} {K : KT} {mg : Str → Option Value} {P : Addr} {F0 B Fz H : Hp} {σ : L2.St} {ρ : Env}
variable {a b c e tg : Expr} {fa fb fc f : M D} {pos p : Pos} {es : List Expr} {fs : M (List D)}
/-- over a list, a tuple; (a text: where it is short) -/
theorem di_seq (ha : DE Tb X W e f) : DI Tb X W tg e (M.bind f fun x => opt (itemsOf x)) := by
  refine ⟨fun pins s σ H R I hh => ?_⟩
  obtain ⟨P, F0, B, Fz, ρ, r, h⟩ := hh
  refine thn (ha.run pins s σ H (fun v H1 => ∃ F1 ρ1 x, Rl (KT.mk X.K Tb) P F0 B F1 H1 σ ρ1 ∧ Rp F1 v x ∧ ∃ items, itemsOf x = some items ∧ (items.length ≤ sizeLine → R (ItD items F1) H1)) I
    ⟨P, F0, B, Fz, ρ, r, h.bind.imp fun x ρ1 H1 F1 r1 e1 h1 v hv => ?_⟩) fun u s1 ⟨v, H1, I1, rv, F1, ρ1, x, r1, hv, items, hi, k⟩ => ?_
  · obtain ⟨items, hi, k⟩ := h1.opt
    exact ⟨F1, ρ1, x, r1, hv, items, hi, k H1 F1 r1 (Ex.refl _)⟩
  · unfold itemsOf at hi
    split at hi
    · cases hi
      obtain ⟨q, vs, rfl, hp, hvs⟩ := hv.lst_of
      cases rv
      obtain ⟨its, rr, pl, hz⟩ := I1.list (SqL.of (r1.ef _ _ hp))
      refine wpAny_pyIter_list pl.isList ?_
      refine ⟨s1.heap.objs.size, [s1.heap.objs.size], _, ItD items F1, H1, rfl,
        I1.kept (t' := s1.toks) (fun b o e => Heap.get?_push_of_some _ e), itd_list (a := q) hp hvs, ⟨_, Heap.get?_push_size _ rfl, rfl, rfl⟩, fun b hb => ?_,
        k (by rw [← hvs.length]; exact hz)⟩
      rw [List.mem_singleton.mp hb]
      exact I1.fpOk (Nat.le_refl _) (I1.hok.fresh (Nat.le_refl _))
    · cases hi
      obtain ⟨q, vs, rfl, hp, hvs⟩ := hv.tup_of
      cases rv
      obtain ⟨its, rr, pl, hz⟩ := I1.tuple (SqT.of (r1.ef _ _ hp))
      refine wpAny_pyIter_tuple (items := its.toArray) pl ?_
      refine ⟨s1.heap.objs.size, [s1.heap.objs.size], _, ItD items F1, H1, rfl,
        I1.kept (t' := s1.toks) (fun b o e => Heap.get?_push_of_some _ e), itd_tup (a := q) hp hvs, ⟨_, Heap.get?_push_size _ rfl, rfl, rfl⟩, fun b hb => ?_,
        k (by rw [← hvs.length]; exact hz)⟩
      rw [List.mem_singleton.mp hb]
      exact I1.fpOk (Nat.le_refl _) (I1.hok.fresh (Nat.le_refl _))
    · split at hi
      · rename_i hl
        cases hi
        cases hv.str_of
        rename_i x
        obtain ⟨t, rfl⟩ := rv
        have k := k (by rw [signsOf_length]; exact lim_ok hl)
        cases ha : x.cps.all (· < 128)
        · exact wpAny_pyIter_wide ha (pi_one (tk := s1.toks) I1 _ (itd_str (x := x) (t := t) (.inr rfl)) ⟨_, Heap.get?_push_size _ rfl, rfl, rfl⟩ k)
        · exact wpAny_pyIter_ascii ha (pi_one (tk := s1.toks) I1 _ (itd_str (x := x) (t := t) (.inl rfl)) ⟨_, Heap.get?_push_size _ rfl, rfl, rfl⟩ k)
      · cases hi
    · cases hi
/-! ### range -/
def intOf : D → Option Int
  | .int i => some i
  | _ => none
theorem intOf_some {d : D} {x : Int} (h : intOf d = some x) : d = .int x := by
  unfold intOf at h
  split at h
  · cases h; rfl
  · cases h
def range1 (ds : List D) : Option (List D) := match ds with
  | [.int n] => if -1000000 ≤ n ∧ n ≤ 1000000 then some (rangeL 0 n.toNat) else none
  | _ => none
def range2 (ds : List D) : Option (List D) := match ds with
  | [.int m, .int n] => if -1000000 ≤ m ∧ m ≤ 1000000 ∧ -1000000 ≤ n ∧ n ≤ 1000000 then some (rangeL m (n - m).toNat) else none
  | _ => none
theorem di_range1 (hg : Gl X "range") (hm : X.mg "range" = none) (ha : DA Tb X W [e] fs) (hs : starEach [e] X.env = [(false, eval e X.env)] := by rfl) : DI Tb X W tg (.Call (.Name "range" p) [e] [] pos) (M.bind fs fun ds => opt (range1 ds)) := by
  refine ⟨fun pins s σ H R I hh => ?_⟩
  obtain ⟨P, F0, B, Fz, ρ, r, h⟩ := hh
  have key := (pi_range1 (tg := tg) (p := p) (pos := pos) hg hm ha.pa hs).run pins s σ H (fun J H1 => ∃ F1 n, J = Itr 0 n ∧ R (ItD (rangeL 0 n) F1) H1) I
    ⟨P, F0, B, Fz, ρ, r, h.bind.imp fun ds ρ1 H1 F1 r1 e1 h1 vs hvs => ?_⟩
  · refine thn key fun v s1 h1 => thn h1 fun itv s2 ⟨it, fp, tn, J, H', e, I', T, st, f, F1, n, eJ, q⟩ => ?_
    subst eJ
    exact ⟨it, fp, tn, _, H', e, I', turn_imp T (fun i H h => by have := h.1; rw [rangeL_length] at this; exact this) (fun i H y H2 hg2 h2 => by
      obtain ⟨rfl, rfl⟩ := h2
      have hi := hg2.1
      rw [rangeL_length] at hi
      refine ⟨.int (0 + (i : Nat)), ?_, Ex.refl _, fun Fc e1 e2 => ⟨Fc, Ex.refl _, e2, Nw.refl, .int _⟩⟩
      unfold rangeL
      rw [List.getElem?_map, List.getElem?_range hi]
      rfl) (fun i H h => by have := h.1; rw [rangeL_length] at this; exact Nat.le_of_eq this.symm), st, f, q⟩
  · obtain ⟨items, hi, k⟩ := h1.opt
    unfold range1 at hi
    split at hi
    · split at hi
      · rename_i n hn
        cases hi
        obtain ⟨v, rfl, hv⟩ := hvs.one
        cases hv.int_of
        exact ⟨n, rfl, by omega, by omega, F1, n.toNat, rfl, k H1 F1 r1 (Ex.refl _) (by rw [rangeL_length]; exact lim_ok (by show n.toNat ≤ 1000000; omega))⟩
      · cases hi
    · cases hi
theorem di_range2 {e2 : Expr} (hg : Gl X "range") (hm : X.mg "range" = none) (ha : DA Tb X W [e, e2] fs) (hs : starEach [e, e2] X.env = [(false, eval e X.env), (false, eval e2 X.env)] := by rfl) (hs2 : starEach [e2] X.env = [(false, eval e2 X.env)] := by rfl) :
    DI Tb X W tg (.Call (.Name "range" p) [e, e2] [] pos) (M.bind fs fun ds => opt (range2 ds)) := by
  refine ⟨fun pins s σ H R I hh => ?_⟩
  obtain ⟨P, F0, B, Fz, ρ, r, h⟩ := hh
  have key := (pi_range2 (tg := tg) (p := p) (pos := pos) hg hm ha.pa hs hs2).run pins s σ H (fun J H1 => ∃ F1 lo n, J = Itr lo n ∧ R (ItD (rangeL lo n) F1) H1) I
    ⟨P, F0, B, Fz, ρ, r, h.bind.imp fun ds ρ1 H1 F1 r1 e1 h1 vs hvs => ?_⟩
  · refine thn key fun v s1 h1 => thn h1 fun itv s2 ⟨it, fp, tn, J, H', e, I', T, st, f, F1, lo, n, eJ, q⟩ => ?_
    subst eJ
    exact ⟨it, fp, tn, _, H', e, I', turn_imp T (fun i H h => by have := h.1; rw [rangeL_length] at this; exact this) (fun i H y H2 hg2 h2 => by
      obtain ⟨rfl, rfl⟩ := h2
      have hi := hg2.1
      rw [rangeL_length] at hi
      refine ⟨.int (lo + (i : Nat)), ?_, Ex.refl _, fun Fc e1 e2 => ⟨Fc, Ex.refl _, e2, Nw.refl, .int _⟩⟩
      unfold rangeL
      rw [List.getElem?_map, List.getElem?_range hi]
      rfl) (fun i H h => by have := h.1; rw [rangeL_length] at this; exact Nat.le_of_eq this.symm), st, f, q⟩
  · obtain ⟨items, hi, k⟩ := h1.opt
    unfold range2 at hi
    split at hi
    · split at hi
      · rename_i m n hn
        cases hi
        obtain ⟨v, w, rfl, hv, hw⟩ := hvs.two
        cases hv.int_of
        cases hw.int_of
        exact ⟨m, n, rfl, ⟨by omega, by omega, by omega, by omega⟩, F1, m, (n - m).toNat, rfl, k H1 F1 r1 (Ex.refl _) (by rw [rangeL_length]; exact Nat.le_trans (show (n - m).toNat ≤ 2000000 by omega) (by decide))⟩
      · cases hi
    · cases hi
end
end DL

/-! ## DL6: enumerate, zip over lists, tuples, texts in any mix -/
namespace DL
open PySem PySem.Spec PyProof.Rows L2
open Evl (Ex)
inductive Src where
  | lst (a : Addr) | tup (a : Addr) | txt (x : Str) (t : Tok)
def Src.val : Src → Value
  | .lst a => .ref a
  | .tup a => .ref a
  | .txt x t => .str x t
def Src.obj : Src → Obj
  | .lst a => { cls := .type "list_iterator", data := .fields #[.ref a, .int 0 0] }
  | .tup a => { cls := .type "tuple_iterator", data := .fields #[.ref a, .int 0 0] }
  | .txt x t => { cls := .type (strIterType x), data := .fields #[.str x t, .int 0 0] }
def Src.at : Src → Addr → Nat → Heap → Prop
  | .lst a, it, i, h => h.IsListIter it a i
  | .tup a, it, i, h => h.IsTupleIter it a i
  | .txt x t, it, i, h => h.IsStrIter it (strIterType x) x t i
def Src.rest : Src → List Addr
  | .lst a => [a]
  | .tup a => [a]
  | .txt _ _ => []
/-- the source's items as data -/
def Src.Of (Fz : Hp) : Src → List D → Prop
  | .lst a, ds => ∃ vs, Fz a = some (.lst vs) ∧ RpAll Fz vs ds
  | .tup a, ds => ∃ vs, Fz a = some (.tup vs) ∧ RpAll Fz vs ds
  | .txt x _, ds => ds = signsOf x
theorem src_of {Fz : Hp} {v : V} {d : D} {u : Value} {ds : List D} (hv : Rp Fz v d) (r : L2.RelV v u) (h : itemsOf d = some ds) : ∃ S : Src, S.val = u ∧ S.Of Fz ds := by
  unfold itemsOf at h
  split at h
  · cases h
    obtain ⟨a, vs, rfl, h1, h2⟩ := hv.lst_of
    exact ⟨.lst a, r.symm, vs, h1, h2⟩
  · cases h
    obtain ⟨a, vs, rfl, h1, h2⟩ := hv.tup_of
    exact ⟨.tup a, r.symm, vs, h1, h2⟩
  · split at h
    · cases h
      cases hv.str_of
      obtain ⟨t, rfl⟩ := r
      exact ⟨.txt _ t, rfl, rfl⟩
    · cases h
  · cases h
theorem Src.at_obj {S : Src} {it : Addr} {i : Nat} {h : Heap} (st : S.at it i h) : ∃ o, h.get? it = some o ∧ ∀ v, o.data ≠ .cell v := by
  cases S with
  | lst a => obtain ⟨o, e, _, d⟩ := st; exact ⟨o, e, fun v z => by rw [d] at z; cases z⟩
  | tup a => obtain ⟨o, e, _, d⟩ := st; exact ⟨o, e, fun v z => by rw [d] at z; cases z⟩
  | txt x t => obtain ⟨o, e, _, d⟩ := st; exact ⟨o, e, fun v z => by rw [d] at z; cases z⟩
theorem Src.at_keep {S : Src} {it : Addr} {i : Nat} {h h' : Heap} (st : S.at it i h) (k : ∀ o, h.get? it = some o → h'.get? it = some o) : S.at it i h' := by
  cases S with
  | lst a => exact Heap.IsListIter.at st k
  | tup a => exact Heap.IsTupleIter.at st k
  | txt x t => obtain ⟨o, e, r⟩ := st; exact ⟨o, k o e, r⟩
theorem Src.at0 {S : Src} {it : Addr} {h : Heap} (e : h.get? it = some S.obj) : S.at it 0 h := by
  cases S with
  | lst a => exact ⟨_, e, rfl, rfl⟩
  | tup a => exact ⟨_, e, rfl, rfl⟩
  | txt x t => exact ⟨_, e, rfl, rfl⟩
theorem Src.of_mono {S : Src} {F F' : Hp} {ds : List D} (h : S.Of F ds) (e : Ex F F') : S.Of F' ds := by
  cases S with
  | lst a => obtain ⟨vs, h1, h2⟩ := h; exact ⟨vs, e _ _ h1, h2.mono e⟩
  | tup a => obtain ⟨vs, h1, h2⟩ := h; exact ⟨vs, e _ _ h1, h2.mono e⟩
  | txt x t => exact h
section
variable {Tb : TbT} {X : Cx} {pins : List (Addr × Obj)} {σ : L2.St} {H Fz : Hp} {s : Shared} {S : Src} {ds : List D}
theorem Src.tracked (h : S.Of Fz ds) (e : Ex Fz H) : ∀ b ∈ S.rest, H b ≠ none := fun b hb => by
  cases S with
  | lst a =>
    obtain ⟨vs, h1, _⟩ := h
    rw [List.mem_singleton.mp hb, e _ _ h1]
    exact nofun
  | tup a =>
    obtain ⟨vs, h1, _⟩ := h
    rw [List.mem_singleton.mp hb, e _ _ h1]
    exact nofun
  | txt x t => exact absurd hb List.not_mem_nil
/-- what the iterator draws -/
theorem Src.draws (I : L2.Inv X pins σ H s) (h : S.Of Fz ds) (e : Ex Fz H) {it : Addr} (hit : ∀ b ∈ S.rest, b ≠ it) {A : Around} (hh : A.handled = none) :
    ∃ (P : Nat → Value → Prop) (St : Nat → Heap → Prop), Draws X.prog X.w A it (it :: S.rest) ds.length P St ∧ (∀ i h', S.at it i h' → (∀ b ∈ S.rest, ∀ o, s.heap.get? b = some o → h'.get? b = some o) → St i h') ∧ (∀ i h', St i h' → S.at it i h') ∧
      ∀ i u, P i u → ∃ v d, L2.RelV v u ∧ ds[i]? = some d ∧ Rp Fz v d := by
  cases S with
  | lst a =>
    obtain ⟨vs, h1, h2⟩ := h
    obtain ⟨its, rv, pl, hz⟩ := I.list (SqL.of (e _ _ h1))
    have hl : its.toArray.size = ds.length := by rw [List.size_toArray, ← rv.length, h2.length]
    refine ⟨fun i v => its.toArray[i]? = some v, fun i h => h.IsListIter it a i ∧ h.IsList a its.toArray, by rw [← hl]; exact Draws.list hh it a (hit a List.mem_cons_self) its.toArray, fun i h' st k => ⟨st, pl.isList.at fun o q => k a List.mem_cons_self o q⟩, fun i h' st => st.1, fun i u hu => ?_⟩
    have hu' : its[i]? = some u := by simpa using hu
    have hi : i < vs.length := by rw [rv.length]; exact (List.getElem?_eq_some_iff.mp hu').1
    obtain ⟨w, hw, rw'⟩ := rv.get (List.getElem?_eq_getElem hi)
    rw [hu'] at hw
    cases hw
    have hi2 : i < ds.length := by rw [← h2.length]; exact hi
    obtain ⟨v2, g1, g2⟩ := h2.get (List.getElem?_eq_getElem hi2)
    rw [List.getElem?_eq_getElem hi] at g1
    cases g1
    exact ⟨vs[i], ds[i], rw', List.getElem?_eq_getElem hi2, g2⟩
  | tup a =>
    obtain ⟨vs, h1, h2⟩ := h
    obtain ⟨its, rv, pl, hz⟩ := I.tuple (SqT.of (e _ _ h1))
    have hl : its.toArray.size = ds.length := by rw [List.size_toArray, ← rv.length, h2.length]
    have pl' : s.heap.IsTuple a its.toArray := pl
    refine ⟨fun i v => its.toArray[i]? = some v, fun i h => h.IsTupleIter it a i ∧ h.IsTuple a its.toArray, by rw [← hl]; exact Draws.tuple hh it a (hit a List.mem_cons_self) its.toArray, fun i h' st k => ⟨st, pl'.at fun o q => k a List.mem_cons_self o q⟩, fun i h' st => st.1, fun i u hu => ?_⟩
    have hu' : its[i]? = some u := by simpa using hu
    have hi : i < vs.length := by rw [rv.length]; exact (List.getElem?_eq_some_iff.mp hu').1
    obtain ⟨w, hw, rw'⟩ := rv.get (List.getElem?_eq_getElem hi)
    rw [hu'] at hw
    cases hw
    have hi2 : i < ds.length := by rw [← h2.length]; exact hi
    obtain ⟨v2, g1, g2⟩ := h2.get (List.getElem?_eq_getElem hi2)
    rw [List.getElem?_eq_getElem hi] at g1
    cases g1
    exact ⟨vs[i], ds[i], rw', List.getElem?_eq_getElem hi2, g2⟩
  | txt x t =>
    have h' : ds = signsOf x := h
    subst h'
    refine ⟨_, _, by rw [show (signsOf x).length = x.cps.size from signsOf_length x]; exact Draws.text hh it x t, fun i h' st k => st, fun i h' st => st, fun i u hu => ?_⟩
    obtain ⟨c, t', hc, rfl⟩ := hu
    refine ⟨.str ⟨#[c]⟩, .str ⟨#[c]⟩, ⟨t', rfl⟩, ?_, .str _⟩
    unfold signsOf
    rw [List.getElem?_map, Array.getElem?_toList, hc]
    rfl
theorem Src.begins (I : L2.Inv X pins σ H s) (h : S.Of Fz ds) (e : Ex Fz H) : ∃ Pr : Heap → Prop, Begins S.val S.obj Pr ∧ Pr s.heap := by
  cases S with
  | lst a =>
    obtain ⟨vs, h1, h2⟩ := h
    obtain ⟨its, rv, pl, hz⟩ := I.list (SqL.of (e _ _ h1))
    exact ⟨_, begins_list a its.toArray, pl.isList⟩
  | tup a =>
    obtain ⟨vs, h1, h2⟩ := h
    obtain ⟨its, rv, pl, hz⟩ := I.tuple (SqT.of (e _ _ h1))
    exact ⟨_, begins_tuple a its.toArray, pl⟩
  | txt x t => exact ⟨_, begins_text x t, True.intro⟩
theorem Src.below (I : L2.Inv X pins σ H s) (h : S.Of Fz ds) (e : Ex Fz H) : ∀ b ∈ S.rest, b < s.heap.objs.size := fun b hb => by
  cases q : H b with
  | none => exact absurd q (Src.tracked h e b hb)
  | some o => exact I.hok.lt q
theorem Src.len (I : L2.Inv X pins σ H s) (h : S.Of Fz ds) (e : Ex Fz H) (hx : ∀ x t, S = .txt x t → x.length ≤ lim) : ds.length ≤ sizeLine := by
  cases S with
  | lst a =>
    obtain ⟨vs, h1, h2⟩ := h
    obtain ⟨its, rv, pl, hz⟩ := I.list (SqL.of (e _ _ h1))
    rw [← h2.length]; exact hz
  | tup a =>
    obtain ⟨vs, h1, h2⟩ := h
    obtain ⟨its, rv, pl, hz⟩ := I.tuple (SqT.of (e _ _ h1))
    rw [← h2.length]; exact hz
  | txt x t =>
    have h' : ds = signsOf x := h
    subst h'
    rw [signsOf_length]
    exact lim_ok (hx x t rfl)
end

/-! ### enumerate -/
def enumL (items : List D) : List D := items.zipIdx.map fun p => .tuple [.int (p.2 : Nat), p.1]
theorem enumL_length (items : List D) : (enumL items).length = items.length := by
  unfold enumL
  rw [List.length_map, List.length_zipIdx]
theorem enumL_get {items : List D} {i : Nat} {d : D} (h : items[i]? = some d) : (enumL items)[i]? = some (.tuple [.int (i : Nat), d]) := by
  unfold enumL
  rw [List.getElem?_map, List.getElem?_zipIdx, h]
  simp
/-- a new pair -/
theorem pair_yld {Fz H : Hp} {T : Addr} {v w : V} {d e : D} {items : List D} {i : Nat} (hT : H T = none) (hd : items[i]? = some (.tuple [d, e])) (hv : Rp Fz v d) (hw : Rp Fz w e) (eF : Ex Fz H) : (ItD items Fz).yld i H (.ref T) (upd H T (.tup [v, w])) := by
  refine ⟨_, hd, Ex.new hT, fun Fc e1 e2 => ?_⟩
  have hF : Fc T = none := Evl.fresh_back e2 hT
  exact ⟨upd Fc T (.tup [v, w]), Ex.new hF, ex_upd2 e2, Nw.new hT, .tup upd_same (.cons ((hv.mono e1).mono (Ex.new hF)) (.cons ((hw.mono e1).mono (Ex.new hF)) .nil))⟩
theorem turn_enumD {P : Program} {w : World} {K : Frg} {elts : List Expr} {kk : Nat} {tpos : Pos} {S : Src} {e it : Addr} {ds : List D} {Fz : Hp} (hS : S.Of Fz ds) (hr : ∀ b ∈ S.rest, b ≠ it ∧ b ≠ e) (hne : e ≠ it) :
    Turn P w K (.Tuple elts kk tpos) (ItD (enumL ds) Fz) [e, it] e (fun i h => (∃ old, IsEnum h e it ((i : Nat) : Int) old) ∧ S.at it i h) where
  mem := List.mem_cons_self
  obj := fun i h st b hb => by
    obtain ⟨⟨old, he⟩, hs⟩ := st
    rcases List.mem_cons.mp hb with z | z
    · rw [z]; exact ⟨_, he, fun v q => nomatch q⟩
    · rw [List.mem_singleton.mp z]; exact S.at_obj hs
  keep := fun i h h' st k => by
    obtain ⟨⟨old, he⟩, hs⟩ := st
    exact ⟨⟨old, k e List.mem_cons_self _ he⟩, S.at_keep hs fun o q => k it (List.mem_cons_of_mem _ List.mem_cons_self) o q⟩
  item := by
    intro X hP hw hK hc i pins s σ H E I hf st hg
    subst hP hw hK
    obtain ⟨⟨old, he⟩, hs⟩ := st
    obtain ⟨hi, eF⟩ := hg
    rw [enumL_length] at hi
    obtain ⟨Pd, Sd, D, s1, s2, s3⟩ := S.draws I hS eF (it := it) (fun b hb => (hr b hb).1) (A := X.A.in1) (I.ok.hd hc)
    have hef : e ∉ it :: S.rest := fun z => by
      rcases List.mem_cons.mp z with z | z
      · exact hne z
      · exact (hr e z).2 rfl
    have G := GoesN.enumFrom (elts := elts) (x1 := kk) (pos := tpos) 0 D e hne hef List.mem_cons_self
    refine G.goes i s _ E hi ⟨⟨old, by rw [Int.zero_add]; exact he⟩, s1 i s.heap hs fun _ _ _ q => q⟩ fun v h' tk hY hst hk htk => ?_
    obtain ⟨T, t, x, rfl, hT, hx, hTup⟩ := hY
    obtain ⟨⟨old', he'⟩, hs'⟩ := hst
    obtain ⟨vd, d, rv, hd, hvd⟩ := s3 i x hx
    have hTn : H T = none := I.hok.fresh hT
    have new : ObjOk X.prog X.w (upd H T (.tup [.int (i : Nat), vd])) h' T (.tup [.int (i : Nat), vd]) := by
      refine ⟨by show 2 ≤ sizeLine; decide, [.int (0 + (i : Int)) t, x], .cons ⟨t, by rw [Int.zero_add]⟩ (.cons rv .nil), hTup⟩
    have I1 := I.turnedNew (t' := tk) (ch := [e, it]) (fun b ob hb q => hk b ob hb q) hf hT new
    refine ⟨.ref T, _, I1, rfl, pair_yld hTn (enumL_get hd) (.int _) hvd eF, ⟨⟨old', ?_⟩, s2 _ _ hs'⟩, fun b hb => ?_⟩
    · have e1 : (0 : Int) + ((i + 1 : Nat) : Int) = ((i + 1 : Nat) : Int) := Int.zero_add _
      rw [e1] at he'
      exact he'
    · have hb' : b ≠ T := fun z => by
        subst z
        have hbs : b < s.heap.objs.size := by
          rcases List.mem_cons.mp hb with q | q
          · rw [q]; exact Heap.lt_size he
          · obtain ⟨o, ho, _⟩ := S.at_obj hs
            rw [List.mem_singleton.mp q]; exact Heap.lt_size ho
        exact absurd (Nat.lt_of_lt_of_le hbs hT) (Nat.lt_irrefl _)
      rw [upd_ne hb']
      exact (hf b hb).1
  done := by
    intro X hP hw hK hc i pins s σ H E I hf st hg
    subst hP hw hK
    obtain ⟨⟨old, he⟩, hs⟩ := st
    obtain ⟨hi, eF⟩ := hg
    rw [enumL_length] at hi
    subst hi
    obtain ⟨Pd, Sd, D, s1, s2, s3⟩ := S.draws I hS eF (it := it) (fun b hb => (hr b hb).1) (A := X.A.in1) (I.ok.hd hc)
    have hef : e ∉ it :: S.rest := fun z => by
      rcases List.mem_cons.mp z with z | z
      · exact hne z
      · exact (hr e z).2 rfl
    have G := GoesN.enumFrom (elts := elts) (x1 := kk) (pos := tpos) 0 D e hne hef List.mem_cons_self
    exact G.stops s _ E ⟨⟨old, by rw [Int.zero_add]; exact he⟩, s1 _ s.heap hs fun _ _ _ q => q⟩ fun h' tk hk htk => I.turnedL (ch := [e, it]) (fun b ob hb q => hk b ob hb q) hf
  self := fun A i s Q E st h => let ⟨⟨_, he⟩, _⟩ := st; wpAny_pyIter_enum he h
/-- enumerate's making, of anything that begins -/
theorem meets_enumG {v : Value} {o : Obj} {Pr : Heap → Prop} (Bg : Begins v o Pr) : Meets (Builtin.«enumerate.__new__» ⟨[.type "enumerate", v], []⟩) (fun _ R s => Pr s.heap ∧
      R (.ok (.ret (.ref (s.heap.push o).objs.size))) { s with heap := (s.heap.push o).push { cls := .type "enumerate", data := .fields #[.none, .bool false, .ref s.heap.objs.size, rawInt 0, .none, .none] } }) :=
  .of_wp fun prog w A R s h => by
    obtain ⟨hp, g, d, tk, os⟩ := s
    obtain ⟨h1, h⟩ := h
    have hsub := sub_enumerate
    have step : ∀ {A' : Around} {E Q : Value → Shared → Prop}, Q (.ref hp.objs.size) ⟨hp.push o, g, d, tk, os⟩ → wpAny (model prog w) A' (pyIter v) Q E ⟨hp, g, d, tk, os⟩ := fun q => Bg.iter prog w _ _ ⟨hp, g, d, tk, os⟩ _ h1 q
    wp_walk using step
    refine wpAny_stack_any fun st => wpAny_pure ?_
    split
    · rename_i c _ _ _ _ _
      cases (c == Value.type "enumerate")
      all_goals (wp_walk using step; exact ⟨_, rfl, h⟩)
    · wp_walk using step
      exact ⟨_, rfl, h⟩
section
variable {prog : Program} {w : World} {A : Around} {E : Value → Shared → Prop} {s : Shared}
theorem enumG {v : Value} {o : Obj} {Pr : Heap → Prop} {Q : Value → Shared → Prop} (Bg : Begins v o Pr) (h1 : Pr s.heap)
    (h : ∀ h', IsEnum h' (s.heap.objs.size + 1) s.heap.objs.size 0 .none → h'.get? s.heap.objs.size = some o → (∀ b o, s.heap.get? b = some o → h'.get? b = some o) → Q (.ref (s.heap.objs.size + 1)) { s with heap := h' }) :
    wpAny (model prog w) A (call (.type "enumerate") [v]) Q E s := by
  refine callType_new F.called_enumerate (by decide) (F.typeCall_enumerate_1 _) (F.newCall_enumerate_1 _) (fun obj => F.args_object_init_2 obj _) F.entry_enumerate_new (meets_enumG Bg) ⟨h1, ?_⟩
  have hz : (s.heap.push o).objs.size = s.heap.objs.size + 1 := Heap.size_push ..
  show _ ∧ _
  rw [hz]
  have he : IsEnum ((s.heap.push o).push { cls := .type "enumerate", data := .fields #[.none, .bool false, .ref s.heap.objs.size, rawInt 0, .none, .none] }) (s.heap.objs.size + 1) s.heap.objs.size 0 .none := by
    have q := Heap.get?_push_size (s.heap.push o) (o := { cls := .type "enumerate", data := .fields #[.none, .bool false, .ref s.heap.objs.size, rawInt 0, .none, .none] }) rfl
    rw [hz] at q
    exact q
  exact ⟨⟨_, he, rfl⟩, h _ he (Heap.get?_push_of_some _ (Heap.get?_push_size _ Bg.free)) fun b o x => Heap.get?_push_of_some _ (Heap.get?_push_of_some _ x)⟩
end
def enumD : List D → Option (List D)
  | [d] => (itemsOf d).map enumL
  | _ => none
theorem items_txt {d : D} {v : V} {Fz : Hp} {ds : List D} {S : Src} {u : Value} (hv : Rp Fz v d) (r : L2.RelV v u) (h : itemsOf d = some ds) (hS : S.val = u) : ∀ x t, S = .txt x t → x.length ≤ lim := fun x t e => by
  subst e
  unfold itemsOf at h
  split at h
  · obtain ⟨a, vs, rfl, _⟩ := hv.lst_of
    cases r
    cases hS
  · obtain ⟨a, vs, rfl, _⟩ := hv.tup_of
    cases r
    cases hS
  · split at h
    · rename_i hl
      cases hv.str_of
      obtain ⟨t', rfl⟩ := r
      cases hS
      exact hl
    · cases h
  · cases h
section
variable {Tb : TbT} {X : Cx} {W : WX} {P : Addr} {F0 B Fz H : Hp} {σ : L2.St} {ρ : Env}
variable {e e2 : Expr} {pos p tpos : Pos} {fs : M (List D)} {elts : List Expr} {kk : Nat}
theorem di_enum (hg : Gl X "enumerate") (hm : X.mg "enumerate" = none) (ha : DA Tb X W [e] fs) (hs : starEach [e] X.env = [(false, eval e X.env)] := by rfl) : DI Tb X W (.Tuple elts kk tpos) (.Call (.Name "enumerate" p) [e] [] pos) (M.bind fs fun ds => opt (enumD ds)) := by
  refine ⟨fun pins s σ H R I hh => ?_⟩
  obtain ⟨P, F0, B, Fz, ρ, r, h⟩ := hh
  refine Call_ (ld_blt I hg hm boot_enumerate (PyProof.Rows.callWith_type1 (thn (ha.pa.run pos pins s σ H (fun vs H1 => ∃ F1 ρ1 v d ds, vs = [v] ∧ Rl (KT.mk X.K Tb) P F0 B F1 H1 σ ρ1 ∧ Rp F1 v d ∧ itemsOf d = some ds ∧ (ds.length ≤ sizeLine → R (ItD (enumL ds) F1) H1)) I
    ⟨P, F0, B, Fz, ρ, r, h.bind.imp fun ds ρ1 H1 F1 r1 e1 h1 vs hvs => ?_⟩) fun us s1 ⟨vs, H1, I1, rv, F1, ρ1, v, d, ds, ev, r1, hv, hi, k⟩ => ?_) hs rfl))
  · obtain ⟨items, hi, k⟩ := h1.opt
    unfold enumD at hi
    split at hi
    · rename_i d
      cases hd : itemsOf d with
      | none => rw [hd] at hi; cases hi
      | some xs =>
        rw [hd] at hi
        cases hi
        obtain ⟨v, rfl, hv⟩ := hvs.one
        exact ⟨F1, ρ1, v, d, xs, rfl, r1, hv, hd, fun hl => k H1 F1 r1 (Ex.refl _) (by rw [enumL_length]; exact hl)⟩
    · cases hi
  · subst ev
    obtain ⟨u, rfl, ru⟩ := rv.one
    obtain ⟨S, hSv, hS⟩ := src_of hv ru hi
    obtain ⟨Pr, Bg, hPr⟩ := S.begins I1 hS r1.ef
    rw [hSv] at Bg
    refine enumG Bg hPr fun h' he hit hk => wpAny_pyIter_enum he ?_
    have I2 : L2.Inv X pins σ H1 { s1 with heap := h' } := I1.kept (t' := s1.toks) hk
    have hb := S.below I1 hS r1.ef
    refine ⟨s1.heap.objs.size + 1, [s1.heap.objs.size + 1, s1.heap.objs.size], _, ItD (enumL ds) F1, H1, rfl, I2, turn_enumD hS (fun b z => ?_) (Nat.succ_ne_self _), ⟨⟨.none, he⟩, S.at0 hit⟩, fun b hb' => ?_, k (S.len I1 hS r1.ef (items_txt hv ru hi hSv))⟩
    · have q : b < s1.heap.objs.size := hb b z
      exact ⟨Nat.ne_of_lt q, Nat.ne_of_lt (Nat.lt_succ_of_lt q)⟩
    · have hle : s1.heap.objs.size ≤ b := by
        rcases List.mem_cons.mp hb' with q | q
        · rw [q]; exact Nat.le_succ _
        · rw [List.mem_singleton.mp q]; exact Nat.le_refl _
      exact I1.fpOk hle (I1.hok.fresh hle)
end

/-! ### zip -/
def zipL (xs ys : List D) : List D := List.zipWith (fun a b => PyData.tuple [a, b]) xs ys
theorem zipL_length (xs ys : List D) : (zipL xs ys).length = min xs.length ys.length := List.length_zipWith
theorem zipL_get {xs ys : List D} {i : Nat} {a b : D} (h1 : xs[i]? = some a) (h2 : ys[i]? = some b) : (zipL xs ys)[i]? = some (.tuple [a, b]) := by
  unfold zipL
  rw [List.getElem?_zipWith, h1, h2]
theorem turn_zipD {P : Program} {w : World} {K : Frg} {elts : List Expr} {kk : Nat} {tpos : Pos} {S T : Src} {N : Nat} {xs ys : List D} {Fz : Hp} (hS : S.Of Fz xs) (hT : T.Of Fz ys) (hr : ∀ b ∈ S.rest, b < N) (hq : ∀ b ∈ T.rest, b < N) :
    Turn P w K (.Tuple elts kk tpos) (ItD (zipL xs ys) Fz) [N + 4, N + 2, N + 3, N, N + 1] (N + 4) (fun i h => IsZip h (N + 4) (N + 2) (N + 3) .none ∧ IsTupOf2 h (N + 2) (.ref N) (.ref (N + 1)) ∧ (∃ a b, IsTupOf2 h (N + 3) a b) ∧ S.at N i h ∧ T.at (N + 1) i h) where
  mem := List.mem_cons_self
  obj := fun i h st b hb => by
    obtain ⟨hz, hTI, ⟨a0, b0, hTO⟩, hs1, hs2⟩ := st
    simp only [List.mem_cons, List.not_mem_nil, or_false] at hb
    rcases hb with z | z | z | z | z
    · rw [z]; exact ⟨_, hz, fun v q => nomatch q⟩
    · rw [z]; exact ⟨_, hTI, fun v q => nomatch q⟩
    · rw [z]; exact ⟨_, hTO, fun v q => nomatch q⟩
    · rw [z]; exact S.at_obj hs1
    · rw [z]; exact T.at_obj hs2
  keep := fun i h h' st k => by
    obtain ⟨hz, hTI, ⟨a0, b0, hTO⟩, hs1, hs2⟩ := st
    exact ⟨k _ (by simp) _ hz, k _ (by simp) _ hTI, ⟨a0, b0, k _ (by simp) _ hTO⟩, S.at_keep hs1 fun o q => k _ (by simp) o q, T.at_keep hs2 fun o q => k _ (by simp) o q⟩
  item := by
    intro X hP hw hK hc i pins s σ H E I hf st hg
    subst hP hw hK
    have live := st
    obtain ⟨hz, hTI, ⟨a0, b0, hTO⟩, hs1, hs2⟩ := st
    obtain ⟨hi, eF⟩ := hg
    rw [zipL_length] at hi
    obtain ⟨Pd, Sd, D1, s1, s2, s3⟩ := S.draws I hS eF (it := N) (fun b hb => Nat.ne_of_lt (hr b hb)) (A := X.A.in1) (I.ok.hd hc)
    obtain ⟨Pe, Se, D2, t1, t2, t3⟩ := T.draws I hT eF (it := N + 1) (fun b hb => Nat.ne_of_lt (Nat.lt_succ_of_lt (hq b hb))) (A := X.A.in1) (I.ok.hd hc)
    have G := GoesN.zip2 (elts := elts) (x1 := kk) (pos := tpos) (zip_sep2 (N := N) hr hq) D1 D2
    refine G.goes i s _ E hi ⟨hz, hTI, ⟨a0, b0, hTO⟩, s1 i s.heap hs1 fun _ _ _ q => q, t1 i s.heap hs2 fun _ _ _ q => q⟩ fun v h' tk hY hst hk htk => ?_
    obtain ⟨Tn, x, y, rfl, hTn, hx, hy, hTup⟩ := hY
    obtain ⟨hz', hTI', hTO', hs1', hs2'⟩ := hst
    obtain ⟨vd, d, rv, hd, hvd⟩ := s3 i x hx
    obtain ⟨ve, d2, re, hd2, hve⟩ := t3 i y hy
    have hTnn : H Tn = none := I.hok.fresh hTn
    have new : ObjOk X.prog X.w (upd H Tn (.tup [vd, ve])) h' Tn (.tup [vd, ve]) := ⟨by show 2 ≤ sizeLine; decide, [x, y], .cons rv (.cons re .nil), hTup⟩
    have I1 := I.turnedNew (t' := tk) (ch := [N + 4, N + 2, N + 3, N, N + 1]) (fun b ob hb q => hk b ob (fun z => hb (by
      simp only [List.mem_cons, List.not_mem_nil, or_false] at z ⊢
      rcases z with z | z | z | z <;> simp [z])) q) hf hTn new
    refine ⟨.ref Tn, _, I1, rfl, pair_yld hTnn (zipL_get hd hd2) hvd hve eF, ⟨hz', hTI', hTO', s2 _ _ hs1', t2 _ _ hs2'⟩, fun b hb => ?_⟩
    have hbs : b < s.heap.objs.size := by
      simp only [List.mem_cons, List.not_mem_nil, or_false] at hb
      rcases hb with q | q | q | q | q
      · rw [q]; exact Heap.lt_size hz
      · rw [q]; exact Heap.lt_size hTI
      · rw [q]; exact Heap.lt_size hTO
      · obtain ⟨o, ho, _⟩ := S.at_obj hs1
        rw [q]; exact Heap.lt_size ho
      · obtain ⟨o, ho, _⟩ := T.at_obj hs2
        rw [q]; exact Heap.lt_size ho
    have hb' : b ≠ Tn := fun z => absurd (Nat.lt_of_lt_of_le hbs (by rw [z]; exact hTn)) (Nat.lt_irrefl _)
    rw [upd_ne hb']
    exact (hf b hb).1
  done := by
    intro X hP hw hK hc i pins s σ H E I hf st hg
    subst hP hw hK
    obtain ⟨hz, hTI, ⟨a0, b0, hTO⟩, hs1, hs2⟩ := st
    obtain ⟨hi, eF⟩ := hg
    rw [zipL_length] at hi
    subst hi
    obtain ⟨Pd, Sd, D1, s1, s2, s3⟩ := S.draws I hS eF (it := N) (fun b hb => Nat.ne_of_lt (hr b hb)) (A := X.A.in1) (I.ok.hd hc)
    obtain ⟨Pe, Se, D2, t1, t2, t3⟩ := T.draws I hT eF (it := N + 1) (fun b hb => Nat.ne_of_lt (Nat.lt_succ_of_lt (hq b hb))) (A := X.A.in1) (I.ok.hd hc)
    have G := GoesN.zip2 (elts := elts) (x1 := kk) (pos := tpos) (zip_sep2 (N := N) hr hq) D1 D2
    exact G.stops s _ E ⟨hz, hTI, ⟨a0, b0, hTO⟩, s1 _ s.heap hs1 fun _ _ _ q => q, t1 _ s.heap hs2 fun _ _ _ q => q⟩ fun h' tk hk htk => I.turnedL (ch := [N + 4, N + 2, N + 3, N, N + 1]) (fun b ob hb q => hk b ob (fun z => hb (by
      simp only [List.mem_cons, List.not_mem_nil, or_false] at z ⊢
      rcases z with z | z | z | z <;> simp [z])) q) hf
  self := fun A i s Q E st h => wpAny_pyIter_zip st.1 h
def zipD : List D → Option (List D)
  | [d, e] => (itemsOf d).bind fun xs => (itemsOf e).map fun ys => zipL xs ys
  | _ => none
section
variable {Tb : TbT} {X : Cx} {W : WX} {P : Addr} {F0 B Fz H : Hp} {σ : L2.St} {ρ : Env}
variable {e e2 : Expr} {pos p tpos : Pos} {fs : M (List D)} {elts : List Expr} {kk : Nat}
theorem di_zip (hg : Gl X "zip") (hm : X.mg "zip" = none) (ha : DA Tb X W [e, e2] fs) (hs : starEach [e, e2] X.env = (false, eval e X.env) :: starEach [e2] X.env := by rfl) (hpl : (backTo pos (starEach [e2] X.env)).any (·.1) = false := by rfl) :
    DI Tb X W (.Tuple elts kk tpos) (.Call (.Name "zip" p) [e, e2] [] pos) (M.bind fs fun ds => opt (zipD ds)) := by
  refine ⟨fun pins s σ H R I hh => ?_⟩
  obtain ⟨P, F0, B, Fz, ρ, r, h⟩ := hh
  refine Call_ (ld_blt I hg hm PyProof.Rows.boot_zip (PyProof.Rows.callWith_type1 (thn (ha.pa.run pos pins s σ H (fun vs H1 => ∃ F1 ρ1 v w d d2 xs ys, vs = [v, w] ∧ Rl (KT.mk X.K Tb) P F0 B F1 H1 σ ρ1 ∧ Rp F1 v d ∧ Rp F1 w d2 ∧ itemsOf d = some xs ∧ itemsOf d2 = some ys ∧ ((zipL xs ys).length ≤ sizeLine → R (ItD (zipL xs ys) F1) H1)) I
    ⟨P, F0, B, Fz, ρ, r, h.bind.imp fun ds ρ1 H1 F1 r1 e1 h1 vs hvs => ?_⟩) fun us s1 ⟨vs, H1, I1, rv, F1, ρ1, v, w, d, d2, xs, ys, ev, r1, hv, hw, hx, hy, k⟩ => ?_) hs hpl))
  · obtain ⟨items, hi, k⟩ := h1.opt
    unfold zipD at hi
    split at hi
    · rename_i d d2
      cases hd : itemsOf d with
      | none => rw [hd] at hi; cases hi
      | some xs =>
        rw [hd, Option.bind_some] at hi
        cases hd2 : itemsOf d2 with
        | none => rw [hd2] at hi; cases hi
        | some ys =>
          rw [hd2] at hi
          cases hi
          obtain ⟨v, w, rfl, hv, hw⟩ := hvs.two
          exact ⟨F1, ρ1, v, w, d, d2, xs, ys, rfl, r1, hv, hw, hd, hd2, fun hl => k H1 F1 r1 (Ex.refl _) hl⟩
    · cases hi
  · subst ev
    obtain ⟨u, us2, rfl, ru, ruu⟩ : ∃ u us2, us = u :: us2 ∧ L2.RelV v u ∧ L2.Vals [w] us2 := by
      cases rv with
      | cons a b => exact ⟨_, _, rfl, a, b⟩
    obtain ⟨u2, rfl, ru2⟩ := ruu.one
    obtain ⟨S, hSv, hS⟩ := src_of hv ru hx
    obtain ⟨T, hTv, hT⟩ := src_of hw ru2 hy
    obtain ⟨Pr, Bg, hPr⟩ := S.begins I1 hS r1.ef
    obtain ⟨Pr2, Bg2, hPr2⟩ := T.begins I1 hT r1.ef
    rw [hSv] at Bg
    rw [hTv] at Bg2
    refine zip_begins2 Bg Bg2 hPr hPr2 fun h' hz hTI hTO h1 h2 hsz hk => wpAny_pyIter_zip hz ?_
    have I2 : L2.Inv X pins σ H1 { s1 with heap := h' } := I1.kept (t' := s1.toks) hk
    refine ⟨s1.heap.objs.size + 4, [s1.heap.objs.size + 4, s1.heap.objs.size + 2, s1.heap.objs.size + 3, s1.heap.objs.size, s1.heap.objs.size + 1], _, ItD (zipL xs ys) F1, H1, rfl, I2, turn_zipD hS hT (S.below I1 hS r1.ef) (T.below I1 hT r1.ef), ⟨hz, hTI, ⟨_, _, hTO⟩, S.at0 h1, T.at0 h2⟩, fun b hb => ?_, k ?_⟩
    · have hle : s1.heap.objs.size ≤ b := by
        simp only [List.mem_cons, List.not_mem_nil, or_false] at hb
        rcases hb with q | q | q | q | q
        · rw [q]; exact Nat.le_add_right _ _
        · rw [q]; exact Nat.le_add_right _ _
        · rw [q]; exact Nat.le_add_right _ _
        · rw [q]; exact Nat.le_refl _
        · rw [q]; exact Nat.le_add_right _ _
      exact I1.fpOk hle (I1.hok.fresh hle)
    · rw [zipL_length]
      exact Nat.le_trans (Nat.min_le_left _ _) (S.len I1 hS r1.ef (items_txt hv ru hx hSv))
end
end DL

/-! ## DL7: targets, loops, comprehensions -/
namespace DL
open PySem PySem.Spec PyProof.Rows L2
open Evl (Ex)

/-! ### forgetting slots -/
def wipeE : List Nat → Env → Env
  | [], ρ => ρ
  | v :: vs, ρ => (wipeE vs ρ).set v none
theorem wipeE_length : ∀ (vs : List Nat) (ρ : Env), (wipeE vs ρ).length = ρ.length
  | [], _ => rfl
  | v :: vs, ρ => by
    unfold wipeE
    rw [List.length_set, wipeE_length vs ρ]
theorem wipeE_get : ∀ {vs : List Nat} {ρ : Env} {i : Nat} {s : SV}, (wipeE vs ρ)[i]? = some (some s) → ρ[i]? = some (some s) ∧ i ∉ vs
  | [], _, _, _, h => ⟨h, List.not_mem_nil⟩
  | v :: vs, ρ, i, s, h => by
    unfold wipeE at h
    rcases set_get h with ⟨_, q⟩ | ⟨ne, q⟩
    · cases q
    · obtain ⟨h1, h2⟩ := wipeE_get q
      exact ⟨h1, fun z => (List.mem_cons.mp z).elim ne h2⟩
theorem wipe_get {σ : St} {i : Nat} : ∀ {vs : List Nat}, i ∉ vs → (wipe σ vs)[i]? = σ[i]?
  | [], _ => rfl
  | v :: vs, h => by
    unfold wipe
    rw [List.getElem?_set_ne (fun e => h (by rw [e]; exact List.mem_cons_self))]
    exact wipe_get fun z => h (List.mem_cons_of_mem _ z)
section
variable {K : KT} {P : Addr} {F0 B Fz H : Hp} {σ : St} {ρ : Env}
theorem Rl.wipeE (r : Rl K P F0 B Fz H σ ρ) (vs : List Nat) : Rl K P F0 B Fz H σ (wipeE vs ρ) := r.weak (by rw [wipeE_length, r.len]) fun i s h => ⟨(wipeE_get h).1, rfl⟩
theorem Rl.wipe2 (r : Rl K P F0 B Fz H σ ρ) (vs : List Nat) {σ' : St} (h : wipe σ vs = wipe σ' vs) : Rl K P F0 B Fz H (wipe σ' vs) (DL.wipeE vs ρ) :=
  r.weak (by rw [wipeE_length, r.len, ← h, wipe_length]) fun i s q => by
    obtain ⟨h1, h2⟩ := wipeE_get q
    exact ⟨h1, by rw [← h, wipe_get h2]⟩
end

/-! ### targets -/
def gD (K : KT) (ts : List Nat) (b : D → Env → Option Env) : TG := fun v σ H Q => ∃ P F0 B Fz ρ d ρ', Rl K P F0 B Fz H σ ρ ∧ Rp Fz v d ∧ b d ρ = some ρ' ∧ ∀ σ', Rl K P F0 B Fz H σ' ρ' → (∀ i, i ∉ ts → σ'[i]? = σ[i]?) → σ'.length = σ.length → Q σ' H
def gsD (K : KT) (ts : List Nat) (b : List D → Env → Option Env) : TGs := fun vs σ H Q => ∃ P F0 B Fz ρ ds ρ', Rl K P F0 B Fz H σ ρ ∧ RpAll Fz vs ds ∧ b ds ρ = some ρ' ∧ ∀ σ', Rl K P F0 B Fz H σ' ρ' → (∀ i, i ∉ ts → σ'[i]? = σ[i]?) → σ'.length = σ.length → Q σ' H
abbrev DG (Tb : TbT) (X : Cx) (tg : Expr) (ts : List Nat) (b : D → Env → Option Env) : Prop := PG X tg (gD (KT.mk X.K Tb) ts b)
structure DGs (Tb : TbT) (X : Cx) (tgs : List Expr) (ts : List Nat) (b : List D → Env → Option Env) : Prop where
  pg : PGs X tgs (gsD (KT.mk X.K Tb) ts b)
  len : ∀ ds ρ ρ', b ds ρ = some ρ' → ds.length = tgs.length
section
variable {Tb : TbT} {X : Cx} {e : Expr} {es : List Expr} {ts us : List Nat} {b : D → Env → Option Env} {c : List D → Env → Option Env} {pos : Pos}
theorem dg_name (i : Nat) {x : Str} (hN : X.N.Nodup) (hi : X.N[i]? = some x := by rfl) (hx : Loc X.env.scope x := by first | exact Or.inl rfl | exact Or.inr rfl) (hf : X.fn x = true ∨ X.env.scope.names.lookup x = some .local := by first | exact .inl rfl | exact .inr rfl) :
    DG Tb X (.Name x pos) [i] (fun d ρ => some (ρ.set i (some (.val d)))) :=
  ⟨fun pins s σ H v u Q I r ⟨P, F0, B, Fz, ρ, d, ρ', rl, hv, hb, k⟩ => (pg_name hN hi hx hf).run pins s σ H v u Q I r (by
    cases hb
    exact k _ (rl.setVal hv) (fun j hj => List.getElem?_set_ne (fun e => hj (by rw [← e]; exact List.mem_cons_self))) (by rw [List.length_set]))⟩
theorem dgs_nil : DGs Tb X [] [] (fun ds ρ => match ds with | [] => some ρ | _ => none) where
  pg := ⟨fun pins s σ H vs us Q I r ⟨P, F0, B, Fz, ρ, ds, ρ', rl, hv, hb, k⟩ => pgs_nil.run pins s σ H vs us Q I r (by
    cases ds with
    | nil =>
      cases hv
      cases hb
      exact ⟨rfl, k σ rl (fun _ _ => rfl) rfl⟩
    | cons _ _ => cases hb)⟩
  len := fun ds ρ ρ' h => by
    cases ds with
    | nil => rfl
    | cons _ _ => cases h
theorem dgs_cons (h1 : DG Tb X e ts b) (h2 : DGs Tb X es us c) (hs : (assignEach (e :: es) X.env).map (·.2) = assign e X.env :: (assignEach es X.env).map (·.2) := by rfl) :
    DGs Tb X (e :: es) (ts ++ us) (fun ds ρ => match ds with | d :: r => (b d ρ).bind (c r) | [] => none) where
  pg := ⟨fun pins s σ H vs us' Q I r ⟨P, F0, B, Fz, ρ, ds, ρ', rl, hv, hb, k⟩ => (pgs_cons h1 h2.pg hs).run pins s σ H vs us' Q I r (by
    cases ds with
    | nil => cases hb
    | cons d ds =>
      cases hv with
      | @cons v vs _ _ hv hvs =>
        dsimp only at hb
        cases hb1 : b d ρ with
        | none => rw [hb1] at hb; cases hb
        | some ρ1 =>
          rw [hb1, Option.bind_some] at hb
          refine ⟨v, vs, rfl, P, F0, B, Fz, ρ, d, ρ1, rl, hv, hb1, fun σ1 r1 q1 l1 => ⟨P, F0, B, Fz, ρ1, ds, ρ', r1, hvs, hb, fun σ2 r2 q2 l2 => k σ2 r2 (fun i hi => ?_) (l2.trans l1)⟩⟩
          rw [q2 i fun z => hi (List.mem_append_right _ z), q1 i fun z => hi (List.mem_append_left _ z)])⟩
  len := fun ds ρ ρ' h => by
    cases ds with
    | nil => cases h
    | cons d ds =>
      dsimp only at h
      cases hb1 : b d ρ with
      | none => rw [hb1] at h; cases h
      | some ρ1 =>
        rw [hb1, Option.bind_some] at h
        rw [List.length_cons, List.length_cons, h2.len _ _ _ h]
theorem dg_tup {k : Nat} (hc : X.calm = true) (h : DGs Tb X es ts c) (hn : (assignEach es X.env).length = es.length := by rfl) (hst : (assignEach es X.env).findIdx? (·.1) = none := by rfl) :
    DG Tb X (.Tuple es k pos) ts (fun d ρ => match d with | .tuple ds => c ds ρ | _ => none) :=
  ⟨fun pins s σ H v u Q I r ⟨P, F0, B, Fz, ρ, d, ρ', rl, hv, hb, k⟩ => (pg_tup hc h.pg hn hst).run pins s σ H v u Q I r (by
    cases d with
    | tuple ds =>
      obtain ⟨a, vs, rfl, h1, h2⟩ := hv.tup_of
      exact ⟨a, vs, rfl, SqT.of (rl.ef _ _ h1), by rw [h2.length]; exact h.len _ _ _ hb, P, F0, B, Fz, ρ, ds, ρ', rl, h2, hb, k⟩
    | _ => cases hb)⟩
end

/-! ### for -/
def forS (ws : List Nat) (b : D → Env → Option Env) (g : Env → SR) : List D → Env → SR
  | [], ρ => .nx ρ
  | d :: r, ρ => match b d ρ with
    | none => .bad
    | some ρ1 => match g ρ1 with
      | .nx ρ2 => forS ws b g r (wipeE ws ρ2)
      | .ct ρ2 => forS ws b g r (wipeE ws ρ2)
      | .bk ρ2 => .nx (wipeE ws ρ2)
      | .rt d ρ2 => .rt d ρ2
      | .er c ρ2 => .er c ρ2
      | .bad => .bad
def sM {α : Type} (m : M α) (k : α → Env → SR) : Env → SR := fun ρ => match m ρ with
  | .ok a ρ' => k a ρ'
  | .er c ρ' => .er c ρ'
  | .bad => .bad
section
variable {Tb : TbT} {X : Cx} {W : WX} {tg iter : Expr} {body : List Stmt} {f : M (List D)} {ts : List Nat} {b : D → Env → Option Env} {g : Env → SR} {pos : Pos}
theorem So.sM {K : KT} {mg : Str → Option Value} {P : Addr} {F0 B Fz : Hp} {σ : St} {ρ : Env} {Dn : Ends} {α : Type} {m : M α} {k : α → Env → SR} (h : So K mg W P F0 B Fz (sM m k ρ) Dn) :
    Po K mg W P F0 B σ Fz (m ρ) fun a ρ' H' Fz' => So K mg W P F0 B Fz' (k a ρ') Dn := by
  unfold DL.sM at h
  cases e : m ρ with
  | ok a ρ' =>
    rw [e] at h
    exact fun H' Fz' r eF => h.mono eF
  | er c ρ' =>
    rw [e] at h
    exact h σ
  | bad =>
    rw [e] at h
    exact h
theorem ds_for (ws : List Nat) (hp : PassesOwn (model X.prog X.w) X.A X.env X.xe) (hc : X.calm = true) (hi : DI Tb X W tg iter f) (hg : DG Tb X tg ts b) (hb : DSs Tb X W body g) (hs : ∀ x, foldedSetIterable iter X.env x = pure x := by intro _; rfl) :
    DS Tb X W (.For tg iter body [] pos) (sM f fun items ρ => forS ws b g items (wipeE ws ρ)) :=
  ps_imp (ps_for hp hc hi hg hb hs) fun Dn σ H ⟨P, F0, B, Fz, ρ, r, h⟩ => ⟨P, F0, B, Fz, ρ, r, h.sM.imp fun items ρ1 H1 F1 r1 e1 h1 hl => by
    generalize hres : forS ws b g items (wipeE ws ρ1) = res at h1
    refine ⟨fun i m σ' H' => m = items.length - i ∧ i ≤ items.length ∧ ∃ Fi ρi, Rl (KT.mk X.K Tb) P F0 B Fi H' σ' ρi ∧ Ex F1 Fi ∧ forS ws b g (items.drop i) ρi = res, ⟨_, rfl, Nat.zero_le _, F1, _, r1.wipeE ws, Ex.refl _, by rw [List.drop_zero]; exact hres⟩, ?_⟩
    rintro i m σ2 H2 ⟨rfl, hil, Fi, ρi, ri, ei, hr⟩
    by_cases hlt : i < items.length
    · have hd : items.drop i = items[i] :: items.drop (i + 1) := List.drop_eq_getElem_cons hlt
      rw [hd] at hr
      unfold forS at hr
      refine .inr ⟨⟨hlt, ei.trans ri.ef⟩, fun σ' H' => ∃ F' ρ', Rl (KT.mk X.K Tb) P F0 B F' H' σ' ρ' ∧ Ex F1 F' ∧ forS ws b g (items.drop (i + 1)) (wipeE ws ρ') = res, fun σ' H' ⟨F', ρ', r', e', h'⟩ => ⟨_, by omega, rfl, hlt, F', _, r'.wipeE ws, e', h'⟩, fun x H3 hy => ?_⟩
      obtain ⟨d, hdx, eH, hy⟩ := hy
      rw [List.getElem?_eq_getElem hlt] at hdx
      cases hdx
      obtain ⟨F3, e3, e3H, nw, hx⟩ := hy Fi ei ri.ef
      have r3 := ri.grow eH e3 e3H nw
      cases hb1 : b items[i] ρi with
      | none =>
        rw [hb1] at hr
        subst hr
        exact h1.elim
      | some ρ2 =>
        rw [hb1] at hr
        refine ⟨P, F0, B, F3, ρi, items[i], ρ2, r3, hx, hb1, fun σ3 r4 _ _ => ⟨P, F0, B, F3, ρ2, r4, ?_⟩⟩
        have e13 : Ex F1 F3 := ei.trans e3
        cases hg2 : g ρ2 with
        | nx ρ3 =>
          simp only [hg2] at hr
          exact fun σ' H' F' r' e' => ⟨F', ρ3, r', e13.trans e', hr⟩
        | ct ρ3 =>
          simp only [hg2] at hr
          exact fun σ' H' F' r' e' => ⟨F', ρ3, r', e13.trans e', hr⟩
        | bk ρ3 =>
          simp only [hg2] at hr
          subst hr
          exact fun σ' H' F' r' e' => h1 σ' H' F' (r'.wipeE ws) (e13.trans e')
        | rt d ρ3 =>
          simp only [hg2] at hr
          subst hr
          exact fun v σ' H' F' r' e' hv => h1 v σ' H' F' r' (e13.trans e') hv
        | er c ρ3 =>
          simp only [hg2] at hr
          subst hr
          exact fun σ' => (h1 σ').mono e13
        | bad =>
          simp only [hg2] at hr
          subst hr
          exact h1.elim
    · have hin : i = items.length := Nat.le_antisymm hil (Nat.le_of_not_lt hlt)
      subst hin
      rw [List.drop_length] at hr
      unfold forS at hr
      subst hr
      exact .inl ⟨⟨rfl, ei.trans ri.ef⟩, h1 σ2 H2 Fi ri ei⟩⟩
/-! ### while -/
def whileS (ws : List Nat) (t : M Bool) (g : Env → SR) : Nat → Env → SR
  | 0, _ => .bad
  | n + 1, ρ => match t ρ with
    | .bad => .bad
    | .er c ρ' => .er c ρ'
    | .ok false ρ' => .nx ρ'
    | .ok true ρ' => match g ρ' with
      | .nx ρ2 => whileS ws t g n (wipeE ws ρ2)
      | .ct ρ2 => whileS ws t g n (wipeE ws ρ2)
      | .bk ρ2 => .nx (wipeE ws ρ2)
      | .rt d ρ2 => .rt d ρ2
      | .er c ρ2 => .er c ρ2
      | .bad => .bad
/-- with some number of turns it ends; which number does not matter -/
theorem ds_while (ws : List Nat) (fuel : Env → Nat) {c : Expr} {t : M Bool} (hp : PassesOwn (model X.prog X.w) X.A X.env X.xe) (hc : DT Tb X W c t) (hb : DSs Tb X W body g) : DS Tb X W (.While c body [] pos) (fun ρ => whileS ws t g (fuel ρ) (wipeE ws ρ)) :=
  ps_imp (ps_while hp hc hb) fun Dn σ H ⟨P, F0, B, Fz, ρ, r, h⟩ => by
    dsimp only at h
    generalize hn : fuel ρ = n at h
    generalize hres : whileS ws t g n (wipeE ws ρ) = res at h
    refine ⟨fun m σ' H' => ∃ Fi ρi, Rl (KT.mk X.K Tb) P F0 B Fi H' σ' ρi ∧ Ex Fz Fi ∧ whileS ws t g m ρi = res, ⟨n, Fz, _, r.wipeE ws, Ex.refl _, hres⟩, ?_⟩
    rintro m σ1 H1 ⟨Fi, ρi, ri, ei, hr⟩
    cases m with
    | zero =>
      unfold whileS at hr
      subst hr
      exact h.elim
    | succ m =>
      unfold whileS at hr
      refine ⟨P, F0, B, Fi, ρi, ri, ?_⟩
      cases ht : t ρi with
      | bad =>
        rw [ht] at hr
        subst hr
        exact h.elim
      | er c ρ' =>
        rw [ht] at hr
        subst hr
        exact (h σ1).mono ei
      | ok q ρ' =>
        rw [ht] at hr
        intro H2 F2 r2 e2
        cases q with
        | false =>
          simp only [Bool.false_eq_true, if_false]
          subst hr
          exact h σ1 H2 F2 r2 (ei.trans e2)
        | true =>
          simp only [if_true]
          have e12 := ei.trans e2
          refine ⟨fun σ' H' => ∃ F' ρ3, Rl (KT.mk X.K Tb) P F0 B F' H' σ' ρ3 ∧ Ex Fz F' ∧ whileS ws t g m (wipeE ws ρ3) = res, fun σ' H' ⟨F', ρ3, r', e', h'⟩ => ⟨m, Nat.lt_succ_self _, F', _, r'.wipeE ws, e', h'⟩, P, F0, B, F2, ρ', r2, ?_⟩
          cases hg2 : g ρ' with
          | nx ρ3 =>
            simp only [hg2] at hr
            exact fun σ' H' F' r' e' => ⟨F', ρ3, r', e12.trans e', hr⟩
          | ct ρ3 =>
            simp only [hg2] at hr
            exact fun σ' H' F' r' e' => ⟨F', ρ3, r', e12.trans e', hr⟩
          | bk ρ3 =>
            simp only [hg2] at hr
            subst hr
            exact fun σ' H' F' r' e' => h σ' H' F' (r'.wipeE ws) (e12.trans e')
          | rt d ρ3 =>
            simp only [hg2] at hr
            subst hr
            exact fun v σ' H' F' r' e' hv => h v σ' H' F' r' (e12.trans e') hv
          | er c ρ3 =>
            simp only [hg2] at hr
            subst hr
            exact fun σ' => (h σ').mono e12
          | bad =>
            simp only [hg2] at hr
            subst hr
            exact h.elim
end
end DL

/-! ## DL8: list comprehensions -/
namespace DL
open PySem PySem.Spec PyProof.Rows L2
open Evl (Ex)

/-- the slots of a block, as they stood before it -/
def resE (ρ0 : Env) : List Nat → Env → Env
  | [], ρ => ρ
  | v :: vs, ρ => (resE ρ0 vs ρ).set v (match ρ0[v]? with | some (some (.val d)) => some (.val d) | some (some (.seq d)) => some (.seq d) | _ => none)
theorem resE_length (ρ0 : Env) : ∀ (vs : List Nat) (ρ : Env), (resE ρ0 vs ρ).length = ρ.length
  | [], _ => rfl
  | v :: vs, ρ => by
    unfold resE
    rw [List.length_set, resE_length ρ0 vs ρ]
theorem resE_get {ρ0 : Env} : ∀ {vs : List Nat} {ρ : Env} {i : Nat} {s : SV}, (resE ρ0 vs ρ)[i]? = some (some s) → (ρ0[i]? = some (some s) ∧ ∀ b d, s ≠ .own b d) ∨ (ρ[i]? = some (some s) ∧ i ∉ vs)
  | [], _, _, _, h => .inr ⟨h, List.not_mem_nil⟩
  | v :: vs, ρ, i, s, h => by
    unfold resE at h
    rcases set_get h with ⟨rfl, q⟩ | ⟨ne, q⟩
    · refine .inl ?_
      split at q
      · rename_i d e
        cases q
        exact ⟨e, nofun⟩
      · rename_i d e
        cases q
        exact ⟨e, nofun⟩
      · cases q
    · rcases resE_get q with z | ⟨h1, h2⟩
      · exact .inl z
      · exact .inr ⟨h1, fun z => (List.mem_cons.mp z).elim ne h2⟩
theorem wipe_in {σ : St} {i : Nat} : ∀ {vs : List Nat}, i ∈ vs → i < σ.length → (wipe σ vs)[i]? = some none
  | v :: vs, h, hl => by
    unfold wipe
    by_cases e : i = v
    · subst e
      rw [List.getElem?_set_self (by rw [wipe_length]; exact hl)]
    · rw [List.getElem?_set_ne (Ne.symm e)]
      exact wipe_in ((List.mem_cons.mp h).resolve_left e) hl
theorem wipe_eq {σ σ' : St} {vs : List Nat} (hl : σ'.length = σ.length) (h : ∀ i, i ∉ vs → σ'[i]? = (wipe σ vs)[i]?) : wipe σ' vs = wipe σ vs := by
  refine List.ext_getElem? fun i => ?_
  by_cases hi : i ∈ vs
  · by_cases hb : i < σ.length
    · rw [wipe_in hi hb, wipe_in hi (by rw [hl]; exact hb)]
    · rw [List.getElem?_eq_none (by rw [wipe_length]; omega), List.getElem?_eq_none (by rw [wipe_length]; omega)]
  · rw [wipe_get hi, h i hi]
section
variable {K : KT} {P : Addr} {F0 B F F' H H' : Hp} {σ σ' : St} {ρ ρ' : Env}
/-- behind the block -/
theorem Rl.back {vs : List Nat} (r0 : Rl K P F0 B F H σ ρ) (r : Rl K P F0 B F' H' σ' ρ') (e : Ex F F') (hl : σ'.length = σ.length) (hs : ∀ i, i ∉ vs → σ'[i]? = σ[i]?) : Rl K P F0 B F' H' σ (resE ρ vs ρ') where
  e0 := r.e0
  ef := r.ef
  eb := r.eb
  fr := r.fr
  len := by rw [resE_length, r.len, hl]
  val := fun i d h => by
    rcases resE_get h with ⟨q, _⟩ | ⟨q, ni⟩
    · obtain ⟨v, h1, h2⟩ := r0.val i d q
      exact ⟨v, h1, h2.mono e⟩
    · rw [← hs i ni]
      exact r.val i d q
  own := fun i s d h => by
    rcases resE_get h with ⟨_, q⟩ | ⟨q, ni⟩
    · exact absurd rfl (q s d)
    · rw [← hs i ni]
      exact r.own i s d q
  seq := fun i ds h => by
    rcases resE_get h with ⟨q, _⟩ | ⟨q, ni⟩
    · obtain ⟨a, vs, h1, h2, h3⟩ := r0.seq i ds q
      exact ⟨a, vs, h1, Evl.ex_l e h2, h3.mono e⟩
    · rw [← hs i ni]
      exact r.seq i ds q
  ap := fun i j s t d e p hij hi hj h1 h2 => by
    rcases resE_get hi with ⟨_, q⟩ | ⟨q, ni⟩
    · exact absurd rfl (q s d)
    · rcases resE_get hj with ⟨_, q2⟩ | ⟨q2, nj⟩
      · exact absurd rfl (q2 t e)
      · rw [← hs i ni] at h1
        rw [← hs j nj] at h2
        exact r.ap i j s t d e p hij q q2 h1 h2
  tab := r.tab
  nt := r.nt
/-- the list under work is part of what must stay .. -/
theorem Rl.inB {D : Addr} {o : HO} (r : Rl K P F0 B F H σ ρ) (hD : H D = none) : Rl K P F0 (upd B D o) F (upd H D o) σ ρ := by
  have hF := Evl.fresh_back r.ef hD
  have hB : B D = none := Evl.fresh_back r.eb hD
  refine (r.heap (Ex.new hD)).base r.e0 (fun a u e => ?_) (fun a h => ?_) (fun i s d p h hp => ?_) fun ho t ht => ?_
  · by_cases ea : a = D
    · subst ea; rw [upd_same] at e ⊢; exact e
    · rw [upd_ne ea] at e ⊢; exact r.eb a u e
  · have ea : a ≠ D := by rintro rfl; exact h hF
    rcases r.fr a h with q | q
    · exact .inl q
    · rw [upd_ne ea]; exact .inr q
  · obtain ⟨p', o', h1, h2, h3, h4, h5, h6⟩ := r.own i s d h
    rw [hp] at h1
    cases h1
    rw [upd_ne (by rintro rfl; rw [hD] at h5; cases h5)]
    exact h4
  · obtain ⟨ps, h1⟩ := tab_some r.tab ht
    rw [upd_ne (fun e => by rw [e, hD] at h1; cases h1)]
    exact (r.nt ho t ht).2
theorem Rl.freeD {D : Addr} {o : HO} (r : Rl K P F0 (upd B D o) F H σ ρ) (h0 : F0 D = none) : F D = none := by
  cases e : F D with
  | none => rfl
  | some u =>
    rcases r.fr D (by rw [e]; exact nofun) with q | q
    · exact absurd h0 q
    · rw [upd_same] at q; cases q
theorem Rl.atD {D : Addr} {o : HO} (r : Rl K P F0 (upd B D o) F H σ ρ) : H D = some o := r.eb D o upd_same
/-- .. it grows .. -/
theorem Rl.stepD {D : Addr} {vs : List V} {o' : HO} (r : Rl K P F0 (upd B D (.lst vs)) F H σ ρ) (h0 : F0 D = none) : Rl K P F0 (upd B D o') F (upd H D o') σ ρ := by
  have hF := r.freeD h0
  refine ⟨r.e0, Ex.mut r.ef hF, fun a u e => ?_, fun a h => ?_, r.len, r.val, fun i s d h => ?_, r.seq, r.ap, tabs_upd r.tab (r.eb _ _ upd_same), fun ho t ht => ⟨(r.nt ho t ht).1, by
    have z := (r.nt ho t ht).2
    have ne := tab_ne r.tab ht (r.eb _ _ upd_same)
    rw [upd_ne ne] at z ⊢
    exact z⟩⟩
  · by_cases ea : a = D
    · subst ea; rw [upd_same] at e ⊢; exact e
    · rw [upd_ne ea] at e ⊢
      exact r.eb a u (by rw [upd_ne ea]; exact e)
  · have ea : a ≠ D := by rintro rfl; exact h hF
    rcases r.fr a h with q | q
    · exact .inl q
    · rw [upd_ne ea] at q ⊢; exact .inr q
  · obtain ⟨p, u, h1, h2, h3, h4, h5, h6⟩ := r.own i s d h
    have ea : p ≠ D := by rintro rfl; rw [upd_same] at h4; cases h4
    rw [upd_ne ea] at h4
    exact ⟨p, u, h1, h2, h3, by rw [upd_ne ea]; exact h4, by rw [upd_ne ea]; exact h5, h6⟩
theorem Rl.ownD {D : Addr} {o : HO} (r : Rl K P F0 (upd B D o) F H σ ρ) {i : Nat} {s : Bool} {d : DL.D} (h : ρ[i]? = some (some (.own s d))) : σ[i]? ≠ some (some (.ref D)) := fun z => by
  obtain ⟨p, u, h1, h2, h3, h4, h5, h6⟩ := r.own i s d h
  rw [z] at h1
  cases h1
  rw [upd_same] at h4
  cases h4
/-- .. and is out of it again -/
theorem Rl.outB {D : Addr} {o : HO} (r : Rl K P F0 (upd B D o) F H σ ρ) (hB : B D = none) : Rl K P F0 B F H σ ρ := by
  refine r.base r.e0 (fun a u e => r.eb a u ?_) (fun a h => ?_) (fun i s d p h hp => ?_) fun ho t ht => ?_
  · rw [upd_ne (by rintro rfl; rw [hB] at e; cases e)]; exact e
  · by_cases ea : a = D
    · subst ea; exact .inr hB
    · rcases r.fr a h with q | q
      · exact .inl q
      · rw [upd_ne ea] at q; exact .inr q
  · obtain ⟨p', o', h1, h2, h3, h4, h5, h6⟩ := r.own i s d h
    rw [hp] at h1
    cases h1
    have ea : p ≠ D := by rintro rfl; rw [upd_same] at h4; cases h4
    rw [upd_ne ea] at h4
    exact h4
  · have z := (r.nt ho t ht).2
    rw [upd_ne (fun e => by rw [e, upd_same] at z; cases z)] at z
    exact z
end

def lcS (vs : List Nat) (b : D → Env → Option Env) (t : M Bool) (e : M D) : List D → List D → Env → R (List D)
  | acc, [], ρ => .ok acc ρ
  | acc, d :: r, ρ => match b d ρ with
    | none => .bad
    | some ρ1 => match t ρ1 with
      | .ok false ρ2 => lcS vs b t e acc r (wipeE vs ρ2)
      | .ok true ρ2 => match e ρ2 with
        | .ok x ρ3 => lcS vs b t e (acc ++ [x]) r (wipeE vs ρ3)
        | _ => .bad
      | _ => .bad
def lcM (vs : List Nat) (b : D → Env → Option Env) (t : M Bool) (e : M D) (items : List D) : M (List D) := fun ρ => match lcS vs b t e [] items (wipeE vs ρ) with
  | .ok ds ρ2 => .ok ds (resE ρ vs ρ2)
  | _ => .bad
/-- no exception is wanted -/
abbrev WN : WX := fun _ _ _ _ => False
abbrev DTs (Tb : TbT) (X : Cx) (W : WX) (ifs : List Expr) (f : M Bool) : Prop := PTs X ifs (tTs (KT.mk X.K Tb) X.mg W f)
theorem takesN (X : Cx) : L2N.Takes X WN := fun u s' ⟨a, B, sI, pins, σ, H, cls, d, e, I, nb, up, sky, na, os, ag, w⟩ => w.elim
section
variable {Tb : TbT} {X : Cx} {W : WX}
theorem pts_imp {e : List Expr} {t t' : TT} (h : PTs X e t) (i : ∀ σ H Q, t' σ H Q → t σ H Q) : PTs X e t' := ⟨fun pins s σ H Q I hq => h.run pins s σ H Q I (i σ H Q hq)⟩
theorem dts_nil : DTs Tb X W [] (M.pure true) := pts_imp pts_nil fun σ H Q ⟨P, F0, B, Fz, ρ, r, h⟩ => h.now r
theorem dts_one {c : Expr} {f : M Bool} (h : DT Tb X W c f) : DTs Tb X W [c] f := pts_one h
/-- what the comprehension needs, from its denotation -/
theorem lc_den {K : KT} {mg : Str → Option Value} {W : WX} {f : M (List D)} {ts vs : List Nat} {b : D → Env → Option Env} {t : M Bool} {e : M D} (hts : ∀ i ∈ ts, i ∈ vs) (σ : St) (H : Hp) (Q : VK)
    (h : tN K mg W (M.bind f (lcM vs b t e)) σ H Q) : tLc (iD K mg W f) (gD K ts b) (tTs K mg WN t) (tD K mg WN e) vs σ H Q := by
  obtain ⟨P, F0, B, Fz, ρ, r, h⟩ := h
  refine ⟨P, F0, B, Fz, ρ, r, h.bind.imp fun items ρ1 H1 F1 r1 e1 h1 hz D hD => ?_⟩
  unfold lcM at h1
  generalize hres : lcS vs b t e [] items (wipeE vs ρ1) = res at h1
  have hB : B D = none := Evl.fresh_back r1.eb hD
  have h0 : F0 D = none := Evl.fresh_back r1.e0 (Evl.fresh_back r1.ef hD)
  refine ⟨fun i m H => m = items.length - i ∧ i ≤ items.length ∧ ∃ accV acc F ρ, Rl K P F0 (upd B D (.lst accV)) F H (wipe σ vs) ρ ∧ RpAll F accV acc ∧ Ex F1 F ∧ acc.length ≤ i ∧ lcS vs b t e acc (items.drop i) ρ = res,
    ⟨_, rfl, Nat.zero_le _, [], [], F1, wipeE vs ρ1, ((r1.wipeE vs).inB hD).weak (by rw [wipeE_length, r1.len, wipe_length]) (fun i s hi => ⟨hi, wipe_get (wipeE_get hi).2⟩), .nil, Ex.refl _, Nat.zero_le _, by rw [List.drop_zero]; exact hres⟩, ?_⟩
  rintro i m H2 ⟨rfl, hil, accV, acc, F, ρ2, r2, ha, e2, hal, hr⟩
  by_cases hlt : i < items.length
  · have hd : items.drop i = items[i] :: items.drop (i + 1) := List.drop_eq_getElem_cons hlt
    rw [hd] at hr
    unfold lcS at hr
    refine .inr ⟨⟨hlt, e2.trans r2.ef⟩, fun H' => ∃ accV acc F ρ, Rl K P F0 (upd B D (.lst accV)) F H' (wipe σ vs) ρ ∧ RpAll F accV acc ∧ Ex F1 F ∧ acc.length ≤ i + 1 ∧ lcS vs b t e acc (items.drop (i + 1)) ρ = res,
      fun H' hw => ⟨items.length - (i + 1), by omega, rfl, hlt, hw⟩, fun x H' hy => ?_⟩
    obtain ⟨d, hdx, eH, hy⟩ := hy
    rw [List.getElem?_eq_getElem hlt] at hdx
    cases hdx
    obtain ⟨F3, e3, e3H, nw, hx⟩ := hy F e2 r2.ef
    have r3 := r2.grow eH e3 e3H nw
    cases hb1 : b items[i] ρ2 with
    | none =>
      rw [hb1] at hr
      subst hr
      exact h1.elim
    | some ρ3 =>
      simp only [hb1] at hr
      refine ⟨P, F0, _, F3, ρ2, items[i], ρ3, r3, hx, hb1, fun σ3 r4 hq hl3 => ⟨wipe_eq (by rw [hl3, wipe_length]) fun j hj => hq j fun z => hj (hts j z), P, F0, _, F3, ρ3, r4, ?_⟩⟩
      have hwp : wipe σ3 vs = wipe σ vs := wipe_eq (by rw [hl3, wipe_length]) fun j hj => hq j fun z => hj (hts j z)
      have turn : ∀ {accV : List V} {F : Hp} {ρ : Env} {H : Hp}, Rl K P F0 (upd B D (.lst accV)) F H σ3 ρ → Rl K P F0 (upd B D (.lst accV)) F H (wipe σ vs) (wipeE vs ρ) := fun {accV F ρ H} q =>
        q.weak (by rw [wipeE_length, q.len, hl3]) fun j s hj => by
          obtain ⟨k1, k2⟩ := wipeE_get hj
          exact ⟨k1, (hq j fun z => k2 (hts j z)).symm⟩
      cases ht : t ρ3 with
      | bad =>
        simp only [ht] at hr
        subst hr
        exact h1.elim
      | er c ρ' =>
        simp only [ht] at hr
        subst hr
        exact h1.elim
      | ok q ρ4 =>
        intro H5 F5 r5 e5
        cases q with
        | false =>
          simp only [ht] at hr
          simp only [Bool.false_eq_true, if_false]
          exact ⟨accV, acc, F5, _, turn r5, (ha.mono e3).mono e5, (e2.trans e3).trans e5, Nat.le_succ_of_le hal, hr⟩
        | true =>
          simp only [ht] at hr
          simp only [if_true]
          refine ⟨P, F0, _, F5, ρ4, r5, ?_⟩
          cases he : e ρ4 with
          | bad =>
            simp only [he] at hr
            subst hr
            exact h1.elim
          | er c ρ' =>
            simp only [he] at hr
            subst hr
            exact h1.elim
          | ok y ρ5 =>
            simp only [he] at hr
            intro H6 F6 r6 e6 v hv
            refine ⟨accV, r6.atD, ?_, accV ++ [v], acc ++ [y], F6, _, (turn r6).stepD h0, (((ha.mono e3).mono e5).mono e6).append (.cons hv .nil), ((e2.trans e3).trans e5).trans e6, by rw [List.length_append]; exact Nat.add_le_add_right hal 1, hr⟩
            have := ha.length
            have : acc.length < items.length := Nat.lt_of_le_of_lt hal hlt
            omega
  · have hin : i = items.length := Nat.le_antisymm hil (Nat.le_of_not_lt hlt)
    subst hin
    rw [List.drop_length] at hr
    unfold lcS at hr
    subst hr
    refine .inl ⟨⟨rfl, e2.trans r2.ef⟩, ?_⟩
    have r3 := r2.outB hB
    have r4 : Rl K P F0 B F H2 σ (resE ρ1 vs ρ2) := r1.back r3 e2 (by rw [wipe_length]) fun j hj => wipe_get hj
    refine h1 H2 F r4 e2 D accV (r2.freeD h0) hB r2.atD ha fun j s d hj => ?_
    rcases resE_get hj with ⟨_, q⟩ | ⟨q, ni⟩
    · exact absurd rfl (q s d)
    · have := r2.ownD q
      rw [wipe_get ni] at this
      exact this
variable {elt tg iter : Expr} {ifs : List Expr} {scope : Scope} {own : List (Str × Nat)} {pos spos : Pos} {f : M (List D)} {ts : List Nat} {b : D → Env → Option Env} {t : M Bool} {e : M D}
/-- the parts of a comprehension, in any block of it -/
abbrev BlkAll (X : Cx) (scope : Scope) (p : Cx → Prop) : Prop := ∀ (s : Shared) (H : Hp) (C : Addr) (cl : List (Str × Addr)) (fp : List Addr), p (X.blk s H scope (compEnvC scope cl C X.env) fp)
theorem dn_lc (hc : X.calm = true) (hN : X.N.Nodup) (hi : DI Tb X W tg iter f) (ok : BlkOk X.N X.env.scope scope own) (hts : ∀ i ∈ ts, i ∈ own.map (·.2)) (hg : BlkAll X scope fun Y => DG Tb Y tg ts b) (ht : BlkAll X scope fun Y => DTs Tb Y WN ifs t) (he : BlkAll X scope fun Y => DE Tb Y WN elt e)
    (hs : ∀ x, foldedSetIterable iter X.env x = pure x := by intro _; rfl) : DN Tb X W (.ListComp elt [⟨tg, iter, ifs, 0⟩] scope pos) (M.bind f (lcM (own.map (·.2)) b t e)) :=
  pe_imp (pe_lc hc hN hi ok hg ht he hs) fun σ H Q h => lc_den hts σ H Q h
end
end DL

/-! ## DL9: statements, defs -/
namespace DL
open PySem PySem.Spec PyProof.Rows L2
open Evl (Ex)

def nxO : Option Env → SR
  | some ρ => .nx ρ
  | none => .bad
/-- what stands at a place of one's own is replaced -/
def updO (i : Nat) (g : List D → Option (List D)) (ρ : Env) : Option Env := match ρ[i]? with
  | some (some (.own s (.list ds))) => (g ds).map fun ds' => ρ.set i (some (.own s (.list ds')))
  | _ => none
theorem updO_some {i : Nat} {g : List D → Option (List D)} {ρ ρ' : Env} (h : updO i g ρ = some ρ') : ∃ s ds ds', ρ[i]? = some (some (.own s (.list ds))) ∧ g ds = some ds' ∧ ρ' = ρ.set i (some (.own s (.list ds'))) := by
  unfold updO at h
  split at h
  · rename_i s ds e
    cases hg : g ds with
    | none => rw [hg] at h; cases h
    | some ds' =>
      rw [hg] at h
      cases h
      exact ⟨s, ds, ds', e, hg, rfl⟩
  · cases h
theorem So.nxO {K : KT} {mg : Str → Option Value} {W : WX} {P : Addr} {F0 B Fz : Hp} {o : Option Env} {Dn : Ends} (h : So K mg W P F0 B Fz (nxO o) Dn) : ∃ ρ, o = some ρ ∧ So K mg W P F0 B Fz (.nx ρ) Dn := by
  cases o with
  | none => exact h.elim
  | some ρ => exact ⟨ρ, rfl, h⟩
theorem Po.ret {K : KT} {mg : Str → Option Value} {W : WX} {P : Addr} {F0 B Fz : Hp} {σ : L2.St} {ρ : Env} {α β : Type} {m : M α} {g : α → β} {T : β → Env → Hp → Hp → Prop} (h : Po K mg W P F0 B σ Fz (m ρ) fun a => T (g a)) : Po K mg W P F0 B σ Fz (M.bind m (fun a => M.pure (g a)) ρ) T := by
  rw [M.bind_def]
  cases e : m ρ with
  | ok a ρ' => rw [e] at h; exact h
  | er c ρ' => rw [e] at h; exact h
  | bad => rw [e] at h; exact h
section
variable {Tb : TbT} {X : Cx} {W : WX} {st : Stmt} {rest : List Stmt} {e : Expr} {f : M D} {fl : M (List D)} {g g' : Env → SR} {pos p : Pos}
theorem dss_nil : DSs Tb X W [] .nx := pss_imp pss_nil fun Dn σ H ⟨P, F0, B, Fz, ρ, r, h⟩ => h σ H Fz r (Ex.refl _)
def sqS (g g' : Env → SR) : Env → SR := fun ρ => match g ρ with
  | .nx ρ' => g' ρ'
  | x => x
theorem dss_cons (h1 : DS Tb X W st g) (h2 : DSs Tb X W rest g') : DSs Tb X W (st :: rest) (sqS g g') :=
  pss_imp (pss_cons h1 h2) fun Dn σ H ⟨P, F0, B, Fz, ρ, r, h⟩ => ⟨P, F0, B, Fz, ρ, r, by
    unfold sqS at h
    cases hg : g ρ with
    | nx ρ' =>
      simp only [hg] at h
      exact fun σ' H' F' r' e' => ⟨P, F0, B, F', ρ', r', h.mono e'⟩
    | bk ρ' => simp only [hg] at h; exact h
    | ct ρ' => simp only [hg] at h; exact h
    | rt d ρ' => simp only [hg] at h; exact h
    | er c ρ' => simp only [hg] at h; exact h
    | bad => simp only [hg] at h; exact h⟩
theorem dss_one (h1 : DS Tb X W st g) : DSs Tb X W [st] g := pss_one h1
theorem ds_pass : DS Tb X W (.Pass pos) .nx := ps_imp ps_pass fun Dn σ H ⟨P, F0, B, Fz, ρ, r, h⟩ => h σ H Fz r (Ex.refl _)
theorem ds_break : DS Tb X W (.Break pos) .bk := ps_imp ps_break fun Dn σ H ⟨P, F0, B, Fz, ρ, r, h⟩ => h σ H Fz r (Ex.refl _)
theorem ds_continue : DS Tb X W (.Continue pos) .ct := ps_imp ps_continue fun Dn σ H ⟨P, F0, B, Fz, ρ, r, h⟩ => h σ H Fz r (Ex.refl _)
theorem ds_doc {x j pos pos'} : DS Tb X W (.Expr (.Constant (.str x) j pos) pos') .nx := ps_imp ps_doc fun Dn σ H ⟨P, F0, B, Fz, ρ, r, h⟩ => h σ H Fz r (Ex.refl _)
theorem ds_expr (he : DE Tb X W e f) (hs : swapsWith e none pos.line X.env = pure false := by rfl) : DS Tb X W (.Expr e pos) (sM f fun _ ρ => .nx ρ) :=
  ps_imp (ps_expr he hs) fun Dn σ H ⟨P, F0, B, Fz, ρ, r, h⟩ => ⟨P, F0, B, Fz, ρ, r, h.sM.imp fun d ρ1 H1 F1 r1 e1 h1 v hv => h1 σ H1 F1 r1 (Ex.refl _)⟩
theorem ds_ret (he : DE Tb X W e f) : DS Tb X W (.Return (some e) pos) (sM f .rt) :=
  ps_imp (ps_ret he) fun Dn σ H ⟨P, F0, B, Fz, ρ, r, h⟩ => ⟨P, F0, B, Fz, ρ, r, h.sM.imp fun d ρ1 H1 F1 r1 e1 h1 v hv => h1 v σ H1 F1 r1 (Ex.refl _) hv⟩
theorem ds_retN : DS Tb X W (.Return none pos) (fun ρ => .rt .none ρ) :=
  ps_imp ps_retN fun Dn σ H ⟨P, F0, B, Fz, ρ, r, h⟩ => h .non σ H Fz r (Ex.refl _) .non
def ifS (t : M Bool) (g g' : Env → SR) : Env → SR := sM t fun b => match b with | true => g | false => g'
theorem ds_if {c : Expr} {a b : List Stmt} {t : M Bool} (hc : DT Tb X W c t) (ha : DSs Tb X W a g) (hb : DSs Tb X W b g') : DS Tb X W (.If c a b pos) (ifS t g g') :=
  ps_imp (ps_if hc ha hb) fun Dn σ H ⟨P, F0, B, Fz, ρ, r, h⟩ => ⟨P, F0, B, Fz, ρ, r, h.sM.imp fun q ρ1 H1 F1 r1 e1 h1 => by
    cases q with
    | true =>
      simp only [if_true]
      exact ⟨P, F0, B, F1, ρ1, r1, h1⟩
    | false =>
      simp only [Bool.false_eq_true, if_false]
      exact ⟨P, F0, B, F1, ρ1, r1, h1⟩⟩
/-- name = a value -/
theorem ds_set (i : Nat) {x : Str} (hN : X.N.Nodup) (he : DE Tb X W e f) (hi : X.N[i]? = some x := by rfl) (hx : Loc X.env.scope x := by first | exact Or.inl rfl | exact Or.inr rfl) (hs : swapsWith e (some (.Name x p)) pos.line X.env = pure false := by rfl)
    (hf : X.fn x = true ∨ X.env.scope.names.lookup x = some .local := by first | exact .inl rfl | exact .inr rfl) : DS Tb X W (.Assign [.Name x p] e pos) (sM f fun d ρ => .nx (ρ.set i (some (.val d)))) :=
  ps_imp (ps_set hN hi hx he hs hf) fun Dn σ H ⟨P, F0, B, Fz, ρ, r, h⟩ => ⟨P, F0, B, Fz, ρ, r, h.sM.imp fun d ρ1 H1 F1 r1 e1 h1 v hv => h1 _ _ _ (r1.setVal hv) (Ex.refl _)⟩
/-- name = a new list -/
theorem ds_setN (i : Nat) {x : Str} (hN : X.N.Nodup) (he : DN Tb X W e fl) (hi : X.N[i]? = some x := by rfl) (hx : Loc X.env.scope x := by first | exact Or.inl rfl | exact Or.inr rfl) (hs : swapsWith e (some (.Name x p)) pos.line X.env = pure false := by rfl)
    (hf : X.fn x = true ∨ X.env.scope.names.lookup x = some .local := by first | exact .inl rfl | exact .inr rfl) : DS Tb X W (.Assign [.Name x p] e pos) (sM fl fun ds ρ => .nx (ρ.set i (some (.own false (.list ds))))) :=
  ps_imp (ps_set hN hi hx he hs hf) fun Dn σ H ⟨P, F0, B, Fz, ρ, r, h⟩ => ⟨P, F0, B, Fz, ρ, r, h.sM.imp fun ds ρ1 H1 F1 r1 e1 h1 p vs hF hB hH hv hn => h1 _ _ _ (r1.setOwn hF hB hH (.lst hv) hn) (Ex.refl _)⟩
/-- .. by a comprehension on the name's line -/
theorem ds_setLc (i : Nat) {x : Str} {elt tg iter : Expr} {ifs : List Expr} {scope : Scope} {own : List (Str × Nat)} {pos' : Pos} {ts : List Nat} {b : D → Env → Option Env} {t : M Bool} (hc : X.calm = true) (hN : X.N.Nodup) (hi : DI Tb X W tg iter fl) (ok : BlkOk X.N X.env.scope scope own) (hts : ∀ i ∈ ts, i ∈ own.map (·.2))
    (hg : BlkAll X scope fun Y => DG Tb Y tg ts b) (ht : BlkAll X scope fun Y => DTs Tb Y WN ifs t) (he : BlkAll X scope fun Y => DE Tb Y WN elt f) (hy : X.N[i]? = some x := by rfl) (hyl : X.env.scope.names.lookup x = some .local := by rfl)
    (hsw : swapsWith (.ListComp elt [⟨tg, iter, ifs, 0⟩] scope pos') (some (.Name x p)) pos.line X.env = pure true := by exact sw_true rfl rfl rfl (by decide +kernel)) (hs : ∀ x, foldedSetIterable iter X.env x = pure x := by intro _; rfl) :
    DS Tb X W (.Assign [.Name x p] (.ListComp elt [⟨tg, iter, ifs, 0⟩] scope pos') pos) (sM (M.bind fl (lcM (own.map (·.2)) b t f)) fun ds ρ => .nx (ρ.set i (some (.own false (.list ds))))) :=
  ps_imp (ps_setLc hc hN hy hyl hsw hi ok hg ht he hs) fun Dn σ H ⟨P, F0, B, Fz, ρ, r, h⟩ => lc_den hts σ H _ ⟨P, F0, B, Fz, ρ, r, h.sM.imp fun ds ρ1 H1 F1 r1 e1 h1 p vs hF hB hH hv hn => h1 _ _ _ (r1.setOwn hF hB hH (.lst hv) hn) (Ex.refl _)⟩
/-- a, b = a tuple -/
theorem ds_asg {tg : Expr} {ts : List Nat} {b : D → Env → Option Env} (he : DE Tb X W e f) (hg : DG Tb X tg ts b) (hs : swapsWithSole [tg] e pos.line X.env = pure false := by rfl) (hw : swappedStores [tg] e X.env = pure none := by rfl)
    (h1 : (assignEach [tg] X.env).map (·.2) = [assign tg X.env] := by rfl) : DS Tb X W (.Assign [tg] e pos) (sM f fun d ρ => nxO (b d ρ)) :=
  ps_imp (ps_asg he hg hs hw h1) fun Dn σ H ⟨P, F0, B, Fz, ρ, r, h⟩ => ⟨P, F0, B, Fz, ρ, r, h.sM.imp fun d ρ1 H1 F1 r1 e1 h1 v hv => by
    obtain ⟨ρ2, hb, h2⟩ := h1.nxO
    exact ⟨P, F0, B, F1, ρ1, d, ρ2, r1, hv, hb, fun σ' r' _ _ => h2 σ' H1 F1 r' (Ex.refl _)⟩⟩
/-- a, b = x, y -/
theorem ds_par (i j : Nat) {x y : Str} {a b : Expr} {px py pt : Pos} {kt k2 pt2} (hc : X.calm = true) (hN : X.N.Nodup) (ha : DA Tb X W [a, b] fl) (hi : X.N[i]? = some x := by rfl) (hj : X.N[j]? = some y := by rfl) (hij : i ≠ j := by decide)
    (hx : X.env.scope.names.lookup x = some .local := by rfl) (hy : X.env.scope.names.lookup y = some .local := by rfl)
    (hw : swappedStores [.Tuple [.Name x px, .Name y py] kt pt] (.Tuple [a, b] k2 pt2) X.env = pure (some [x, y]) := by rfl)
    (hs : swapsWithSole [.Tuple [.Name x px, .Name y py] kt pt] (.Tuple [a, b] k2 pt2) pos.line X.env = pure false := by rfl) :
    DS Tb X W (.Assign [.Tuple [.Name x px, .Name y py] kt pt] (.Tuple [a, b] k2 pt2) pos) (sM fl fun ds ρ => match ds with | [d, e] => .nx ((ρ.set i (some (.val d))).set j (some (.val e))) | _ => .bad) :=
  ps_imp (ps_par hc hN hi hj hij hx hy ha.pa hw hs) fun Dn σ H ⟨P, F0, B, Fz, ρ, r, h⟩ => ⟨P, F0, B, Fz, ρ, r, h.sM.imp fun ds ρ1 H1 F1 r1 e1 h1 vs hvs => by
    split at h1
    · rename_i d e
      obtain ⟨v, w, rfl, hv, hw⟩ := hvs.two
      exact ⟨v, w, rfl, h1 _ _ _ ((r1.setVal hv).setVal hw) (Ex.refl _)⟩
    · exact h1.elim⟩
/-- raise X('m') -/
theorem ds_raise {x m : Str} {j : Nat} {p2 p3 : Pos} {C : Addr} {bmB : List Value} {B newId initId : String} (hc : X.calm = true) (tk : L2N.Takes X W) (F : ExcBaseFacts B newId initId bmB) (q : PySem.W.excIn X.K C bmB newId = true) (gC : X.mg x = some (.ref C)) (kC : PySem.W.keepIn X.K (.ref C) = true) (r : Raises X (.ref C)) (hg : Gl X x := by first | exact .inl rfl | exact .inr rfl | rfl)
    (hdb : (x == ("__debug__" : Str)) = false := by decide) : DS Tb X W (.Raise (some (.Call (.Name x p) [.Constant (.str m) j p2] [] p3)) none pos) (fun ρ => .er x ρ) :=
  ps_imp (L2N.ps_raise hc tk (L2N.pmk_own F q gC kC r hg hdb)) fun Dn σ H ⟨P, F0, B, Fz, ρ, rl, h⟩ => h σ H Fz C rl (Ex.refl _) gC

/-! ### objects of one's own -/
theorem tyL {K : Frg} {p : Addr} {vs : List V} {H : Hp} (h : H p = some (.lst vs)) : tyV K "list" (.ref p) H := .inl ⟨rfl, vs, SqL.of h⟩
/-- x.append(e) -/
theorem ds_append (i : Nat) {x : Str} {px apos cpos : Pos} (he : DE Tb X W e f) (hN : X.N[i]? = some x := by rfl) (hv : Vis X.env.scope x := by first | exact Or.inl rfl | exact Or.inr (Or.inl rfl) | exact Or.inr (Or.inr rfl)) (hd : (x == ("__debug__" : Str)) = false := by decide)
    (hcd : (x == ("__classdict__" : Str)) = false := by decide) (hbase : attributeBase (.Name x px) "append" X.env (eval (.Name x px) X.env) = eval (.Name x px) X.env := by rfl)
    (hfew : ((backTo cpos (starEach [e] X.env)).all (fun x => !x.1) && (backToKw cpos (keywordEach [] X.env)).all (fun x => x.1.isSome) && decide (([e] : List Expr).length + ([] : List Keyword).length + (if ([] : List Keyword).isEmpty then 0 else 1) < 30)) = true := by rfl)
    (hline : (apos.endLine == cpos.line) = true := by rfl) (hs : starEach [e] X.env = (false, eval e X.env) :: starEach [] X.env := by rfl) (hplain : (backTo cpos (starEach [] X.env)).any (·.1) = false := by rfl)
    (hsw : swapsWith (.Call (.Attribute (.Name x px) "append" apos) [e] [] cpos) none pos.line X.env = pure false := by rfl) :
    DS Tb X W (.Expr (.Call (.Attribute (.Name x px) "append" apos) [e] [] cpos) pos) (sM (M.bind (getO i) fun _ => f) fun d ρ => nxO (updO i (fun ds => if ds.length < lim then some (ds ++ [d]) else none) ρ)) :=
  ps_imp (ps_expr (pe_bm PySem.F.plainAttrs_list PySem.F.slot_list_append PySem.F.type_list_append mt_append (pe_var hN hv hd hcd) (da_cons he da_nil hs).pa hbase hfew hline hs hplain) hsw) fun Dn σ H ⟨P, F0, B, Fz, ρ, r, h⟩ => by
    obtain ⟨ds0, h0, k0⟩ := (h.sM.bind (m := getO i) (k := fun _ => f)).opt
    obtain ⟨q, vs, hq, _, _, hH, _⟩ := r.peek h0
    refine ⟨.ref q, hq, tyL hH, P, F0, B, Fz, ρ, r, ?_⟩
    have k1 := k0 H Fz r (Ex.refl _)
    refine Po.ret (m := f) (g := fun d => [d]) ?_
    refine k1.imp fun d ρ1 H2 F2 r2 e2 h1 us hus => ?_
    obtain ⟨v, rfl, hv⟩ := hus.one
    obtain ⟨ρ2, hu, h2⟩ := h1.nxO
    obtain ⟨s, ds, ds', hi, hg, rfl⟩ := updO_some hu
    split at hg
    · rename_i hl
      cases hg
      obtain ⟨p', o, z1, z2, z3, z4, z5, z6⟩ := r2.own i s _ hi
      rw [hq] at z1
      cases z1
      obtain ⟨ws, rfl, hws⟩ := z6.lst_of
      refine ⟨q, ws, v, rfl, rfl, z5, ?_, ?_⟩
      · rw [hws.length]; exact Nat.lt_of_lt_of_le hl (by decide)
      · exact h2 σ _ _ (r2.mut hi hq (.lst (hws.append (.cons hv .nil)))) (Ex.refl _)
    · cases hg
/-- x.extend(e) -/
theorem ds_extend (i : Nat) {x : Str} {px apos cpos : Pos} (he : DE Tb X W e f) (hN : X.N[i]? = some x := by rfl) (hv : Vis X.env.scope x := by first | exact Or.inl rfl | exact Or.inr (Or.inl rfl) | exact Or.inr (Or.inr rfl)) (hd : (x == ("__debug__" : Str)) = false := by decide)
    (hcd : (x == ("__classdict__" : Str)) = false := by decide) (hbase : attributeBase (.Name x px) "extend" X.env (eval (.Name x px) X.env) = eval (.Name x px) X.env := by rfl)
    (hfew : ((backTo cpos (starEach [e] X.env)).all (fun x => !x.1) && (backToKw cpos (keywordEach [] X.env)).all (fun x => x.1.isSome) && decide (([e] : List Expr).length + ([] : List Keyword).length + (if ([] : List Keyword).isEmpty then 0 else 1) < 30)) = true := by rfl)
    (hline : (apos.endLine == cpos.line) = true := by rfl) (hs : starEach [e] X.env = (false, eval e X.env) :: starEach [] X.env := by rfl) (hplain : (backTo cpos (starEach [] X.env)).any (·.1) = false := by rfl)
    (hsw : swapsWith (.Call (.Attribute (.Name x px) "extend" apos) [e] [] cpos) none pos.line X.env = pure false := by rfl) :
    DS Tb X W (.Expr (.Call (.Attribute (.Name x px) "extend" apos) [e] [] cpos) pos) (sM (M.bind (getO i) fun _ => f) fun d ρ => match d with | .list es => nxO (updO i (fun ds => if ds.length + es.length ≤ lim then some (ds ++ es) else none) ρ) | _ => .bad) :=
  ps_imp (ps_expr (pe_bm PySem.F.plainAttrs_list PySem.F.slot_list_extend PySem.F.type_list_extend mt_extend (pe_var hN hv hd hcd) (da_cons he da_nil hs).pa hbase hfew hline hs hplain) hsw) fun Dn σ H ⟨P, F0, B, Fz, ρ, r, h⟩ => by
    obtain ⟨ds0, h0, k0⟩ := (h.sM.bind (m := getO i) (k := fun _ => f)).opt
    obtain ⟨q, vs, hq, _, _, hH, _⟩ := r.peek h0
    refine ⟨.ref q, hq, tyL hH, P, F0, B, Fz, ρ, r, ?_⟩
    have k1 := k0 H Fz r (Ex.refl _)
    refine Po.ret (m := f) (g := fun d => [d]) ?_
    refine k1.imp fun d ρ1 H2 F2 r2 e2 h1 us hus => ?_
    obtain ⟨v, rfl, hv⟩ := hus.one
    split at h1
    · rename_i es
      obtain ⟨ρ2, hu, h2⟩ := h1.nxO
      obtain ⟨s, ds, ds', hi, hg, rfl⟩ := updO_some hu
      split at hg
      · rename_i hl
        cases hg
        obtain ⟨p', o, z1, z2, z3, z4, z5, z6⟩ := r2.own i s _ hi
        rw [hq] at z1
        cases z1
        obtain ⟨ws, rfl, hws⟩ := z6.lst_of
        obtain ⟨q2, us, rfl, hq2, hus⟩ := hv.lst_of
        refine ⟨q, q2, ws, us, rfl, rfl, z5, r2.ef _ _ hq2, ?_, ?_⟩
        · rw [hws.length, hus.length]; exact Nat.le_trans hl (by decide)
        · exact h2 σ _ _ (r2.mut hi hq (.lst (hws.append hus))) (Ex.refl _)
      · cases hg
    · exact h1.elim
/-- a store at a place of a list -/
def setIxD (ds : List D) (y d : D) : Option (List D) := match y with
  | .int i => (ixN ds.length i).map fun j => ds.set j d
  | _ => none
/-- x[y] = e -/
theorem ds_setIx (i : Nat) {x : Str} {y : Expr} {fy : M D} {px spos : Pos} (he : DE Tb X W e f) (hy : DE Tb X W y fy) (hN : X.N[i]? = some x := by rfl) (hv : Vis X.env.scope x := by first | exact Or.inl rfl | exact Or.inr (Or.inl rfl) | exact Or.inr (Or.inr rfl)) (hd : (x == ("__debug__" : Str)) = false := by decide)
    (hcd : (x == ("__classdict__" : Str)) = false := by decide)
    (ha : ∀ v, assign (.Subscript (.Name x px) y spos) X.env v = (do
      let ov ← holding [v] (eval (.Name x px) X.env)
      let iv ← holding [v, ov] (eval y X.env)
      standAt spos
      holding [v, ov, iv] (setItem ov iv v)
      release [v, ov, iv] []) := by intro _; rfl) (hs : swapsWithSole [.Subscript (.Name x px) y spos] e pos.line X.env = pure false := by rfl) (hw : swappedStores [.Subscript (.Name x px) y spos] e X.env = pure none := by rfl)
    (h1 : (assignEach [.Subscript (.Name x px) y spos] X.env).map (·.2) = [assign (.Subscript (.Name x px) y spos) X.env] := by rfl) :
    DS Tb X W (.Assign [.Subscript (.Name x px) y spos] e pos) (sM f fun d => sM (M.bind (getO i) fun _ => fy) fun k ρ => nxO (updO i (fun ds => setIxD ds k d) ρ)) :=
  ps_imp (ps_asg he (pg_sub (pe_var hN hv hd hcd) hy set_list ha) hs hw h1) fun Dn σ H ⟨P, F0, B, Fz, ρ, r, h⟩ => ⟨P, F0, B, Fz, ρ, r, h.sM.imp fun d ρ1 H1 F1 r1 e1 h1 v hv => by
    obtain ⟨ds0, h0, k0⟩ := (h1.sM.bind (m := getO i) (k := fun _ => fy) (σ := σ)).opt
    obtain ⟨q, vs, hq, _, _, hH, _⟩ := r1.peek h0
    refine ⟨.ref q, hq, P, F0, B, F1, ρ1, r1, ?_⟩
    refine (k0 H1 F1 r1 (Ex.refl _)).imp fun k ρ2 H2 F2 r2 e2 h2 w hw => ?_
    obtain ⟨ρ3, hu, h3⟩ := h2.nxO
    obtain ⟨s, ds, ds', hi, hg, rfl⟩ := updO_some hu
    unfold setIxD at hg
    split at hg
    · rename_i n
      cases hj : ixN ds.length n with
      | none => rw [hj] at hg; cases hg
      | some j =>
        rw [hj] at hg
        cases hg
        cases hw.int_of
        obtain ⟨p', o, z1, z2, z3, z4, z5, z6⟩ := r2.own i s _ hi
        rw [hq] at z1
        cases z1
        obtain ⟨ws, rfl, hws⟩ := z6.lst_of
        exact ⟨q, ws, n, j, rfl, rfl, z5, by rw [hws.length]; exact hj, h3 σ _ _ (r2.mut hi hq (.lst (hws.set (hv.mono e2) j))) (Ex.refl _)⟩
    · cases hg⟩

/-! ### views of the environment -/
/-- g only forgets or gives away -/
def Sound (g : Env → Env) : Prop := ∀ (K : KT) (P : Addr) (F0 B Fz H : Hp) (σ : L2.St) (ρ : Env), Rl K P F0 B Fz H σ ρ → ∃ Fz', Ex Fz Fz' ∧ Rl K P F0 B Fz' H σ (g ρ)
def frz (i : Nat) (ρ : Env) : Env := match ρ[i]? with
  | some (some (.own _ (.list ds))) => ρ.set i (some (.val (.list ds)))
  | _ => ρ
theorem snd_frz (i : Nat) : Sound (frz i) := fun K P F0 B Fz H σ ρ r => by
  unfold frz
  split
  · rename_i s ds e
    exact r.freeze e
  · exact ⟨Fz, Ex.refl _, r⟩
theorem snd_wipe (ws : List Nat) : Sound (wipeE ws) := fun K P F0 B Fz H σ ρ r => ⟨Fz, Ex.refl _, r.wipeE ws⟩
theorem snd_comp {g g' : Env → Env} (h : Sound g) (h' : Sound g') : Sound (fun ρ => g' (g ρ)) := fun K P F0 B Fz H σ ρ r => by
  obtain ⟨F1, e1, r1⟩ := h K P F0 B Fz H σ ρ r
  obtain ⟨F2, e2, r2⟩ := h' K P F0 B F1 H σ _ r1
  exact ⟨F2, e1.trans e2, r2⟩
def frzs : List Nat → Env → Env
  | [], ρ => ρ
  | i :: r, ρ => frzs r (frz i ρ)
theorem snd_frzs : ∀ is : List Nat, Sound (frzs is)
  | [] => fun K P F0 B Fz H σ ρ r => ⟨Fz, Ex.refl _, r⟩
  | i :: r => snd_comp (g := frz i) (g' := frzs r) (snd_frz i) (snd_frzs r)
/-- before a statement -/
theorem ds_pre {v : Env → Env} (hv : Sound v) (h : DS Tb X W st g) : DS Tb X W st (fun ρ => g (v ρ)) :=
  ps_imp h fun Dn σ H ⟨P, F0, B, Fz, ρ, r, q⟩ => by
    obtain ⟨F1, e1, r1⟩ := hv _ _ _ _ _ _ _ _ r
    exact ⟨P, F0, B, F1, _, r1, q.mono e1⟩
theorem dss_pre {v : Env → Env} (hv : Sound v) (h : DSs Tb X W rest g) : DSs Tb X W rest (fun ρ => g (v ρ)) :=
  pss_imp h fun Dn σ H ⟨P, F0, B, Fz, ρ, r, q⟩ => by
    obtain ⟨F1, e1, r1⟩ := hv _ _ _ _ _ _ _ _ r
    exact ⟨P, F0, B, F1, _, r1, q.mono e1⟩

/-! ### defs -/
/-- the environment at the start -/
def env0 (n : Nat) (ds : List D) : Env := ds.map (fun d => some (.val d)) ++ List.replicate (n - ds.length) none
/-- a body as a function of data -/
def fdOf (n : Nat) (g : Env → SR) (ds : List D) : Rz := match g (env0 n ds) with
  | .nx _ => .ok .none
  | .rt d _ => .ok d
  | .er c _ => .er c
  | _ => .bad
/-- .. of a def that changes its first argument -/
def envO (n : Nat) (s0 ds : List D) : Env := some (.own true (.list s0)) :: env0 (n - 1) ds
def fdOO (n : Nat) (g : Env → SR) (s0 ds : List D) : Option (D × List D) :=
  let fin : D → DL.Env → Option (D × List D) := fun d ρ => match (ρ[0]? : Option (Option SV)) with
    | some (some (.own true (.list s1))) => some (d, s1)
    | _ => none
  match g (envO n s0 ds) with
  | .nx ρ => fin .none ρ
  | .rt d ρ => fin d ρ
  | _ => none
end
theorem start_get {N : List Str} {vs : List V} {i : Nat} {v : V} (h : vs[i]? = some v) : (L2.start N vs)[i]? = some (some v) := by
  unfold L2.start
  have hl : i < vs.length := (List.getElem?_eq_some_iff.mp h).1
  rw [List.getElem?_append_left (by rw [List.length_map]; exact hl), List.getElem?_map, h]
  rfl
theorem env0_get {n : Nat} {ds : List D} {i : Nat} {s : SV} (h : (env0 n ds)[i]? = some (some s)) : ∃ d, s = .val d ∧ ds[i]? = some d := by
  unfold env0 at h
  by_cases hl : i < ds.length
  · rw [List.getElem?_append_left (by rw [List.length_map]; exact hl), List.getElem?_map, List.getElem?_eq_getElem hl] at h
    cases h
    exact ⟨_, rfl, List.getElem?_eq_getElem hl⟩
  · rw [List.getElem?_append_right (by rw [List.length_map]; omega), List.getElem?_replicate] at h
    split at h <;> cases h
theorem env0_length {n : Nat} {ds : List D} (h : ds.length ≤ n) : (env0 n ds).length = n := by
  unfold env0
  rw [List.length_append, List.length_map, List.length_replicate]
  omega
theorem start_length {N : List Str} {vs : List V} (h : vs.length ≤ N.length) : (L2.start N vs).length = N.length := by
  unfold L2.start
  rw [List.length_append, List.length_map, List.length_replicate]
  omega
section
variable {Tl : List (Addr × Str)} {P : Program} {w : World} {K : Frg} {mg : Str → Option Value} {base : Heap} {x qual : Str} {st : Stmt} {f : Addr} {fd : FuncData} {N ps : List Str} {k : Nat} {g : Env → SR}
theorem FnScope.le (S : FnScope N ps (defScope st)) : ps.length ≤ N.length := by
  have h := congrArg List.length S.pre
  rw [List.length_take] at h
  omega
theorem rl0 {Fz H : Hp} {vs : List V} {ds : List D} {n : Nat} (q : Addr) (ht : LamX.Tabs Tl H) (e : Ex Fz H) (h : RpAll Fz vs ds) (hl : ds.length ≤ N.length) (hn : n = N.length) : Rl (KT.mk K ⟨Tl, false⟩) q Fz H Fz H (L2.start N vs) (env0 n ds) := by
  subst hn
  refine ⟨Ex.refl _, e, Ex.refl _, fun a h => .inl h, by rw [env0_length hl, start_length (by rw [h.length]; exact hl)], fun i d hi => ?_, fun i s d hi => ?_, fun i s hi => ?_, fun i j s t d e p _ hi => ?_, ht, fun z => by cases z⟩
  · obtain ⟨d', hd, h2⟩ := env0_get hi
    cases hd
    obtain ⟨v, h3, h4⟩ := h.get h2
    exact ⟨v, start_get h3, h4⟩
  · obtain ⟨_, hd, _⟩ := env0_get hi
    cases hd
  · obtain ⟨_, hd, _⟩ := env0_get hi
    cases hd
  · obtain ⟨_, hd, _⟩ := env0_get hi
    cases hd
theorem Rl.outF {F0 H Fz H' : Hp} {q : Addr} {σ : L2.St} {ρ : Env} {d : D} {Q : VK} {v : V} (r : Rl (KT.mk K ⟨Tl, false⟩) q F0 H Fz H' σ ρ) (o : Out F0 H d Q) (hv : Rp Fz v d) : Q v H' := o v H' Fz r.eb r.e0 r.ef r.fr hv
/-- as Fun.okX -/
theorem okN {sp : Sp} (F : Fun K x qual st f fd) (S : FnScope N ps (defScope st)) (len : ∀ vs H Q E, sp vs H Q E → vs.length = ps.length)
    (hbody : ∀ (cdv : Value) (A : Around) (outer : List PySem.Env) (s : Shared) (H : Hp) (vs : List V) (Q : VK) (E : XK), Room k (A.deeper (envOfC qual (defScope st) s.heap.objs.size f cdv)) → sp vs H Q E →
      ∃ t, PSs (cxOf (L2N.CX P w) P w K mg base N qual (defScope st) f cdv A outer s H E) (defBody st) t ∧ t { nx := fun _ H' => Q .non H', rt := Q } (L2.start N vs) H) : FnOk P w K mg base (L2N.CX P w) (k + 1) f fd ps sp := by
  obtain ⟨oc, od, kV, doc, pm, an, cdv, ct, osl, rfl, lk, hcd⟩ := F.ex
  exact fn_of lk hcd S len fun A outer s H vs Q E hr hsp => hbody cdv A outer s H vs Q E hr hsp
/-- a def's promise, from its body -/
theorem dl_def (F : Fun K x qual st f fd) (S : FnScope N ps (defScope st))
    (hb : ∀ (cdv : Value) (A : Around) (outer : List PySem.Env) (s : Shared) (H : Hp) (E : XK), Room k (A.deeper (envOfC qual (defScope st) s.heap.objs.size f cdv)) →
      DSs ⟨Tl, false⟩ (cxOf (L2N.CX P w) P w K mg base N qual (defScope st) f cdv A outer s H E) (fun cls d _ H => E cls d H) (defBody st) g) : FnOk P w K mg base (L2N.CX P w) (k + 1) f fd ps (spD Tl mg ps.length (fdOf N.length g)) := by
  refine okN F S (fun vs H Q E h => ?_) (fun cdv A outer s H vs Q E hr h => ⟨_, hb cdv A outer s H E hr, ?_⟩)
  · obtain ⟨_, Fz, ds, _, h1, h2, _⟩ := h
    rw [h1.length, h2]
  · obtain ⟨ht, Fz, ds, e, h1, h2, h⟩ := h
    refine ⟨0, Fz, H, Fz, env0 N.length ds, rl0 0 ht e h1 (by rw [h2]; exact FnScope.le S) rfl, ?_⟩
    unfold fdOf at h
    generalize g (env0 N.length ds) = res at h
    cases res with
    | nx ρ => exact fun σ' H' F' r' _ => r'.outF h .non
    | rt d ρ => exact fun v σ' H' F' r' _ hv => r'.outF h hv
    | er c ρ => exact fun σ' H' F' C r' _ hC => h H' C r'.eb hC
    | bk ρ => exact h.elim
    | ct ρ => exact h.elim
    | bad => exact h.elim
/-- .. of one that changes its first argument, a list -/
theorem dl_defO (F : Fun K x qual st f fd) (S : FnScope N ps (defScope st))
    (hb : ∀ (cdv : Value) (A : Around) (outer : List PySem.Env) (s : Shared) (H : Hp) (E : XK), Room k (A.deeper (envOfC qual (defScope st) s.heap.objs.size f cdv)) →
      DSs ⟨Tl, false⟩ (cxOf (L2N.CX P w) P w K mg base N qual (defScope st) f cdv A outer s H E) WN (defBody st) g) : FnOk P w K mg base (L2N.CX P w) (k + 1) f fd ps (spO Tl ps.length (fdOO N.length g)) := by
  refine okN F S (fun vs H Q E h => ?_) (fun cdv A outer s H vs Q E hr h => ⟨_, hb cdv A outer s H E hr, ?_⟩)
  · obtain ⟨ht, Fz, ds, q, ws, us, s0, rfl, _, _, _, _, h1, h2, _⟩ := h
    rw [List.length_cons, h1.length, h2]
  · obtain ⟨ht, Fz, ds, q, ws, us, s0, rfl, e, hq, hH, hws, h1, h2, d0, s1, hF, hk⟩ := h
    have hle := FnScope.le S
    have hN : 1 ≤ N.length := by omega
    let B : Hp := fun a => if a = q then none else H a
    have hst : L2.start N (.ref q :: us) = some (.ref q) :: (us.map some ++ List.replicate (N.length - 1 - us.length) none) := by
      unfold L2.start
      rw [List.map_cons, List.cons_append, List.length_cons, show N.length - (us.length + 1) = N.length - 1 - us.length by omega]
    have hBq : B q = none := if_pos rfl
    have hBn : ∀ a, a ≠ q → B a = H a := fun a ne => if_neg ne
    have fin : ∀ {d : D} {ρ' : DL.Env} {v : V} {σ' : L2.St} {H' F' : Hp}, Rl (KT.mk K ⟨Tl, false⟩) q Fz B F' H' σ' ρ' → Rp F' v d → (match (ρ'[0]? : Option (Option SV)) with | some (some (.own true (.list s1))) => some (d, s1) | _ => none) = some (d0, s1) → Q v H' := fun {d ρ' v σ' H' F'} r' hv hm => by
      split at hm
      · rename_i s2 e0
        cases hm
        obtain ⟨p, o, k1, k2, k3, k4, k5, k6⟩ := r'.own 0 true _ e0
        cases k2 rfl
        obtain ⟨ws', rfl, hws'⟩ := k6.lst_of
        refine hk v H' F' ws' (fun a u ne e1 => r'.eb a u (by rw [hBn a ne]; exact e1)) r'.e0 r'.ef (fun a ha => ?_) k3 k5 hws' hv
        rcases r'.fr a ha with z | z
        · exact .inl z
        · by_cases ea : a = q
          · subst ea; exact absurd k3 ha
          · rw [hBn a ea] at z; exact .inr z
      · cases hm
    refine ⟨q, Fz, B, Fz, envO N.length s0 ds, ⟨Ex.refl _, e, fun a u h => ?_, fun a h => .inl h, ?_, fun i d hi => ?_, fun i s d hi => ?_, fun i s hi => ?_, fun i j s t d e p hij hi hj _ _ => ?_, ht, fun z => by cases z⟩, ?_⟩
    · by_cases ea : a = q
      · subst ea; rw [hBq] at h; cases h
      · rw [hBn a ea] at h; exact h
    · unfold envO
      rw [List.length_cons, env0_length (by omega), start_length (by rw [List.length_cons, h1.length]; omega)]
      omega
    · rw [hst]
      cases i with
      | zero => cases hi
      | succ i =>
        have hi : (env0 (N.length - 1) ds)[i]? = some (some (.val d)) := hi
        obtain ⟨d', hd, hi2⟩ := env0_get hi
        cases hd
        obtain ⟨v, h3, h4⟩ := h1.get hi2
        have hl : i < us.length := (List.getElem?_eq_some_iff.mp h3).1
        refine ⟨v, ?_, h4⟩
        rw [List.getElem?_cons_succ, List.getElem?_append_left (by rw [List.length_map]; exact hl), List.getElem?_map, h3]
        rfl
    · cases i with
      | zero =>
        cases hi
        exact ⟨q, .lst ws, by rw [hst]; rfl, fun _ => rfl, hq, hBq, hH, .lst hws⟩
      | succ i =>
        have hi : (env0 (N.length - 1) ds)[i]? = some (some (.own s d)) := hi
        obtain ⟨d', hd, hi2⟩ := env0_get hi
        cases hd
    · cases i with
      | zero => cases hi
      | succ i =>
        have hi : (env0 (N.length - 1) ds)[i]? = some (some (.seq s)) := hi
        obtain ⟨d', hd, hi2⟩ := env0_get hi
        cases hd
    · cases i with
      | zero =>
        cases j with
        | zero => exact hij rfl
        | succ j =>
          have hj : (env0 (N.length - 1) ds)[j]? = some (some (.own t e)) := hj
          obtain ⟨d', hd, _⟩ := env0_get hj
          cases hd
      | succ i =>
        have hi : (env0 (N.length - 1) ds)[i]? = some (some (.own s d)) := hi
        obtain ⟨d', hd, _⟩ := env0_get hi
        cases hd
    · unfold fdOO at hF
      generalize g (envO N.length s0 ds) = res at hF
      cases res with
      | nx ρ => exact fun σ' H' F' r' _ => fin r' .non hF
      | rt d ρ => exact fun v σ' H' F' r' _ hv => fin r' hv hF
      | er c ρ => cases hF
      | bk ρ => cases hF
      | ct ρ => cases hF
      | bad => cases hF
end
end DL

set_option maxHeartbeats 1000000
/-! ## DL10: reversed(x), list(range(..)) -/
namespace RTS
open PySem PySem.Spec PyProof.Rows L2 RT
theorem norev_str : typeLookup (.type "str") "__reversed__" = pure none := by rw [typeLookup_type, builtinLookup_eq_fast]; kernel_rfl
theorem get_str : typeLookup (.type "str") "__getitem__" = pure (some (.builtin "str.__getitem__")) := by rw [typeLookup_type, builtinLookup_eq_fast]; kernel_rfl
def rsObj (x : Str) (u : Tok) (i : Int) : Obj := { cls := .type "reversed", data := .fields #[.str x u, rawInt i] }
/-- reversed(x), x a text, the next place i -/
def IsRs (h : Heap) (a : Addr) (x : Str) (u : Tok) (i : Int) : Prop := ∃ o, h.get? a = some o ∧ o.cls = .type "reversed" ∧ o.data = .fields #[.str x u, rawInt i]
theorem IsRs.at {h h' : Heap} {a : Addr} {x : Str} {u : Tok} {i : Int} (y : IsRs h a x u i) (e : ∀ o, h.get? a = some o → h'.get? a = some o) : IsRs h' a x u i := let ⟨o, ho, r⟩ := y; ⟨o, e _ ho, r⟩
section
variable {prog : Program} {w : World} {A : Around} {E : Value → Shared → Prop} {s : Shared}
theorem IsRs.typeIs {a : Addr} {x : Str} {u : Tok} {i : Int} (y : IsRs s.heap a x u i) : s.TypeIs (.ref a) "reversed" := let ⟨o, ho, hc, _⟩ := y; ⟨o, ho, hc⟩
theorem code_reversed_str {x : Str} {u : Tok} {Q₁ : Value → Shared → Prop} (hfit : ¬ (x.length : Int) ≥ 2 ^ 63)
    (h : Q₁ (.ref s.heap.objs.size) { s with heap := s.heap.push (rsObj x u ((x.length : Int) - 1)), toks := s.toks + 1 + 1 }) :
    codeAny (model prog w) A (.call (.builtin "reversed.__new__") ⟨[.type "reversed", .str x u], []⟩) (wants Q₁ E) s := by
  have hT : s.TypeIs (.str x u) "str" := typeIs_str s x u
  refine codeAny_of_tree ?_
  show wpAny _ A.in1 (do checkBuiltinCall "reversed.__new__" ⟨[.type "reversed", .str x u], []⟩; again (.builtin "reversed.__new__" ⟨[.type "reversed", .str x u], []⟩)) _ _ s
  refine wpAny_bind (wpAny_of_eq (F.newCall_reversed_1 _) (wpAny_pure ⟨plainId_quiet F.plain_reversed_new _, codeAny_builtin F.entry_reversed_new ?_⟩))
  rw [Around.under_plainId F.plain_reversed_new _]
  unfold Builtin.«reversed.__new__»
  refine wpAny_bind (wpAny_of_eq (newClass_reversed _) ?_)
  try dsimp only
  refine wpAny_bind (wpAny_of_eq (a := ()) (by first | rfl | kernel_rfl) ?_)
  try dsimp only
  refine wpAny_bind (wpAny_of_eq (a := ()) (by first | rfl | kernel_rfl) ?_)
  try dsimp only
  refine wpAny_bind (wpAny_specialOf hT norev_str ?_)
  try dsimp only
  refine wpAny_bind ?_
  wp_delta
  refine wpAny_bind (wpAny_isInstance (T := "str") (U := "dict") (b := false) hT PySem.F.sub_str_dict ?_)
  try dsimp only
  try rw [if_neg Bool.false_ne_true]
  try dsimp only
  refine wpAny_bind (wpAny_specialOf hT get_str ?_)
  try dsimp only
  try rw [if_pos (by decide +kernel)]
  refine wpAny_pure ?_
  try dsimp only
  try rw [if_neg (by decide)]
  try dsimp only
  refine wpAny_bind (len_str hfit ?_)
  refine wpAny_bind (wpAny_of_eq (a := some ((x.length : Nat) : Int)) rfl ?_)
  try dsimp only
  refine wpAny_bind ?_
  show wpAny _ _ (newObj (.type "reversed") (.fields #[.str x u, rawInt ((x.length : Int) - 1)])) _ _ _
  refine wpAny_newObj_type ?_
  exact wpAny_pure h
theorem call_reversed_str {x : Str} {u : Tok} {Q : Value → Shared → Prop} (hfit : ¬ (x.length : Int) ≥ 2 ^ 63)
    (h : Q (.ref s.heap.objs.size) { s with heap := s.heap.push (rsObj x u ((x.length : Int) - 1)), toks := s.toks + 1 + 1 }) : wpAny (model prog w) A (call (.type "reversed") [.str x u]) Q E s := by
  refine callType_codes (Q₁ := fun obj s₁ => s₁.TypeIs obj "reversed" ∧ Q obj s₁) called_rt (F.typeCall_reversed_1 _) F.entry_object_init
    (code_reversed_str (A := A.in1) hfit ⟨⟨_, Heap.get?_push_size _ rfl, rfl⟩, h⟩) fun obj s₁ h₁ => ?_
  exact ⟨h₁.1, F.args_object_init_2 obj _, object_init_meets called_rt.init.lookup called_rt.made (by decide) prog w A.in1 _ s₁ ⟨h₁.1, rfl, h₁.2⟩⟩
theorem next_rs_item {it : Addr} {x : Str} {u : Tok} {i c : Nat} {Q : Option Value → Shared → Prop} (hit : IsRs s.heap it x u (i : Int)) (hx : x.cps[i]? = some c) (hsz : x.length ≤ sizeLine)
    (hQ : ∀ h', IsRs h' it x u ((i : Int) - 1) → Heap.SameBut it s.heap h' → Q (some (.str ⟨#[c]⟩ (s.toks + 1))) { s with heap := h', toks := s.toks + 1 + 1 }) : wpAny (model prog w) A (pyNext (.ref it)) Q E s := by
  obtain ⟨o, ho, hc, hd⟩ := id hit
  have hi : i < x.cps.size := (Array.getElem?_eq_some_iff.mp hx).1
  have hi' : i < x.length := hi
  have hT : s.TypeIs (.str x u) "str" := typeIs_str s x u
  rw [sizeLine_eq] at hsz
  unfold pyNext
  refine wpAny_bind (wpAny_attempt (wpAny_callSpecial?_slot (name := Str.ofString "__next__") hit.typeIs slot_rt_next
    (wpAny_call_entry slot_rt_next hit.typeIs entry_rt_next ?_ (args_rt_next _))))
  unfold Builtin.«reversed.__next__»
  refine wpAny_bind (wpAny_of_eq (a := (Value.ref it, [])) rfl ?_)
  try dsimp only
  refine wpAny_bind (wpAny_field ho hd (x := .str x u) rfl ?_)
  try dsimp only
  refine wpAny_bind (wpAny_field ho hd (x := rawInt (i : Int)) rfl ?_)
  show wpAny _ _ (if (i : Int) < 0 then _ else _) _ _ s
  rw [if_neg (by omega)]
  try dsimp only
  refine wpAny_bind (wpAny_specialOf hT get_str ?_)
  try dsimp only
  try rw [if_neg (by decide)]
  try dsimp only
  refine wpAny_bind (wpAny_mkInt ?_)
  refine wpAny_bind (wpAny_attempt ?_)
  have fin : seqIndex? (i : Int) x.length = some i := seqIndex_of (by omega) (by omega)
  refine getItem_str (s := { s with toks := s.toks + 1 }) (c := c) ?_ (by rw [fin]; exact hx) ?_
  · have e1 : decide ((i : Int) < -(2 ^ 63 : Int)) = false := decide_eq_false (by omega)
    have e2 : decide ((i : Int) ≥ 2 ^ 63) = false := decide_eq_false (by omega)
    rw [e1, e2, Bool.or_false]
  try dsimp only
  refine wpAny_bind (wpAny_field (s := { s with toks := s.toks + 1 + 1 }) ho hd (x := rawInt (i : Int)) rfl ?_)
  try dsimp only
  refine wpAny_bind (wpAny_setField (s := { s with toks := s.toks + 1 + 1 }) ho hd (by simp) ?_)
  first
  | refine wpAny_pure ⟨_, rfl, wpAny_pure (hQ _ ?_ (Heap.SameBut.update ..))⟩
  | refine wpAny_bind (wpAny_pure (wpAny_pure ⟨_, rfl, wpAny_pure (hQ _ ?_ (Heap.SameBut.update ..))⟩))
  exact ⟨_, Heap.get?_update_self _ ho (Obj.isFreed_of_fields (Obj.data_mapFields hd _)), (Obj.cls_mapFields ..).trans hc, by
    rw [Obj.data_mapFields hd]; simp⟩
theorem next_rs_end {it : Addr} {x : Str} {u : Tok} {Q : Option Value → Shared → Prop} (hh : A.handled = none) (hit : IsRs s.heap it x u (-1))
    (hQ : ∀ h', Heap.ExtBut it s.heap h' → Q none { s with heap := h' }) : wpAny (model prog w) A (pyNext (.ref it)) Q E s := by
  obtain ⟨o, ho, hc, hd⟩ := id hit
  unfold pyNext
  refine wpAny_bind (wpAny_attempt (wpAny_callSpecial?_slot (name := Str.ofString "__next__") hit.typeIs slot_rt_next
    (wpAny_call_entry slot_rt_next hit.typeIs entry_rt_next ?_ (args_rt_next _))))
  unfold Builtin.«reversed.__next__»
  refine wpAny_bind (wpAny_of_eq (a := (Value.ref it, [])) rfl ?_)
  try dsimp only
  refine wpAny_bind (wpAny_field ho hd (x := .str x u) rfl ?_)
  try dsimp only
  refine wpAny_bind (wpAny_field ho hd (x := rawInt (-1)) rfl ?_)
  show wpAny _ _ (if (-1 : Int) < 0 then _ else _) _ _ s
  rw [if_pos (by decide)]
  try dsimp only
  refine wpAny_bind (wpAny_rule ?_)
  refine wpAny_bind ?_
  wp_delta
  refine wpAny_bind (wpAny_setField ho hd (by simp) ?_)
  have ho2 := Heap.get?_update_self (Obj.mapFields (·.setIfInBounds 1 (rawInt (-1)))) ho (Obj.isFreed_of_fields (Obj.data_mapFields hd _))
  refine wpAny_setField (s := { s with heap := s.heap.update it (Obj.mapFields (·.setIfInBounds 1 (rawInt (-1)))) }) ho2 (Obj.data_mapFields hd _) (by simp) ?_
  try dsimp only
  first
  | show wpAny _ _ (newExc (.type "StopIteration") [] >>= _) _ _ _
  | (refine wpAny_bind ?_; show wpAny _ _ (newExc (.type "StopIteration") [] >>= _) _ _ _)
  | (refine wpAny_bind ?_; wp_delta; show wpAny _ _ (newExc (.type "StopIteration") [] >>= _) _ _ _)
  refine wpAny_bind ?_
  simp only [newExc, newTuple]
  refine wpAny_bind (wpAny_newObj_type ?_ (by size_fits))
  refine wpAny_bind (m := firstArgMember _ _) (wpAny_of_eq (a := Value.none) (by first | rfl | (simp only [firstArgMember]; rfl)) ?_)
  refine wpAny_newObj_type ?_ (by size_fits)
  simp only [raiseNew]
  refine wpAny_bind (wpAny_handled ?_)
  first | rw [show A.in1.handled = none from hh] | rw [hh]
  refine wpAny_bind (wpAny_pure (wpAny_throw ?_))
  refine wpAny_bind (wpAny_isInstance (T := "StopIteration") (b := true) ⟨_, Heap.get?_push_size _ rfl, rfl⟩ isSubtype_stop ?_)
  refine wpAny_pure (hQ _ ?_)
  refine ((?_ : Heap.ExtBut it s.heap _).push _).push _
  exact fun b ob hb e => (Heap.get?_update_other _ _ (Ne.symm hb)).trans ((Heap.get?_update_other _ _ (Ne.symm hb)).trans e)
theorem iter_rs {it : Addr} {x : Str} {u : Tok} {i : Int} {Q : Value → Shared → Prop} (hit : IsRs s.heap it x u i) (h : Q (.ref it) s) : wpAny (model prog w) A (pyIter (.ref it)) Q E s := by
  refine wpAny_pyIter_slot hit.typeIs slot_rt_iter (wpAny_call_entry slot_rt_iter hit.typeIs entry_rt_iter ?_ (args_rt_iter _))
  show wpAny _ _ (ret (.ref it)) _ _ s
  exact wpAny_pure ⟨_, rfl, "reversed", _, hit.typeIs, slot_rt_next.lookup, h⟩
end
def ItsR (x : Str) : It := ⟨fun i _ => i < x.length, fun i H v H' => H' = H ∧ ∃ c, x.cps[x.length - 1 - i]? = some c ∧ v = .str ⟨#[c]⟩, fun i _ => x.length ≤ i⟩
theorem turn_rs {P : Program} {w : World} {K : PySem.W.Frag} {tg : Expr} (it : Addr) (x : Str) (u : Tok) (hz : x.length ≤ sizeLine) : Turn P w K tg (ItsR x) [it] it (fun i h => i ≤ x.length ∧ IsRs h it x u ((x.length : Int) - 1 - (i : Nat))) where
  mem := by simp
  obj := fun i h st b hb => by
    have e : b = it := by simpa using hb
    subst e
    obtain ⟨_, o, e, c, d⟩ := st
    exact ⟨o, e, fun v z => by rw [d] at z; cases z⟩
  keep := fun i h h' st k => ⟨st.1, st.2.at fun o e => k it (by simp) o e⟩
  item := by
    intro X hP hw hK hc i pins s σ H E I hf st hg
    subst hP hw hK
    have hin : i < x.length := hg
    have hj : x.length - 1 - i < x.cps.size := by show _ < x.length; omega
    obtain ⟨f0, f1, f2, f3, f4, f5⟩ := hf it (by simp)
    obtain ⟨_, hit⟩ := st
    have e1 : (x.length : Int) - 1 - ((i : Nat) : Int) = ((x.length - 1 - i : Nat) : Int) := by omega
    rw [e1] at hit
    refine next_rs_item hit (c := x.cps[x.length - 1 - i]) (Array.getElem?_eq_getElem hj) hz fun h' st' sb => ?_
    have e2 : ((x.length - 1 - i : Nat) : Int) - 1 = (x.length : Int) - 1 - ((i + 1 : Nat) : Int) := by omega
    rw [e2] at st'
    have I1 : Inv X pins σ H { s with heap := h', toks := s.toks + 1 + 1 } := I.turned (t' := s.toks + 1 + 1) (fun b o hb e => (sb.2 b hb).trans e) f0 f1 f3 f4 f5
    obtain ⟨o, e, c, d⟩ := id st'
    exact ⟨_, rfl, go_of (s := { s with heap := h', toks := s.toks + 1 + 1 }) e c d (by decide) ⟨.str ⟨#[x.cps[x.length - 1 - i]]⟩, H, I1, ⟨_, rfl⟩, ⟨rfl, _, Array.getElem?_eq_getElem hj, rfl⟩, ⟨hin, st'⟩, fun b hb => (hf b hb).1⟩⟩
  done := by
    intro X hP hw hK hc i pins s σ H E I hf st hg
    subst hP hw hK
    obtain ⟨f0, f1, f2, f3, f4, f5⟩ := hf it (by simp)
    obtain ⟨hin, hit⟩ := st
    have hge : x.length ≤ i := hg
    have e1 : (x.length : Int) - 1 - ((i : Nat) : Int) = -1 := by omega
    rw [e1] at hit
    exact next_rs_end (I.ok.hd hc) hit fun h' eb => ⟨rfl, I.turned (t' := s.toks) (fun b o hb e => eb b o hb e) f0 f1 f3 f4 f5⟩
  self := fun A i s Q E st h => iter_rs st.2 h
end RTS
namespace DL
open PySem PySem.Spec PyProof.Rows L2
open Evl (Ex)
theorem itd_rev {P : Program} {w : World} {K : Frg} {tg : Expr} {it : Addr} {x : Str} {u : Tok} {Fz : Hp} (hz : x.length ≤ sizeLine) : Turn P w K tg (ItD (signsOf x).reverse Fz) [it] it (fun i h => i ≤ x.length ∧ RTS.IsRs h it x u ((x.length : Int) - 1 - (i : Nat))) := by
  have hl : (signsOf x).reverse.length = x.length := by rw [List.length_reverse, signsOf_length]
  refine turn_imp (RTS.turn_rs it x u hz) (fun i H h => ?_) (fun i H y H' hg h => ?_) fun i H h => ?_
  · have := h.1; rw [hl] at this; exact this
  · obtain ⟨rfl, c, hc, rfl⟩ := h
    have hi : i < x.length := by rw [← hl]; exact hg.1
    refine ⟨.str ⟨#[c]⟩, ?_, Ex.refl _, fun Fc e1 e2 => ⟨Fc, Ex.refl _, e2, Nw.refl, .str _⟩⟩
    rw [List.getElem?_reverse (by rw [signsOf_length]; exact hi), signsOf_length]
    unfold signsOf
    rw [List.getElem?_map, Array.getElem?_toList, hc]
    rfl
  · show x.length ≤ i
    rw [← hl]; exact Nat.le_of_eq h.1.symm
section
variable {Tb : TbT} {X : Cx} {W : WX} {e tg : Expr} {f : M D} {fs : M (List D)} {pos p : Pos}
/-- reversed(x), x a text: its signs from the last to the first -/
def revSD : D → Option (List D)
  | .str x => if x.length ≤ lim then some (signsOf x).reverse else none
  | _ => none
theorem di_revS (hg : Gl X "reversed") (hm : X.mg "reversed" = none) (ha : DE Tb X W e f) (hs : starEach [e] X.env = (false, eval e X.env) :: starEach [] X.env := by rfl) : DI Tb X W tg (.Call (.Name "reversed" p) [e] [] pos) (M.bind f fun x => opt (revSD x)) := by
  refine ⟨fun pins s σ H R I hh => ?_⟩
  obtain ⟨P, F0, B, Fz, ρ, r, h⟩ := hh
  refine Call_ (ld_blt I hg hm PyProof.Rows.boot_reversed (PyProof.Rows.callWith_type1 (args_cons (thn (ha.run pins s σ H (fun v H1 => ∃ x F1, x.length ≤ lim ∧ v = .str x ∧ ((signsOf x).reverse.length ≤ sizeLine → R (ItD (signsOf x).reverse F1) H1)) I
    ⟨P, F0, B, Fz, ρ, r, h.bind.imp fun x ρ1 H1 F1 r1 e1 h1 v hv => ?_⟩) fun u s1 ⟨v, H1, I1, rv, x, F1, hx, ev, k⟩ => args_nil ?_) hs) hs rfl))
  · obtain ⟨items, hi, k⟩ := h1.opt
    unfold revSD at hi
    split at hi
    · rename_i x
      split at hi
      · rename_i hl
        cases hi
        cases hv.str_of
        exact ⟨x, F1, hl, rfl, k H1 F1 r1 (Ex.refl _)⟩
      · cases hi
    · cases hi
  · subst ev
    obtain ⟨t, rfl⟩ := rv
    have hz : x.length ≤ sizeLine := Nat.le_trans hx (by decide)
    have h63 := line63
    refine RTS.call_reversed_str (by omega) (RTS.iter_rs (i := (x.length : Int) - 1) ⟨_, Heap.get?_push_size _ rfl, rfl, rfl⟩ ?_)
    refine pi_one (tk := s1.toks + 1 + 1) I1 _ (itd_rev (x := x) (u := t) (Fz := F1) hz) ⟨Nat.zero_le _, ?_⟩ (k (by rw [List.length_reverse, signsOf_length]; exact hz))
    rw [show (x.length : Int) - 1 - ((0 : Nat) : Int) = (x.length : Int) - 1 by omega]
    exact ⟨_, Heap.get?_push_size _ rfl, rfl, rfl⟩
end
end DL

set_option maxHeartbeats 4000000
/-! ## DL11: sorted(set(x)) of ints and texts -/
namespace L2
open PySem PySem.Spec PyProof.Rows
def kOf : Value → Key
  | .int i _ => .inl i
  | .str x _ => .inr x
  | _ => .inl 0
def GoodK (P : Program) (w : World) (e : Int × Value) : Prop := ∃ k, RelV (kV k) e.2 ∧ e.1 = (mixKind P w).hash k
theorem kOf_of {k : Key} {u : Value} (r : RelV (kV k) u) : kOf u = k := by
  cases k with
  | inl i => obtain ⟨t, rfl⟩ := r; rfl
  | inr x => obtain ⟨t, rfl⟩ := r; rfl
/-- the set of keys at a: L its members, in the table's order; it can be walked -/
def SetKR (P : Program) (w : World) (h : Heap) (a : Addr) (L : List Key) : Prop :=
  ∃ o es ep t, h.get? a = some o ∧ o.ExactSet ∧ o.data = .set es ep t ∧ (∀ e ∈ es.toList, GoodK P w e) ∧ es.toList.map (fun e => kOf e.2) = L ∧ L.Nodup ∧
    es.size < scanBound ∧ t.fits es.size = true ∧ Ris t.place.toList ∧ (w.params.followText "set-order" = true ∨ t.led = true)
section
variable {P : Program} {w : World} {h h' : Heap} {a : Addr} {L : List Key}
theorem SetKR.at (R : SetKR P w h a L) (k : ∀ o, h.get? a = some o → h'.get? a = some o) : SetKR P w h' a L := by
  obtain ⟨o, es, ep, t, ho, r⟩ := R
  exact ⟨o, es, ep, t, k o ho, r⟩
theorem goodk_elems {l : List (Int × Value)} (g : ∀ e ∈ l, GoodK P w e) : ElemsOf (mixKind P w) l := fun e he => by
  obtain ⟨k, h1, h2⟩ := g e he
  exact ⟨⟨k, kV_is h1, h2⟩, key_scan h1⟩
theorem goodk_is {e : Int × Value} (g : GoodK P w e) (k : Key) : (mixKind P w).is k e.2 = true ↔ kOf e.2 = k := by
  obtain ⟨k0, h1, _⟩ := g
  rw [kOf_of h1]
  exact ⟨fun q => (mixKind P w).inj _ _ _ (kV_is h1) q, fun q => q ▸ kV_is h1⟩
theorem SetKR.new (ho : h.get? a = some { cls := .type "set", dict := none, data := .set #[] 0 (.fresh 0 0 (!w.params.followText "set-order")) }) : SetKR P w h a [] :=
  ⟨_, #[], 0, _, ho, ⟨rfl, rfl, rfl⟩, rfl, (fun e he => by simp at he), rfl, List.nodup_nil, (by decide), (by rfl), List.Pairwise.nil, by
    show _ ∨ (!w.params.followText "set-order") = true
    cases w.params.followText "set-order"
    · exact .inr rfl
    · exact .inl rfl⟩
end
section
variable {P : Program} {w : World} {A : Around} {E : Value → Shared → Prop} {s : Shared} {a : Addr} {L : List Key}
theorem setKR_tail {g : Bool → Sem Unit} (hg : ∀ (b : Bool) (s₁ : Shared) (Q' : Unit → Shared → Prop), Q' () s₁ → wpAny (model P w) A (g b) Q' E s₁)
    {o : Obj} {es : Array (Int × Value)} {ep : Nat} {t : SetTable} (ho : s.heap.get? a = some o) (hex : o.ExactSet) (hd : o.data = .set es ep t)
    {es1 : Array (Int × Value)} {t2 : SetTable} (g1 : ∀ e ∈ es1.toList, GoodK P w e) (nd1 : (es1.toList.map fun e => kOf e.2).Nodup)
    (hb1 : es1.size < scanBound) (hf2 : t2.fits es1.size = true) (hr : Ris t2.place.toList) (hl : w.params.followText "set-order" = true ∨ t2.led = true) {wasDummy : Bool} {R : Option Bool → Shared → Prop}
    (hR : ∀ h' L', Heap.SameBut a s.heap h' → SetKR P w h' a L' → L'.Perm (es1.toList.map fun e => kOf e.2) → R (some true) { s with heap := h' }) :
    wpAny (model P w) A (do
        storeSet a es1 t2
        if (!wasDummy && t2.tooFull) = true then do
            g (relayAll t2 es1 (SetTable.grown es1.size)).2.2
            storeSet a (relayAll t2 es1 (SetTable.grown es1.size)).1 (relayAll t2 es1 (SetTable.grown es1.size)).2.1
            pure (some true)
          else pure (some true)) R E s := by
  refine wpAny_bind (wpAny_storeSet_of ho hd ?_ (fits_of_scanBound hb1))
  have ho1 := store_at (es' := es1) (t' := t2) ho hd
  have sb1 := Heap.SameBut.update s.heap a (Obj.putSet es1 t2)
  split
  · have pm := relayAll_perm t2 es1 (SetTable.grown es1.size)
    have hf3 := relayAll_fits t2 es1 (SetTable.grown es1.size)
    have hr3 := relayAll_ris t2 es1 (SetTable.grown es1.size)
    have hl3 := relayAll_led t2 es1 (SetTable.grown es1.size)
    generalize relayAll t2 es1 (SetTable.grown es1.size) = Z at pm hf3 hr3 hl3 ⊢
    obtain ⟨es2, t3, gave⟩ := Z
    dsimp only at pm hf3 hr3 hl3 ⊢
    have hsz : es2.size = es1.size := by rw [← Array.length_toList, pm.length_eq, Array.length_toList]
    have hb2 : es2.size < scanBound := by rw [hsz]; exact hb1
    refine wpAny_bind (hg _ _ _ ?_)
    refine wpAny_bind (wpAny_storeSet_of ho1 rfl ?_ (fits_of_scanBound hb2))
    have ho2 := store_at (es' := es2) (t' := t3) ho1 rfl
    refine wpAny_pure (hR _ _ (sb1.trans (Heap.SameBut.update _ a _)) ?_ (pm.map fun e => kOf e.2))
    exact ⟨_, es2, _, t3, ho2, hex, rfl, fun e he => g1 e (pm.mem_iff.mp he), rfl, (pm.map fun e => kOf e.2).nodup_iff.mpr nd1, hb2, hf3, hr3,
      hl.imp id fun z => by rw [hl3]; exact z⟩
  · exact wpAny_pure (hR _ _ sb1 ⟨_, es1, _, t2, ho1, hex, rfl, g1, rfl, nd1, hb1, hf2, hr, hl⟩ (List.Perm.refl _))
theorem setKR_add {k : Key} {v : Value} (rv : RelV (kV k) v) {Q : Bool → Shared → Prop} (R : SetKR P w s.heap a L) (room : L.length + 1 < scanBound)
    (hQ : ∀ h' L' b, Heap.SameBut a s.heap h' → SetKR P w h' a L' → (k ∈ L → L' = L) → (k ∉ L → L'.Perm (k :: L)) → Q b { s with heap := h' }) :
    wpAny (model P w) A (setAddHashed a v ((mixKind P w).hash k)) Q E s := by
  obtain ⟨o, es, ep, t, ho, hex, hd, g, hL, nd, hb, hf, hr, hl⟩ := R
  have hkey : (mixKind P w).is k v = true := kV_is rv
  have hsc : v.scannable = true := key_scan rv
  have hel : ElemsOf (mixKind P w) es.toList := goodk_elems g
  unfold setAddHashed setAddHashedIn
  refine wpAny_holding (wpAny_bind (wpAny_setState_of ho hd hf ?_))
  dsimp only
  rw [byScan_of hsc hb hel]
  simp only [↓reduceIte]
  unfold setAddByScan
  refine wpAny_bind ?_
  refine wpAny_bind (wpAny_rule ?_)
  refine wpAny_bind (wpAny_setScan_of hkey ho hd hf hel ?_)
  cases hfi : List.findIdx? (fun e => (mixKind P w).is k e.2) es.toList with
  | some j =>
    dsimp only
    obtain ⟨hj, pj, _⟩ := List.findIdx?_eq_some_iff_getElem.mp hfi
    have hSk : k ∈ L := by
      rw [← hL]
      exact List.mem_map.mpr ⟨es.toList[j], List.getElem_mem hj, (goodk_is (g _ (List.getElem_mem hj)) k).1 pj⟩
    refine wpAny_pure (wpAny_pure ?_)
    exact hQ s.heap L _ (Heap.SameBut.refl a s.heap) ⟨o, es, ep, t, ho, hex, hd, g, hL, nd, hb, hf, hr, hl⟩ (fun _ => rfl) fun z => absurd hSk z
  | none =>
    dsimp only
    have hnk : k ∉ L := fun z => by
      rw [← hL] at z
      obtain ⟨e, he, q⟩ := List.mem_map.mp z
      have c := List.findIdx?_eq_none_iff.mp hfi e he
      rw [(goodk_is (g e he) k).2 q] at c
      cases c
    have hgw : ∀ (b : Bool) {s₁ : Shared} {Q' : Unit → Shared → Prop}, Q' () s₁ → wpAny (model P w) A (match b with | true => rule "set.scan.the-table-gave-way" | false => pure ()) Q' E s₁ :=
      fun b s₁ Q' q => by cases b <;> first | exact wpAny_pure q | exact wpAny_rule q
    have pm := layNew_perm t es ((mixKind P w).hash k) v
    have hf1 := layNew_fits t es ((mixKind P w).hash k) v
    have hr1 := layNew_ris t es ((mixKind P w).hash k) v hr
    have hl1 := layNew_led t es ((mixKind P w).hash k) v
    generalize layNew t es ((mixKind P w).hash k) v = Z at pm hf1 hr1 hl1 ⊢
    obtain ⟨es1, t1, wasDummy, gave⟩ := Z
    dsimp only at pm hf1 hr1 hl1 ⊢
    rw [Array.toList_push] at pm
    have pc : es1.toList.Perm (((mixKind P w).hash k, v) :: es.toList) := pm.trans (List.perm_append_singleton _ _)
    have pk : (es1.toList.map fun e => kOf e.2).Perm (k :: L) := by
      have q := pc.map fun e : Int × Value => kOf e.2
      rw [List.map_cons, hL, kOf_of rv] at q
      exact q
    have g1 : ∀ e ∈ es1.toList, GoodK P w e := fun e he => by
      rcases List.mem_cons.mp (pc.mem_iff.mp he) with z | z
      · rw [z]; exact ⟨k, rv, rfl⟩
      · exact g e z
    have nd1 : (es1.toList.map fun e => kOf e.2).Nodup := pk.nodup_iff.mpr (List.nodup_cons.mpr ⟨hnk, nd⟩)
    have hes : es.toList.length = L.length := by rw [← hL, List.length_map]
    have hsz : es1.size = L.length + 1 := by rw [← Array.length_toList, pc.length_eq, List.length_cons, hes]
    have hb1 : es1.size < scanBound := by rw [hsz]; exact room
    have hled : w.params.followText "set-order" = true ∨ t1.led = true := hl.imp id fun z => by rw [hl1]; exact z
    have fin : ∀ b h' L', Heap.SameBut a s.heap h' → SetKR P w h' a L' → L'.Perm (es1.toList.map fun e => kOf e.2) → Q b { s with heap := h' } := fun b h' L' sb r p =>
      hQ h' L' b sb r (fun z => absurd z hnk) fun _ => p.trans pk
    refine wpAny_bind (hgw _ ?_)
    split
    · refine wpAny_bind ?_
      rw [hashByValue_scannable 8 hsc]
      refine wpAny_pure ?_
      refine setKR_tail ?_ ho hex hd g1 nd1 hb1 ?_ ?_ ?_ ?_
      · intro b s₁ Q' q; cases b <;> first | exact wpAny_pure q | exact wpAny_rule q
      · first | (split <;> first | exact hf1 | exact SetTable.fits_plain_off hf1) | exact hf1
      · first | (split <;> exact hr1) | exact hr1
      · first | (split <;> exact hled) | exact hled
      · intro h' L' sb r p; dsimp only; exact wpAny_pure (fin _ h' L' sb r p)
    · refine wpAny_bind (wpAny_pure ?_)
      simp only [↓reduceIte]
      refine setKR_tail ?_ ho hex hd g1 nd1 hb1 hf1 hr1 hled ?_
      · intro b s₁ Q' q; cases b <;> first | exact wpAny_pure q | exact wpAny_rule q
      · intro h' L' sb r p; dsimp only; exact wpAny_pure (fin _ h' L' sb r p)

/-- what the set has got from the first i items -/
structure GotK (ks : List Key) (i : Nat) (L : List Key) : Prop where
  mem : ∀ k, k ∈ L ↔ k ∈ ks.take i
  len : L.length ≤ i
theorem GotK.zero (ks : List Key) : GotK ks 0 [] := ⟨fun k => by simp, Nat.le_refl _⟩
theorem set_update_keys {I : Addr} {fp wr : List Addr} {G : Array GenState → Array GenState → Prop} {n : Nat} {Pv : Nat → Value → Prop} {St : Nat → Shared → Prop} {R : Result → Shared → Prop}
    (W : WalksS P w A.in1 I fp wr G n Pv St) (S : Addr) (hSf : S ∉ fp) (ks : List Key) (hn : n = ks.length) (hb : ks.length + 1 < scanBound) (hval : ∀ i v, Pv i v → ∃ k, ks[i]? = some k ∧ RelV (kV k) v) :
    ∀ (k i : Nat) (s : Shared), n - i = k → i ≤ n → St i s → (∃ L, SetKR P w s.heap S L ∧ GotK ks i L) →
      (∀ s' L, Moved (S :: wr) G s s' → SetKR P w s'.heap S L → GotK ks n L → R (.ok (.ret .none)) s') →
      codeAny (model P w) A (.builtin "set.update.loop" ⟨[.ref S, .ref I], []⟩) R s := by
  have hSw : S ∉ wr := fun h => hSf (W.sub _ h)
  have hsub : ∀ b ∈ wr, b ∈ S :: wr := fun b hb => List.mem_cons_of_mem _ hb
  intro k
  induction k with
  | zero =>
    intro i s hk' hi hst ⟨L, hS, g⟩ hR
    have hin : i = n := by omega
    subst hin
    refine codeAny_builtin F.entry_set_update_loop ?_
    rw [Around.under_plainId F.plain_set_update_loop _]
    show wpAny _ A.in1 (pyNext (.ref I) >>= _) _ _ s
    refine wpAny_bind (W.done s _ _ hst fun s' hm => ?_)
    show wpAny _ A.in1 (ret Value.none) _ _ s'
    exact wpAny_pure (hR s' L (hm.mono hsub) (hS.at fun o e => hm.heap S o hSw e) g)
  | succ k ih =>
    intro i s hk' hi hst ⟨L, hS, g⟩ hR
    have hlt : i < n := by omega
    refine codeAny_builtin F.entry_set_update_loop ?_
    rw [Around.under_plainId F.plain_set_update_loop _]
    show wpAny _ A.in1 (pyNext (.ref I) >>= _) _ _ s
    refine wpAny_bind (W.item i s _ _ hlt hst fun v s' hP hst' hm => ?_)
    obtain ⟨z, hz, rz⟩ := hval i v hP
    have hS' : SetKR P w s'.heap S L := hS.at fun o e => hm.heap S o hSw e
    show wpAny _ A.in1 (holding [v] (setAdd S v) >>= _) _ _ s'
    refine wpAny_bind (wpAny_holding ?_)
    unfold setAdd
    refine wpAny_holding ?_
    refine wpAny_bind ((mixKind P w).pyHash (k := z) (kV_is rz) ?_)
    refine setKR_add (s := { s' with toks := s'.toks + 1 }) rz hS' (by have := g.len; omega) fun h' L' b hsb hS2 c1 c2 => ?_
    have ht : ks.take (i + 1) = ks.take i ++ [z] := take_next hz
    have g' : GotK ks (i + 1) L' := by
      by_cases c : z ∈ L
      · rw [c1 c]
        refine ⟨fun y => ?_, Nat.le_succ_of_le g.len⟩
        rw [ht, List.mem_append, List.mem_singleton, g.mem]
        exact ⟨.inl, fun q => q.elim id fun e => (g.mem y).1 (e ▸ c)⟩
      · refine ⟨fun y => ?_, ?_⟩
        · rw [(c2 c).mem_iff, ht, List.mem_cons, List.mem_append, List.mem_singleton, g.mem]
          exact Or.comm
        · rw [(c2 c).length_eq, List.length_cons]
          exact Nat.succ_le_succ g.len
    refine wpAny_pure ⟨plainId_quiet F.plain_set_update_loop _, ih (i + 1) _ (by omega) hlt (W.frame _ s' _ _ hst' (Nat.le_succ _) fun b hb o e => ?_) ⟨L', hS2, g'⟩ fun s'' L2 hm'' hS'' g'' => ?_⟩
    · rw [hsb.2 b (fun h : b = S => hSf (by rw [← h]; exact hb))]; exact e
    · refine hR s'' L2 (Moved.trans W.gtrans ((hm.mono hsub).then_heap (Nat.le_succ _) fun b o hb e => ?_) hm'') hS'' g''
      rw [hsb.2 b (fun h : b = S => hb (by rw [h]; exact List.mem_cons_self))]; exact e

set_option maxRecDepth 100000 in
set_option maxHeartbeats 3200000 in
/-- set(xs), xs a list of keys -/
theorem call_set_keys {l : Addr} {items : Array Value} (ks : List Key) {Q : Value → Shared → Prop} (hh : A.handled = none) (hl : s.heap.IsList l items) (hit : Vals (ks.map kV) items.toList) (hb : ks.length + 1 < scanBound)
    (h : ∀ (h' : Heap) (tk : Nat) L, SetKR P w h' s.heap.objs.size L → GotK ks ks.length L → (∀ b o, s.heap.get? b = some o → h'.get? b = some o) → Q (.ref s.heap.objs.size) { s with heap := h', toks := tk }) :
    wpAny (model P w) A (call (.type "set") [.ref l]) Q E s := by
  have hisz : items.size = ks.length := by
    have q : (ks.map kV).length = items.toList.length := Vals.length hit
    rw [List.length_map, Array.length_toList] at q
    exact q.symm
  obtain ⟨c, tl, hmro⟩ := F.called_set.mro
  have hmade := F.called_set.made
  have hsub := F.called_set.sub
  refine wpAny_call (codeAny_of_tree ?_)
  show wpAny _ _ (callAny (.type "set") _) _ _ _
  refine wpAny_pure ⟨Code.quiet_builtin _ (by decide +kernel), codeAny_builtin F.entry_type_call ?_⟩
  rw [Around.under_plain (weight_type_call_type "set" [.ref l] []) rfl]
  have h1 := F.called_set.notType
  have h2 := F.called_set.canCreate
  have hct := F.typeCall_set_1 (.ref l)
  repeat (any_goals (first | assumption | wp_step))

  refine codeAny_mono (code_set_led1 (.ref l) (E := E) (Q₁ := fun obj s₁ => obj = .ref s.heap.objs.size ∧ s₁ = { s with heap := s.heap.push { cls := .type "set", dict := none, data := .set #[] 0 (.fresh 0 0 (!w.params.followText "set-order")) } }) ⟨rfl, rfl⟩) fun r s₁ hr => ?_
  cases r with
  | error e => exact hr
  | ok fl =>
    cases fl with
    | ret obj =>
      obtain ⟨rfl, rfl⟩ := hr
      have hS : (s.heap.push { cls := .type "set", dict := none, data := .set #[] 0 (.fresh 0 0 (!w.params.followText "set-order")) }).get? s.heap.objs.size = some { cls := .type "set", dict := none, data := .set #[] 0 (.fresh 0 0 (!w.params.followText "set-order")) } := Heap.get?_push_size _ rfl
      have hT : Shared.TypeIs { s with heap := s.heap.push { cls := .type "set", dict := none, data := .set #[] 0 (.fresh 0 0 (!w.params.followText "set-order")) } } (.ref s.heap.objs.size) "set" := ⟨_, hS, rfl⟩
      have hli := F.called_set.init.lookup
      have hbi := F.called_set.init.bind (.ref s.heap.objs.size)
      repeat (any_goals (first | assumption | wp_step))

      refine codeAny_mono (codeAny_call_builtin (R := wants (fun r s₂ => r = .none ∧ ∃ h' tk L, s₂ = { s with heap := h', toks := tk } ∧ SetKR P w h' s.heap.objs.size L ∧ GotK ks ks.length L ∧
          (∀ b o, s.heap.get? b = some o → h'.get? b = some o)) E) F.called_set.init.plain F.entry_set_init (check_set_init_1 hT ?_)) fun r₂ s₂ hr₂ => ?_
      · obtain ⟨ol, hol, hcl, nl, hdl⟩ := hl
        obtain ⟨ocls, odict, odata, oslots⟩ := ol
        simp only at hcl hdl
        subst hcl; subst hdl
        have hol' : (s.heap.push { cls := .type "set", dict := none, data := .set #[] 0 (.fresh 0 0 (!w.params.followText "set-order")) }).get? l = some { cls := .type "list", dict := odict, data := .seq items nl, slots := oslots } := Heap.get?_push_of_some _ hol
        have hsls := F.sub_list_set
        have hslf := F.sub_list_frozenset
        have hne : (Value.type "list" == Value.type "dict") = false := by decide
        have hl1 : (s.heap.push { cls := .type "set", dict := none, data := .set #[] 0 (.fresh 0 0 (!w.params.followText "set-order")) }).IsList l items := ⟨_, hol', rfl, nl, rfl⟩
        unfold Builtin.«set.__init__» noKeywords Builtin.Frozenset.updateFrom
        generalize hPI : pyIter = PI
        wp_walk
        subst hPI

        refine wpAny_pyIter_list hl1 ?_
        refine wpAny_bind (wpAny_runValue ?_)
        have hlS : l < s.heap.objs.size := Heap.lt_size hol
        have hh3 : A.in1.in1.in1.handled = none := by simp [hh]
        have hneI : l ≠ (s.heap.push { cls := .type "set", dict := none, data := .set #[] 0 (.fresh 0 0 (!w.params.followText "set-order")) }).objs.size := by
          rw [Heap.size_push]; exact Nat.ne_of_lt (Nat.lt_succ_of_lt hlS)
        have hSf : s.heap.objs.size ∉ [(s.heap.push { cls := .type "set", dict := none, data := .set #[] 0 (.fresh 0 0 (!w.params.followText "set-order")) }).objs.size, l] := by
          rw [Heap.size_push]; simp only [List.mem_cons, List.mem_singleton, List.not_mem_nil, or_false, not_or]
          exact ⟨Nat.ne_of_lt (Nat.lt_succ_self _), Nat.ne_of_gt hlS⟩
        have hval : ∀ (i : Nat) (v : Value), items[i]? = some v → ∃ k, ks[i]? = some k ∧ RelV (kV k) v := fun i v hv => by
          have q : items.toList[i]? = some v := by rw [Array.getElem?_toList]; exact hv
          have hi : i < ks.length := by
            rw [← hisz]
            exact (Array.getElem?_eq_some_iff.mp hv).1
          obtain ⟨u, hu, ru⟩ := Vals.get hit (i := i) (x := kV ks[i]) (by rw [List.getElem?_map, List.getElem?_eq_getElem hi] <;> rfl)
          rw [q] at hu
          cases hu
          exact ⟨ks[i], List.getElem?_eq_getElem hi, ru⟩
        refine set_update_keys ((Walks.list hh3 _ l hneI items).toS) s.heap.objs.size
          hSf ks hisz hb hval (items.size - 0) 0 _ (by omega) (Nat.zero_le _)
          ⟨⟨_, Heap.get?_push_size _ rfl, rfl, rfl⟩, (hl1.push _)⟩ ?hS0 ?hR
        case hS0 =>
          have hget : ((s.heap.push { cls := .type "set", dict := none, data := .set #[] 0 (.fresh 0 0 (!w.params.followText "set-order")) }).push { cls := .type "list_iterator", data := .fields #[.ref l, .int 0 0] }).get? s.heap.objs.size
              = some { cls := .type "set", dict := none, data := .set #[] 0 (.fresh 0 0 (!w.params.followText "set-order")) } := Heap.get?_push_of_some _ hS
          exact ⟨[], SetKR.new hget, GotK.zero ks⟩
        case hR =>
          intro s' L hm hS' g'
          obtain ⟨h', g2, d', tk', os'⟩ := s'
          have eg : g2 = s.gens := hm.gens
          have ed : d' = s.drawn := hm.drawn
          have eo : os' = s.os := hm.os
          subst eg; subst ed; subst eo
          show wpAny _ _ _ _ _ _
          refine wpAny_pure ?_
          show wpAny _ _ (ret Value.none) _ _ _
          rw [hisz] at g'
          refine wpAny_pure ⟨rfl, h', tk', L, rfl, hS', g', fun b o e => ?_⟩
          have hb0 := Heap.lt_size e
          have hb1 : b ≠ s.heap.objs.size := Nat.ne_of_lt hb0
          have hb2 : b ≠ (s.heap.push { cls := .type "set", dict := none, data := .set #[] 0 (.fresh 0 0 (!w.params.followText "set-order")) }).objs.size := by
            rw [Heap.size_push]; exact Nat.ne_of_lt (Nat.lt_succ_of_lt hb0)
          exact hm.heap b o (by simp only [List.mem_cons, List.mem_singleton, List.not_mem_nil, or_false, not_or]; exact ⟨hb1, hb2⟩) (Heap.get?_push_of_some _ (Heap.get?_push_of_some _ e))

      · cases r₂ with
        | error e => exact hr₂
        | ok fl₂ =>
          cases fl₂ with
          | ret r =>
            obtain ⟨rfl, h', tk, L, rfl, hS', g', hk'⟩ := hr₂
            repeat (any_goals (first | assumption | wp_step))
            exact h _ _ _ hS' g' hk'
          | _ => exact hr₂.elim
    | _ => exact hr.elim
end
end L2

set_option maxHeartbeats 2000000
namespace L2
open PySem PySem.Spec PyProof.Rows
/-- the set of keys at a, tracked -/
def SetKO (P : Program) (w : World) (a : Addr) (L : List Key) : HO := .ext fun h => SetKR P w h a L
theorem SetKR.nodup {P : Program} {w : World} {h : Heap} {a : Addr} {L : List Key} (R : SetKR P w h a L) : L.Nodup := by
  obtain ⟨o, es, ep, t, ho, hex, hd, g, hL, nd, _⟩ := R
  exact nd
theorem setKO_new {P : Program} {w : World} {H : Hp} {h : Heap} {a : Addr} {L : List Key} (R : SetKR P w h a L) : ObjOk P w H h a (SetKO P w a L) := by
  have ⟨o, _, _, _, ho, _⟩ := R
  exact ⟨R, ⟨o, ho⟩, fun h1 h2 p k => SetKR.at p k⟩
def kD : Key → PyData
  | .inl i => .int i
  | .inr x => .str x
/-- all ints, or all texts -/
def OneSort (L : List Key) : Prop := (∀ k ∈ L, ∃ i, k = .inl i) ∨ (∀ k ∈ L, ∃ x, k = .inr x)
def sortK (L : List Key) : List Key := L.mergeSort (PySem.W.dataLe false kD)
theorem dataLe_tot {β : Type} (k : β → PyData) : PySem.W.TotalLe (PySem.W.dataLe false k) := PySem.W.sortLe_total _ _ _
theorem kD_inj {a b : Key} (h : PySem.W.keyToks (kD a) = PySem.W.keyToks (kD b)) : a = b := by
  cases a with
  | inl i => cases b with
    | inl j => simpa [kD, PySem.W.keyToks] using h
    | inr y => simp [kD, PySem.W.keyToks] at h
  | inr x => cases b with
    | inl j => simp [kD, PySem.W.keyToks] at h
    | inr y =>
      have q : x.cps.toList = y.cps.toList := by simpa [kD, PySem.W.keyToks] using h
      rw [PySem.W.str_of_cps q]
theorem dataLe_anti {a b : Key} (h1 : PySem.W.dataLe false kD a b = true) (h2 : PySem.W.dataLe false kD b a = true) : a = b := by
  have h1' : (!PyProof.Rows.lexLt itemOrd (PySem.W.keyToks (kD b)) (PySem.W.keyToks (kD a))) = true := h1
  have h2' : (!PyProof.Rows.lexLt itemOrd (PySem.W.keyToks (kD a)) (PySem.W.keyToks (kD b))) = true := h2
  rw [Bool.not_eq_true'] at h1' h2'
  exact kD_inj ((listOrd itemOrd).total _ _ h2' h1')
theorem sortK_le (L : List Key) : (sortK L).Pairwise (fun a b => PySem.W.dataLe false kD a b = true) := List.pairwise_mergeSort (fun a b c => (dataLe_tot kD).trans a b c) (fun a b => by simpa using (dataLe_tot kD).total a b) L
theorem sortK_perm {L M : List Key} (h : L.Perm M) : sortK L = sortK M :=
  List.Perm.eq_of_pairwise (fun a b _ _ => dataLe_anti) (sortK_le L) (sortK_le M) (((List.mergeSort_perm L _).trans h).trans (List.mergeSort_perm M _).symm)
theorem sortK_mem (L : List Key) (k : Key) : k ∈ sortK L ↔ k ∈ L := (List.mergeSort_perm L _).mem_iff
theorem each_keys {P : Program} {w : World} : ∀ {vs : List Value}, (∀ v ∈ vs, ∃ k, RelV (kV k) v) → PySem.W.EachIs (fun v k => RelV (kV k) v) vs (vs.map kOf)
  | [], _ => .nil
  | v :: vs, h => by
    obtain ⟨k, r⟩ := h v List.mem_cons_self
    refine .cons ?_ (each_keys (P := P) (w := w) fun u hu => h u (List.mem_cons_of_mem _ hu))
    rw [kOf_of r]; exact r
theorem key_reads {h : Heap} {k : Key} {v : Value} (r : RelV (kV k) v) : ∃ as, Reads h v (kD k) as := by
  cases k with
  | inl i => obtain ⟨t, rfl⟩ := r; exact ⟨_, .int _ _⟩
  | inr x => obtain ⟨t, rfl⟩ := r; exact ⟨_, .str _ _⟩
theorem vals_each : ∀ {vs : List Value} {ks : List Key}, PySem.W.EachIs (fun v k => RelV (kV k) v) vs ks → Vals (ks.map kV) vs
  | _, _, .nil => .nil
  | _, _, .cons a b => .cons a (vals_each b)
theorem alike_keys {L : List Key} (h : OneSort L) : PySem.W.AllAlike (L.map kD) := fun d hd d' hd' => by
  obtain ⟨a, ha, rfl⟩ := List.mem_map.mp hd
  obtain ⟨b, hb, rfl⟩ := List.mem_map.mp hd'
  rcases h with h | h
  · obtain ⟨i, rfl⟩ := h a ha
    obtain ⟨j, rfl⟩ := h b hb
    simp [kD, PySem.W.alike]
  · obtain ⟨i, rfl⟩ := h a ha
    obtain ⟨j, rfl⟩ := h b hb
    simp [kD, PySem.W.alike]
theorem sortable_keys (L : List Key) : PySem.W.Sortable (L.map kD) := .inr fun d hd => by
  obtain ⟨a, ha, rfl⟩ := List.mem_map.mp hd
  cases a <;> exact ⟨nofun, fun _ => nofun⟩
theorem depth_key (k : Key) : (kD k).depth = 0 := by cases k <;> simp [kD, PyData.depth]
section
variable {P : Program} {w : World} {A : Around} {E : Value → Shared → Prop} {s : Shared} {a : Addr} {L : List Key}
theorem sorted_setK {Q : Value → Shared → Prop} (R : SetKR P w s.heap a L) (hh : A.handled = none) (hu : A.units + 16 < cLine) (h1 : OneSort L)
    (hQ : ∀ s' p (out : Array Value) (c : Nat), (∀ b o, s.heap.get? b = some o → s'.heap.get? b = some o) → s'.gens = s.gens → s'.os = s.os → s.heap.objs.size ≤ p →
      s'.heap.get? p = some (seqObj "list" out c) → Vals ((sortK L).map kV) out.toList → L.length ≤ sizeLine → Q (.ref p) s') :
    wpAny (model P w) A (call (.builtin "sorted") [.ref a]) Q E s := by
  obtain ⟨o, es, ep, t, ho, hex, hd, g, hL, nd, hb, hf, hr, hl⟩ := R
  refine Calls.call_function_entry kind_sorted plain_sorted entry_sorted (args_sorted1 _) ?_
  unfold Builtin.«sorted»
  refine wpAny_bind (m := checkCount "sorted" 1 1 _) (wpAny_pure ?_)
  refine wpAny_bind (collect_set (A := A.in1) hh ⟨o, ho, hex.1, hd⟩ hf hb hr hl fun s1 vs k1 hz g1 o1 pm => ?_)
  have hLl : L.length = es.size := by rw [← hL, List.length_map, Array.length_toList]
  have hvl : vs.length = es.size := by rw [pm.length_eq, List.length_map, Array.length_toList]
  have hb' : es.size < 4096 := hb
  have hg : ∀ v ∈ vs, ∃ k, RelV (kV k) v := fun v hv => by
    obtain ⟨e, he, q⟩ := List.mem_map.mp (pm.mem_iff.mp hv)
    obtain ⟨k, hk, _⟩ := g e he
    exact ⟨k, q ▸ hk⟩
  have pk : (vs.map kOf).Perm L := by
    have q := pm.map kOf
    rw [List.map_map] at q
    rw [← hL]
    exact q
  refine wpAny_bind (wpAny_newList ?_ (by rw [hvl, sizeLine_eq]; omega))
  have hoL : (s1.heap.push (seqObj "list" vs.toArray 0)).get? s1.heap.objs.size = some (seqObj "list" vs.toArray 0) := Heap.get?_push_size _ rfl
  have one : OneSort (vs.map kOf) := h1.imp (fun h k hk => h k (pk.mem_iff.mp hk)) fun h k hk => h k (pk.mem_iff.mp hk)
  have ek := each_keys (P := P) (w := w) hg
  refine wpAny_bind (wpAny_holding (PySem.W.list_sort_data (s := { s1 with heap := s1.heap.push (seqObj "list" vs.toArray 0) }) (enc := kD) hoL ek
    (ek.mono fun v k r => by
      cases k with
      | inl i => obtain ⟨t, rfl⟩ := r; exact ⟨[], .int _ _, by simp⟩
      | inr x => obtain ⟨t, rfl⟩ := r; exact ⟨[], .str _ _, by simp⟩) (alike_keys one) (sortable_keys _) (by rw [List.length_map, hvl, sizeLine_eq]; omega)
    (fun b hb => by
      rw [depth_key]
      have z : A.in1.units ≤ A.units + 1 := (by first | exact Nat.le_refl _ | exact Nat.le_succ _ | simp)
      show A.in1.units + 1 + 0 < cLine
      omega) fun out hol eo => ?_))
  obtain ⟨c, hc⟩ := sortedHeap_at (vs := vs) (out := out.toArray) hoL
  refine wpAny_pure ⟨_, rfl, hQ _ s1.heap.objs.size out.toArray c (fun b u e => ?_) g1 o1 hz hc ?_ (by rw [hLl, sizeLine_eq]; omega)⟩
  · have q := k1 b u e
    have hlt := Heap.lt_size q
    show (sortedHeap (s1.heap.push (seqObj "list" vs.toArray 0)) s1.heap.objs.size vs out.toArray).get? b = some u
    rw [sortedHeap_old (Nat.ne_of_lt hlt) (by rw [size_push']; exact Nat.lt_succ_of_lt hlt)]
    exact Heap.get?_push_of_some _ q
  · have z : Vals ((sortK (vs.map kOf)).map kV) out := vals_each eo
    rw [← sortK_perm pk]
    simpa using z
end
section
variable {X : Cx}
/-- set(xs), xs a list of ints and texts -/
def rSetOfK (K : PySem.W.Frag) (P : Program) (w : World) : List V → Hp → VK → Prop := fun xs H Q => ∃ (l : Addr) (ks : List Key), xs = [V.ref l] ∧ SqL K H l (ks.map kV) ∧ ks.length + 1 < scanBound ∧
  ∀ a L, H a = none → L.Nodup → (∀ k, k ∈ L ↔ k ∈ ks) → Q (.ref a) (upd H a (SetKO P w a L))
theorem cr_setOfK (hc : X.calm = true) : CallR X (.type "set") (rSetOfK X.K X.prog X.w) := by
  intro pins s σ H xs us Q I r h
  obtain ⟨l, ks, rfl, hl, hk, q⟩ := h
  rw [Vals.ref1 r]
  obtain ⟨its, rv, pl, hz⟩ := I.list hl
  have hn : H s.heap.objs.size = none := I.hok.fresh (Nat.le_refl _)
  refine call_set_keys (P := X.prog) (w := X.w) ks (I.ok.hd hc) pl.isList (by simpa using rv) hk fun h' tk L R g k => ?_
  refine ⟨.ref s.heap.objs.size, upd H s.heap.objs.size (SetKO X.prog X.w s.heap.objs.size L), I.laid (t' := tk) k (Nat.le_refl _) (setKO_new R), rfl, q _ L hn R.nodup fun k => ?_⟩
  rw [g.mem, List.take_length]
/-- sorted(set) -/
def rSortedK (P : Program) (w : World) : List V → Hp → VK → Prop := fun vs H Q => ∃ (a : Addr) (L : List Key), vs = [V.ref a] ∧ H a = some (SetKO P w a L) ∧ OneSort L ∧
  ∀ p, H p = none → Q (.ref p) (upd H p (.lst ((sortK L).map kV)))
theorem cr_sortedK (hc : X.calm = true) (hu : X.A.units + 16 < cLine) : CallR X (.builtin "sorted") (rSortedK X.prog X.w) := by
  intro pins s σ H vs us Q I r h
  obtain ⟨a, L, rfl, ha, h1, q⟩ := h
  have R : SetKR X.prog X.w s.heap a L := (I.hok a _ ha).1
  rw [Vals.ref1 r]
  refine sorted_setK R (I.ok.hd hc) hu h1 fun s' p out c k g o hp hg hv hl => ?_
  have hlen : ((sortK L).map kV).length ≤ sizeLine := by
    rw [List.length_map]
    unfold sortK
    rw [List.length_mergeSort]
    exact hl
  have hn : H p = none := I.hok.fresh hp
  have J : Inv X pins σ (upd H p (.lst ((sortK L).map kV))) { s with heap := s'.heap, gens := s'.gens, drawn := s'.drawn, toks := s'.toks } :=
    I.call (ch := []) (Un.laid k hp hn) (I.hok.laid k hp ⟨hlen, out.toList, c, hv, hg⟩) (by rw [g]; exact I.bare) (fun _ z => nomatch z)
  have e : s' = { s with heap := s'.heap, gens := s'.gens, drawn := s'.drawn, toks := s'.toks } := by
    cases s'
    cases s
    cases o
    rfl
  rw [e]
  exact ⟨.ref p, _, J, rfl, q p hn⟩
end
end L2
namespace DL
open PySem PySem.Spec PyProof.Rows L2
open Evl (Ex)
def keyOf : D → Option Key
  | .int i => some (.inl i)
  | .str x => some (.inr x)
  | _ => none
def keysOf : List D → Option (List Key)
  | [] => some []
  | d :: r => (keyOf d).bind fun k => (keysOf r).map (k :: ·)
def ddup : List Key → List Key
  | [] => []
  | k :: r => k :: (ddup r).filter (fun x => !decide (x = k))
theorem ddup_mem (a : Key) : ∀ l, a ∈ ddup l ↔ a ∈ l
  | [] => Iff.rfl
  | k :: r => by
    unfold ddup
    rw [List.mem_cons, List.mem_cons, List.mem_filter, ddup_mem a r]
    by_cases h : a = k <;> simp [h]
theorem ddup_nodup : ∀ l, (ddup l).Nodup
  | [] => List.nodup_nil
  | k :: r => by
    unfold ddup
    refine List.nodup_cons.mpr ⟨fun h => ?_, (ddup_nodup r).filter _⟩
    have := (List.mem_filter.mp h).2
    simp at this
def oneSort (l : List Key) : Bool := l.all (fun k => match k with | .inl _ => true | _ => false) || l.all (fun k => match k with | .inr _ => true | _ => false)
theorem oneSort_of {l : List Key} (h : oneSort l = true) : OneSort l := by
  unfold oneSort at h
  rw [Bool.or_eq_true, List.all_eq_true, List.all_eq_true] at h
  rcases h with h | h
  · refine .inl fun k hk => ?_
    have := h k hk
    split at this
    · exact ⟨_, rfl⟩
    · cases this
  · refine .inr fun k hk => ?_
    have := h k hk
    split at this
    · exact ⟨_, rfl⟩
    · cases this
/-- sorted(set(ds)) -/
def usort (ks : List Key) : List Key := sortK (ddup ks)
def usetD : D → Option (List D)
  | .list ds => (keysOf ds).bind fun ks => if ks.length ≤ 4000 ∧ oneSort ks = true then some ((usort ks).map kD) else none
  | _ => none
theorem rp_key {H : Hp} {v : V} {d : D} {k : Key} (h : Rp H v d) (e : keyOf d = some k) : v = kV k ∧ d = kD k := by
  cases d with
  | int i => cases e; cases h; exact ⟨rfl, rfl⟩
  | str x => cases e; cases h; exact ⟨rfl, rfl⟩
  | _ => cases e
theorem rp_keys {H : Hp} : ∀ {ds : List D} {vs : List V} {ks : List Key}, RpAll H vs ds → keysOf ds = some ks → vs = ks.map kV ∧ ds = ks.map kD
  | [], _, _, h, e => by cases h; cases e; exact ⟨rfl, rfl⟩
  | d :: ds, _, ks, h, e => by
    cases h with
    | @cons v vs _ _ a b =>
      unfold keysOf at e
      cases hk : keyOf d with
      | none => rw [hk] at e; cases e
      | some k =>
        rw [hk, Option.bind_some] at e
        cases hks : keysOf ds with
        | none => rw [hks] at e; cases e
        | some l =>
          rw [hks] at e
          cases e
          obtain ⟨rfl, rfl⟩ := rp_key a hk
          obtain ⟨rfl, rfl⟩ := rp_keys b hks
          exact ⟨rfl, rfl⟩
theorem keys_rp (H : Hp) : ∀ ks : List Key, RpAll H (ks.map kV) (ks.map kD)
  | [] => .nil
  | .inl i :: ks => .cons (.int i) (keys_rp H ks)
  | .inr x :: ks => .cons (.str x) (keys_rp H ks)
section
variable {Tb : TbT} {X : Cx} {W : WX} {e : Expr} {f : M D} {pos p p2 pos2 : Pos}
theorem dn_sortedSet (hc : X.calm = true) (hu : X.A.units + 16 < cLine) (hg : Gl X "sorted") (hm : X.mg "sorted" = none) (hg2 : Gl X "set") (hm2 : X.mg "set" = none) (he : DE Tb X W e f)
    (hs : starEach [e] X.env = (false, eval e X.env) :: starEach [] X.env := by rfl) (hpl : (backTo pos2 (starEach [] X.env)).any (·.1) = false := by rfl)
    (hs2 : starEach [.Call (.Name "set" p2) [e] [] pos2] X.env = (false, eval (.Call (.Name "set" p2) [e] [] pos2) X.env) :: starEach [] X.env := by rfl) (hpl2 : (backTo pos (starEach [] X.env)).any (·.1) = false := by rfl) :
    DN Tb X W (.Call (.Name "sorted" p) [.Call (.Name "set" p2) [e] [] pos2] [] pos) (M.bind f fun x => opt (usetD x)) :=
  pe_imp (pe_callB (cr_sortedK hc hu) hg hm boot_sorted (pa_cons (pe_callTy (cr_setOfK hc) hg2 hm2 boot_set (pa_cons he pa_nil hs) (by decide) (by decide) hs hpl) pa_nil hs2) (by decide) (by decide) hs2 hpl2) fun σ H Q ⟨P, F0, B, Fz, ρ, r, h⟩ => ⟨P, F0, B, Fz, ρ, r, h.bind.imp fun x ρ1 H1 F1 r1 e1 h1 v hv => by
    obtain ⟨ds, hd, k⟩ := h1.opt
    unfold usetD at hd
    split at hd
    · rename_i es
      cases hks : keysOf es with
      | none => rw [hks] at hd; cases hd
      | some ks =>
        rw [hks, Option.bind_some] at hd
        split at hd
        · rename_i hl
          cases hd
          obtain ⟨q, vs, rfl, hp, hvs⟩ := hv.lst_of
          obtain ⟨rfl, rfl⟩ := rp_keys hvs hks
          refine ⟨q, ks, rfl, SqL.of (r1.ef _ _ hp), by have := hl.1; unfold scanBound; omega, fun a L hna nd hm => ?_⟩
          have one : OneSort L := (oneSort_of hl.2).imp (fun h k hk => h k ((hm k).1 hk)) fun h k hk => h k ((hm k).1 hk)
          refine ⟨a, L, rfl, upd_same, one, fun p hp2 => ?_⟩
          have hL : sortK L = usort ks := sortK_perm ((List.perm_ext_iff_of_nodup nd (ddup_nodup ks)).mpr fun z => by rw [hm, ddup_mem])
          rw [hL]
          have hpH : H1 p = none := by
            by_cases ea : p = a
            · subst ea; exact hna
            · rw [upd_ne ea] at hp2; exact hp2
          have rn := r1.heap (Ex.new (o := SetKO X.prog X.w a L) hna)
          have rn2 := rn.heap (Ex.new (o := .lst ((usort ks).map kV)) hp2)
          refine outOfN r1 k p _ _ F1 ((Ex.new hna).trans (Ex.new hp2)) (Ex.refl _) rn2.ef Nw.refl hpH (Evl.fresh_back r1.ef hpH) upd_same (keys_rp _ _)
        · cases hd
    · cases hd⟩
end
end DL

/-! ## DL13: list(range(n)); own lists seen whole -/
namespace DL
open PySem PySem.Spec PyProof.Rows L2
open Evl (Ex)
theorem rp_range (H : Hp) (b : Int) : RpAll H (rgV 0 b) (rangeL 0 b.toNat) := by
  unfold rgV rangeL
  rw [show (b - 0).toNat = b.toNat by rw [Int.sub_zero]]
  generalize List.range b.toNat = l
  induction l with
  | nil => exact .nil
  | cons i l ih => exact .cons (.int _) ih
section
variable {Tb : TbT} {X : Cx} {W : WX} {e : Expr} {f : M D} {pos p p2 pos2 : Pos}
def lrgD : D → Option (List D)
  | .int n => if -1000000 ≤ n ∧ n ≤ 1000000 then some (rangeL 0 n.toNat) else none
  | _ => none
theorem dn_listRg (hc : X.calm = true) (hg : Gl X "list") (hm : X.mg "list" = none) (hg2 : Gl X "range") (hm2 : X.mg "range" = none) (he : DE Tb X W e f) (hs : starEach [e] X.env = (false, eval e X.env) :: starEach [] X.env := by rfl)
    (hs2 : starEach [.Call (.Name "range" p2) [e] [] pos2] X.env = (false, eval (.Call (.Name "range" p2) [e] [] pos2) X.env) :: starEach [] X.env := by rfl) :
    DN Tb X W (.Call (.Name "list" p) [.Call (.Name "range" p2) [e] [] pos2] [] pos) (M.bind f fun x => opt (lrgD x)) :=
  pe_imp (pe_listRg hc hg hm (prg_1 hg2 hm2 he hs) hs2) fun σ H Q ⟨P, F0, B, Fz, ρ, r, h⟩ => ⟨P, F0, B, Fz, ρ, r, h.bind.imp fun x ρ1 H1 F1 r1 e1 h1 v hv => by
    obtain ⟨ds, hd, k⟩ := h1.opt
    unfold lrgD at hd
    split at hd
    · rename_i n
      split at hd
      · rename_i hl
        cases hd
        cases hv.int_of
        refine ⟨n, rfl, ⟨by decide, by decide, by omega, by omega, by omega⟩, fun q hq => ?_⟩
        exact outOfN r1 k q _ _ F1 (Ex.new hq) (Ex.refl _) (r1.heap (Ex.new hq)).ef Nw.refl hq (Evl.fresh_back r1.ef hq) upd_same (rp_range _ _)
      · cases hd
    · cases hd⟩
end
end DL

set_option maxHeartbeats 2000000
/-! ## DL14: a comprehension in an except suite; lambdas under ExcCtx's contexts -/
namespace L2H
open PySem PySem.Spec PyProof.Rows L2 HotX
/-- a block's context in an except suite: the handled exception stays known -/
abbrev blkH (X : Cx) (p : Addr × Obj) (s : Shared) (H : Hp) (scope : Scope) (cenv : Env) (fp : List Addr) : Cx := (X.blk s H scope cenv fp).tr [p] (fun _ _ => False)
section
variable {X : Cx}
theorem _root_.L2.Inv.withPin {Y : Cx} {p : Addr × Obj} {σ : L2.St} {H : Hp} {s : Shared} {xe : Value → Shared → Prop} (I : Inv Y [] σ H s) (hp : ∀ q ∈ [p] ++ ([] : List (Addr × Obj)), s.heap.get? q.1 = some q.2 ∧ H q.1 = none ∧ q.1 ≠ Y.env.locals ∧ q.1 ∉ Y.fs ∧ ∀ v, q.2.data ≠ .cell v) : Inv (Y.tr [p] xe) [] σ H s :=
  ⟨I.ok.toTry _ _, I.os, I.bare, I.base, I.loc, I.cell, I.free, I.freeC, hp, I.hok, I.len⟩
theorem lc_coreH {p : Addr × Obj} {pins : List (Addr × Obj)} {s : Shared} {σ : L2.St} {H : Hp} {Q : VK} {elt tg iter : Expr} {ifs : List Expr} {scope : Scope} {own : List (Str × Nat)} {pos pos' : Pos} {wi : TI} {g : TG} {tt : TT} {te : TE} {use : Option (Value → Sem Unit)} {Qf : Value → Shared → Prop}
    (hss : X.stack = X.env :: X.outer) (hff : X.env.frame = some X.env.locals) (hot : Hot1 X.A p) (hpm : p ∈ X.pn) (hN : X.N.Nodup) (I : Inv X pins σ H s) (hi : PIH X tg iter wi) (ok : BlkOk X.N X.env.scope scope own)
    (hg : ∀ (s : Shared) (H : Hp) (C : Addr) (cl : List (Str × Addr)) (fp : List Addr), PG (blkH X p s H scope (compEnvC scope cl C X.env) fp) tg g) (ht : ∀ (s : Shared) (H : Hp) (C : Addr) (cl : List (Str × Addr)) (fp : List Addr), PTs (blkH X p s H scope (compEnvC scope cl C X.env) fp) ifs tt)
    (he : ∀ (s : Shared) (H : Hp) (C : Addr) (cl : List (Str × Addr)) (fp : List Addr), PE (blkH X p s H scope (compEnvC scope cl C X.env) fp) elt te) (hs : ∀ x, foldedSetIterable iter X.env x = pure x)
    (h : tLc wi g tt te (own.map (·.2)) σ H Q)
    (hRR : ∀ D C s' m H', Inv X pins σ H' s' → Q (.ref D) H' → s'.heap.Ns C m → FpOk X pins H' C → compPost (model X.prog X.w) X.A X.xe use Qf (.ref D) C (.ok .next) s') :
    wpAny (model X.prog X.w) X.A (comprehension (.ListComp elt [⟨tg, iter, ifs, 0⟩] scope pos) scope X.env pos' (newList []) false (eval iter X.env) use) Qf X.xe s := by
  have hfree : ∀ y ∈ scope.names, y.2 = .free → ∃ c, X.env.cells.lookup y.1 = some c := fun y hy e => by
    rcases ok.free y hy e with k | k
    · exact I.ok.has _ (.inl k)
    · exact I.ok.has _ (.inr k)
  refine wpAny_comprehension_free (use := use) rfl hs (closure_ok hfree) ok.kind (fun y hy e => by rw [ok.uniq y hy, e])
    (thn (hi.run pins s σ H _ I h) fun xv s1 hx => thn hx fun itv s2 h2 => ?_)
  obtain ⟨it, fp, tn, J, H2, e, I2, T, st2, f2, q⟩ := h2
  subst e
  refine wpAny_newObj_type (newEnv_comp ?_) (by show 0 ≤ sizeLine; decide)
  generalize hD : s2.heap.objs.size = D
  have hDn : H2 D = none := I2.hok.fresh (Nat.le_of_eq hD)
  obtain ⟨W, ⟨m0, w0⟩, turn⟩ := q D hDn
  -- the new list
  generalize hs3 : ({ s2 with heap := s2.heap.push { cls := .type "list", data := .seq ([] : List Value).toArray } } : Shared) = s3
  have I3 : Inv X pins σ (upd H2 D (.lst [])) s3 := by
    rw [← hs3]
    refine I2.laid (t' := s2.toks) (fun b o e => Heap.get?_push_of_some _ e) (Nat.le_of_eq hD) ⟨Nat.zero_le _, [], 0, .nil, ?_⟩
    rw [← hD]
    exact Heap.get?_push_size _ rfl
  have h3 : s3.heap = s2.heap.push { cls := .type "list", data := .seq ([] : List Value).toArray } := by rw [← hs3]
  have sz : ∀ b ∈ fp, b < s2.heap.objs.size := fun b hb => by
    obtain ⟨o, e, _⟩ := T.obj _ _ st2 b hb
    exact Heap.lt_size e
  have f3 : ∀ b ∈ fp, FpOk X pins (upd H2 D (.lst [])) b ∧ b < s3.heap.objs.size := fun b hb => by
    have hlt := sz b hb
    refine ⟨⟨?_, (f2 b hb).2⟩, by rw [h3, Heap.size_push]; exact Nat.lt_succ_of_lt hlt⟩
    rw [upd_ne (by rw [← hD]; exact Nat.ne_of_lt hlt)]
    exact (f2 b hb).1
  have st3 : tn 0 s3.heap := T.keep _ _ _ st2 fun b _ o e => by rw [h3]; exact Heap.get?_push_of_some _ e
  have hcb : ∀ (s : Shared) (H : Hp) (scope : Scope) (ce : Env) (fp : List Addr), HotC (blkH X p s H scope ce fp) := fun _ _ _ _ _ => ⟨p, hot, List.mem_singleton.mpr rfl⟩
  have I4 := (block_start I3 ok hN f3).withPin (p := p) (xe := fun _ _ => False) (fun q hq => by
    obtain ⟨h1, h2, h3, h4, h5⟩ := I3.pin p (List.mem_append_left _ hpm)
    have e : q = p := by simpa using hq
    subst e
    refine ⟨pushCells_keeps _ _ _ _ (Heap.get?_push_of_some _ h1), h2, Nat.ne_of_lt (Heap.lt_size h1), fun z => ?_, h5⟩
    have z : q.1 ∈ frs X.stack := z
    rw [hss] at z
    obtain ⟨e, he, qq⟩ := List.mem_filterMap.mp z
    rcases List.mem_cons.mp he with rfl | he
    · rw [hff] at qq
      exact h3 (Option.some.inj qq).symm
    · exact h4 (List.mem_filterMap.mpr ⟨e, he, qq⟩))
  have pg := hg s3 (upd H2 D (.lst [])) s3.heap.objs.size (cellsFrom (s3.heap.objs.size + 1) scope.names (cloFrom X.env.cells scope.names [])) fp
  have pt := ht s3 (upd H2 D (.lst [])) s3.heap.objs.size (cellsFrom (s3.heap.objs.size + 1) scope.names (cloFrom X.env.cells scope.names [])) fp
  have pe := he s3 (upd H2 D (.lst [])) s3.heap.objs.size (cellsFrom (s3.heap.objs.size + 1) scope.names (cloFrom X.env.cells scope.names [])) fp
  show codeAny _ _ (.compStart (.ListComp elt [⟨tg, iter, ifs, 0⟩] scope pos) 0 (.ref it) (.ref D) (compEnvC scope (cellsFrom (s3.heap.objs.size + 1) scope.names (cloFrom X.env.cells scope.names [])) s3.heap.objs.size X.env)) (compPost (model X.prog X.w) X.A X.xe use Qf (.ref D) s3.heap.objs.size) { s3 with heap := pushCells (s3.heap.push { cls := .type "dict", data := .dict #[] }) scope.names }
  have nfp : ∀ b ∈ fp, (upd H2 D (.lst [])) b = none := fun b hb => (f3 b hb).1.1
  generalize hce : compEnvC scope (cellsFrom (s3.heap.objs.size + 1) scope.names (cloFrom X.env.cells scope.names [])) s3.heap.objs.size X.env = ce at I4 pg pt pe ⊢
  have cL : ce.locals = s3.heap.objs.size := by subst hce; rfl
  generalize hH3 : upd H2 D (.lst []) = H3 at I3 I4 pg pt pe w0 nfp f3
  generalize hs4 : ({ s3 with heap := pushCells (s3.heap.push { cls := .type "dict", data := .dict #[] }) scope.names } : Shared) = s4 at I4 ⊢
  have st4 : tn 0 s4.heap := T.keep _ _ _ st3 fun b _ o e => by rw [← hs4]; exact pushCells_keeps _ _ _ _ (Heap.get?_push_of_some _ e)
  have stat : ∀ {σ' : St} {H' : Hp} {s' : Shared}, Inv (blkH X p s3 H3 scope ce fp) [] σ' H' s' → (∀ b ∈ fp, H' b = none) → ∀ b ∈ fp, FpOk (blkH X p s3 H3 scope ce fp) [] H' b := fun {σ' H' s'} I' hn b hb =>
    ⟨hn b hb, (I'.ok.exf b hb).1, I'.ok.exfs b hb, .inl hb, fun x c e => (I'.ok.exf b hb).2 x c e, fun q hq => by
      have e : q = p := by simpa using hq
      subst e
      exact (f3 b hb).1.2.2.2.2.2 q (List.mem_append_left _ hpm)⟩
  have loop : codeAny (model X.prog X.w) X.A (.compLoop (.ListComp elt [⟨tg, iter, ifs, 0⟩] scope pos) 0 (.ref it) (.ref D) ce) (compPost (model X.prog X.w) X.A X.xe use Qf (.ref D) s3.heap.objs.size) s4 := by
    refine compLoop_any (fun n s' => ∃ i H', Inv (blkH X p s3 H3 scope ce fp) [] (wipe σ (own.map (·.2))) H' s' ∧ tn i s'.heap ∧ (∀ b ∈ fp, H' b = none) ∧ W i n H') ?_ m0 ⟨0, H3, I4, st4, nfp, w0⟩
    rintro n s5 ⟨i, H5, I5, st5, n5, w5⟩
    rcases turn i n H5 w5 with ⟨stop, qq⟩ | ⟨go, Nx, hNx, step⟩
    · have td := T.done (blkH X p s3 H3 scope ce fp) rfl rfl rfl (hcb _ _ _ _ _) i [] s5 _ H5 (fun _ _ => False) I5 (stat I5 n5) st5 stop
      refine thnF td fun r s6 ⟨hr, I6⟩ => ?_
      subst hr
      -- back in the def's context
      have I7 : Inv X pins σ H5 s6 := I3.call' (ch := fp) I6.os I6.base I6.hok I6.bare fun b hb => ⟨(f3 b hb).1.2.2.2.1, (f3 b hb).1.2.1, (f3 b hb).1.2.2.2.2.1, (f3 b hb).1.2.2.2.2.2⟩
      have nC : H5 s3.heap.objs.size = none := by
        have z : H5 ce.locals = none := I6.free
        rw [cL] at z
        exact z
      obtain ⟨m, hn, _⟩ := I6.loc
      have hn : s6.heap.Ns ce.locals m := hn
      rw [cL] at hn
      exact hRR D s3.heap.objs.size s6 m H5 I7 qq hn (I3.fpOk (Nat.le_refl _) nC)
    · have ti := T.item (blkH X p s3 H3 scope ce fp) rfl rfl rfl (hcb _ _ _ _ _) i [] s5 _ H5 (fun _ _ => False) I5 (stat I5 n5) st5 go
      refine thnF ti fun r s6 ⟨u, hr, h6⟩ => ?_
      subst hr
      refine thnF h6 fun _ s7 ⟨x, H7, I7, r7, y7, st7, n7⟩ => ?_
      have I7' := I7.pinned (stat I7 n7) (T.obj _ _ st7)
      refine thnF (pg.run _ s7 _ H7 x u _ I7' r7 (step x H7 y7)) fun _ s8 ⟨σ8, H8, I8, hw8, q8⟩ => ?_
      refine thnF (pt.run _ s8 σ8 H8 _ I8 q8) fun b s9 ⟨H9, I9, q9⟩ => ?_
      -- the turn's end
      have fin : ∀ {s' : Shared} {H' : Hp}, Inv (blkH X p s3 H3 scope ce fp) ([] ++ pinsAt fp s7.heap) σ8 H' s' → Nx H' → ∃ m, m < n ∧ ∃ i H', Inv (blkH X p s3 H3 scope ce fp) [] (wipe σ (own.map (·.2))) H' s' ∧ tn i s'.heap ∧ (∀ b ∈ fp, H' b = none) ∧ W i m H' := fun {s' H'} I' nx => by
        obtain ⟨m', hm, w'⟩ := hNx H' nx
        have pin' : ∀ b ∈ fp, ∀ o, s7.heap.get? b = some o → s'.heap.get? b = some o ∧ H' b = none := fun b hb o e =>
          let z := I'.pin (b, o) (List.mem_append_right _ (List.mem_append_right _ (mem_pinsAt hb e)))
          ⟨z.1, z.2.1⟩
        have hl : (wipe σ (own.map (·.2))).length = σ8.length := by rw [← hw8, wipe_length]
        refine ⟨m', hm, i + 1, H', (I'.unpinned (pins := [])).weak hl (fun j v e => ?_), T.keep _ _ _ st7 fun b hb o e => (pin' b hb o e).1, fun b hb => ?_, w'⟩
        · rw [← hw8] at e
          exact (wipe_some e).1
        · obtain ⟨o, e, _⟩ := T.obj _ _ st7 b hb
          exact (pin' b hb o e).2
      cases b with
      | false =>
        simp only [Bool.false_eq_true, if_false] at q9 ⊢
        exact fin I9 q9
      | true =>
        simp only [if_true] at q9 ⊢
        refine thnF (pe.run _ s9 σ8 H9 _ I9 q9) fun z s10 ⟨yv, H10, I10, r10, acc, hD10, hz10, nx⟩ => ?_
        exact app_ok (X := blkH X p s3 H3 scope ce fp) I10 hD10 hz10 r10 fun s11 I11 => fin I11 nx
  exact codeAny_compStart_list loop (T.self X.A 0 _ _ _ st4 loop)
/-- name = [..] on one line, the name a local -/
theorem ps_setLcH {p : Addr × Obj} {i : Nat} {y : Str} {py : Pos} {elt tg iter : Expr} {ifs : List Expr} {scope : Scope} {own : List (Str × Nat)} {pos spos : Pos} {wi : TI} {g : TG} {tt : TT} {te : TE} (hss : X.stack = X.env :: X.outer) (hff : X.env.frame = some X.env.locals) (hot : Hot1 X.A p) (hpm : p ∈ X.pn) (hN : X.N.Nodup) (hy : X.N[i]? = some y) (hyl : X.env.scope.names.lookup y = some .local)
    (hsw : swapsWith (.ListComp elt [⟨tg, iter, ifs, 0⟩] scope pos) (some (.Name y py)) spos.line X.env = pure true) (hi : PIH X tg iter wi) (ok : BlkOk X.N X.env.scope scope own)
    (hg : ∀ (s : Shared) (H : Hp) (C : Addr) (cl : List (Str × Addr)) (fp : List Addr), PG (blkH X p s H scope (compEnvC scope cl C X.env) fp) tg g) (ht : ∀ (s : Shared) (H : Hp) (C : Addr) (cl : List (Str × Addr)) (fp : List Addr), PTs (blkH X p s H scope (compEnvC scope cl C X.env) fp) ifs tt)
    (he : ∀ (s : Shared) (H : Hp) (C : Addr) (cl : List (Str × Addr)) (fp : List Addr), PE (blkH X p s H scope (compEnvC scope cl C X.env) fp) elt te) (hs : ∀ x, foldedSetIterable iter X.env x = pure x := by intro _; rfl) :
    PS X (.Assign [.Name y py] (.ListComp elt [⟨tg, iter, ifs, 0⟩] scope pos) spos) (tAsg (tLc wi g tt te (own.map (·.2))) (gName i)) := by
  refine ⟨fun pins s σ H D I h => ?_⟩
  rw [exec_Assign_Name_used _ _ _ _ hsw]
  refine wpAny_bind (wpAny_standAt (wpAny_bind ?_))
  show wpAny _ X.A (do let _ ← comprehension (.ListComp elt [⟨tg, iter, ifs, 0⟩] scope pos) scope X.env (firstIterPos [⟨tg, iter, ifs, 0⟩] pos) (newList []) false (eval iter X.env) (some (assign (.Name y py) X.env))) _ _ s
  have h : tLc wi g tt te (own.map (·.2)) σ H (fun x H1 => gName i x σ H1 D.nx) := h
  refine wpAny_bind (thn (lc_coreH (Qf := fun _ s' => SP X pins D .next s') hss hff hot hpm hN I hi ok hg ht he hs h fun L C s' m H' I' q hn f => ?_) fun _ s' hq => wpAny_pure (wpAny_pure hq))
  show wpAny _ _ (assign (.Name y py) X.env (.ref L)) _ _ _
  refine wpAny_assign_Name (store_ok2 (v := V.ref L) I' hN hy (.inl hyl) rfl (fun s2 I2 ⟨a, sb, ha⟩ => ?_) (.inr hyl))
  obtain ⟨f0, f1, f2, f3, f4, f5⟩ := f
  have haC : C ≠ a := by
    rcases ha with z | z
    · rw [z]; exact f1
    · exact fun e => f4 y a z e.symm
  refine ⟨m, hn.sameBut sb haC, fun h3 sb3 => ?_⟩
  exact ⟨_, H', I2.turned (t' := s2.toks) (fun b o hb e => (sb3.2 b hb).trans e) f0 f1 f3 f4 f5, q⟩
end
end L2H

set_option maxHeartbeats 2000000
/-! ## DL15: a lambda handed to a def, under ExcCtx's contexts -/
namespace LamN
open PySem PySem.Spec PyProof.Rows L2 LamX
/-- the lambda's body's context -/
abbrev lamN (X : Cx) (A : Around) (outer : List Env) (s : Shared) (H : Hp) (E : XK) (scope : Scope) (f c' : Addr) : Cx :=
  (lamCx X A outer s H E scope f c').tr [] (fun e s' => wpAny (model X.prog X.w) (A.deeper (lamEnv X scope s.heap.objs.size f c')) (leaving (lamEnv X scope s.heap.objs.size f c') e) (fun _ s'' => L2N.CX X.prog X.w outer H s E e s'') (fun e' s'' => L2N.CX X.prog X.w outer H s E e' s'') s')
def ExtP (P : Addr) (H H' : Hp) : Prop := ∀ b o, H b = some o → b ≠ P → H' b = some o
def tLamP (P : Addr) (T : List (Addr × Str)) (TT : (XK → Hp → VK → Prop) → Hp → VK → Prop) (t : XK → TE) : TE := fun σ H Q => Tabs T H ∧ ∀ H1, ExtP P H H1 → Tabs T H1 → TT (fun E H' Q' => t E σ H' Q') H1 Q
section
variable {X : Cx} {pins : List (Addr × Obj)} {σ : L2.St} {H : Hp} {s : Shared}
/-- the lambda is made: its code object is new, or found in the table -/
theorem lam_make3 {T : List (Addr × Str)} {c P : Addr} {params : Arguments} {body : Expr} {scope : Scope} {pos : Pos} {E : Value → Shared → Prop} {Q : Value → Shared → Prop} (I : Inv X pins σ H s) (TB : TabB X.base X.mg c P) (hcode : X.env.code = .ref c)
    (hm : (P, X.env.qual ++ "<lambda>") ∈ T) (hu : ∀ p ∈ T, p.1 = P → p.2 = X.env.qual ++ "<lambda>") (hT : Tabs T H) (hdef : defaultsOf params X.env = ([], [])) (hfree : ∀ y ∈ scope.names, y.2 = .free → ∃ c, X.env.cells.lookup y.1 = some c)
    (h : ∀ (f c' : Addr) (pm ctv : Value) (H1 : Hp) (s' : Shared), Inv X pins σ H1 s' → ExtP P H H1 → Tabs T H1 →
      s'.heap.get? f = some (PySem.W.kla_obj "<lambda>" (X.env.qual ++ "<lambda>") params body scope (cloFrom X.env.cells scope.names []) pm c' ctv) → H1 f = none → f ∉ frs X.stack → H1 c' = some (CodeO c' (X.env.qual ++ "<lambda>")) → Q (.ref f) s') :
    wpAny (model X.prog X.w) X.A (eval (.Lambda params body scope pos) X.env) Q E s := by
  obtain ⟨ps, hP, ht, ha⟩ := hT _ hm
  refine PySem.W.kla_eval hdef ?_
  have bP : s.heap.BuiltinsAt X.mg P := TB.bm.keeps I.bk
  have hP' : s.heap.get? P = some { cls := .none, data := .fields ps } := I.hok P _ hP
  have nofr : ∀ f, s.heap.objs.size ≤ f → f ∉ frs X.stack := fun f hf z => by
    rcases List.mem_cons.mp (I.stkSub _ z) with e | e
    · have h1 := I.lt
      rw [← e] at h1
      exact Nat.lt_irrefl _ (Nat.lt_of_lt_of_le h1 hf)
    · exact I.nofs hf e
  cases hc : codeAmong pos ps.toList with
  | none =>
    refine PySem.W.kla_makeFunction (mg := X.mg) (c := c) (P := P) (ps := ps) (closure_ok hfree) I.ok.glob (I.mod.glob.keeps I.bk) hcode (TB.code.keeps I.bk) hP' ht hc TB.gP bP fun c' ctv h' tk hx hge hlt hrec htb => ?_
    obtain ⟨c2, oc, vs, t, e2, hoc, hd, hv⟩ := hrec
    cases e2
    have hsz : s.heap.objs.size ≤ h'.objs.size := Nat.le_trans hge (Nat.le_of_lt hlt)
    have nC : H c' = none := I.hok.fresh hge
    have I1 := inv_table (t' := tk) (more := #[rawInt pos.line, rawInt pos.col, .ref c']) (h' := h'.push (PySem.W.kla_obj "<lambda>" (X.env.qual ++ "<lambda>") params body scope (cloFrom X.env.cells scope.names []) ((X.mg "__name__").getD .none) c' ctv)) I hP
      (fun b o hb e => Heap.get?_push_of_some _ (hx b o hb e)) (Heap.get?_push_of_some _ htb) hge ⟨oc, vs, t, Heap.get?_push_of_some _ hoc, hd, hv⟩
    have hE : ExtP P H (upd (upd H P (.tbl (ps ++ #[rawInt pos.line, rawInt pos.col, .ref c']))) c' (CodeO c' (X.env.qual ++ "<lambda>"))) := fun b o e n => by
      rw [upd_ne (ne_of_none e nC), upd_ne n]
      exact e
    have eL : (ps ++ #[rawInt pos.line, rawInt pos.col, .ref c']).toList = ps.toList ++ [rawInt pos.line, rawInt pos.col, .ref c'] := by simp
    refine h h'.objs.size c' ((X.mg "__name__").getD .none) ctv _ _ I1 hE (fun p hp => ?_) (Heap.get?_push_size _ rfl) ?_ (nofr _ hsz) upd_same
    · by_cases hb : p.1 = P
      · rw [hu p hp hb, hb]
        refine ⟨_, by rw [upd_ne (ne_of_none hP nC), upd_same], by rw [eL]; exact PySem.TriplesOk_snoc _ _ _ _ ht, fun p' cv hcv => ?_⟩
        rw [eL] at hcv
        rcases among_app _ ht hcv with z | z
        · obtain ⟨c0, e1, e2⟩ := ha p' cv z
          exact ⟨c0, e1, hE _ _ e2 (fun z => by rw [z, hP] at e2; exact codeO_ne _ (Option.some.inj e2).symm)⟩
        · exact ⟨c', z, upd_same⟩
      · obtain ⟨ps', a1, a2, a3⟩ := hT p hp
        refine ⟨ps', by rw [upd_ne (ne_of_none a1 nC), upd_ne hb]; exact a1, a2, fun p' cv hcv => ?_⟩
        obtain ⟨c0, e1, e2⟩ := a3 p' cv hcv
        exact ⟨c0, e1, hE _ _ e2 (fun z => by rw [z, hP] at e2; exact codeO_ne _ (Option.some.inj e2).symm)⟩
    · have n1 : h'.objs.size ≠ c' := Nat.ne_of_gt hlt
      have n2 : h'.objs.size ≠ P := Nat.ne_of_gt (Nat.lt_of_lt_of_le (Heap.lt_size hP') hsz)
      rw [upd_ne n1, upd_ne n2]
      exact I.hok.fresh hsz
  | some cv =>
    obtain ⟨c', e, hco⟩ := ha pos cv hc
    subst e
    refine PySem.W.kla_makeFunctionHit (mg := X.mg) (c := c) (P := P) (ps := ps) (closure_ok hfree) I.ok.glob (I.mod.glob.keeps I.bk) hcode (TB.code.keeps I.bk) hP' ht hc bP fun ctv h' tk hx hsz => ?_
    have I1 : Inv X pins σ H { s with heap := h'.push (PySem.W.kla_obj "<lambda>" (X.env.qual ++ "<lambda>") params body scope (cloFrom X.env.cells scope.names []) ((X.mg "__name__").getD .none) c' ctv), toks := tk } := I.kept fun b o e => Heap.get?_push_of_some _ (hx b o e)
    exact h h'.objs.size c' ((X.mg "__name__").getD .none) ctv H _ I1 (fun _ _ e _ => e) hT (Heap.get?_push_size _ rfl) (I.hok.fresh hsz) (nofr _ hsz) hco
end
section
variable {X : Cx} {pins : List (Addr × Obj)} {σ : L2.St} {H HZ : Hp} {s s1 : Shared}
/-- x(), in the def that got the lambda: Z is that def's context, entered at s -/
theorem pe_actN {CXg : CXT} {Eg : XK} {Ng : List Str} {qg : Str} {sg : Scope} {g f c' : Addr} {cdg pm ctv : Value} {params : Arguments} {body : Expr} {scope : Scope} {k i : Nat} {a : Str} {pn : List (Addr × Obj)} {xe : Value → Shared → Prop} {W : WX} {E : XK} {tb : TE} {p1 p2 : Pos}
    (I : Inv X pins σ H s) (L : LamS X.env.scope scope) (hf : s.heap.get? f = some (PySem.W.kla_obj "<lambda>" (X.env.qual ++ "<lambda>") params body scope (cloFrom X.env.cells scope.names []) pm c' ctv)) (hfn : H f = none) (hfr : f ∉ frs X.stack)
    (hbind : bindArgs (PySem.W.kla_fn "<lambda>" (X.env.qual ++ "<lambda>") params body scope (cloFrom X.env.cells scope.names []) pm (.ref c') ctv) ⟨[], []⟩ = pure [])
    (tk : L2N.Takes ((cxOf CXg X.prog X.w X.K X.mg X.base Ng qg sg g cdg X.A X.stack s H Eg).tr pn xe) W) (hW : ∀ cls d σ' H', E cls d H' → W cls d σ' H') (hr : Room (k + 1) (X.A.deeper (envOfC qg sg s.heap.objs.size g cdg)))
    (hbody : ∀ (A : Around) (outer : List Env) (s : Shared) (H : Hp), Room k (A.deeper (lamEnv X scope s.heap.objs.size f c')) → PE (lamN X A outer s H E scope f c') body tb)
    (hN : Ng[i]? = some a) (hv : Vis sg a) (hd : (a == ("__debug__" : Str)) = false := by decide) (hcd : (a == ("__classdict__" : Str)) = false := by decide) :
    PE ((cxOf CXg X.prog X.w X.K X.mg X.base Ng qg sg g cdg X.A X.stack s H Eg).tr pn xe) (.Call (.Name a p1) [] [] p2)
      (fun σZ HZ Q => σZ[i]? = some (some (.ref f)) ∧ HZ c' = some (CodeO c' (X.env.qual ++ "<lambda>")) ∧ tb σ HZ Q) := by
  refine ⟨fun pinsZ sZ σZ HZ Q IZ h => ?_⟩
  obtain ⟨hs, hc, ht⟩ := h
  refine wpAny_Call_Name_kw (thn ((pe_var (pos := p1) (i := i) hN hv hd hcd).run pinsZ sZ σZ HZ (fun v H1 => v = .ref f ∧ H1 = HZ) IZ ⟨.ref f, hs, rfl, rfl⟩) fun u s1 ⟨v, H1, I1, r1, q1⟩ => ?_)
  obtain ⟨ev, eH⟩ := q1
  subst ev
  rw [eH] at I1
  obtain rfl : u = Value.ref f := r1
  have of1 : s1.heap.get? f = some (PySem.W.kla_obj "<lambda>" (X.env.qual ++ "<lambda>") params body scope (cloFrom X.env.cells scope.names []) pm c' ctv) := I1.base.keep f _ hf hfn hfr (fun z => nomatch (show f ∈ ([] : List Addr) from z))
  refine PySem.W.callWith_F0 ⟨_, _, _, _, of1⟩ ?_
  have un : Un (frs X.stack) [] H HZ s.heap s1.heap := I1.base
  obtain ⟨⟨oc, vs, t, hoc, hdc, hvc⟩, _, _⟩ := I1.hok c' _ hc
  have rc : codeAny (model X.prog X.w) (X.A.deeper (envOfC qg sg s.heap.objs.size g cdg)) (.call (.ref f) ⟨[], []⟩) (CR (L2N.CX X.prog X.w) (envOfC qg sg s.heap.objs.size g cdg :: X.stack) X.prog X.w HZ s1 Q E) s1 := by
    refine PySem.W.kla_callFunE hr.depth of1 rfl L.co L.gen rfl ⟨c', oc, vs, t, rfl, hoc, hdc, hvc⟩ ?_
    rw [hbind]
    refine wpAny_pure (wpAny_newFunctionEnv (fun y hy => (L.own y hy).2) (fun y hy => absurd hy (by simp)) (fun h₁ hns hsb => ⟨I1.nolimit.fresh _ hsb, ?_⟩) L.kind)
    show codeAny _ _ (.expr body (lamEnv X scope s1.heap.objs.size f c')) _ _
    have kp : ∀ b o, s1.heap.get? b = some o → h₁.get? b = some o := fun b o e => hsb.extBut b o (Nat.ne_of_lt (Heap.lt_size e)) (Heap.get?_push_of_some _ e)
    have J : Inv (lamN X (X.A.deeper (envOfC qg sg s.heap.objs.size g cdg)) (envOfC qg sg s.heap.objs.size g cdg :: X.stack) s1 HZ E scope f c') [] σ HZ { s1 with heap := h₁, toks := s1.toks + ([] : List (Str × Value)).length } :=
      (lam_start2 I L I1.env0 hr.hd un hns kp).toTry _
    refine PySem.W.kla_codeExpr (wpAny_mono ((hbody _ _ s1 HZ (hr.deeper _)).run [] _ _ HZ Q J ht) (fun v s' hq => ?_) fun e s' hq => hq)
    obtain ⟨w', H', J', rv, q⟩ := hq
    exact ⟨w', H', J'.os, J'.bare, J'.base, J'.hok, rv, q⟩
  have hx : Passes (L2N.CX X.prog X.w) ((cxOf CXg X.prog X.w X.K X.mg X.base Ng qg sg g cdg X.A X.stack s H Eg).tr pn xe) E := L2N.passes_call tk hW
  refine wpAny_call (codeAny_mono rc fun r s' hq => ?_)
  cases r with
  | error e => exact hx pinsZ σZ HZ s1 e s' I1 hq
  | ok fl =>
    cases fl with
    | ret u => exact I1.after hq
    | next => exact False.elim hq
    | brk => exact False.elim hq
    | cont => exact False.elim hq
end
/-- the def that calls what it got: a calls it; TT: what it makes of the lambda's reading -/
def GivesToN (X : Cx) (Ng : List Str) (x : Str) (sg : Scope) (g : Addr) (cdg : Value) (bg : List Stmt) (a : Str) (q : Str) (TT : (XK → Hp → VK → Prop) → Hp → VK → Prop) : Prop :=
  ∀ (f c' : Addr) (s : Shared) (H : Hp) (Q : VK) (tl : XK → Hp → VK → Prop),
    (∀ (W : WX) (pn : List (Addr × Obj)) (xe : Value → Shared → Prop) (E : XK) (p1 p2 : Pos), L2N.Takes ((cxOf C8.CX0 X.prog X.w X.K X.mg X.base Ng x sg g cdg X.A X.stack s H C8.E0).tr pn xe) W → (∀ cls d σ' H', E cls d H' → W cls d σ' H') →
      PE ((cxOf C8.CX0 X.prog X.w X.K X.mg X.base Ng x sg g cdg X.A X.stack s H C8.E0).tr pn xe) (.Call (.Name a p1) [] [] p2) (fun σZ HZ Q => σZ[0]? = some (some (.ref f)) ∧ HZ c' = some (CodeO c' q) ∧ tl E HZ Q)) →
    H c' = some (CodeO c' q) → TT tl H Q →
    ∃ t, PSs (cxOf C8.CX0 X.prog X.w X.K X.mg X.base Ng x sg g cdg X.A X.stack s H C8.E0).nox bg t ∧ t { nx := fun _ H' => Q .non H', rt := Q } (L2.start Ng [.ref f]) H
section
variable {X : Cx}
/-- x(lambda: body) -/
theorem pe_lamcallN {T : List (Addr × Str)} {TT : (XK → Hp → VK → Prop) → Hp → VK → Prop} {x a : Str} {g c P : Addr} {k : Nat} {pg : Arguments} {bg : List Stmt} {sg : Scope} {dV kV doc pm cdv ct oc : Value} {an od : Option Addr} {osl : Array (Option Value)} {Ng : List Str}
    {params : Arguments} {body : Expr} {scope : Scope} {t : XK → TE} {p lpos pos : Pos} (hg : Gl X x) (hm : X.mg x = some (.ref g)) (hk : PySem.W.keepIn X.K (.ref g) = true)
    (lk : X.K.lookup g = some ⟨oc, od, .func (PySem.W.fnOf x x pg bg sg dV kV doc pm an cdv ct), osl⟩) (hcg : PySem.W.codeIn X.K cdv x = true) (hb : L2.Binds X.K (PySem.W.fnOf x x pg bg sg dV kV doc pm an cdv ct) [a] []) (Sg : FnScope Ng [a] sg) (hNg : Ng[0]? = some a) (hva : Vis sg a)
    (hG : GivesToN X Ng x sg g cdv bg a (X.env.qual ++ "<lambda>") TT)
    (TB : TabB X.base X.mg c P) (hcode : X.env.code = .ref c) (hmT : (P, X.env.qual ++ "<lambda>") ∈ T) (hu : ∀ p ∈ T, p.1 = P → p.2 = X.env.qual ++ "<lambda>") (hr : Room (k + 2) X.A) (L : LamS X.env.scope scope) (hdef : defaultsOf params X.env = ([], []))
    (hbind : ∀ (q : Str) (cl : List (Str × Addr)) (pm cv ctv : Value), bindArgs (PySem.W.kla_fn "<lambda>" q params body scope cl pm cv ctv) ⟨[], []⟩ = pure [])
    (hbody : ∀ (A : Around) (outer : List Env) (s : Shared) (H : Hp) (E : XK) (f c' : Addr), Room k (A.deeper (lamEnv X scope s.heap.objs.size f c')) → PE (lamN X A outer s H E scope f c') body (t E))
    (hdb : (x == ("__debug__" : Str)) = false := by decide) (hd : (a == ("__debug__" : Str)) = false := by decide) (hcd : (a == ("__classdict__" : Str)) = false := by decide) :
    PE X (.Call (.Name x p) [.Lambda params body scope lpos] [] pos) (tLamP P T TT t) := by
  refine ⟨fun pins s σ H Q I h => ?_⟩
  obtain ⟨hT, h⟩ := h
  refine wpAny_Call_Name_kw (ld_glob I hg hm ?_ hdb)
  refine PySem.W.callWith_K (h₀ := X.base) I.ok.mod.kin hk ?_ (by rfl) (by rfl)
  show wpAny _ _ (spliced ((false, eval (.Lambda params body scope lpos) X.env) :: backTo pos (starEach [] X.env))) _ _ s
  refine Calls.spliced_cons (lam_make3 I TB hcode hmT hu hT hdef (L.has I.ok) fun f c' pm' ctv H1 s' I1 eN T1 hf hfn hfr hco => ?_)
  refine Calls.spliced_nil ⟨I1.kIn, ?_⟩
  have rc : codeAny (model X.prog X.w) X.A (.call (.ref g) ⟨[.ref f], []⟩) (CR C8.CX0 X.stack X.prog X.w H1 s' Q C8.E0) s' := by
    refine run_ofS (N := Ng) (ps := [a]) (us := [.ref f]) (vs := [.ref f]) lk hcg Sg hr I1.env0 (hb s' [.ref f] I1.kIn rfl) (.cons rfl .nil) rfl fun hr' => ?_
    obtain ⟨t', ht', hq'⟩ := hG f c' s' H1 Q (fun E H' Q' => t E σ H' Q') (fun W pn xe E p1 p2 tk hW => pe_actN (i := 0) I1 L hf hfn hfr (hbind _ _ _ _ _) tk hW hr' (fun A outer s H hr2 => hbody A outer s H E f c' hr2) hNg hva hd hcd) hco (h H1 eN T1)
    exact ⟨t', ht'.nox, hq'⟩
  refine wpAny_call (codeAny_mono rc fun r s2 hq => ?_)
  cases r with
  | error e => exact (show False from hq).elim
  | ok fl =>
    cases fl with
    | ret u => exact I1.after hq
    | next => exact False.elim hq
    | brk => exact False.elim hq
    | cont => exact False.elim hq
end
end LamN

set_option maxHeartbeats 2000000
/-! ## DL16: told(lambda: e): the outcome of a call as data -/
namespace DL
open PySem PySem.Spec PyProof.Rows L2 LamX LamN L2H
open Evl (Ex)
/-! ### loops over range in an except suite -/
theorem turnH_imp {P : Program} {w : World} {K : Frg} {tg : Expr} {J J' : It} {fp : List Addr} {it : Addr} {tn : Nat → Heap → Prop} (T : TurnH P w K tg J fp it tn) (h1 : ∀ i H, J'.go i H → J.go i H) (h2 : ∀ i H x H', J'.go i H → J.yld i H x H' → J'.yld i H x H')
    (h3 : ∀ i H, J'.stop i H → J.stop i H) : TurnH P w K tg J' fp it tn where
  mem := T.mem
  obj := T.obj
  keep := T.keep
  item := fun X hP hw hK hc i pins s σ H E I hf st hg => thn (T.item X hP hw hK hc i pins s σ H E I hf st (h1 i H hg)) fun r s1 ⟨u, hr, q⟩ => ⟨u, hr, thn q fun _ s2 ⟨x, H', I', rv, y, t, n⟩ => ⟨x, H', I', rv, h2 i H x H' hg y, t, n⟩⟩
  done := fun X hP hw hK hc i pins s σ H E I hf st hg => T.done X hP hw hK hc i pins s σ H E I hf st (h3 i H hg)
  self := T.self
abbrev DIH (Tb : TbT) (X : Cx) (W : WX) (tg e : Expr) (f : M (List D)) : Prop := PIH X tg e (iD (KT.mk X.K Tb) X.mg W f)
section
variable {Tb : TbT} {X : Cx} {W : WX} {e tg : Expr} {fs : M (List D)} {f : M D} {fl : M (List D)} {pos p : Pos}
theorem di_range1H (hg : Gl X "range") (hm : X.mg "range" = none) (ha : DA Tb X W [e] fs) (hs : starEach [e] X.env = [(false, eval e X.env)] := by rfl) : DIH Tb X W tg (.Call (.Name "range" p) [e] [] pos) (M.bind fs fun ds => opt (range1 ds)) := by
  refine ⟨fun pins s σ H R I hh => ?_⟩
  obtain ⟨P, F0, B, Fz, ρ, r, h⟩ := hh
  have key := (pi_range1H (tg := tg) (p := p) (pos := pos) hg hm ha.pa hs).run pins s σ H (fun J H1 => ∃ F1 n, J = Itr 0 n ∧ R (ItD (rangeL 0 n) F1) H1) I
    ⟨P, F0, B, Fz, ρ, r, h.bind.imp fun ds ρ1 H1 F1 r1 e1 h1 vs hvs => ?_⟩
  · refine thn key fun v s1 h1 => thn h1 fun itv s2 ⟨it, fp, tn, J, H', e, I', T, st, f, F1, n, eJ, q⟩ => ?_
    subst eJ
    exact ⟨it, fp, tn, _, H', e, I', turnH_imp T (fun i H h => by have := h.1; rw [rangeL_length] at this; exact this) (fun i H y H2 hg2 h2 => by
      obtain ⟨rfl, rfl⟩ := h2
      have hi := hg2.1
      rw [rangeL_length] at hi
      refine ⟨.int (0 + (i : Nat)), ?_, Ex.refl _, fun Fc e1 e2 => ⟨Fc, Ex.refl _, e2, Nw.refl, .int _⟩⟩
      unfold rangeL
      rw [List.getElem?_map, List.getElem?_range hi]
      rfl) (fun i H h => by have := h.1; rw [rangeL_length] at this; exact Nat.le_of_eq this.symm), st, f, q⟩
  · obtain ⟨items, hi, k⟩ := h1.opt
    unfold range1 at hi
    split at hi
    · split at hi
      · rename_i n hn
        cases hi
        obtain ⟨v, rfl, hv⟩ := hvs.one
        cases hv.int_of
        exact ⟨n, rfl, by omega, by omega, F1, n.toNat, rfl, k H1 F1 r1 (Ex.refl _) (by rw [rangeL_length]; exact lim_ok (by show n.toNat ≤ 1000000; omega))⟩
      · cases hi
    · cases hi
abbrev BlkAllH (X : Cx) (q : Addr × Obj) (scope : Scope) (p : Cx → Prop) : Prop := ∀ (s : Shared) (H : Hp) (C : Addr) (cl : List (Str × Addr)) (fp : List Addr), p (blkH X q s H scope (compEnvC scope cl C X.env) fp)
theorem ds_setLcH (i : Nat) {q : Addr × Obj} {x : Str} {elt tg iter : Expr} {ifs : List Expr} {scope : Scope} {own : List (Str × Nat)} {pos' : Pos} {ts : List Nat} {b : D → Env → Option Env} {t : M Bool} (hss : X.stack = X.env :: X.outer) (hff : X.env.frame = some X.env.locals) (hot : Hot1 X.A q) (hpm : q ∈ X.pn) (hN : X.N.Nodup) (hi : DIH Tb X W tg iter fl)
    (ok : BlkOk X.N X.env.scope scope own) (hts : ∀ i ∈ ts, i ∈ own.map (·.2))
    (hg : BlkAllH X q scope fun Y => DG Tb Y tg ts b) (ht : BlkAllH X q scope fun Y => DTs Tb Y WN ifs t) (he : BlkAllH X q scope fun Y => DE Tb Y WN elt f) (hy : X.N[i]? = some x := by rfl) (hyl : X.env.scope.names.lookup x = some .local := by rfl)
    (hsw : swapsWith (.ListComp elt [⟨tg, iter, ifs, 0⟩] scope pos') (some (.Name x p)) pos.line X.env = pure true := by exact sw_true rfl rfl rfl (by decide +kernel)) (hs : ∀ x, foldedSetIterable iter X.env x = pure x := by intro _; rfl) :
    DS Tb X W (.Assign [.Name x p] (.ListComp elt [⟨tg, iter, ifs, 0⟩] scope pos') pos) (sM (M.bind fl (lcM (own.map (·.2)) b t f)) fun ds ρ => .nx (ρ.set i (some (.own false (.list ds))))) :=
  ps_imp (ps_setLcH hss hff hot hpm hN hy hyl hsw hi ok hg ht he hs) fun Dn σ H ⟨P, F0, B, Fz, ρ, r, h⟩ => lc_den hts σ H _ ⟨P, F0, B, Fz, ρ, r, h.sM.imp fun ds ρ1 H1 F1 r1 e1 h1 p vs hF hB hH hv hn => h1 _ _ _ (r1.setOwn hF hB hH (.lst hv) hn) (Ex.refl _)⟩
end

/-! ### isinstance of the caught error -/
section
variable {X : Cx} {a C : Addr} {oe : Obj} {pn : List (Addr × Obj)} {c : Str} {Cc : Addr} {b : Bool} {p1 p2 p3 p4 : Pos}
/-- isinstance(e, c) -/
theorem pe_is (i : Nat) {n : Str} (EC : ExcC X.K C) (hz : Zc (.ref C) none oe) (hf : ∃ vs, oe.data = .fields vs) (hk : PySem.W.kitOne X.K (.ref C) (.ref Cc) = some b) (hm : X.mg c = some (.ref Cc)) (hN : X.N[i]? = some n) (hv : Vis X.env.scope n) (hd : (n == ("__debug__" : Str)) = false) (hcd : (n == ("__classdict__" : Str)) = false)
    (hg : Gl (X.suite a ((a, oe) :: pn)) c) (hdc : (c == ("__debug__" : Str)) = false) (hg2 : Gl (X.suite a ((a, oe) :: pn)) "isinstance") (hm2 : X.mg "isinstance" = none)
    (he : starEach [.Name n p2, .Name c p3] X.env = (false, eval (.Name n p2) X.env) :: starEach [.Name c p3] X.env := by rfl) (he2 : starEach [.Name c p3] X.env = (false, eval (.Name c p3) X.env) :: starEach [] X.env := by rfl) (hpl : (backTo p4 (starEach [.Name c p3] X.env)).any (·.1) = false := by rfl) :
    PE (X.suite a ((a, oe) :: pn)) (.Call (.Name "isinstance" p1) [.Name n p2, .Name c p3] [] p4) (fun σ H Q => σ[i]? = some (some (.ref a)) ∧ Q (.bl b) H) :=
  pe_imp (pe_callB (X := X.suite a ((a, oe) :: pn)) (call_isE EC hz hf) hg2 hm2 PyProof.Rows.boot_isinstance (pa_cons (pe_var hN hv hd hcd) (pa_cons (pe_glob (v := .ref Cc) hg hm rfl hdc) pa_nil he2) he) (by decide) (by decide) he hpl) fun σ H Q ⟨h1, h2⟩ =>
    ⟨_, h1, .ref Cc, .ref Cc, b, rfl, fun u r => r, hk, h2⟩
end

/-! ### the def told -/
/-- C is the i-th of the six kinds at ds, under the class at CS -/
structure IsK (K : Frg) (CS : Addr) (ds : List Addr) (C : Addr) (i : Nat) : Prop where
  ex : ExcC K C
  te : PySem.W.exmOne K (.ref C) (.ref CS) = some true
  is : ∀ j d, ds[j]? = some d → PySem.W.kitOne K (.ref C) (.ref d) = some (decide (j = i))
def kindName (i : Nat) : Str := (["refused", "large", "missing", "paper", "form", "broken"] : List Str).getD i "odd"
/-- what told makes of the lambda's reading -/
def TTold (K : Frg) (CS : Addr) (ds : List Addr) : (XK → Hp → VK → Prop) → Hp → VK → Prop := fun tl H Q =>
  tl (fun cls d H' => d = none ∧ ∃ C i Fz, cls = .ref C ∧ IsK K CS ds C i ∧ i < 6 ∧ Ex Fz H' ∧ Out Fz H' (.tuple [.str (kindName i)]) Q) H (fun v H' => ([V.str "told", v] : List V).length ≤ sizeLine ∧ ∀ p, H' p = none → Q (.ref p) (upd H' p (.tup [V.str "told", v])))
/-- the suite's first line -/
def tKinds (a : Addr) (i : Nat) : TS := fun D σ H => σ[1]? = some (some (.ref a)) ∧ ∀ p, H p = none → D.nx (σ.set 2 (some (.ref p))) (upd H p (.lst ((List.range 6).map fun j => V.bl (decide (j = i)))))
def tSui (K : Frg) (mg : Str → Option Value) (CS : Addr) (ds : List Addr) (g : Env → SR) (a : Addr) (cls : Value) (d : Option Addr) : TS := fun D σ H => d = none ∧ ∃ C i, cls = .ref C ∧ i < 6 ∧ IsK K CS ds C i ∧ tSeq (tKinds a i) (tS (KT.mk K ⟨[], false⟩) mg WN g) D σ H
def kinds0 (i : Nat) : Env := [none, none, some (.val (.list ((List.range 6).map fun j => .bool (decide (j = i))))), none, none]
theorem rp_kinds (H : Hp) (i : Nat) : ∀ l : List Nat, RpAll H (l.map fun j => V.bl (decide (j = i))) (l.map fun j => PyData.bool (decide (j = i)))
  | [] => .nil
  | j :: l => .cons (.bl _) (rp_kinds H i l)
theorem told_gives {X : Cx} {Ng : List Str} {x a q : Str} {sg : Scope} {g CS : Addr} {ds : List Addr} {cdg : Value} {rest : List Stmt} {st1 : Stmt} {gr : Env → SR} {j : Nat} {kk : Nat} {p0 p1 p2 p3 p4 p5 p6 p7 : Pos} (hN : Ng.Nodup) (hl : Ng.length = 5) (he : Ng[1]? = some ("e" : Str)) (hel : sg.names.lookup ("e" : Str) = some .local)
    (hge : sg.names.lookup ("SlipError" : Str) = some .globalImplicit) (hme : X.mg "SlipError" = some (.ref CS)) (h0 : ∀ f : Addr, (L2.start Ng [V.ref f])[0]? = some (some (V.ref f)))
    (hgr : ∀ i, i < 6 → ∃ ρ', gr (kinds0 i) = .rt (.tuple [.str (kindName i)]) ρ')
    (hk : ∀ (s : Shared) (H : Hp) (a : Addr) (oe : Obj) (C : Addr) (pn : List (Addr × Obj)) (i : Nat), ExcC X.K C → IsK X.K CS ds C i → Zc (.ref C) none oe → (∃ vs, oe.data = .fields vs) → PS ((cxOf C8.CX0 X.prog X.w X.K X.mg X.base Ng x sg g cdg X.A X.stack s H C8.E0).nox.suite a ((a, oe) :: pn)) st1 (tKinds a i))
    (hr : ∀ (s : Shared) (H : Hp) (a : Addr) (oe : Obj) (pn : List (Addr × Obj)), Hot1 ((cxOf C8.CX0 X.prog X.w X.K X.mg X.base Ng x sg g cdg X.A X.stack s H C8.E0).nox.suite a ((a, oe) :: pn)).A (a, oe) → DSs ⟨[], false⟩ ((cxOf C8.CX0 X.prog X.w X.K X.mg X.base Ng x sg g cdg X.A X.stack s H C8.E0).nox.suite a ((a, oe) :: pn)) WN rest gr) :
    GivesToN X Ng x sg g cdg [.Try [.Return (some (.Tuple [.Constant (.str "told") j p0, .Call (.Name a p1) [] [] p2] kk p3)) p4] [.ExceptHandler (some (.Name "SlipError" p5)) (some "e") (st1 :: rest) p6] [] [] p7] a q (TTold X.K CS ds) := by
  intro f c' s H Q tl act hc h
  have hgl : Gl (cxOf C8.CX0 X.prog X.w X.K X.mg X.base Ng x sg g cdg X.A X.stack s H C8.E0).nox "SlipError" := hge
  refine ⟨_, pss_one (L2N.ps_try_as (X := (cxOf C8.CX0 X.prog X.w X.K X.mg X.base Ng x sg g cdg X.A X.stack s H C8.E0).nox) (c := .ref CS) (i := 1) (Wout := WN)
      (tb := fun W D σ H => ∃ Ech : XK, (∀ cls d σ' H', Ech cls d H' → σ'.length = 5 → W cls d σ' H') ∧ σ[0]? = some (some (.ref f)) ∧ H c' = some (CodeO c' q) ∧ tl Ech H (fun v H' => ([V.str "told", v] : List V).length ≤ sizeLine ∧ ∀ p, H' p = none → D.rt (.ref p) (upd H' p (.tup [V.str "told", v]))))
      (ts := tSui X.K X.mg CS ds gr) rfl rfl hN he hel ⟨hgl, by decide, .inl hme⟩ (takesN _) (fun W pn xe tk _ => ?_) (fun a oe cls d pn hz hv => ?_)), ?_⟩
  · have tk' : L2N.Takes ((cxOf C8.CX0 X.prog X.w X.K X.mg X.base Ng x sg g cdg X.A X.stack s H C8.E0).tr pn xe) (fun cls d σ H => σ.length = 5 → W cls d σ H) := fun u s' ⟨a, B, sI, pins, σ, H, cls, d, e, I, nb, up, sky, na, os, ag, w⟩ =>
      tk u s' ⟨a, B, sI, pins, σ, H, cls, d, e, I, nb, up, sky, na, os, ag, w (I.len.trans hl)⟩
    refine ⟨fun pins s' σ H' D I h' => ?_⟩
    obtain ⟨Ech, hW, h1, h2, h3⟩ := h'
    have hp := act _ pn xe Ech p1 p2 tk' (fun cls d σ' H' hE hlen => hW cls d σ' H' hE hlen)
    have hq := pss_one (ps_ret (pos := p4) (pe_tup (x1 := kk) (pos := p3) (pa_cons (pe_str (j := j) (pos := p0) (x := ("told" : Str))) (pa_cons hp pa_nil))))
    exact hq.run pins s' σ H' D I ⟨h1, h2, h3⟩
  · refine ⟨fun pins s' σ H' D I h' => ?_⟩
    obtain ⟨rfl, C, i, rfl, hi, ik, h3⟩ := h'
    have hot : Hot1 ((cxOf C8.CX0 X.prog X.w X.K X.mg X.base Ng x sg g cdg X.A X.stack s H C8.E0).nox.suite a ((a, oe) :: pn)).A (a, oe) := by
      obtain ⟨vs, hvs⟩ := hv
      exact ⟨rfl, vs, hvs, hz.2.2 vs hvs⟩
    exact (pss_cons (hk s H a oe C pn i ik.ex ik hz.zc hv) (hr s H a oe pn hot)).run pins s' σ H' D I h3
  · refine ⟨_, fun cls d σ' H' hE hlen => ?_, h0 f, hc, h⟩
    obtain ⟨rfl, C, i, Fz, rfl, ik, hi, eF, hO⟩ := hE
    refine ⟨true, ik.te, fun _ a ha => ⟨rfl, C, i, rfl, hi, ik, ?_, fun p hp => ?_⟩, fun z => by cases z⟩
    · rw [List.getElem?_set_self (by omega)]
    · obtain ⟨ρ', hg⟩ := hgr i hi
      have hFp : Fz p = none := Evl.fresh_back eF hp
      refine ⟨0, upd Fz p (.lst ((List.range 6).map fun j => V.bl (decide (j = i)))), upd H' p (.lst ((List.range 6).map fun j => V.bl (decide (j = i)))), upd Fz p (.lst ((List.range 6).map fun j => V.bl (decide (j = i)))), kinds0 i, ?_, ?_⟩
      · have only : ∀ (k : Nat) (y : SV), (kinds0 i)[k]? = some (some y) → k = 2 ∧ y = .val (.list ((List.range 6).map fun j => .bool (decide (j = i)))) := fun k y hk => by
          unfold kinds0 at hk
          match k, hk with
          | 0, hk => cases hk
          | 1, hk => cases hk
          | 2, hk => cases hk; exact ⟨rfl, rfl⟩
          | 3, hk => cases hk
          | 4, hk => cases hk
          | k + 5, hk => cases hk
        refine ⟨Ex.refl _, fun b u e => ?_, Ex.refl _, fun b h => .inl h, ?_, fun k d hk => ?_, fun k y d hk => ?_, fun k d hk => ?_, fun k l y z d e q _ hk => ?_, fun y hy => (by cases hy), fun z => (by cases z)⟩
        · by_cases eb : b = p
          · subst eb; rw [upd_same] at e ⊢; exact e
          · rw [upd_ne eb] at e ⊢; exact eF b u e
        · rw [List.length_set, List.length_set, hlen]; rfl
        · obtain ⟨rfl, e⟩ := only k _ hk
          cases e
          exact ⟨.ref p, by rw [List.getElem?_set_self (by rw [List.length_set]; omega)], .lst upd_same (rp_kinds _ i _)⟩
        · obtain ⟨_, e⟩ := only k _ hk
          cases e
        · obtain ⟨_, e⟩ := only k _ hk
          cases e
        · obtain ⟨_, e⟩ := only k _ hk
          cases e
      · rw [hg]
        intro v σ2 H2 F2 r2 e2 hv
        refine hO v H2 F2 ((Ex.new hp).trans r2.eb) ((Ex.new hFp).trans e2) r2.ef (fun b hb => ?_) hv
        rcases r2.fr b hb with z | z
        · by_cases eb : b = p
          · subst eb; exact .inr hp
          · rw [upd_ne eb] at z; exact .inl z
        · by_cases eb : b = p
          · subst eb; exact .inr hp
          · rw [upd_ne eb] at z; exact .inr z
/-- told's answer -/
def toldR (kn : Str → Option Str) (f : M D) : M D := fun ρ => match f ρ with
  | .ok d ρ' => .ok (.tuple [.str "told", d]) ρ'
  | .er c ρ' => match kn c with
    | some n => .ok (.tuple [.str n]) ρ'
    | none => .bad
  | .bad => .bad
section
variable {Tl : List (Addr × Str)} {X : Cx} {W : WX}
theorem de_told {kn : Str → Option Str} {x a : Str} {g c P CS : Addr} {ds : List Addr} {k : Nat} {pg : Arguments} {bg : List Stmt} {sg : Scope} {dV kV doc pm cdv ct oc : Value} {an od : Option Addr} {osl : Array (Option Value)} {Ng : List Str}
    {params : Arguments} {body : Expr} {scope : Scope} {f : M D} {p lpos pos : Pos} (hkn : ∀ c n C, kn c = some n → X.mg c = some (.ref C) → ∃ i, i < 6 ∧ n = kindName i ∧ IsK X.K CS ds C i) (hg : Gl X x) (hm : X.mg x = some (.ref g)) (hk : PySem.W.keepIn X.K (.ref g) = true)
    (lk : X.K.lookup g = some ⟨oc, od, .func (PySem.W.fnOf x x pg bg sg dV kV doc pm an cdv ct), osl⟩) (hcg : PySem.W.codeIn X.K cdv x = true) (hb : L2.Binds X.K (PySem.W.fnOf x x pg bg sg dV kV doc pm an cdv ct) [a] []) (Sg : FnScope Ng [a] sg) (hNg : Ng[0]? = some a) (hva : Vis sg a)
    (hG : GivesToN X Ng x sg g cdv bg a (X.env.qual ++ "<lambda>") (TTold X.K CS ds))
    (TB : TabB X.base X.mg c P) (hcode : X.env.code = .ref c) (hmT : (P, X.env.qual ++ "<lambda>") ∈ Tl) (hu : ∀ p ∈ Tl, p.1 = P → p.2 = X.env.qual ++ "<lambda>") (hr : Room (k + 2) X.A) (L : LamS X.env.scope scope) (hdef : defaultsOf params X.env = ([], []))
    (hbind : ∀ (q : Str) (cl : List (Str × Addr)) (pm cv ctv : Value), bindArgs (PySem.W.kla_fn "<lambda>" q params body scope cl pm cv ctv) ⟨[], []⟩ = pure [])
    (hbody : ∀ (A : Around) (outer : List PySem.Env) (s : Shared) (H : Hp) (E : XK) (f' c' : Addr), Room k (A.deeper (lamEnv X scope s.heap.objs.size f' c')) → DE ⟨Tl, true⟩ (lamN X A outer s H E scope f' c') (fun cls d _ H => E cls d H) body f)
    (hdb : (x == ("__debug__" : Str)) = false := by decide) (hd : (a == ("__debug__" : Str)) = false := by decide) (hcd : (a == ("__classdict__" : Str)) = false := by decide) :
    DE ⟨Tl, true⟩ X W (.Call (.Name x p) [.Lambda params body scope lpos] [] pos) (toldR kn f) :=
  pe_imp (pe_lamcallN (t := fun E => tD (KT.mk X.K ⟨Tl, true⟩) X.mg (fun cls d _ H => E cls d H) f) hg hm hk lk hcg hb Sg hNg hva hG TB hcode hmT hu hr L hdef hbind hbody hdb hd hcd) fun σ H Q ⟨P', F0, B, Fz, ρ, r, h⟩ => by
    refine ⟨r.tab, fun H1 eN T1 => ?_⟩
    have r1 : Rl (KT.mk X.K ⟨Tl, true⟩) P' F0 B Fz H1 σ ρ := by
      have np := r.nt rfl _ hmT
      refine ⟨r.e0, fun b u e => eN b u (r.ef b u e) (fun z => by rw [z, np.1] at e; cases e), fun b u e => eN b u (r.eb b u e) (fun z => by rw [z, np.2] at e; cases e), r.fr, r.len, r.val, fun i s d hi => ?_, r.seq, r.ap, T1, r.nt⟩
      obtain ⟨q, o, h1, h2, h3, h4, h5, h6⟩ := r.own i s d hi
      refine ⟨q, o, h1, h2, h3, h4, eN q o h5 (fun z => ?_), h6⟩
      cases h6 with
      | lst _ => exact tab_ne r.tab hmT h5 z.symm
    refine ⟨P', F0, B, Fz, ρ, r1, ?_⟩
    unfold toldR at h
    cases hf : f ρ with
    | bad => rw [hf] at h; exact h.elim
    | ok d ρ' =>
      rw [hf] at h
      intro H2 F2 r2 e2 v hv
      refine ⟨by show 2 ≤ sizeLine; decide, fun q hq => ?_⟩
      exact h _ _ (r2.new hq) (e2.trans (r2.newF hq)) _ (.tup upd_same (.cons (.str _) (.cons (hv.mono (r2.newF hq)) .nil)))
    | er c ρ' =>
      rw [hf] at h
      dsimp only at h
      cases hn : kn c with
      | none => rw [hn] at h; exact h.elim
      | some n =>
        rw [hn] at h
        intro H2 F2 C r2 e2 hC
        obtain ⟨i, hi, rfl, ik⟩ := hkn c n C hn hC
        exact ⟨rfl, C, i, F2, rfl, ik, hi, r2.ef, fun v H3 F3 eH eF eFH nw hv => h H3 F3 (r2.grow eH eF eFH nw) (e2.trans eF) v hv⟩
end
end DL

set_option maxHeartbeats 1000000
/-! ## DL17: repr; defs under known guards; the law's promise -/
namespace DL
open PySem PySem.Spec PyProof.Rows L2
open Evl (Ex)
/-! ### data as the library reads it -/
mutual
theorem rp_reads {X : Cx} {pins : List (Addr × Obj)} {σ : St} {H Fz : Hp} {s : Shared} (I : Inv X pins σ H s) (e : Ex Fz H) : ∀ {d : D} {v : V} {u : Value}, Rp Fz v d → RelV v u → ∃ as, Reads s.heap u d as
  | .none, _, _, h, r => by cases h; cases r; exact ⟨_, .none⟩
  | .bool b, _, _, h, r => by cases h; cases r; exact ⟨_, .bool b⟩
  | .int i, _, _, h, r => by cases h; obtain ⟨t, rfl⟩ := r; exact ⟨_, .int i t⟩
  | .str x, _, _, h, r => by cases h; obtain ⟨t, rfl⟩ := r; exact ⟨_, .str x t⟩
  | .list ds, _, _, h, r => by
    cases h with
    | lst a b =>
      cases r
      obtain ⟨its, rv, ⟨o, n, ho, hc, hd, hdat⟩, _⟩ := I.list (SqL.of (e _ _ a))
      obtain ⟨as, hr⟩ := rp_readsAll I e b rv
      exact ⟨_, .list ho hc hdat (by simpa using hr)⟩
  | .tuple ds, _, _, h, r => by
    cases h with
    | tup a b =>
      cases r
      obtain ⟨its, rv, ⟨o, ho, hc, n, hdat⟩, _⟩ := I.tuple (SqT.of (e _ _ a))
      obtain ⟨as, hr⟩ := rp_readsAll I e b rv
      exact ⟨_, .tuple ho hc hdat (by simpa using hr)⟩
  | .dict _, _, _, h, _ => by cases h
theorem rp_readsAll {X : Cx} {pins : List (Addr × Obj)} {σ : St} {H Fz : Hp} {s : Shared} (I : Inv X pins σ H s) (e : Ex Fz H) : ∀ {ds : List D} {vs : List V} {us : List Value}, RpAll Fz vs ds → Vals vs us → ∃ as, ReadsAll s.heap us ds as
  | [], _, _, h, r => by cases h; cases r; exact ⟨_, .nil⟩
  | d :: ds, _, _, h, r => by
    cases h with
    | cons a b =>
      cases r with
      | cons r1 r2 =>
        obtain ⟨as, h1⟩ := rp_reads I e a r1
        obtain ⟨bs, h2⟩ := rp_readsAll I e b r2
        exact ⟨_, .cons h1 h2⟩
end
def reprD : List D → Option D
  | [.list ds] => if (PyData.list ds).showable = true ∧ (PyData.list ds).hasDict = false ∧ (PyData.list ds).depth ≤ 60 ∧ (PyData.list ds).shown.length ≤ lim then some (.str (PyData.list ds).shown) else none
  | [.tuple ds] => if (PyData.tuple ds).showable = true ∧ (PyData.tuple ds).hasDict = false ∧ (PyData.tuple ds).depth ≤ 60 ∧ (PyData.tuple ds).shown.length ≤ lim then some (.str (PyData.tuple ds).shown) else none
  | _ => none
section
variable {X : Cx}
theorem cd_repr (hg : X.A.guards = some []) (hu : X.A.units + 80 < cLine) : CallD X (.builtin "repr") reprD := by
  intro pins s σ H xs us Q I r h
  obtain ⟨Fz, ds, d, e, hx, hd, o⟩ := h
  have go : ∀ {a : Addr} {v : D} {u : Value}, Rp Fz (.ref a) v → RelV (.ref a) u → v.showable = true → v.hasDict = false → v.depth ≤ 60 → v.shown.length ≤ lim → Out Fz H (.str v.shown) Q → wpAny (model X.prog X.w) X.A (call (.builtin "repr") [u]) (EP X pins σ Q) X.xe s := fun {a v u} hv ru h1 h2 h3 h4 o => by
    cases ru
    obtain ⟨as, rd⟩ := rp_reads I e hv rfl
    refine repr_of_reads' (h₀ := s.heap) rd h1 (fun z => by rw [h2] at z; cases z) hg (by omega) (fun _ _ z => z) (fun h' u tk k => ?_) (Nat.le_trans h4 (by decide))
    exact ⟨.str v.shown, H, I.kept (t' := tk) k, ⟨u, rfl⟩, o.here e (.str _)⟩
  unfold reprD at hd
  split at hd
  · split at hd
    · rename_i ds' hh
      cases hd
      obtain ⟨v, rfl, hv⟩ := hx.one
      obtain ⟨u, rfl, ru⟩ := r.one
      obtain ⟨q, vs, rfl, _⟩ := hv.lst_of
      exact go hv ru hh.1 hh.2.1 hh.2.2.1 hh.2.2.2 o
    · cases hd
  · split at hd
    · rename_i ds' hh
      cases hd
      obtain ⟨v, rfl, hv⟩ := hx.one
      obtain ⟨u, rfl, ru⟩ := r.one
      obtain ⟨q, vs, rfl, _⟩ := hv.tup_of
      exact go hv ru hh.1 hh.2.1 hh.2.2.1 hh.2.2.2 o
    · cases hd
  · cases hd
end
/-! ### defs under known guards -/
structure FnG (P : Program) (w : World) (K : PySem.W.Frag) (mg : Str → Option Value) (base : Heap) (CX : CXT) (k : Nat) (f : Addr) (fd : FuncData) (ps : List Str) (sp : Sp) : Prop where
  len : ∀ vs H Q E, sp vs H Q E → vs.length = ps.length
  run : ∀ (A : Around) (outer : List PySem.Env) (s : Shared) (H : Hp) (args : Args) (us : List Value) (vs : List V) (Q : VK) (E : XK), A.guards = some [] → Room k A → Env0 P w K mg base A outer s H → BindsTo s fd args (ps.zip us) → Vals vs us → sp vs H Q E →
    codeAny (model P w) A (.call (.ref f) args) (CR CX outer P w H s Q E) s
section
variable {P : Program} {w : World} {K : Frg} {mg : Str → Option Value} {base : Heap} {x qual : Str} {st : Stmt} {f : Addr} {fd : FuncData} {N ps : List Str} {k : Nat} {g : Env → SR}
theorem okG {sp : Sp} (F : Fun K x qual st f fd) (S : FnScope N ps (defScope st)) (len : ∀ vs H Q E, sp vs H Q E → vs.length = ps.length)
    (hbody : ∀ (cdv : Value) (A : Around) (outer : List PySem.Env) (s : Shared) (H : Hp) (vs : List V) (Q : VK) (E : XK), (A.deeper (envOfC qual (defScope st) s.heap.objs.size f cdv)).guards = some [] → Room k (A.deeper (envOfC qual (defScope st) s.heap.objs.size f cdv)) → sp vs H Q E →
      (∃ cds : Value → Prop, cds cdv) → PySem.W.codeIn K cdv qual = true → (∃ oc od kV doc pm an ct osl, K.lookup f = some ⟨oc, od, .func (PySem.W.fnOf x qual (defArgs st) (defBody st) (defScope st) .none kV doc pm an cdv ct), osl⟩) →
      ∃ t, PSs (cxOf (L2N.CX P w) P w K mg base N qual (defScope st) f cdv A outer s H E) (defBody st) t ∧ t { nx := fun _ H' => Q .non H', rt := Q } (L2.start N vs) H) : FnG P w K mg base (L2N.CX P w) (k + 1) f fd ps sp := by
  obtain ⟨oc, od, kV, doc, pm, an, cdv, ct, osl, rfl, lk, hcd⟩ := F.ex
  refine ⟨len, fun A outer s H args us vs Q E hgd hr e0 hb r hsp => ?_⟩
  exact LamX.run_ofS lk hcd S hr e0 hb r (len _ _ _ _ hsp) fun hr' => hbody cdv A outer s H vs Q E hgd hr' hsp ⟨fun _ => True, trivial⟩ hcd ⟨_, _, _, _, _, _, _, _, lk⟩
end
section
variable {Tb : TbT} {X : Cx} {W : WX} {e : Expr} {es : List Expr} {fs : M (List D)} {pos p : Pos}
theorem run_fnG {CX : CXT} {k : Nat} {f : Addr} {fd : FuncData} {ps : List Str} {sp : Sp} {E : L2.St → XK} {pins : List (Addr × Obj)} {σ : L2.St} {H : Hp} {s : Shared} {Q : VK} {us : List Value} {vs : List V} (F : FnG X.prog X.w X.K X.mg X.base CX k f fd ps sp) (hgd : X.A.guards = some []) (hr : Room k X.A) (hb : Binds X.K fd ps []) (hx : PassesAt CX X σ (E σ))
    (I : Inv X pins σ H s) (r : Vals vs us) (h : sp vs H Q (E σ)) : wpAny (model X.prog X.w) X.A (call (.ref f) us) (EP X pins σ Q) X.xe s := by
  have hl : us.length = ps.length := by rw [← r.length]; exact F.len _ _ _ _ h
  have b := hb s us I.kIn (by rw [List.append_nil]; exact hl)
  rw [List.append_nil] at b
  refine wpAny_call (codeAny_mono (F.run X.A X.stack s H ⟨us, []⟩ us vs Q (E σ) hgd hr I.env0 b r h) fun r s' hq => ?_)
  cases r with
  | error e => exact hx pins H s e s' I hq
  | ok fl =>
    cases fl with
    | ret u => exact I.after hq
    | next => exact False.elim hq
    | brk => exact False.elim hq
    | cont => exact False.elim hq
theorem pe_callG {CX : CXT} {k : Nat} {f : Addr} {fd : FuncData} {ps : List Str} {sp : Sp} {E : L2.St → XK} {x : Str} {t : TA} (F : FnG X.prog X.w X.K X.mg X.base CX k f fd ps sp) (hgd : X.A.guards = some []) (hr : Room k X.A) (hg : Gl X x) (hm : X.mg x = some (.ref f)) (hk : PySem.W.keepIn X.K (.ref f) = true) (hb : Binds X.K fd ps []) (hx : ∀ σ, PassesAt CX X σ (E σ))
    (ha : PA X (e :: es) t) (hdb : (x == ("__debug__" : Str)) = false := by decide) (he : starEach (e :: es) X.env = (false, eval e X.env) :: starEach es X.env := by rfl) (hpl : (backTo pos (starEach es X.env)).any (·.1) = false := by rfl) :
    PE X (.Call (.Name x p) (e :: es) [] pos) (tCallS sp E t) := by
  refine ⟨fun pins s σ H Q I h => ?_⟩
  refine wpAny_Call_Name_kw (ld_glob I hg hm ?_ hdb)
  refine PySem.W.callWith_K (h₀ := X.base) I.ok.mod.kin hk (thn (ha.run pos pins s σ H _ I h) fun us s1 ⟨vs, H1, I1, r, q⟩ => ⟨I1.kIn, ?_⟩) he hpl
  exact run_fnG F hgd hr hb (hx σ) I1 r q
theorem de_callG {x : Str} {k n : Nat} {g : Addr} {fd : FuncData} {ps : List Str} {F : List D → Rz} (G : FnG X.prog X.w X.K X.mg X.base (L2N.CX X.prog X.w) k g fd ps (spD Tb.l X.mg n F)) (hgd : X.A.guards = some []) (hr : Room k X.A) (hg : Gl X x) (hm : X.mg x = some (.ref g)) (hk : PySem.W.keepIn X.K (.ref g) = true)
    (hb : Binds X.K fd ps []) (tk : L2N.Takes X W) (ha : DA Tb X W (e :: es) fs) (hn : (e :: es).length = n := by rfl) (hdb : (x == ("__debug__" : Str)) = false := by decide) (he : starEach (e :: es) X.env = (false, eval e X.env) :: starEach es X.env := by rfl)
    (hpl : (backTo pos (starEach es X.env)).any (·.1) = false := by rfl) : DE Tb X W (.Call (.Name x p) (e :: es) [] pos) (M.bind fs fun ds => callM (F ds)) :=
  pe_imp (pe_callG G hgd hr hg hm hk hb (fun σ => L2N.passAt tk σ) ha.pa hdb he hpl) fun σ H Q ⟨P, F0, B, Fz, ρ, r, h⟩ => by
    refine ⟨P, F0, B, Fz, ρ, r, ?_⟩
    cases hf : fs ρ with
    | bad => rw [M.bind_def, hf] at h; exact h.elim
    | er c ρ' => rw [M.bind_def, hf] at h; exact h
    | ok ds ρ1 =>
      rw [M.bind_def, hf] at h
      have h : Po (KT.mk X.K Tb) X.mg W P F0 B σ Fz (callM (F ds) ρ1) _ := h
      intro H1 F1 r1 e1 vs hvs
      refine ⟨r1.tab, F1, ds, r1.ef, hvs, (ha.len _ _ _ hf).trans hn, ?_⟩
      cases hF : F ds with
      | bad => rw [hF] at h; exact h.elim
      | ok d =>
        rw [hF] at h
        exact outOf r1 fun H' F' r' e' => h H' F' r' (e1.trans e')
      | er c =>
        rw [hF] at h
        exact fun H' C eH hC => h H' F1 C (r1.heap eH) e1 hC
end
section
variable {Tl : List (Addr × Str)} {P : Program} {w : World} {K : Frg} {mg : Str → Option Value} {base : Heap} {x qual : Str} {st : Stmt} {f : Addr} {fd : FuncData} {N ps : List Str} {k : Nat} {g : Env → SR}
/-- a def's promise under known guards -/
theorem dl_defG (F : Fun K x qual st f fd) (S : FnScope N ps (defScope st))
    (hb : ∀ (cdv : Value) (A : Around) (outer : List PySem.Env) (s : Shared) (H : Hp) (E : XK), (A.deeper (envOfC qual (defScope st) s.heap.objs.size f cdv)).guards = some [] → Room k (A.deeper (envOfC qual (defScope st) s.heap.objs.size f cdv)) →
      DSs ⟨Tl, false⟩ (cxOf (L2N.CX P w) P w K mg base N qual (defScope st) f cdv A outer s H E) (fun cls d _ H => E cls d H) (defBody st) g) : FnG P w K mg base (L2N.CX P w) (k + 1) f fd ps (spD Tl mg ps.length (fdOf N.length g)) := by
  refine okG F S (fun vs H Q E h => ?_) (fun cdv A outer s H vs Q E hgd hr h _ _ _ => ⟨_, hb cdv A outer s H E hgd hr, ?_⟩)
  · obtain ⟨_, Fz, ds, _, h1, h2, _⟩ := h
    rw [h1.length, h2]
  · obtain ⟨ht, Fz, ds, e, h1, h2, h⟩ := h
    refine ⟨0, Fz, H, Fz, env0 N.length ds, rl0 0 ht e h1 (by rw [h2]; exact FnScope.le S) rfl, ?_⟩
    unfold fdOf at h
    generalize g (env0 N.length ds) = res at h
    cases res with
    | nx ρ => exact fun σ' H' F' r' _ => r'.outF h .non
    | rt d ρ => exact fun v σ' H' F' r' _ hv => r'.outF h hv
    | er c ρ => exact fun σ' H' F' C r' _ hC => h H' C r'.eb hC
    | bk ρ => exact h.elim
    | ct ρ => exact h.elim
    | bad => exact h.elim

/-! ### the script, a list that is only read -/
/-- a def of one such list -/
def spS (Tl : List (Addr × Str)) (K : Frg) (F : List D → Rz) : Sp := fun vs H Q _ => LamX.Tabs Tl H ∧ ∃ Fz a us ds d, vs = [.ref a] ∧ Ex Fz H ∧ SqL K Fz a us ∧ RpAll Fz us ds ∧ F ds = .ok d ∧ Out Fz H d Q
def envS (n : Nat) (ds : List D) : Env := some (.seq ds) :: List.replicate (n - 1) none
def fdS (n : Nat) (g : Env → SR) (ds : List D) : Rz := match g (envS n ds) with
  | .nx _ => .ok .none
  | .rt d _ => .ok d
  | .er c _ => .er c
  | _ => .bad
theorem envS_get {n : Nat} {ds : List D} {i : Nat} {s : SV} (h : (envS n ds)[i]? = some (some s)) : i = 0 ∧ s = .seq ds := by
  unfold envS at h
  cases i with
  | zero => cases h; exact ⟨rfl, rfl⟩
  | succ i =>
    rw [List.getElem?_cons_succ, List.getElem?_replicate] at h
    split at h <;> cases h
theorem rlS {o : Bool} {F0 B Fz H : Hp} {a : Addr} {us : List V} {ds : List D} {q : Addr} (ht : LamX.Tabs Tl H) (e : Ex Fz H) (eb : Ex B H) (e0 : Ex F0 Fz) (fr : ∀ a, Fz a ≠ none → F0 a ≠ none ∨ B a = none) (hs : SqL K Fz a us) (h : RpAll Fz us ds) (hN : 1 ≤ N.length) (hnt : o = true → ∀ t ∈ Tl, Fz t.1 = none ∧ B t.1 = none) :
    Rl (KT.mk K ⟨Tl, o⟩) q F0 B Fz H (L2.start N [.ref a]) (envS N.length ds) := by
  refine ⟨e0, e, eb, fr, ?_, fun i d hi => ?_, fun i s d hi => ?_, fun i s hi => ?_, fun i j s t d e p _ hi => ?_, ht, hnt⟩
  · unfold envS
    rw [List.length_cons, List.length_replicate, start_length (by show 1 ≤ N.length; exact hN)]
    omega
  · cases (envS_get hi).2
  · cases (envS_get hi).2
  · obtain ⟨rfl, hd⟩ := envS_get hi
    cases hd
    exact ⟨a, us, rfl, hs, h⟩
  · cases (envS_get hi).2
theorem dl_defS (F : Fun K x qual st f fd) (S : FnScope N ps (defScope st)) (hps : ps.length = 1)
    (hb : ∀ (cdv : Value) (A : Around) (outer : List PySem.Env) (s : Shared) (H : Hp) (E : XK), Room k (A.deeper (envOfC qual (defScope st) s.heap.objs.size f cdv)) →
      DSs ⟨Tl, false⟩ (cxOf (L2N.CX P w) P w K mg base N qual (defScope st) f cdv A outer s H E) WN (defBody st) g) : FnOk P w K mg base (L2N.CX P w) (k + 1) f fd ps (spS Tl K (fdS N.length g)) := by
  refine okN F S (fun vs H Q E h => ?_) (fun cdv A outer s H vs Q E hr h => ⟨_, hb cdv A outer s H E hr, ?_⟩)
  · obtain ⟨_, Fz, a, us, ds, d, rfl, _⟩ := h
    rw [hps]; rfl
  · obtain ⟨ht, Fz, a, us, ds, d, rfl, e, hs, hr, hF, h⟩ := h
    have hle := FnScope.le S
    refine ⟨0, Fz, H, Fz, envS N.length ds, rlS ht e (Ex.refl _) (Ex.refl _) (fun _ h => .inl h) hs hr (by omega) (fun z => by cases z), ?_⟩
    unfold fdS at hF
    generalize g (envS N.length ds) = res at hF
    cases res with
    | nx ρ => cases hF; exact fun σ' H' F' r' _ => r'.outF h .non
    | rt d ρ => cases hF; exact fun v σ' H' F' r' _ hv => r'.outF h hv
    | er c ρ => cases hF
    | bk ρ => cases hF
    | ct ρ => cases hF
    | bad => cases hF
/-- the law's promise: True -/
def spLaw (Tl : List (Addr × Str)) (K : Frg) (n : Nat) : Sp := fun vs H Q _ => LamX.Tabs Tl H ∧ ∃ (a : Addr) (ns : List Int), vs = [.ref a] ∧ ns.length ≤ n ∧ (∀ z ∈ ns, Builtin.Int.intBits z ≤ 1048576) ∧ SqL K H a (ns.map V.int) ∧ (∀ t ∈ Tl, t.1 ≠ a) ∧ (∀ H', Q (.bl true) H')
theorem rp_ints' (H : Hp) : ∀ ns : List Int, RpAll H (ns.map V.int) (ns.map PyData.int)
  | [] => .nil
  | i :: ns => .cons (.int i) (rp_ints' H ns)
theorem dl_law {n : Nat} (F : Fun K x qual st f fd) (S : FnScope N ps (defScope st)) (hps : ps.length = 1)
    (hg : ∀ ns : List Int, ns.length ≤ n → (∀ z ∈ ns, Builtin.Int.intBits z ≤ 1048576) → ∃ ρ, g (envS N.length (ns.map .int)) = .rt (.bool true) ρ)
    (hb : ∀ (cdv : Value) (A : Around) (outer : List PySem.Env) (s : Shared) (H : Hp) (E : XK), (A.deeper (envOfC qual (defScope st) s.heap.objs.size f cdv)).guards = some [] → Room k (A.deeper (envOfC qual (defScope st) s.heap.objs.size f cdv)) → PySem.W.codeIn K cdv qual = true →
      (∃ oc od kV doc pm an ct osl, K.lookup f = some ⟨oc, od, .func (PySem.W.fnOf x qual (defArgs st) (defBody st) (defScope st) .none kV doc pm an cdv ct), osl⟩) →
      DSs ⟨Tl, true⟩ (cxOf (L2N.CX P w) P w K mg base N qual (defScope st) f cdv A outer s H E) WN (defBody st) g) : FnG P w K mg base (L2N.CX P w) (k + 1) f fd ps (spLaw Tl K n) := by
  refine okG F S (fun vs H Q E h => ?_) (fun cdv A outer s H vs Q E hgd hr h _ hcd lk => ⟨_, hb cdv A outer s H E hgd hr hcd lk, ?_⟩)
  · obtain ⟨_, a, ns, rfl, _⟩ := h
    rw [hps]; rfl
  · obtain ⟨ht, a, ns, rfl, hn, hbits, hs, hne, hQ⟩ := h
    have hle := FnScope.le S
    obtain ⟨ρ0, hgr⟩ := hg ns hn hbits
    let Fz : Hp := fun b => if b = a then H a else none
    have hFa : Fz a = H a := if_pos rfl
    have hFn : ∀ b, b ≠ a → Fz b = none := fun b ne => if_neg ne
    have eF : Ex Fz H := fun b o e => by
      by_cases eb : b = a
      · subst eb; rw [hFa] at e; exact e
      · rw [hFn b eb] at e; cases e
    have hsF : SqL K Fz a (ns.map V.int) := by
      rcases hs with h | h
      · refine .inl ?_
        rcases h with h | ⟨o, h⟩
        · exact .inl (by rw [hFa]; exact h)
        · exact .inr ⟨o, by rw [hFa]; exact h⟩
      · exact .inr h
    refine ⟨0, Fz, fun _ => none, Fz, envS N.length (ns.map .int), rlS ht eF (fun _ _ e => by cases e) (Ex.refl _) (fun _ h => .inl h) hsF (rp_ints' _ ns) (by omega) (fun _ t ht' => ⟨?_, rfl⟩), ?_⟩
    · exact hFn _ (hne t ht')
    · rw [hgr]
      exact fun v σ' H' F' r' _ hv => by
        cases hv
        exact hQ H'
end
end DL

set_option maxHeartbeats 2000000
/-! ## DL18: the end of a law row, its promise under the caller's guards -/
namespace DL
open PySem PySem.Spec PyProof.Rows L2 LamX
/-- law_call with tables: cs, the code objects and their tables -/
theorem law_callTG {P : Program} {w : World} {K : PySem.W.Frag} {mg mb : Str → Option Value} {CX : CXT} {k : Nat} {fa a : Addr} {cs : List (Addr × Addr)} {fd : FuncData} {x : Str} {sp : Sp} {s₁ : Shared} {vs : List Value} {ns : List Int}
    (KX : K.In s₁.heap) (hns : s₁.heap.Ns mainGlobals mg) (hb : s₁.heap.Ns builtinsNs mb) (hbb : ∀ x : Str, x ≠ "__name__" → mb x = bootBuiltins x) (hlim : s₁.heap.NoLimit) (hg : s₁.gens = #[])
    (hT : ∀ p ∈ cs, s₁.heap.get? p.2 = some { cls := .none, data := .fields #[] }) (nT : ∀ p ∈ cs, K.lookup p.2 = none) (C : ∀ p ∈ cs, PySem.W.CodeHd s₁.heap p.1 p.2)
    (hbm : ∃ (bm : Addr) (ob : Obj), mg "__builtins__" = some (.ref bm) ∧ bm ≠ builtinsNs ∧ s₁.heap.get? bm = some ob ∧ ob.cls = .type "module" ∧ ob.dict = some builtinsNs ∧ ob.data = .plain)
    (ha : s₁.heap.get? a = some { cls := .type "list", data := .seq vs.toArray }) (hi : IntsAre vs ns) (hl : ns.length ≤ sizeLine) (hr : Room k callerA)
    (F : ∀ base : Heap, K.In base → base.Ns mainGlobals mg → (∀ p ∈ cs, TabB base mg p.1 p.2) → FnG P w K mg base CX k fa fd [x] sp) (hbind : ∀ (s : Shared) (u : Value), BindsTo s fd ⟨[u], []⟩ [(x, u)])
    (hsp : ∀ H : Hp, (∀ p ∈ cs, H p.2 = some (.tbl #[])) → SqL K H a (ns.map V.int) → sp [.ref a] H (fun v _ => v = .bl true) fun _ _ _ => False)
    (hCX : ∀ H e s', CX [] H s₁ (fun _ _ _ => False) e s' → False) :
    codeAny (model P w) callerA (.call (.ref fa) ⟨[.ref a], []⟩) (fun r s' => r = .ok (.ret (.bool true)) ∧ OldK s₁.heap s'.heap ∧ s'.os = s₁.os ∧ AllBare s'.gens) s₁ := by
  have rv := vals_ints hi
  have lenV := hi.length
  have isT : ∀ b : Addr, b ∈ cs.map (·.2) → s₁.heap.get? b = some { cls := .none, data := .fields #[] } := fun b hb => by
    obtain ⟨p, hp, e⟩ := List.mem_map.mp hb
    rw [← e]
    exact hT p hp
  have aT : a ∉ cs.map (·.2) := fun z => by
    have q := isT a z
    rw [ha] at q
    have z' : Data.seq vs.toArray _ = Data.fields #[] := congrArg Obj.data (Option.some.inj q)
    cases z'
  have memT : ∀ p ∈ cs, p.2 ∈ cs.map (·.2) := fun p hp => List.mem_map.mpr ⟨p, hp, rfl⟩
  -- from an abstract heap in which nothing but the script and the tables may be tracked
  have core : ∀ H : Hp, (∀ p ∈ cs, H p.2 = some (.tbl #[])) → (∀ b, H b = none ∨ b ∈ cs.map (·.2) ∨ ∃ o xs, H b = some (.frz o (.lst xs))) → SqL K H a (ns.map V.int) → HOk P w H s₁.heap → (∀ b, H b ≠ none → b = a ∨ b ∈ cs.map (·.2)) → (H a ≠ none → K.lookup a = none) →
      codeAny (model P w) callerA (.call (.ref fa) ⟨[.ref a], []⟩) (fun r s' => r = .ok (.ret (.bool true)) ∧ OldK s₁.heap s'.heap ∧ s'.os = s₁.os ∧ AllBare s'.gens) s₁ := by
    intro H hH hO hS hok hA hK
    have base_of : ∀ {b : Addr} {o : Obj}, s₁.heap.get? b = some o → H b = none → (hidT s₁.heap H).get? b = some o := fun e n => hidT_get e n
    have noD : ∀ {b : Addr} {o : Obj}, s₁.heap.get? b = some o → (∀ vs n, o.data ≠ .seq vs n) → o.data ≠ .fields #[] → H b = none := fun {b o} e h1 h2 => by
      cases q : H b with
      | none => rfl
      | some u =>
        rcases hA b (by rw [q]; simp) with e' | e'
        · rw [e', ha] at e
          cases e
          exact (h1 _ _ rfl).elim
        · rw [isT b e'] at e
          cases e
          exact (h2 rfl).elim
    have noA : ∀ {b : Addr} {o : Obj} {es : Array DictEntry} {ep : Nat}, s₁.heap.get? b = some o → o.data = .dict es ep → H b = none := fun {b o es ep} e d => by
      refine noD e (fun vs n z => ?_) fun z => ?_
      · rw [d] at z
        cases z
      · rw [d] at z
        cases z
    have nsK : ∀ {b : Addr} {m : Str → Option Value}, s₁.heap.Ns b m → (hidT s₁.heap H).Ns b m := fun {b m} ⟨o, es, ep, e, d, r⟩ => ⟨o, es, ep, base_of e (noA e d), d, r⟩
    have hKb : K.In (hidT s₁.heap H) := fun b o e => base_of (KX b o e) (by
      cases q : H b with
      | none => rfl
      | some u =>
        rcases hA b (by rw [q]; simp) with e' | e'
        · rw [e'] at e q
          rw [hK (by rw [q]; simp)] at e
          cases e
        · obtain ⟨p, hp, ep⟩ := List.mem_map.mp e'
          rw [← ep, nT p hp] at e
          cases e)
    have hM : L2.Mod K mg (hidT s₁.heap H) := ⟨hKb, nsK hns, ⟨mb, nsK hb, hbb⟩, let ⟨mc, h1, h2⟩ := hlim; ⟨mc, nsK h1, h2⟩⟩
    have TB : ∀ p ∈ cs, TabB (hidT s₁.heap H) mg p.1 p.2 := fun p hp => by
      have hTp := hT p hp
      refine ⟨?_, ?_, fun z => ?_⟩
      · obtain ⟨o, us, file, tf, flags, tg, inF, text, tt, e1, r1, r2, r3, r4, r5, r6, r7, r8, hne⟩ := C p hp
        refine ⟨o, us, file, tf, flags, tg, inF, text, tt, base_of e1 (noD e1 (fun vs n z => ?_) fun z => ?_), r1, r2, r3, r4, r5, r6, r7, r8, hne⟩
        · rw [r2] at z
          cases z
        · rw [r2] at z
          cases z
          simp at r3
      · obtain ⟨bm, ob, b1, b2, b3, b4, b5, b6⟩ := hbm
        have nG : bm ≠ mainGlobals := fun q => by
          obtain ⟨o, es, ep, e, hd, _⟩ := hns
          rw [q, e] at b3
          cases b3
          rw [hd] at b6
          cases b6
        have nP : bm ≠ p.2 := fun q => by
          rw [q, hTp] at b3
          cases b3
          cases b6
        refine ⟨bm, ob, b1, b2, nG, nP, base_of b3 (noD b3 (fun vs n z => ?_) fun z => ?_), b4, b5, b6⟩
        · rw [b6] at z
          cases z
        · rw [b6] at z
          cases z
      · obtain ⟨o, es, ep, e, hd, _⟩ := hns
        rw [z, hTp] at e
        cases e
        cases hd
    have e0 : Env0 P w K mg (hidT s₁.heap H) callerA [] s₁ H := ⟨rfl, hM, fun b o e => of_hidT e, Nat.le_of_eq (hidT_size _ _), trivial, fun b hb => absurd (show b ∈ ([] : List Addr) from hb) (by simp), hok, .of_eq hg⟩
    refine codeAny_mono ((F _ hKb (nsK hns) TB).run callerA [] s₁ H ⟨[.ref a], []⟩ [.ref a] [.ref a] _ _ rfl hr e0 (hbind s₁ (.ref a)) (.cons rfl .nil) (hsp H hH hS)) fun r s' h => ?_
    cases r with
    | error e => exact (hCX H e s' h).elim
    | ok fl =>
      cases fl with
      | next => exact False.elim h
      | brk => exact False.elim h
      | cont => exact False.elim h
      | ret u =>
        obtain ⟨v, H', os, bare, un, hok', r', q⟩ := h
        have q' : v = .bl true := q
        subst q'
        obtain rfl : u = Value.bool true := r'
        have key : ∀ b o, b ∉ cs.map (·.2) → s₁.heap.get? b = some o → s'.heap.get? b = some o := fun b o nb e => by
          cases q : H b with
          | none => exact un.keep b o e q (by intro z; exact absurd (show b ∈ ([] : List Addr) from z) (by simp)) (by simp)
          | some u =>
            rcases hO b with z | z | ⟨ob, xs, z⟩
            · rw [q] at z; cases z
            · exact absurd z nb
            · have z2 := un.frzs b ob _ z
              obtain ⟨e1, _⟩ := hok b _ z
              obtain ⟨e2, _⟩ := hok' b _ z2
              rw [e] at e1; cases e1
              exact e2
        have grown : ∀ p ∈ cs, ∃ more : Array Value, s'.heap.get? p.2 = some { cls := .none, data := .fields more } := fun p hp => by
          obtain ⟨more, z⟩ := un.tbls p.2 #[] (hH p hp)
          exact ⟨_, hok' p.2 _ z⟩
        refine ⟨rfl, ⟨fun b o e => ?_, fun b o e => ?_⟩, os, bare⟩
        · by_cases hb : b ∈ cs.map (·.2)
          · obtain ⟨p, hp, ep⟩ := List.mem_map.mp hb
            obtain ⟨more, hm⟩ := grown p hp
            rw [← ep] at e ⊢
            rw [hT p hp] at e
            cases e
            exact .inr (.inl ⟨((C p hp).tab (hT p hp)).isCodeTable, rfl, #[], more, rfl, by rw [Array.empty_append]; exact hm⟩)
          · exact .inl (key b o hb e)
        · by_cases hb : b ∈ cs.map (·.2)
          · obtain ⟨p, hp, ep⟩ := List.mem_map.mp hb
            obtain ⟨more, hm⟩ := grown p hp
            rw [← ep]
            exact ⟨_, hm⟩
          · exact ⟨o, key b o hb e⟩
  cases hk : K.lookup a with
  | some o =>
    have e := KX a o hk
    rw [ha] at e
    cases e
    refine core (fun b => if b ∈ cs.map (·.2) then some (.tbl #[]) else none) (fun p hp => if_pos (memT p hp)) (fun b => ?_) (.inr ⟨_, vs.toArray, _, hk, rfl, rfl, rfl, by rw [List.size_toArray, lenV]; exact hl, by simpa using rv⟩) (fun b u z => ?_) (fun b z => ?_) fun z => absurd (show (if a ∈ cs.map (·.2) then some (HO.tbl #[]) else none) = none from if_neg aT) z
    · by_cases hb : b ∈ cs.map (·.2)
      · exact .inr (.inl hb)
      · exact .inl (if_neg hb)
    · by_cases hb : b ∈ cs.map (·.2)
      · have z' := (if_pos hb).symm.trans z
        cases z'
        exact isT b hb
      · have z' := (if_neg hb).symm.trans z
        cases z'
    · by_cases hb : b ∈ cs.map (·.2)
      · exact .inr hb
      · exact absurd (if_neg hb) z
  | none =>
    refine core (fun b => if b = a then some (.frz { cls := .type "list", data := .seq vs.toArray } (.lst (ns.map V.int))) else if b ∈ cs.map (·.2) then some (.tbl #[]) else none) (fun p hp => (if_neg (show ¬ p.2 = a from fun z => aT (by rw [← z]; exact memT p hp))).trans (if_pos (memT p hp))) (fun b => ?_)
      (.inl (.inr ⟨{ cls := .type "list", data := .seq vs.toArray }, if_pos rfl⟩)) (fun b u z => ?_) (fun b z => ?_) fun _ => hk
    · by_cases hb : b = a
      · exact .inr (.inr ⟨_, _, if_pos hb⟩)
      · by_cases hb2 : b ∈ cs.map (·.2)
        · exact .inr (.inl hb2)
        · exact .inl ((if_neg hb).trans (if_neg hb2))
    · by_cases hb : b = a
      · have z' := (if_pos hb).symm.trans z
        cases z'
        rw [hb]
        exact ⟨ha, by rw [List.length_map]; exact hl, vs, _, rv, ha⟩
      · have z1 := (if_neg hb).symm.trans z
        by_cases hb2 : b ∈ cs.map (·.2)
        · have z' := (if_pos hb2).symm.trans z1
          cases z'
          exact isT b hb2
        · have z' := (if_neg hb2).symm.trans z1
          cases z'
    · by_cases hb : b = a
      · exact .inl hb
      · by_cases hb2 : b ∈ cs.map (·.2)
        · exact .inr hb2
        · exact absurd ((if_neg hb).trans (if_neg hb2)) z
/-- what is known of the law's promise at the head's heap h -/
def LawAtG (l : PySem.W.OpenLaw) (w : World) (K : PySem.W.Frag) (CX : CXT) (k n : Nat) (x : Str) (mg : Str → Option Value) (fa : Addr) (h : Heap) : Prop :=
  ∃ (fd : FuncData) (cs : List (Addr × Addr)) (sp : Sp), (∀ p ∈ cs, h.get? p.2 = some { cls := .none, data := .fields #[] }) ∧ (∀ p ∈ cs, K.lookup p.2 = none) ∧ (∀ p ∈ cs, PySem.W.CodeHd h p.1 p.2) ∧ (∀ (s : Shared) (u : Value), BindsTo s fd ⟨[u], []⟩ [(x, u)]) ∧
    (∀ (H : Hp) (a : Addr) (ns : List Int), ns.length ≤ n → (∀ z ∈ ns, Builtin.Int.intBits z ≤ 1048576) → (∀ p ∈ cs, H p.2 = some (.tbl #[])) → SqL K H a (ns.map V.int) → sp [.ref a] H (fun v _ => v = .bl true) fun _ _ _ => False) ∧
    ∀ base : Heap, K.In base → base.Ns mainGlobals mg → (∀ p ∈ cs, TabB base mg p.1 p.2) → FnG l.prog w K mg base CX k fa fd [x] sp
theorem walk_ofTG {l : PySem.W.OpenLaw} {n k : Nat} {q : Program} {loose : List Str} {XP : (Str → Option Value) → Heap → Prop} {YP : World → Heap → Prop} {d : DefRec} {K : Params → PySem.W.Frag} {CX : World → CXT} {x : Str}
    (hn : l.most = some n) (hn2 : n ≤ sizeLine) (hdf : d.params.defaults = []) (hr : Room k callerA) (hY : ∀ (w : World) (h : Heap), YP w h → (K w.params).In h)
    (F : ∀ (w : World) (mg : Str → Option Value) (fa : Addr) (h : Heap), YP w h → (K w.params).In h → h.Ns mainGlobals mg → mg d.name = some (.ref fa) → LawAtG l w (K w.params) (CX w) k n x mg fa h)
    (hCX : ∀ (w : World) (H : Hp) (s : Shared) (e : Value) (s' : Shared), CX w [] H s (fun _ _ _ => False) e s' → False) :
    PySem.W.WalkO q loose XP YP l.row.toRowW d [] (fun f vs => PySem.call f vs) := by
  refine Att.attach_callB hn hdf fun w s₀ s₁ mg mb fa o pm cd doc a vs ns G Y ho hd hcd hmg hobj hints hlen hbits hg => ?_
  have KX := hY w _ Y
  obtain ⟨fd, cs, sp, hT, nT, C, hb, hsp, hF⟩ := F w mg fa _ Y KX G.T.g hmg
  exact law_callTG KX G.T.g G.T.b G.T.builtins G.T.nolimit hg hT nT C G.T.bmain hobj hints (Nat.le_trans hlen hn2) hr hF hb (fun H hH hS => hsp H a ns hlen hbits hH hS) fun H e s' => hCX w H s₁ e s'
end DL

/-! ## DL19: the script as it is read -/
namespace DL
open PySem PySem.Spec PyProof.Rows L2
open Evl (Ex)
def peekS (ρ : Env) (i : Nat) : Option (List D) := match ρ[i]? with
  | some (some (.seq ds)) => some ds
  | _ => none
theorem peekS_some {ρ : Env} {i : Nat} {ds : List D} (h : peekS ρ i = some ds) : ρ[i]? = some (some (.seq ds)) := by
  unfold peekS at h
  split at h
  · rename_i ds' e
    cases h
    exact e
  · cases h
def getS (i : Nat) : M (List D) := fun ρ => opt (peekS ρ i) ρ
def okM : Rz → M D
  | .ok d => M.pure d
  | _ => M.bad
section
variable {Tb : TbT} {X : Cx} {W : WX} {lo hi : Option Expr} {fl fh : M (Option Int)} {p p2 pos : Pos}
/-- x[lo:hi], x the script -/
theorem de_slSeq (i : Nat) {x : Str} {px : Pos} (hl : DO Tb X W lo fl) (hh : DO Tb X W hi fh) (hN : X.N[i]? = some x := by rfl) (hv : Vis X.env.scope x := by first | exact Or.inl rfl | exact Or.inr (Or.inl rfl) | exact Or.inr (Or.inr rfl)) (hd : (x == ("__debug__" : Str)) = false := by decide)
    (hcd : (x == ("__classdict__" : Str)) = false := by decide) : DE Tb X W (.Subscript (.Name x px) (.Slice lo hi none p2) pos) (M.bind (getS i) fun ds => M.bind fl fun l => M.bind fh fun u => M.pure (.list (cutD ds l u))) :=
  pe_imp (pe_slice sl_list (pe_var hN hv hd hcd) hl.po hh.po) fun σ H Q ⟨P, F0, B, Fz, ρ, r, h⟩ => by
    obtain ⟨ds, h0, k0⟩ := (h.bind).opt
    obtain ⟨a, vs, h1, h2, h3⟩ := r.seq i ds (peekS_some h0)
    refine ⟨.ref a, h1, P, F0, B, Fz, ρ, r, (k0 H Fz r (Ex.refl _)).bind.imp fun l ρ2 H2 F2 r2 e2 h2' => ⟨P, F0, B, F2, ρ2, r2, h2'.bind.imp fun u ρ3 H3 F3 r3 e3 h3' => ?_⟩⟩
    have k := h3'.now r3
    exact ⟨a, vs, rfl, Evl.ex_l r3.ef (Evl.ex_l e3 (Evl.ex_l e2 h2)), fun z hz => by
      have o : Out F3 H3 (.list (cutD ds l u)) Q := outOf r3 fun H' F' r' e' => h3' H' F' r' e'
      exact o.lst r3.ef hz ((((h3.mono e2).mono e3)).cut _ _)⟩
/-- f(x), x the script -/
theorem de_callSeq (i : Nat) {x y : Str} {py : Pos} {k : Nat} {g : Addr} {fd : FuncData} {ps : List Str} {F : List D → Rz} (G : FnOk X.prog X.w X.K X.mg X.base (L2N.CX X.prog X.w) k g fd ps (spS Tb.l X.K F)) (hr : Room k X.A) (hg : Gl X x) (hm : X.mg x = some (.ref g)) (hk : PySem.W.keepIn X.K (.ref g) = true)
    (hb : Binds X.K fd ps []) (hN : X.N[i]? = some y := by rfl) (hv : Vis X.env.scope y := by first | exact Or.inl rfl | exact Or.inr (Or.inl rfl) | exact Or.inr (Or.inr rfl)) (hd : (y == ("__debug__" : Str)) = false := by decide)
    (hcd : (y == ("__classdict__" : Str)) = false := by decide) (hdb : (x == ("__debug__" : Str)) = false := by decide) (he : starEach [Expr.Name y py] X.env = (false, eval (Expr.Name y py) X.env) :: starEach [] X.env := by rfl)
    (hpl : (backTo pos (starEach [] X.env)).any (·.1) = false := by rfl) : DE Tb X W (.Call (.Name x p) [.Name y py] [] pos) (M.bind (getS i) fun ds => okM (F ds)) :=
  pe_imp (pe_callS (E := fun _ _ _ _ => False) G hr hg hm hk hb (fun σ pins H s e s' I c => by
    obtain ⟨_, _, _, _, _, _, _, _, _, _, _, _, z⟩ := c
    exact z.elim) (pa_cons (pe_var hN hv hd hcd) pa_nil he) hdb he hpl) fun σ H Q ⟨P, F0, B, Fz, ρ, r, h⟩ => by
    obtain ⟨ds, h0, k0⟩ := (h.bind).opt
    obtain ⟨a, vs, h1, h2, h3⟩ := r.seq i ds (peekS_some h0)
    refine ⟨.ref a, h1, r.tab, Fz, a, vs, ds, ?_⟩
    cases hF : F ds with
    | bad => rw [hF] at k0; exact (k0 H Fz r (Ex.refl _)).elim
    | er c =>
      rw [hF] at k0
      exact (k0 H Fz r (Ex.refl _)).elim
    | ok d =>
      rw [hF] at k0
      exact ⟨d, rfl, r.ef, h2, h3, rfl, outOf r fun H' F' r' e' => (k0 H' F' r' e').now r'⟩
variable {b : Expr} {fb : M D}
/-- x op e, x a list of one's own -/
theorem dt_cmpO (i : Nat) {x : Str} {px : Pos} {op : CmpOp} {g : D → D → Option D} (ho : OpD X (compareOp op) g) (hb : DE Tb X W b fb) (hm : behindInMarks op b = false) (hN : X.N[i]? = some x := by rfl) (hv : Vis X.env.scope x := by first | exact Or.inl rfl | exact Or.inr (Or.inl rfl) | exact Or.inr (Or.inr rfl)) (hd : (x == ("__debug__" : Str)) = false := by decide)
    (hcd : (x == ("__classdict__" : Str)) = false := by decide) : DT Tb X W (.Compare (.Name x px) [op] [b] pos) (M.bind (getO i) fun _ => M.bind fb fun y => M.bind (getO i) fun ds => opt ((g (.list ds) y).bind boolOf)) :=
  pt_imp (pt_cmpR ho (pe_var hN hv hd hcd) hb hm) fun σ H Q ⟨P, F0, B, Fz, ρ, r, h⟩ => by
    obtain ⟨ds0, h0, k0⟩ := (h.bind).opt
    obtain ⟨p, vs, hp, _⟩ := r.peek h0
    refine ⟨.ref p, hp, P, F0, B, Fz, ρ, r, (k0 H Fz r (Ex.refl _)).bind.imp fun y ρ1 H1 F1 r1 e1 h1 v hv => ?_⟩
    obtain ⟨ds, hds, k1⟩ := (h1.bind).opt
    obtain ⟨p', vs', hp', _, _, hl, hvs⟩ := r1.peek hds
    rw [hp] at hp'
    cases hp'
    have k2 := k1 H1 F1 r1 (Ex.refl _)
    obtain ⟨t, ht, k⟩ := k2.opt
    cases hg : g (.list ds) y with
    | none => rw [hg] at ht; cases ht
    | some d =>
      rw [hg, Option.bind_some] at ht
      have hb := boolOf_some ht
      subst hb
      refine ⟨H1, .list ds, y, _, Ex.refl _, .lst hl (hvs.mono r1.ef), hv.mono r1.ef, hg, fun u H2 F2 eH _ _ _ hu => ?_⟩
      cases hu.bl_of
      exact ⟨t, rfl, k H2 F1 (r1.heap eH) (Ex.refl _)⟩
def catD (ds : List D) : D → Option (List D)
  | .list es => if ds.length + es.length ≤ lim then some (ds ++ es) else none
  | _ => none
/-- x + e, x a list of one's own: a new list -/
theorem dn_catO (i : Nat) {x : Str} {px : Pos} (hb : DE Tb X W b fb) (hN : X.N[i]? = some x := by rfl) (hv : Vis X.env.scope x := by first | exact Or.inl rfl | exact Or.inr (Or.inl rfl) | exact Or.inr (Or.inr rfl)) (hd : (x == ("__debug__" : Str)) = false := by decide)
    (hcd : (x == ("__classdict__" : Str)) = false := by decide) : DN Tb X W (.BinOp (.Name x px) .Add b pos) (M.bind (getO i) fun _ => M.bind fb fun y => M.bind (getO i) fun ds => opt (catD ds y)) :=
  pe_imp (pe_op op_cat (pe_var hN hv hd hcd) hb) fun σ H Q ⟨P, F0, B, Fz, ρ, r, h⟩ => by
    obtain ⟨ds0, h0, k0⟩ := (h.bind).opt
    obtain ⟨p, vs, hp, _⟩ := r.peek h0
    refine ⟨.ref p, hp, P, F0, B, Fz, ρ, r, (k0 H Fz r (Ex.refl _)).bind.imp fun y ρ1 H1 F1 r1 e1 h1 v hv => ?_⟩
    obtain ⟨ds, hds, k1⟩ := (h1.bind).opt
    obtain ⟨p', vs', hp', _, _, hl, hvs⟩ := r1.peek hds
    rw [hp] at hp'
    cases hp'
    have k2 := k1 H1 F1 r1 (Ex.refl _)
    obtain ⟨zs, hz, k⟩ := k2.opt
    unfold catD at hz
    split at hz
    · rename_i es
      split at hz
      · rename_i hle
        cases hz
        obtain ⟨b', ws, rfl, hb', hws⟩ := hv.lst_of
        exact ⟨p, b', vs', ws, rfl, rfl, hl, r1.ef _ _ hb', lim_ok (by rw [hvs.length, hws.length]; exact hle), fun q hq => (outOfN r1 k).here r1.ef hq (hvs.append hws)⟩
      · cases hz
    · cases hz
end
def postS (v : Env → Env) (g : Env → SR) : Env → SR := fun ρ => match g ρ with
  | .nx ρ' => .nx (v ρ')
  | x => x
theorem ds_post {Tb : TbT} {X : Cx} {W : WX} {st : Stmt} {g : Env → SR} {v : Env → Env} (hv : Sound v) (h : DS Tb X W st g) : DS Tb X W st (postS v g) :=
  ps_imp h fun Dn σ H ⟨P, F0, B, Fz, ρ, r, q⟩ => ⟨P, F0, B, Fz, ρ, r, by
    unfold postS at q
    cases hg : g ρ with
    | nx ρ' =>
      simp only [hg] at q
      intro σ' H' F' r' e'
      obtain ⟨F2, e2, r2⟩ := hv _ _ _ _ _ _ _ _ r'
      exact q σ' H' F2 r2 (e'.trans e2)
    | bk ρ' => simp only [hg] at q; exact q
    | ct ρ' => simp only [hg] at q; exact q
    | rt d ρ' => simp only [hg] at q; exact q
    | er c ρ' => simp only [hg] at q; exact q
    | bad => simp only [hg] at q; exact q⟩
theorem frz_set (i : Nat) (ds : List D) (ρ : Env) : frz i (ρ.set i (some (.own false (.list ds)))) = ρ.set i (some (.val (.list ds))) := by
  unfold frz
  by_cases h : i < ρ.length
  · rw [List.getElem?_set_self h]
    show (ρ.set i _).set i _ = _
    rw [List.set_set]
  · rw [List.set_eq_of_length_le (by omega), List.getElem?_eq_none (by omega), List.set_eq_of_length_le (by omega)]
/-- name = a comprehension, a value -/
theorem ds_setLcV {Tb : TbT} {X : Cx} {W : WX} {st : Stmt} {fl : M (List D)} (i : Nat) (h : DS Tb X W st (sM fl fun ds ρ => .nx (ρ.set i (some (.own false (.list ds)))))) : DS Tb X W st (sM fl fun ds ρ => .nx (ρ.set i (some (.val (.list ds))))) := by
  have e : (sM fl fun ds ρ => .nx (ρ.set i (some (.val (.list ds))))) = postS (frz i) (sM fl fun ds ρ => .nx (ρ.set i (some (.own false (.list ds))))) := by
    funext ρ
    unfold postS DL.sM
    cases fl ρ with
    | ok ds ρ' => exact congrArg SR.nx (frz_set i ds ρ').symm
    | er c ρ' => rfl
    | bad => rfl
  rw [e]
  exact ds_post (snd_frz i) h
end DL

/-! ## DL20: what the top has written -/
namespace DL
open PySem PySem.Spec PyProof.Rows L2
/-- the def x stands at f -/
structure Has (K : Frg) (mg : Str → Option Value) (x : Str) (st : Stmt) (ps : List Str) (f : Addr) (fd : FuncData) : Prop where
  F : Fun K x x st f fd
  g : mg x = some (.ref f)
  k : PySem.W.keepIn K (.ref f) = true
  b : Binds K fd ps []
/-- the class x, without an __init__ of its own, under ValueError, stands at C -/
structure HasC (K : Frg) (mg : Str → Option Value) (x : Str) (C : Addr) : Prop where
  g : mg x = some (.ref C)
  k : PySem.W.keepIn K (.ref C) = true
  q : PySem.W.excIn K C [.type "ValueError", .type "Exception", .type "BaseException", .type "object"] "ValueError.__new__" = true
  s : PySem.W.subIn K (.ref C) (.type "BaseException") = some true
  t : PySem.W.typeIn K (.ref C) = some (.type "type")
theorem hu_n (n : Nat) {k : Nat} {A : Around} (hr : Room k A) (hn : n ≤ 200 := by decide) : A.units + n < cLine := by
  have := hr.un
  omega
/-- the names of the outcomes -/
def kn (c : Str) : Option Str := if c = "NotAllowed" then some "refused" else if c = "TooLarge" then some "large" else if c = "Missing" then some "missing" else none
/-- the classes that told asks after -/
structure HasK (K : Frg) (mg : Str → Option Value) (CS d0 d1 d2 d3 d4 d5 : Addr) : Prop where
  s : mg "SlipError" = some (.ref CS)
  m0 : mg "NotAllowed" = some (.ref d0)
  m1 : mg "TooLarge" = some (.ref d1)
  m2 : mg "Missing" = some (.ref d2)
  m3 : mg "BadPaper" = some (.ref d3)
  m4 : mg "BadForm" = some (.ref d4)
  m5 : mg "Broken" = some (.ref d5)
  k0 : IsK K CS [d0, d1, d2, d3, d4, d5] d0 0
  k1 : IsK K CS [d0, d1, d2, d3, d4, d5] d1 1
  k2 : IsK K CS [d0, d1, d2, d3, d4, d5] d2 2
theorem HasK.kn {K : Frg} {mg : Str → Option Value} {CS d0 d1 d2 d3 d4 d5 : Addr} (h : HasK K mg CS d0 d1 d2 d3 d4 d5) (c n : Str) (C : Addr) (h1 : DL.kn c = some n) (h2 : mg c = some (.ref C)) : ∃ i, i < 6 ∧ n = kindName i ∧ IsK K CS [d0, d1, d2, d3, d4, d5] C i := by
  unfold DL.kn at h1
  split at h1
  · rename_i e
    subst e
    cases h1
    rw [h.m0] at h2
    cases h2
    exact ⟨0, by decide, rfl, h.k0⟩
  · split at h1
    · rename_i e
      subst e
      cases h1
      rw [h.m1] at h2
      cases h2
      exact ⟨1, by decide, rfl, h.k1⟩
    · split at h1
      · rename_i e
        subst e
        cases h1
        rw [h.m2] at h2
        cases h2
        exact ⟨2, by decide, rfl, h.k2⟩
      · cases h1
theorem code_of {K : Frg} {f : Addr} {oc od kV doc pm an ct osl oc' od' kV' doc' pm' an' ct' osl' dV dV'} {x q : Str} {a a' : Arguments} {b b' : List Stmt} {s s' : Scope} {cdv cdv' : Value} (h1 : K.lookup f = some ⟨oc, od, .func (PySem.W.fnOf x q a b s dV kV doc pm an cdv ct), osl⟩) (h2 : K.lookup f = some ⟨oc', od', .func (PySem.W.fnOf x q a' b' s' dV' kV' doc' pm' an' cdv' ct'), osl'⟩) : cdv = cdv' := by
  rw [h1] at h2
  injection h2 with h2
  injection h2 with _ _ h3 _
  injection h3 with h3
  unfold PySem.W.fnOf at h3
  injection h3
section
variable {Tl : List (Addr × Str)} {X : Cx} {W : WX}
/-- told(lambda: e), told standing as the text has it -/
theorem de_toldH {x : Str} {st : Stmt} {g c P CS d0 d1 d2 d3 d4 d5 : Addr} {fd : FuncData} {k : Nat} {Ng : List Str} {params : Arguments} {body : Expr} {scope : Scope} {f : M D} {p lpos pos : Pos} (C : HasK X.K X.mg CS d0 d1 d2 d3 d4 d5) (h : Has X.K X.mg x st ["call"] g fd) (Sg : FnScope Ng ["call"] (defScope st))
    (hG : ∀ cdv, LamN.GivesToN X Ng x (defScope st) g cdv (defBody st) "call" (X.env.qual ++ "<lambda>") (TTold X.K CS [d0, d1, d2, d3, d4, d5])) (hNg : Ng[0]? = some ("call" : Str)) (hva : Vis (defScope st) "call")
    (TB : LamX.TabB X.base X.mg c P) (hcode : X.env.code = .ref c) (hTl : Tl = [(P, X.env.qual ++ "<lambda>")]) (hr : Room (k + 2) X.A) (hg : Gl X x) (L : LamX.LamS X.env.scope scope) (hdef : defaultsOf params X.env = ([], []))
    (hbind : ∀ (q : Str) (cl : List (Str × Addr)) (pm cv ctv : Value), bindArgs (PySem.W.kla_fn "<lambda>" q params body scope cl pm cv ctv) ⟨[], []⟩ = pure [])
    (hbody : ∀ (A : Around) (outer : List PySem.Env) (s : Shared) (H : Hp) (E : XK) (f' c' : Addr), Room k (A.deeper (LamX.lamEnv X scope s.heap.objs.size f' c')) → DE ⟨Tl, true⟩ (LamN.lamN X A outer s H E scope f' c') (fun cls d _ H => E cls d H) body f)
    (hdb : (x == ("__debug__" : Str)) = false := by decide) : DE ⟨Tl, true⟩ X W (.Call (.Name x p) [.Lambda params body scope lpos] [] pos) (toldR kn f) := by
  obtain ⟨oc, od, kV, doc, pm, an, cdv, ct, osl, rfl, lk, hcd⟩ := h.F.ex
  subst hTl
  exact de_told (fun c n C' h1 h2 => C.kn c n C' h1 h2) hg h.g h.k lk hcd h.b Sg hNg hva (hG cdv) TB hcode List.mem_cons_self (fun q hq _ => by rw [List.mem_singleton.mp hq]) hr L hdef hbind hbody hdb
end
theorem law_start {K : Frg} {n : Nat} {c P0 : Addr} {q : Str} (nT : K.lookup P0 = none) (H : Hp) (a : Addr) (ns : List Int) (hl : ns.length ≤ n) (hb : ∀ z ∈ ns, Builtin.Int.intBits z ≤ 1048576) (hH : ∀ p ∈ [(c, P0)], H p.2 = some (.tbl #[])) (hS : SqL K H a (ns.map V.int)) :
    spLaw [(P0, q)] K n [.ref a] H (fun v _ => v = .bl true) fun _ _ _ => False := by
  have h0 : H P0 = some (.tbl #[]) := hH (c, P0) List.mem_cons_self
  refine ⟨fun p hp => ?_, a, ns, rfl, hl, hb, hS, fun t ht e => ?_, fun _ => rfl⟩
  · rw [List.mem_singleton.mp hp]
    exact LamX.TabS.nil h0
  · rw [List.mem_singleton.mp ht] at e
    have e : P0 = a := e
    subst e
    rcases hS with h | ⟨o, its, m, hk, _⟩
    · rcases h with h | ⟨o, h⟩
      · rw [h0] at h; cases h
      · rw [h0] at h; cases h
    · rw [nT] at hk; cases hk
theorem hcx {P : Program} {w : World} (H : Hp) (s : Shared) (e : Value) (s' : Shared) (h : L2N.CX P w [] H s (fun _ _ _ => False) e s') : False := by
  obtain ⟨_, _, _, _, _, _, _, _, _, _, _, _, z⟩ := h
  exact z
end DL

/-! ## DL21: plain facts for the mathematics; the shared defs of every law -/
namespace DL
open PySem PySem.Spec PyProof.Rows L2
theorem at0 {α : Type} (x : α) (l : List α) : L2.atI (x :: l) 0 = some x := by
  unfold L2.atI L2.ixN
  simp
theorem at1 {α : Type} (x y : α) (l : List α) : L2.atI (x :: y :: l) 1 = some y := by
  unfold L2.atI L2.ixN
  have h : (1 : Int) < ((x :: y :: l).length : Nat) := by simp only [List.length_cons]; omega
  rw [if_pos (by decide), if_pos h]
  rfl
theorem at2 {α : Type} (x y z : α) (l : List α) : L2.atI (x :: y :: z :: l) 2 = some z := by
  unfold L2.atI L2.ixN
  have h : (2 : Int) < ((x :: y :: z :: l).length : Nat) := by simp only [List.length_cons]; omega
  rw [if_pos (by decide), if_pos h]
  rfl
theorem ix1 : L2.ixN 2 1 = some 1 := rfl
theorem at_nat {α : Type} {l : List α} {i : Int} (h0 : 0 ≤ i) (h1 : i < l.length) : L2.atI l i = l[i.toNat]? := by
  unfold L2.atI L2.ixN
  rw [if_pos h0, if_pos h1]
  rfl
theorem at_n {α : Type} (l : List α) (i : Nat) : L2.atI l (i : Int) = l[i]? := by
  by_cases h : i < l.length
  · rw [at_nat (by omega) (by omega)]
    rfl
  · unfold L2.atI L2.ixN
    rw [if_pos (by omega), if_neg (by omega), List.getElem?_eq_none (by omega)]
    rfl
theorem mulOk_l {i j : Int} (h : -1000000000 ≤ i ∧ i ≤ 1000000000) : mulOk i j = true := by
  unfold mulOk
  rw [Bool.or_eq_true, decide_eq_true_eq, decide_eq_true_eq]
  omega
theorem mulOk_r {i j : Int} (h : -1000000000 ≤ j ∧ j ≤ 1000000000) : mulOk i j = true := by
  unfold mulOk
  rw [Bool.or_eq_true, decide_eq_true_eq, decide_eq_true_eq]
  omega
/-- the state of the draws: numbers, how many were drawn -/
def Good (n : Nat) (s : List D) : Prop := ∃ (ns : List Int) (c : Int), s = [.list (ns.map .int), .int c] ∧ 0 < ns.length ∧ ns.length ≤ 100000 ∧ 0 ≤ c ∧ c ≤ n
theorem Good.mono {n m : Nat} {s : List D} (h : Good n s) (e : n ≤ m) : Good m s := by
  obtain ⟨ns, c, h1, h2, h3, h4, h5⟩ := h
  exact ⟨ns, c, h1, h2, h3, h4, by omega⟩
theorem at_emod {ns : List Int} {c : Int} (h : 0 < ns.length) : ∃ z, L2.atI (ns.map PyData.int) (c % (ns.length : Int)) = some (.int z) := by
  have h1 := Int.emod_nonneg c (show (ns.length : Int) ≠ 0 by omega)
  have h2 := Int.emod_lt_of_pos c (show (0 : Int) < ns.length by omega)
  rw [at_nat h1 (by rw [List.length_map]; exact h2), List.getElem?_map, List.getElem?_eq_getElem (by omega)]
  exact ⟨_, rfl⟩
theorem forS_nil {ws : List Nat} {b : D → DL.Env → Option DL.Env} {g : DL.Env → SR} {ρ : DL.Env} : forS ws b g [] ρ = .nx ρ := rfl
theorem forS_nx {ws : List Nat} {b : D → DL.Env → Option DL.Env} {g : DL.Env → SR} {d : D} {r : List D} {ρ ρ1 ρ2 : DL.Env} (h1 : b d ρ = some ρ1) (h2 : g ρ1 = .nx ρ2) : forS ws b g (d :: r) ρ = forS ws b g r (wipeE ws ρ2) := by
  rw [forS, h1]
  dsimp only
  rw [h2]
theorem forS_bk {ws : List Nat} {b : D → DL.Env → Option DL.Env} {g : DL.Env → SR} {d : D} {r : List D} {ρ ρ1 ρ2 : DL.Env} (h1 : b d ρ = some ρ1) (h2 : g ρ1 = .bk ρ2) : forS ws b g (d :: r) ρ = .nx (wipeE ws ρ2) := by
  rw [forS, h1]
  dsimp only
  rw [h2]
theorem forS_rt {ws : List Nat} {b : D → DL.Env → Option DL.Env} {g : DL.Env → SR} {d x : D} {r : List D} {ρ ρ1 ρ2 : DL.Env} (h1 : b d ρ = some ρ1) (h2 : g ρ1 = .rt x ρ2) : forS ws b g (d :: r) ρ = .rt x ρ2 := by
  rw [forS, h1]
  dsimp only
  rw [h2]
theorem forS_er {ws : List Nat} {b : D → DL.Env → Option DL.Env} {g : DL.Env → SR} {d : D} {c : Str} {r : List D} {ρ ρ1 ρ2 : DL.Env} (h1 : b d ρ = some ρ1) (h2 : g ρ1 = .er c ρ2) : forS ws b g (d :: r) ρ = .er c ρ2 := by
  rw [forS, h1]
  dsimp only
  rw [h2]
theorem eqB_int (i j : Int) : eqB (.int i) (.int j) = some (decide (i = j)) := by simp [eqB]
theorem eqB_str (i j : Str) : eqB (.str i) (.str j) = some (decide (i = j)) := by simp [eqB]
theorem cut63 {ds : List D} (h : ds.length ≤ 63) : DL.cutD ds none (some 63) = ds := by
  unfold DL.cutD
  rw [show HT.sIx ds.length 0 none = 0 from rfl, show HT.sIx ds.length ds.length (some 63) = min 63 ds.length from HT.sIx_nat _ _ 63, List.drop_zero, Nat.sub_zero, List.take_of_length_le (by omega)]
/-! ### comprehensions -/
theorem lcS_inv {vs : List Nat} {b : D → DL.Env → Option DL.Env} {e : M D} (N : Nat) (J : Nat → DL.Env → Prop) (Pv : D → Prop) : ∀ (items acc : List D) (n : Nat) (ρ : DL.Env), n + items.length ≤ N → (∀ n d ρ, n < N → d ∈ items → J n ρ → ∃ ρ1 v ρ3, b d ρ = some ρ1 ∧ e ρ1 = .ok v ρ3 ∧ J (n + 1) (wipeE vs ρ3) ∧ Pv v) → J n ρ →
    ∃ ws ρ', lcS vs b (M.pure true) e acc items ρ = .ok (acc ++ ws) ρ' ∧ ws.length = items.length ∧ (∀ w ∈ ws, Pv w) ∧ J (n + items.length) ρ'
  | [], acc, n, ρ, _, _, hj => ⟨[], ρ, by rw [lcS, List.append_nil], rfl, nofun, hj⟩
  | d :: items, acc, n, ρ, hN, h, hj => by
    rw [List.length_cons] at hN
    obtain ⟨ρ1, v, ρ3, h1, h2, h3, h4⟩ := h n d ρ (by omega) List.mem_cons_self hj
    obtain ⟨ws, ρ', e1, e2, e3, e4⟩ := lcS_inv N J Pv items (acc ++ [v]) (n + 1) (wipeE vs ρ3) (by omega) (fun n d ρ hn hd => h n d ρ hn (List.mem_cons_of_mem _ hd)) h3
    refine ⟨v :: ws, ρ', ?_, by rw [List.length_cons, List.length_cons, e2], fun w hw => ?_, by rw [List.length_cons, show n + (items.length + 1) = n + 1 + items.length by omega]; exact e4⟩
    · rw [lcS, h1]
      dsimp only [M.pure]
      rw [h2]
      dsimp only
      rw [e1, List.append_assoc]
      rfl
    · rcases List.mem_cons.mp hw with z | z
      · rw [z]; exact h4
      · exact e3 w z
theorem lcS_fm {vs : List Nat} {b : D → DL.Env → Option DL.Env} {t : M Bool} {e : M D} {p : D → Bool} {f : D → D} {ρ : DL.Env} : ∀ (items acc : List D), (∀ d ∈ items, ∃ ρ1 ρ2, b d ρ = some ρ1 ∧ t ρ1 = .ok (p d) ρ2 ∧ wipeE vs ρ2 = ρ ∧ (p d = true → ∃ ρ3, e ρ2 = .ok (f d) ρ3 ∧ wipeE vs ρ3 = ρ)) →
    lcS vs b t e acc items ρ = .ok (acc ++ (items.filter p).map f) ρ
  | [], acc, _ => by rw [lcS]; simp
  | d :: items, acc, h => by
    obtain ⟨ρ1, ρ2, h1, h2, h3, h4⟩ := h d List.mem_cons_self
    have ih := fun acc => lcS_fm items acc (fun d hd => h d (List.mem_cons_of_mem _ hd))
    rw [lcS, h1]
    dsimp only
    rw [h2]
    cases hp : p d with
    | false =>
      dsimp only
      rw [h3, ih, List.filter_cons_of_neg (by simp [hp])]
    | true =>
      obtain ⟨ρ3, h5, h6⟩ := h4 hp
      dsimp only
      rw [h5]
      dsimp only
      rw [h6, ih, List.filter_cons_of_pos hp, List.map_cons, List.append_assoc]
      rfl
theorem lcS_map {vs : List Nat} {b : D → DL.Env → Option DL.Env} {e : M D} {f : D → D} {ρ : DL.Env} (items acc : List D) (h : ∀ d ∈ items, ∃ ρ1 ρ3, b d ρ = some ρ1 ∧ e ρ1 = .ok (f d) ρ3 ∧ wipeE vs ρ1 = ρ ∧ wipeE vs ρ3 = ρ) :
    lcS vs b (M.pure true) e acc items ρ = .ok (acc ++ items.map f) ρ := by
  have z := lcS_fm (vs := vs) (b := b) (t := M.pure true) (e := e) (p := fun _ => true) (f := f) (ρ := ρ) items acc (fun d hd => by
    obtain ⟨ρ1, ρ3, h1, h2, h3, h4⟩ := h d hd
    exact ⟨ρ1, ρ1, h1, rfl, h3, fun _ => ⟨ρ3, h2, h4⟩⟩)
  rw [z, List.filter_eq_self.mpr (fun _ _ => rfl)]
theorem choose_list {α : Type} {f : α → D} {p : α → Prop} : ∀ {ws : List D}, (∀ w ∈ ws, ∃ r, w = f r ∧ p r) → ∃ rs : List α, ws = rs.map f ∧ ∀ r ∈ rs, p r
  | [], _ => ⟨[], rfl, nofun⟩
  | w :: ws, h => by
    obtain ⟨r, rfl, hr⟩ := h w List.mem_cons_self
    obtain ⟨rs, rfl, hs⟩ := choose_list (f := f) (p := p) (ws := ws) fun w hw => h w (List.mem_cons_of_mem _ hw)
    exact ⟨r :: rs, rfl, fun x hx => (List.mem_cons.mp hx).elim (fun e => e ▸ hr) (hs x)⟩
theorem rangeL_int (n : Nat) : rangeL 0 n = ((List.range n).map fun (i : Nat) => (i : Int)).map PyData.int := by
  unfold rangeL
  rw [List.map_map]
  refine List.map_congr_left fun i _ => ?_
  show PyData.int (0 + (i : Int)) = PyData.int (i : Int)
  rw [Int.zero_add]
end DL

/-! ## DL22: more plain facts -/
namespace DL
open PySem PySem.Spec PyProof.Rows L2
/-- a comprehension that changes nothing -/
theorem lcS_ro {α : Type} {vs : List Nat} {b : D → DL.Env → Option DL.Env} {t : M Bool} {e : M D} {ρ : DL.Env} (it : α → D) (ρ1 : α → DL.Env) (p : α → Bool) (f : α → D) (acc : List D) : ∀ (xs : List α) (acc : List D), (∀ x ∈ xs, b (it x) ρ = some (ρ1 x) ∧ t (ρ1 x) = .ok (p x) (ρ1 x) ∧ (p x = true → e (ρ1 x) = .ok (f x) (ρ1 x)) ∧ wipeE vs (ρ1 x) = ρ) →
    lcS vs b t e acc (xs.map it) ρ = .ok (acc ++ (xs.filter p).map f) ρ
  | [], acc, _ => by rw [List.map_nil, lcS]; simp
  | x :: xs, acc, h => by
    obtain ⟨h1, h2, h3, h4⟩ := h x List.mem_cons_self
    have ih := fun acc => lcS_ro it ρ1 p f acc xs acc (fun d hd => h d (List.mem_cons_of_mem _ hd))
    rw [List.map_cons, lcS, h1]
    dsimp only
    rw [h2]
    cases hp : p x with
    | false =>
      dsimp only
      rw [h4, ih, List.filter_cons_of_neg (by simp [hp])]
    | true =>
      dsimp only
      rw [h3 hp]
      dsimp only
      rw [h4, ih, List.filter_cons_of_pos hp, List.map_cons, List.append_assoc]
      rfl
/-- .. without a test -/
theorem lcS_rt {α : Type} {vs : List Nat} {b : D → DL.Env → Option DL.Env} {e : M D} {ρ : DL.Env} (it : α → D) (ρ1 : α → DL.Env) (f : α → D) (xs : List α) (acc : List D) (h : ∀ x ∈ xs, b (it x) ρ = some (ρ1 x) ∧ e (ρ1 x) = .ok (f x) (ρ1 x) ∧ wipeE vs (ρ1 x) = ρ) :
    lcS vs b (M.pure true) e acc (xs.map it) ρ = .ok (acc ++ xs.map f) ρ := by
  rw [lcS_ro (t := M.pure true) it ρ1 (fun _ => true) f acc xs acc fun x hx => ⟨(h x hx).1, rfl, fun _ => (h x hx).2.1, (h x hx).2.2⟩, List.filter_eq_self.mpr (fun _ _ => rfl)]
theorem filterK_id {α : Type} (xs : List α) : xs.filter (fun _ => true) = xs := List.filter_eq_self.mpr (fun _ _ => rfl)
/-! ### bools -/
theorem boolsOf_map (l : List Bool) : boolsOf (l.map PyData.bool) = some l := by
  induction l with
  | nil => rfl
  | cons b l ih => rw [List.map_cons, boolsOf, ih]; rfl
theorem boolsOf_map' {α : Type} (l : List α) (f : α → Bool) : boolsOf (l.map fun x => PyData.bool (f x)) = some (l.map f) := by
  rw [← boolsOf_map (l.map f), List.map_map]
  rfl
theorem strsOf_map {α : Type} (l : List α) (f : α → Str) : strsOf (l.map fun x => PyData.str (f x)) = some (l.map f) := by
  induction l with
  | nil => rfl
  | cons b l ih => rw [List.map_cons, strsOf, ih]; rfl
/-! ### texts as lists of signs -/
def ch (c : Nat) : Str := ⟨#[c]⟩
def mkS (t : List Nat) : Str := ⟨t.toArray⟩
theorem mkS_len (t : List Nat) : (mkS t).length = t.length := List.size_toArray
theorem mkS_cps (t : List Nat) : (mkS t).cps.toList = t := rfl
theorem mkS_inj {a b : List Nat} (h : mkS a = mkS b) : a = b := by
  have := congrArg (fun z : Str => z.cps.toList) h
  exact this
theorem signsOf_mkS (t : List Nat) : signsOf (mkS t) = t.map fun c => .str (ch c) := rfl
theorem ch_inj {a b : Nat} (h : ch a = ch b) : a = b := by
  have := congrArg (fun z : Str => z.cps.toList) h
  simpa [ch] using this
theorem mkS_nil : mkS [] = "" := rfl
theorem mkS_app (a b : List Nat) : mkS a ++ mkS b = mkS (a ++ b) := by
  show (Str.mk (_ ++ _) : Str) = _
  simp [mkS]
theorem mkS_ch (a : List Nat) (c : Nat) : mkS a ++ ch c = mkS (a ++ [c]) := mkS_app a [c]
theorem inStr_ch (c : Nat) (b : Str) : inStr (ch c) b = decide (c ∈ b.cps.toList) := rfl
theorem join_ch : ∀ l : List Nat, Txt.join "" (l.map ch) = mkS l := by
  intro l
  show Builtin.Str.glued "" (l.map ch) = _
  rw [PySem.StrLaws.glued_eq_join]
  induction l with
  | nil => rfl
  | cons a l ih =>
    cases l with
    | nil => rfl
    | cons b l =>
      rw [List.map_cons] at ih
      rw [List.map_cons, List.map_cons, join_cons_cons, ih]
      show mkS [a] ++ mkS [] ++ mkS (b :: l) = _
      rw [mkS_app, mkS_app]
      rfl
theorem sum_ones {α : Type} (l : List α) (f : α → Nat) (h : ∀ x, f x = 1) : (l.map f).sum = l.length := by
  induction l with
  | nil => rfl
  | cons a l ih => rw [List.map_cons, List.sum_cons, ih, h, List.length_cons]; omega
theorem joinD_ch {l : List Nat} (h : l.length ≤ lim) : joinD "" (.list (l.map fun c => .str (ch c))) = some (.str (mkS l)) := by
  unfold joinD
  rw [show seqOf (.list (l.map fun c => PyData.str (ch c))) = some (l.map fun c => .str (ch c)) from rfl, Option.bind_some, strsOf_map, Option.bind_some, join_ch, if_pos]
  have e : ((l.map ch).map (·.length)).sum = l.length := by
    rw [List.map_map]
    exact sum_ones l _ fun _ => rfl
  rw [e, show ("" : Str).length = 0 from rfl, Nat.mul_zero]
  exact h
end DL

/-! ## DL23: sorted(set(..)) in plain words -/
namespace DL
open PySem PySem.Spec PyProof.Rows L2
theorem ddup_len : ∀ l : List Key, (ddup l).length ≤ l.length
  | [] => Nat.le_refl _
  | k :: r => by
    unfold ddup
    have h1 := ddup_len r
    have h2 := List.length_filter_le (fun x => !decide (x = k)) (ddup r)
    simp only [List.length_cons]
    omega
theorem usort_mem (l : List Key) (k : Key) : k ∈ usort l ↔ k ∈ l := by
  unfold usort
  rw [sortK_mem, ddup_mem]
theorem usort_len (l : List Key) : (usort l).length ≤ l.length := by
  unfold usort sortK
  rw [List.length_mergeSort]
  exact ddup_len l
theorem usort_eq {l M : List Key} (hm : ∀ k, k ∈ l ↔ k ∈ M) (hn : M.Nodup) (hs : M.Pairwise fun a b => PySem.W.dataLe false kD a b = true) : usort l = M := by
  have hp : (ddup l).Perm M := (@List.perm_iff_count Key instBEqOfDecidableEq inferInstance _ _).mpr fun a => by
    rw [@List.Nodup.count Key instBEqOfDecidableEq inferInstance _ _ (ddup_nodup l), @List.Nodup.count Key instBEqOfDecidableEq inferInstance _ _ hn]
    have e : a ∈ ddup l ↔ a ∈ M := (ddup_mem a l).trans (hm a)
    by_cases q : a ∈ M
    · rw [if_pos (e.mpr q), if_pos q]
    · rw [if_neg (fun z => q (e.mp z)), if_neg q]
  unfold usort
  rw [sortK_perm hp]
  exact List.mergeSort_of_pairwise hs
def unI : Key → Int
  | .inl i => i
  | .inr _ => 0
def unC : Key → Nat
  | .inr x => x.cps.toList.headD 0
  | .inl _ => 0
def kI (i : Int) : Key := .inl i
def kC (c : Nat) : Key := .inr (ch c)
def usetI (l : List Int) : List Int := (usort (l.map kI)).map unI
def usetC (l : List Nat) : List Nat := (usort (l.map kC)).map unC
theorem keysOf_I : ∀ l : List Int, keysOf (l.map PyData.int) = some (l.map kI)
  | [] => rfl
  | a :: l => by rw [List.map_cons, keysOf, keysOf_I l]; rfl
theorem keysOf_C : ∀ l : List Nat, keysOf (l.map fun c => PyData.str (ch c)) = some (l.map kC)
  | [] => rfl
  | a :: l => by rw [List.map_cons, keysOf, keysOf_C l]; rfl
theorem one_I (l : List Int) : oneSort (l.map kI) = true := by
  unfold oneSort
  rw [Bool.or_eq_true, List.all_eq_true]
  exact .inl fun k hk => by
    obtain ⟨_, _, rfl⟩ := List.mem_map.mp hk
    rfl
theorem one_C (l : List Nat) : oneSort (l.map kC) = true := by
  unfold oneSort
  rw [Bool.or_eq_true, List.all_eq_true, List.all_eq_true]
  exact .inr fun k hk => by
    obtain ⟨_, _, rfl⟩ := List.mem_map.mp hk
    rfl
theorem usetI_mem (l : List Int) (i : Int) : i ∈ usetI l ↔ i ∈ l := by
  unfold usetI
  constructor
  · intro h
    obtain ⟨k, hk, rfl⟩ := List.mem_map.mp h
    rw [usort_mem] at hk
    obtain ⟨j, hj, rfl⟩ := List.mem_map.mp hk
    exact hj
  · intro h
    exact List.mem_map.mpr ⟨kI i, (usort_mem _ _).mpr (List.mem_map.mpr ⟨i, h, rfl⟩), rfl⟩
theorem usetI_len (l : List Int) : (usetI l).length ≤ l.length := by
  unfold usetI
  rw [List.length_map]
  exact Nat.le_trans (usort_len _) (by rw [List.length_map]; exact Nat.le_refl _)
theorem usetD_I {l : List Int} (h : l.length ≤ 4000) : usetD (.list (l.map .int)) = some ((usetI l).map .int) := by
  show ((keysOf (l.map PyData.int)).bind fun ks => if ks.length ≤ 4000 ∧ oneSort ks = true then some ((usort ks).map kD) else none) = _
  rw [keysOf_I]
  show (if (l.map kI).length ≤ 4000 ∧ oneSort (l.map kI) = true then some ((usort (l.map kI)).map kD) else none) = _
  rw [if_pos ⟨by rw [List.length_map]; exact h, one_I l⟩]
  unfold usetI
  rw [List.map_map]
  refine congrArg some (List.map_congr_left fun k hk => ?_)
  rw [usort_mem] at hk
  obtain ⟨j, hj, rfl⟩ := List.mem_map.mp hk
  rfl
theorem usetD_C {l : List Nat} (h : l.length ≤ 4000) : usetD (.list (l.map fun c => .str (ch c))) = some ((usetC l).map fun c => .str (ch c)) := by
  show ((keysOf (l.map fun c => PyData.str (ch c))).bind fun ks => if ks.length ≤ 4000 ∧ oneSort ks = true then some ((usort ks).map kD) else none) = _
  rw [keysOf_C]
  show (if (l.map kC).length ≤ 4000 ∧ oneSort (l.map kC) = true then some ((usort (l.map kC)).map kD) else none) = _
  rw [if_pos ⟨by rw [List.length_map]; exact h, one_C l⟩]
  unfold usetC
  rw [List.map_map]
  refine congrArg some (List.map_congr_left fun k hk => ?_)
  rw [usort_mem] at hk
  obtain ⟨j, hj, rfl⟩ := List.mem_map.mp hk
  rfl
theorem kC_inj {a b : Nat} (h : kC a = kC b) : a = b := ch_inj (Sum.inr.inj h)
def leC (a b : Nat) : Bool := PySem.W.dataLe false kD (kC a) (kC b)
theorem usetC_eq {l M : List Nat} (hm : ∀ k, k ∈ l ↔ k ∈ M) (hn : M.Nodup) (hs : M.Pairwise fun a b => leC a b = true) : usetC l = M := by
  unfold usetC
  rw [usort_eq (M := M.map kC) ?_ ?_ ?_, List.map_map]
  · exact (List.map_congr_left fun _ _ => rfl).trans (List.map_id _)
  · intro k
    simp only [List.mem_map, hm]
  · exact List.pairwise_map.mpr (hn.imp fun h e => h (kC_inj e))
  · exact List.pairwise_map.mpr hs
theorem usetC_len (l : List Nat) : (usetC l).length ≤ l.length := by
  unfold usetC
  rw [List.length_map]
  exact Nat.le_trans (usort_len _) (by rw [List.length_map]; exact Nat.le_refl _)
theorem usetC_nil : usetC [] = [] := usetC_eq (fun _ => Iff.rfl) List.nodup_nil .nil
end DL

set_option maxHeartbeats 1000000
/-! ## DL24: more rules for lists of one's own -/
namespace DL
open PySem PySem.Spec PyProof.Rows L2
open Evl (Ex)
section
variable {Tb : TbT} {X : Cx} {W : WX} {a : Expr} {fa : M D} {pos : Pos}
/-- e op x, x a list of one's own -/
theorem dt_cmpR (i : Nat) {x : Str} {px : Pos} {op : CmpOp} {g : D → D → Option D} (ho : OpD X (compareOp op) g) (ha : DE Tb X W a fa) (hm : behindInMarks op (.Name x px) = false) (hN : X.N[i]? = some x := by rfl) (hv : Vis X.env.scope x := by first | exact Or.inl rfl | exact Or.inr (Or.inl rfl) | exact Or.inr (Or.inr rfl)) (hd : (x == ("__debug__" : Str)) = false := by decide)
    (hcd : (x == ("__classdict__" : Str)) = false := by decide) : DT Tb X W (.Compare a [op] [.Name x px] pos) (M.bind fa fun y => M.bind (getO i) fun ds => opt ((g y (.list ds)).bind boolOf)) :=
  pt_imp (pt_cmpR ho ha (pe_var hN hv hd hcd) hm) fun σ H Q ⟨P, F0, B, Fz, ρ, r, h⟩ => by
    refine ⟨P, F0, B, Fz, ρ, r, h.bind.imp fun y ρ1 H1 F1 r1 e1 h1 v hv => ?_⟩
    obtain ⟨ds, hds, k1⟩ := (h1.bind).opt
    obtain ⟨p, vs, hp, _, _, hl, hvs⟩ := r1.peek hds
    have k2 := k1 H1 F1 r1 (Ex.refl _)
    obtain ⟨t, ht, k⟩ := k2.opt
    refine ⟨.ref p, hp, ?_⟩
    cases hg : g y (.list ds) with
    | none => rw [hg] at ht; cases ht
    | some d =>
      rw [hg, Option.bind_some] at ht
      have hb := boolOf_some ht
      subst hb
      refine ⟨H1, y, .list ds, _, Ex.refl _, hv.mono r1.ef, .lst hl (hvs.mono r1.ef), hg, fun u H2 F2 eH _ _ _ hu => ?_⟩
      cases hu.bl_of
      exact ⟨t, rfl, k H2 F1 (r1.heap eH) (Ex.refl _)⟩
end
end DL

set_option maxHeartbeats 1000000
/-! ## DL25: len(set(x)), x of tuples of ints; x[::-1] of a tuple; is; while's fuel -/
namespace L2
open PySem PySem.Spec PyProof.Rows
section
variable {P : Program} {w : World} {A : Around} {E : Value → Shared → Prop} {s : Shared}
set_option maxHeartbeats 3200000 in
theorem call_set_tupsT {l : Addr} {items : Array Value} (ks : List (Addr × List Int)) {Q : Value → Shared → Prop} (hh : A.handled = none) (hl : s.heap.IsTuple l items) (hit : items.toList = ks.map fun p => Value.ref p.1)
    (hk : ∀ p ∈ ks, IsT P w s.heap p.2 p.1) (hfew : ks.length < 64) (hu : A.units + 3 < cLine)
    (h : ∀ (h' : Heap) (tk : Nat) L es ep t, SetTR P w h' s.heap.objs.size L es ep t → Got ks ks.length L → (∀ b o, s.heap.get? b = some o → h'.get? b = some o) → Q (.ref s.heap.objs.size) { s with heap := h', toks := tk }) :
    wpAny (model P w) A (call (.type "set") [.ref l]) Q E s := by
  have hisz : items.size = ks.length := by
    have q := congrArg List.length hit
    rw [Array.length_toList, List.length_map] at q
    exact q
  obtain ⟨c, tl, hmro⟩ := F.called_set.mro
  have hmade := F.called_set.made
  have hsub := F.called_set.sub
  refine wpAny_call (codeAny_of_tree ?_)
  show wpAny _ _ (callAny (.type "set") _) _ _ _
  refine wpAny_pure ⟨Code.quiet_builtin _ (by decide +kernel), codeAny_builtin F.entry_type_call ?_⟩
  rw [Around.under_plain (weight_type_call_type "set" [.ref l] []) rfl]
  have h1 := F.called_set.notType
  have h2 := F.called_set.canCreate
  have hct := F.typeCall_set_1 (.ref l)
  repeat (any_goals (first | assumption | wp_step))

  refine codeAny_mono (code_set_led1 (.ref l) (E := E) (Q₁ := fun obj s₁ => obj = .ref s.heap.objs.size ∧ s₁ = { s with heap := s.heap.push { cls := .type "set", dict := none, data := .set #[] 0 (.fresh 0 0 (!w.params.followText "set-order")) } }) ⟨rfl, rfl⟩) fun r s₁ hr => ?_
  cases r with
  | error e => exact hr
  | ok fl =>
    cases fl with
    | ret obj =>
      obtain ⟨rfl, rfl⟩ := hr
      have hS : (s.heap.push { cls := .type "set", dict := none, data := .set #[] 0 (.fresh 0 0 (!w.params.followText "set-order")) }).get? s.heap.objs.size = some { cls := .type "set", dict := none, data := .set #[] 0 (.fresh 0 0 (!w.params.followText "set-order")) } := Heap.get?_push_size _ rfl
      have hT : Shared.TypeIs { s with heap := s.heap.push { cls := .type "set", dict := none, data := .set #[] 0 (.fresh 0 0 (!w.params.followText "set-order")) } } (.ref s.heap.objs.size) "set" := ⟨_, hS, rfl⟩
      have hli := F.called_set.init.lookup
      have hbi := F.called_set.init.bind (.ref s.heap.objs.size)
      repeat (any_goals (first | assumption | wp_step))

      refine codeAny_mono (codeAny_call_builtin (R := wants (fun r s₂ => r = .none ∧ ∃ h' tk L es ep t, s₂ = { s with heap := h', toks := tk } ∧ SetTR P w h' s.heap.objs.size L es ep t ∧ Got ks ks.length L ∧
          (∀ b o, s.heap.get? b = some o → h'.get? b = some o)) E) F.called_set.init.plain F.entry_set_init (check_set_init_1 hT ?_)) fun r₂ s₂ hr₂ => ?_
      · obtain ⟨ol, hol, hcl, nl, hdl⟩ := hl
        obtain ⟨ocls, odict, odata, oslots⟩ := ol
        simp only at hcl hdl
        subst hcl; subst hdl
        have hol' : (s.heap.push { cls := .type "set", dict := none, data := .set #[] 0 (.fresh 0 0 (!w.params.followText "set-order")) }).get? l = some { cls := .type "tuple", dict := odict, data := .seq items nl, slots := oslots } := Heap.get?_push_of_some _ hol
        have hsls := F.sub_tuple_set
        have hslf := F.sub_tuple_frozenset
        have hne : (Value.type "tuple" == Value.type "dict") = false := by decide
        have hl1 : (s.heap.push { cls := .type "set", dict := none, data := .set #[] 0 (.fresh 0 0 (!w.params.followText "set-order")) }).IsTuple l items := ⟨_, hol', rfl, nl, rfl⟩
        unfold Builtin.«set.__init__» noKeywords Builtin.Frozenset.updateFrom
        generalize hPI : pyIter = PI
        wp_walk
        subst hPI

        refine wpAny_pyIter_tuple hl1 ?_
        refine wpAny_bind (wpAny_runValue ?_)
        have hlS : l < s.heap.objs.size := Heap.lt_size hol
        have hh3 : A.in1.in1.in1.handled = none := by simp [hh]
        have hz1 : (s.heap.push { cls := .type "set", dict := none, data := .set #[] 0 (.fresh 0 0 (!w.params.followText "set-order")) }).objs.size = s.heap.objs.size + 1 := Heap.size_push ..
        have hneI : l ≠ (s.heap.push { cls := .type "set", dict := none, data := .set #[] 0 (.fresh 0 0 (!w.params.followText "set-order")) }).objs.size := by
          rw [Heap.size_push]; exact Nat.ne_of_lt (Nat.lt_succ_of_lt hlS)
        have hSf : s.heap.objs.size ∉ [(s.heap.push { cls := .type "set", dict := none, data := .set #[] 0 (.fresh 0 0 (!w.params.followText "set-order")) }).objs.size, l] := by
          rw [Heap.size_push]; simp only [List.mem_cons, List.mem_singleton, List.not_mem_nil, or_false, not_or]
          exact ⟨Nat.ne_of_lt (Nat.lt_succ_self _), Nat.ne_of_gt hlS⟩
        have hval : ∀ (i : Nat) (v : Value), items[i]? = some v → ∃ p, ks[i]? = some p ∧ v = .ref p.1 := fun i v hv => by
          have q : items.toList[i]? = some v := by rw [Array.getElem?_toList]; exact hv
          rw [hit, List.getElem?_map] at q
          cases hq : ks[i]? with
          | none => rw [hq] at q; cases q
          | some p =>
            rw [hq] at q
            exact ⟨p, rfl, (Option.some.inj q).symm⟩
        have none_of : ∀ b, s.heap.objs.size ≤ b → s.heap.get? b = none := fun b hb => by
          cases q : s.heap.get? b with
          | none => rfl
          | some o => exact absurd (Nat.lt_of_lt_of_le (Heap.lt_size q) hb) (Nat.lt_irrefl _)
        refine set_update_tups ((Walks.tuple hh3 _ l hneI items).toS) s.heap.objs.size
          hSf ks hisz hfew hval s.heap hk (none_of _ (Nat.le_refl _)) (fun b hb => none_of b (by
            rw [List.mem_singleton.mp hb, Heap.size_push]
            exact Nat.le_succ _)) hu (items.size - 0) 0 _ (by omega) (Nat.zero_le _)
          ⟨⟨_, Heap.get?_push_size _ rfl, rfl, rfl⟩, (hl1.push _)⟩ (fun b o e => Heap.get?_push_of_some _ (Heap.get?_push_of_some _ e)) ?hS0 ?hR
        case hS0 =>
          have hget : ((s.heap.push { cls := .type "set", dict := none, data := .set #[] 0 (.fresh 0 0 (!w.params.followText "set-order")) }).push { cls := .type "tuple_iterator", data := .fields #[.ref l, .int 0 0] }).get? s.heap.objs.size
              = some { cls := .type "set", dict := none, data := .set #[] 0 (.fresh 0 0 (!w.params.followText "set-order")) } := Heap.get?_push_of_some _ hS
          exact ⟨[], #[], 0, _, setTR_fresh hget, Got.zero ks⟩
        case hR =>
          intro s' L es ep t hm hS' g' hkp
          obtain ⟨h', g2, d', tk', os'⟩ := s'
          have eg : g2 = s.gens := hm.gens
          have ed : d' = s.drawn := hm.drawn
          have eo : os' = s.os := hm.os
          subst eg; subst ed; subst eo
          show wpAny _ _ _ _ _ _
          refine wpAny_pure ?_
          show wpAny _ _ (ret Value.none) _ _ _
          rw [hisz] at g'
          exact wpAny_pure ⟨rfl, h', tk', L, es, ep, t, rfl, hS', g', hkp⟩

      · cases r₂ with
        | error e => exact hr₂
        | ok fl₂ =>
          cases fl₂ with
          | ret r =>
            obtain ⟨rfl, h', tk, L, es, ep, t, rfl, hS', g', hk'⟩ := hr₂
            repeat (any_goals (first | assumption | wp_step))
            exact h _ _ _ _ _ _ hS' g' hk'
          | _ => exact hr₂.elim
    | _ => exact hr.elim

end
section
variable {X : Cx}
def rSetTT (K : PySem.W.Frag) (P : Program) (w : World) : List V → Hp → VK → Prop := fun xs H Q => ∃ (l : Addr) (ks : List (Addr × List Int)), xs = [V.ref l] ∧ (SqL K H l (ks.map fun p => V.ref p.1) ∨ SqT K H l (ks.map fun p => V.ref p.1)) ∧ (∀ p ∈ ks, SqT K H p.1 (p.2.map V.int)) ∧ ks.length < 64 ∧
  ∀ a L, H a = none → (∀ p ∈ L, p ∈ ks) → (∀ p ∈ ks, p.2 ∈ L.map (·.2)) → (L.map (·.2)).Nodup → Q (.ref a) (upd H a (SetTO P w a L))
theorem cr_setTT (hc : X.calm = true) (hu : X.A.units + 64 < cLine) : CallR X (.type "set") (rSetTT X.K X.prog X.w) := by
  intro pins s σ H xs us Q I r h
  obtain ⟨l, ks, rfl, hl, hk, hf, q⟩ := h
  rw [Vals.ref1 r]
  have hn : H s.heap.objs.size = none := I.hok.fresh (Nat.le_refl _)
  rcases hl with hl | hl
  · obtain ⟨its, rv, pl, hz⟩ := I.list hl
    refine call_set_tups (P := X.prog) (w := X.w) ks (I.ok.hd hc) pl.isList (by simpa using refs_of_vals rv) (fun p hp => I.isT (hk p hp)) hf (by omega) fun h' tk L es ep t R g k => ?_
    refine ⟨.ref s.heap.objs.size, upd H s.heap.objs.size (SetTO X.prog X.w s.heap.objs.size L), I.laid (t' := tk) k (Nat.le_refl _) (setTO_new R.t0), rfl, q _ L hn (fun p hp => ?_) (fun p hp => ?_) R.nd⟩
    · exact List.mem_of_mem_take (g.sub p hp)
    · exact g.all p (by rw [List.take_length]; exact hp)
  · obtain ⟨its, rv, pl, hz⟩ := I.tuple hl
    refine call_set_tupsT (P := X.prog) (w := X.w) ks (I.ok.hd hc) pl (by simpa using refs_of_vals rv) (fun p hp => I.isT (hk p hp)) hf (by omega) fun h' tk L es ep t R g k => ?_
    refine ⟨.ref s.heap.objs.size, upd H s.heap.objs.size (SetTO X.prog X.w s.heap.objs.size L), I.laid (t' := tk) k (Nat.le_refl _) (setTO_new R.t0), rfl, q _ L hn (fun p hp => ?_) (fun p hp => ?_) R.nd⟩
    · exact List.mem_of_mem_take (g.sub p hp)
    · exact g.all p (by rw [List.take_length]; exact hp)
def rLenT (K : PySem.W.Frag) (P : Program) (w : World) : List V → Hp → VK → Prop := fun vs H Q => ∃ (a : Addr) (L : List (Addr × List Int)), vs = [V.ref a] ∧ H a = some (SetTO P w a L) ∧ (∀ p ∈ L, SqT K H p.1 (p.2.map V.int)) ∧ Q (.int L.length) H
theorem cr_lenT : CallR X (.builtin "len") (rLenT X.K X.prog X.w) := by
  intro pins s σ H vs us Q I r h
  obtain ⟨a, L, rfl, ha, hk, q⟩ := h
  have R0 : SetT0 X.prog X.w s.heap a L := (I.hok a _ ha).1
  obtain ⟨es, ep, t, R⟩ := R0.full fun p hp => I.isT (hk p hp)
  rw [Vals.ref1 r]
  obtain ⟨o, ho, hex, hd⟩ := R.ob
  have hn := R.size
  have hf := R.few
  refine call_len_set ho hex hd R.fits (by rw [hn] <;> omega) ⟨.int L.length, H, I.tok _, ⟨_, by rw [hn]⟩, q⟩
end
end L2

set_option maxHeartbeats 1000000
/-! ## DL26: x[::-1] of a tuple; is; len(set(x)) of tuples of ints -/
namespace HT
open PySem PySem.Spec PyProof.Rows
section
variable {prog : Program} {w : World} {A : Around} {E : Value → Shared → Prop} {s : Shared}
theorem rev_places (n : Nat) : Builtin.Slice.slicePlaces ((n : Int) - 1) (-1) (-1) = n := by
  unfold Builtin.Slice.slicePlaces
  have h1 : ¬ ((-1 : Int) > 0) := by decide
  rw [if_neg h1]
  split <;> simp <;> omega
theorem rev_pick (xs : Array Value) : ((List.range xs.size).filterMap fun (m : Nat) => xs[(((xs.size : Int) - 1) + (m : Int) * (-1)).toNat]?).toArray = xs.toList.reverse.toArray := by
  have e := PySem.W.krv_pick xs
  rw [← e]
  unfold slicePick
  rw [PySem.W.krv_bounds]
  show _ = ((sliceRange ((xs.size : Int) - 1) (-1) (-1)).filterMap (xs[·]?)).toArray
  rw [PySem.W.krv_sliceRange, List.filterMap_map]
  have q : (fun (m : Nat) => xs[(((xs.size : Int) - 1) + (m : Int) * (-1)).toNat]?) = (fun i => xs[i]?) ∘ fun k => xs.size - 1 - k := by
    funext m
    have q : (((xs.size : Int) - 1) + (m : Int) * (-1)).toNat = xs.size - 1 - m := by omega
    show xs[(((xs.size : Int) - 1) + (m : Int) * (-1)).toNat]? = xs[xs.size - 1 - m]?
    rw [q]
  rw [q]
theorem sliceApplied_rev {sl : Addr} {vs : Value} {n : Nat} {Q : Int × Int × Nat → Shared → Prop} (hs : s.heap.IsSliceOf sl .none .none vs) (ps : IsPart vs (some (-1)))
    (h : Q ((n : Int) - 1, -1, n) s) : wpAny (model prog w) A (Builtin.Slice.sliceApplied (.ref sl) (pure (n : Int))) Q E s := by
  obtain ⟨os, hos, hcs, hds⟩ := id hs
  unfold Builtin.Slice.sliceApplied Builtin.Slice.sliceFields
  refine wpAny_bind (wpAny_bind (wpAny_field hos hds (x := .none) rfl (wpAny_bind (wpAny_field hos hds (x := .none) rfl (wpAny_bind (wpAny_field hos hds (x := vs) rfl (wpAny_pure ?_)))))))
  refine wpAny_bind (slicePart_ ps ?_)
  show wpAny _ _ (if ((-1 : Int) == 0) = true then _ else _) _ _ s
  rw [if_neg (by decide)]
  refine wpAny_bind (slicePart_none (wpAny_bind (slicePart_none (wpAny_bind (wpAny_pure ?_)))))
  show wpAny _ _ (match Builtin.Slice.sliceAdjust none none (-1) (n : Int) with | (lo, hi) => pure (lo, (-1 : Int), Builtin.Slice.slicePlaces lo hi (-1))) _ _ s
  show wpAny _ _ (pure ((n : Int) - 1, (-1 : Int), Builtin.Slice.slicePlaces ((n : Int) - 1) (-1) (-1))) _ _ s
  rw [rev_places]
  exact wpAny_pure h
theorem getItem_tuple_rev {t sl : Addr} {items : Array Value} {vl vu vs : Value} {Q : Value → Shared → Prop} (ht : IsTup s.heap t items) (hs : s.heap.IsSliceOf sl vl vu vs) (pl : IsPart vl none) (pu : IsPart vu none) (ps : IsPart vs (some (-1)))
    (h : Q (.ref s.heap.objs.size) { s with heap := s.heap.push { cls := .type "tuple", data := .seq items.toList.reverse.toArray } })
    (hn : items.size ≠ 0) (hsz : items.size ≤ sizeLine) : wpAny (model prog w) A (getItem (.ref t) (.ref sl)) Q E s := by
  have htake : sizeOk (.seq items.toList.reverse.toArray) := by
    show items.toList.reverse.toArray.size ≤ sizeLine
    rw [List.size_toArray, List.length_reverse, Array.length_toList]
    exact hsz
  obtain ⟨os, hos, hcs, hds⟩ := id hs
  have hTs : s.TypeIs (.ref sl) "slice" := ⟨os, hos, hcs⟩
  cases pl
  cases pu
  unfold getItem
  try with_reducible refine wpAny_holding ?_
  first | refine wpAny_bind (wpAny_pure ?_) | skip
  refine wpAny_bind (wpAny_sequenceKey ht.typeIs (by decide) ?_)
  refine wpAny_bind (wpAny_callSpecial?_slot (name := Str.ofString "__getitem__") ht.typeIs PyProof.Rows.slot_tuple_getitem
    (wpAny_call_entry PyProof.Rows.slot_tuple_getitem ht.typeIs entry_tuple_getitem ?_ (args_tuple_getitem _ _)))
  show wpAny _ _ (Builtin.Tuple.tupleItemsOf (.ref t) >>= _) _ _ s
  refine wpAny_bind (tupleItemsOf_ ht ?_)
  refine wpAny_bind (wpAny_typeOf hTs ?_)
  rw [if_pos (by decide)]
  refine wpAny_bind (sliceApplied_rev hs ps ?_)
  have hno : ¬ ((((items.size : Nat) : Int) - 1 == 0 && (-1 : Int) == 1 && items.size == items.size) = true) := by
    simp
  show wpAny _ _ (if (((items.size : Nat) : Int) - 1 == 0 && (-1 : Int) == 1 && items.size == items.size) = true then _ else _) _ _ s
  rw [if_neg hno, rev_pick]
  first
    | exact wpAny_bind (m := Builtin.Tuple.tupleExact _) (wpAny_newObj_type (wpAny_pure ⟨_, rfl, wpAny_pure h⟩) htake)
    | exact wpAny_bind (m := Builtin.Tuple.tupleExact _) (wpAny_newObj_type (wpAny_bind (wpAny_pure (wpAny_pure ⟨_, rfl, wpAny_pure h⟩))) htake)
    | exact wpAny_bind (wpAny_bind (m := Builtin.Tuple.tupleExact _) (wpAny_newObj_type (wpAny_pure (wpAny_pure ⟨_, rfl, wpAny_pure h⟩)) htake))
    | exact wpAny_bind (wpAny_bind (m := Builtin.Tuple.tupleExact _) (wpAny_newObj_type (wpAny_pure ⟨_, rfl, wpAny_pure h⟩) htake))
end
end HT
namespace L2
open PySem PySem.Spec PyProof.Rows
section
variable {X : Cx}
def tRevA (K : PySem.W.Frag) (te : TE) : TE := fun σ H Q => te σ H fun x H1 => ∃ a xs, x = .ref a ∧ ((SqL K H1 a xs ∧ ∀ p, H1 p = none → Q (.ref p) (upd H1 p (.lst xs.reverse))) ∨
  (SqT K H1 a xs ∧ xs ≠ [] ∧ ∀ p, H1 p = none → Q (.ref p) (upd H1 p (.tup xs.reverse))))
theorem pe_revA {e : Expr} {te : TE} {k : Nat} {p1 p2 p3 pos : Pos} (he : PE X e te) : PE X (.Subscript e (.Slice none none (some (.UnaryOp .USub (.Constant (.int 1) k p1) p2)) p3) pos) (tRevA X.K te) := by
  refine ⟨fun pins s σ H Q I h => ?_⟩
  refine Subscript_ (thn (he.run pins s σ H _ I h) fun v s1 ⟨x, H1, I1, r1, q1⟩ => ?_)
  obtain ⟨a, xs, ex, hx⟩ := q1
  subst ex
  cases r1
  have hst : PO X (some (.UnaryOp .USub (.Constant (.int 1) k p1) p2)) (tPart (tUn (rU fun i => .int (-i)) (tC (.int 1)))) := po_some (pe_un un_neg pe_int)
  refine wpAny_Slice (thn (po_none.run pins s1 σ H1 (fun o H2 => o = none ∧ H2 = H1) I1 ⟨rfl, rfl⟩) fun vl s2 ⟨l, H2, I2, pl, el, e2⟩ => ?_)
  subst el e2
  refine thn (po_none.run pins s2 σ H2 (fun o H3 => o = none ∧ H3 = H2) I2 ⟨rfl, rfl⟩) fun vu s3 ⟨u, H3, I3, pu, eu, e3⟩ => ?_
  subst eu e3
  refine thn (hst.run pins s3 σ H3 (fun o H4 => o = some (-1) ∧ H4 = H3) I3 ⟨1, rfl, -1, rfl, rfl, rfl⟩) fun vs s4 ⟨o, H4, I4, ps, eo, e4⟩ => ?_
  subst eo e4
  have I5 : Inv X pins σ H4 { s4 with heap := s4.heap.push { cls := .type "slice", data := .fields #[vl, vu, vs] } } := I4.kept (t' := s4.toks) fun b ob q => Heap.get?_push_of_some _ q
  rcases hx with ⟨hx, q⟩ | ⟨hx, hne, q⟩
  · obtain ⟨its, r, ht, hz⟩ := I5.list hx
    have hlen := r.length
    show wpAny (model X.prog X.w) X.A (subscriptTail e (.Slice none none (some (.UnaryOp .USub (.Constant (.int 1) k p1) p2)) p3) (.ref a) (.ref s4.heap.objs.size)) (EP X pins σ Q) X.xe { s4 with heap := s4.heap.push { cls := .type "slice", data := .fields #[vl, vu, vs] } }
    refine tail_any (ops := [.ref a, .ref s4.heap.objs.size]) ht.isList.typeIs (PySem.slot_list_getitem.lookup) ?_ (by with_unfolding_all rfl)
    refine wpAny_getItem_list_slice ht.isList (Heap.IsSliceOf.new _ vl vu vs) pl pu ps (by decide) ?_ (by rw [List.size_toArray]; omega)
    rw [PySem.W.krv_pick]
    refine ⟨.ref _, _, I5.laid (t' := s4.toks) (o := .lst xs.reverse) (fun b ob q => Heap.get?_push_of_some _ q) (Nat.le_refl _) ?_, rfl, q _ (I5.hok.fresh (Nat.le_refl _))⟩
    exact ⟨by rw [List.length_reverse]; exact hz, _, 0, r.reverse, Heap.get?_push_size _ rfl⟩
  · obtain ⟨its, r, ht, hz⟩ := I5.tuple hx
    have hlen := r.length
    show wpAny (model X.prog X.w) X.A (subscriptTail e (.Slice none none (some (.UnaryOp .USub (.Constant (.int 1) k p1) p2)) p3) (.ref a) (.ref s4.heap.objs.size)) (EP X pins σ Q) X.xe { s4 with heap := s4.heap.push { cls := .type "slice", data := .fields #[vl, vu, vs] } }
    refine tail_any (ops := [.ref a, .ref s4.heap.objs.size]) ht.typeIs (PyProof.Rows.slot_tuple_getitem.lookup) ?_ (by with_unfolding_all rfl)
    cases pl
    cases pu
    refine HT.getItem_tuple_rev ht (Heap.IsSliceOf.new _ .none .none vs) .none .none ps ?_ (by
      rw [List.size_toArray, ← hlen]
      intro z
      exact hne (List.length_eq_zero_iff.mp z)) (by rw [List.size_toArray]; omega)
    refine ⟨.ref _, _, I5.laid (t' := s4.toks) (o := .tup xs.reverse) (fun b ob q => Heap.get?_push_of_some _ q) (Nat.le_refl _) ?_, rfl, q _ (I5.hok.fresh (Nat.le_refl _))⟩
    exact ⟨by rw [List.length_reverse]; exact hz, _, r.reverse, _, Heap.get?_push_size _ rfl, rfl, 0, by simp⟩
end
end L2

set_option maxHeartbeats 1000000
/-! ## DL27: is; len(set(x)) of tuples of ints; x[::-1] -/
namespace DL
open PySem PySem.Spec PyProof.Rows L2
open Evl (Ex)
section
variable {Tb : TbT} {X : Cx} {W : WX} {e : Expr} {f : M D} {pos : Pos}
/-! ### is, is not -/
def isNone : D → Bool
  | .none => true
  | _ => false
def isB : D → D → Option Bool
  | .bool a, .bool b => some (decide (a = b))
  | x, .none => some (isNone x)
  | _, _ => none
def isD (x y : D) : Option D := (isB x y).map fun b => .bool b
def nisD (x y : D) : Option D := (isB x y).map fun b => .bool (!b)
theorem non_iff {H : Hp} {v : V} {d : D} (h : Rp H v d) : decide (v = .non) = isNone d := by
  cases h <;> simp [isNone]
theorem is_run {op : CmpOp} {g : Bool → Bool} (h1 : OpR X (compareOp op) fun x y H Q => ∃ a b : Bool, x = .bl a ∧ y = .bl b ∧ Q (.bl (g (decide (a = b)))) H)
    (h2 : OpR X (compareOp op) fun x y H Q => y = .non ∧ Q (.bl (g (decide (x = .non)))) H) : OpD X (compareOp op) fun x y => (isB x y).map fun b => .bool (g b) := by
  intro pins s σ H x y v u Q I rx ry h
  obtain ⟨Fz, dx, dy, d, e, hx, hy, hg, o⟩ := h
  dsimp only at hg
  cases hb : isB dx dy with
  | none => rw [hb] at hg; cases hg
  | some b =>
    rw [hb] at hg
    have hd' : d = .bool (g b) := (Option.some.inj hg).symm
    subst hd'
    have fin : Q (.bl (g b)) H := o.here e (.bl _)
    unfold isB at hb
    split at hb
    · cases hb
      exact h1 pins s σ H _ _ v u Q I rx ry ⟨_, _, hx.bl_of, hy.bl_of, fin⟩
    · cases hb
      refine h2 pins s σ H _ _ v u Q I rx ry ⟨hy.non_of, ?_⟩
      rw [non_iff hx]
      exact fin
    · cases hb
theorem opd_is : OpD X (compareOp .Is) isD := is_run (g := id) op_isBl op_isN
theorem opd_isnot : OpD X (compareOp .IsNot) nisD := is_run (g := Bool.not) op_notBl op_notN
/-- turns enough for a loop that goes down on the numbers at hand -/
def sizeS : Option SV → Nat
  | some (.val (.int i)) => i.natAbs
  | some (.own _ (.list ds)) => ds.length
  | _ => 0
def fuelE (ρ : Env) : Nat := (ρ.map sizeS).sum + 2000
/-! ### len(set(x)) -/
def tupsOf : List D → Option (List (List Int))
  | [] => some []
  | .tuple es :: r => (intsOf es).bind fun k => (tupsOf r).map fun ks => k :: ks
  | _ => none
def ddL : List (List Int) → List (List Int)
  | [] => []
  | k :: r => if k ∈ r then ddL r else k :: ddL r
theorem ddL_mem (z : List Int) : ∀ l, z ∈ ddL l ↔ z ∈ l
  | [] => Iff.rfl
  | k :: r => by
    unfold ddL
    split
    · rename_i h
      rw [ddL_mem z r, List.mem_cons]
      exact ⟨.inr, fun q => q.elim (fun e => e ▸ h) id⟩
    · rw [List.mem_cons, List.mem_cons, ddL_mem z r]
theorem ddL_nd : ∀ l, (ddL l).Nodup
  | [] => List.nodup_nil
  | k :: r => by
    unfold ddL
    split
    · exact ddL_nd r
    · rename_i h
      exact List.nodup_cons.mpr ⟨fun q => h ((ddL_mem k r).1 q), ddL_nd r⟩
def lenSetD (x : D) : Option D := (seqOf x).bind fun ds => (tupsOf ds).bind fun ks => if ks.length < 64 then some (.int (ddL ks).length) else none
theorem rp_tups {H : Hp} : ∀ {ds : List D} {vs : List V} {kss : List (List Int)}, RpAll H vs ds → tupsOf ds = some kss → ∃ ks : List (Addr × List Int), vs = ks.map (fun p => V.ref p.1) ∧ ks.map (·.2) = kss ∧ ∀ p ∈ ks, H p.1 = some (.tup (p.2.map V.int))
  | [], _, _, h, e => by
    cases h
    cases e
    exact ⟨[], rfl, rfl, fun p hp => by cases hp⟩
  | d :: ds, _, kss, h, e => by
    cases h with
    | cons a b =>
      unfold tupsOf at e
      split at e
      · rename_i heq; cases heq
      · rename_i es r heq
        cases heq
        cases hi : intsOf es with
        | none => rw [hi] at e; cases e
        | some k =>
          rw [hi, Option.bind_some] at e
          cases ht : tupsOf ds with
          | none => rw [ht] at e; cases e
          | some ks' =>
            rw [ht] at e
            cases e
            obtain ⟨ks, rfl, rfl, hk⟩ := rp_tups b ht
            obtain ⟨q, us, rfl, hq, hus⟩ := a.tup_of
            have := ints_of hus hi
            subst this
            refine ⟨(q, k) :: ks, rfl, rfl, fun p hp => ?_⟩
            rcases List.mem_cons.mp hp with rfl | hp
            · exact hq
            · exact hk p hp
      · cases e
theorem de_lenSet {p p2 pos2 : Pos} (hc : X.calm = true) (hu : X.A.units + 64 < cLine) (hg : Gl X "len") (hm : X.mg "len" = none) (hg2 : Gl X "set") (hm2 : X.mg "set" = none) (he : DE Tb X W e f)
    (hs : starEach [e] X.env = (false, eval e X.env) :: starEach [] X.env := by rfl) (hpl : (backTo pos2 (starEach [] X.env)).any (·.1) = false := by rfl)
    (hs2 : starEach [.Call (.Name "set" p2) [e] [] pos2] X.env = (false, eval (.Call (.Name "set" p2) [e] [] pos2) X.env) :: starEach [] X.env := by rfl) (hpl2 : (backTo pos (starEach [] X.env)).any (·.1) = false := by rfl) :
    DE Tb X W (.Call (.Name "len" p) [.Call (.Name "set" p2) [e] [] pos2] [] pos) (M.bind f fun x => opt (lenSetD x)) :=
  pe_imp (pe_callB cr_lenT hg hm PySem.boot_len (pa_cons (pe_callTy (cr_setTT hc hu) hg2 hm2 boot_set (pa_cons he pa_nil hs) (by decide) (by decide) hs hpl) pa_nil hs2) (by decide) (by decide) hs2 hpl2) fun σ H Q ⟨P, F0, B, Fz, ρ, r, h⟩ => ⟨P, F0, B, Fz, ρ, r, h.bind.imp fun x ρ1 H1 F1 r1 e1 h1 v hv => by
    obtain ⟨d, hd, k⟩ := h1.opt
    unfold lenSetD at hd
    cases hq : seqOf x with
    | none => rw [hq] at hd; cases hd
    | some ds =>
      rw [hq, Option.bind_some] at hd
      cases ht : tupsOf ds with
      | none => rw [ht] at hd; cases hd
      | some kss =>
        rw [ht, Option.bind_some] at hd
        split at hd
        · rename_i hlt
          cases hd
          obtain ⟨q, vs, rfl, hp, hvs⟩ := seqOf_some hv hq
          obtain ⟨ks, rfl, rfl, hk⟩ := rp_tups hvs ht
          refine ⟨q, ks, rfl, hp.imp (fun z => SqL.of (r1.ef _ _ z)) (fun z => SqT.of (r1.ef _ _ z)), fun p hp => SqT.of (r1.ef _ _ (hk p hp)), by simpa using hlt, fun a L hna hs ha nd => ?_⟩
          refine ⟨a, L, rfl, upd_same, fun p hp => ?_, ?_⟩
          · have h0 := r1.ef _ _ (hk p (hs p hp))
            exact SqT.of ((Ex.new hna) _ _ h0)
          · have hL : (L.map (·.2)).length = (ddL (ks.map (·.2))).length := by
              refine List.Perm.length_eq ((List.perm_ext_iff_of_nodup nd (ddL_nd _)).mpr fun z => ?_)
              rw [ddL_mem]
              constructor
              · intro hz
                obtain ⟨p, hp, rfl⟩ := List.mem_map.mp hz
                exact List.mem_map.mpr ⟨p, hs p hp, rfl⟩
              · intro hz
                obtain ⟨p, hp, rfl⟩ := List.mem_map.mp hz
                exact ha p hp
            rw [List.length_map] at hL
            rw [hL]
            have rn := r1.heap (Ex.new (o := SetTO X.prog X.w a L) hna)
            exact k _ F1 rn (Ex.refl _) _ (.int _)
        · cases hd⟩
/-! ### x[::-1] -/
def revAD : D → Option D
  | .list ds => some (.list ds.reverse)
  | .tuple (d :: ds) => some (.tuple (d :: ds).reverse)
  | _ => none
theorem de_revA {k : Nat} {p1 p2 p3 : Pos} (ha : DE Tb X W e f) : DE Tb X W (.Subscript e (.Slice none none (some (.UnaryOp .USub (.Constant (.int 1) k p1) p2)) p3) pos) (M.bind f fun x => opt (revAD x)) :=
  pe_imp (pe_revA ha) fun σ H Q ⟨P, F0, B, Fz, ρ, r, h⟩ => ⟨P, F0, B, Fz, ρ, r, h.bind.imp fun x ρ1 H1 F1 r1 e1 h1 v hv => by
    obtain ⟨d, hd, k⟩ := h1.opt
    unfold revAD at hd
    split at hd
    · cases hd
      obtain ⟨q, vs, rfl, hp, hvs⟩ := hv.lst_of
      exact ⟨q, vs, rfl, .inl ⟨SqL.of (r1.ef _ _ hp), fun z hz => (outOf r1 k).lst r1.ef hz hvs.reverse⟩⟩
    · cases hd
      obtain ⟨q, vs, rfl, hp, hvs⟩ := hv.tup_of
      refine ⟨q, vs, rfl, .inr ⟨SqT.of (r1.ef _ _ hp), fun z => ?_, fun z hz => (outOf r1 k).tup r1.ef hz hvs.reverse⟩⟩
      subst z
      cases hvs
    · cases hd⟩
end
end DL

/-! ## DL28: // by wide ints -/
namespace DL
open PySem PySem.Spec PyProof.Rows L2
def wideJ (j : Int) : Bool := decide (0 < j) && decide (j.natAbs < 2 ^ 200)
def fdivW : D → D → Option D
  | .int i, .int j => if wideJ j = true then some (.int (i / j)) else none
  | _, _ => none
theorem opd_fdivW {X : Cx} : OpD X (binaryOp .FloorDiv) fdivW := by
  intro pins s σ H x y v u Q I rx ry h
  obtain ⟨Fz, dx, dy, d, e, hx, hy, hg, o⟩ := h
  unfold fdivW at hg
  split at hg
  · split at hg
    · rename_i hc
      cases hg
      cases hx.int_of
      cases hy.int_of
      unfold wideJ at hc
      rw [Bool.and_eq_true] at hc
      exact op_fdivW pins s σ H _ _ v u Q I rx ry ⟨_, _, rfl, rfl, wide_div (b := 200) (of_decide_eq_true hc.1) (of_decide_eq_true hc.2) (by decide) (by decide), o.here e (.int _)⟩
    · cases hg
  · cases hg
theorem wideJ_ok {j : Int} (h : 0 < j ∧ j < 2 ^ 64) : wideJ j = true := by
  unfold wideJ
  rw [Bool.and_eq_true]
  refine ⟨decide_eq_true h.1, decide_eq_true ?_⟩
  have : (2 : Nat) ^ 64 < 2 ^ 200 := by decide
  omega
/-! the words of the walk, no texts, no sorted sets -/
end DL

/-! ## DL29: shapes of data: ==, in, repr -/
namespace DL
open PySem PySem.Spec PyProof.Rows L2
section
variable {α : Type} (f : α → D)
theorem canAll_map {l : List α} (h : ∀ x ∈ l, (f x).canLay0 = true) : PyData.canLayAll0 (l.map f) = true := by
  induction l with
  | nil => simp [PyData.canLayAll0]
  | cons a l ih =>
    rw [List.map_cons]
    simp only [PyData.canLayAll0, h a List.mem_cons_self, Bool.true_and]
    exact ih fun x hx => h x (List.mem_cons_of_mem _ hx)
theorem depthAll_map {l : List α} {n : Nat} (h : ∀ x ∈ l, (f x).depth ≤ n) : PyData.depthAll (l.map f) ≤ n := by
  induction l with
  | nil => simp [PyData.depthAll]
  | cons a l ih =>
    rw [List.map_cons]
    simp only [PyData.depthAll]
    have := h a List.mem_cons_self
    have := ih fun x hx => h x (List.mem_cons_of_mem _ hx)
    omega
theorem showAll_map {l : List α} (h : ∀ x ∈ l, (f x).showable = true) : PyData.showableAll (l.map f) = true := by
  induction l with
  | nil => simp [PyData.showableAll]
  | cons a l ih =>
    rw [List.map_cons]
    simp only [PyData.showableAll, h a List.mem_cons_self, Bool.true_and]
    exact ih fun x hx => h x (List.mem_cons_of_mem _ hx)
theorem eqvAll_map [DecidableEq α] (h : ∀ x y, (f x).eqv (f y) = decide (x = y)) : ∀ l m : List α, PyData.eqvAll (l.map f) (m.map f) = decide (l = m)
  | [], [] => by simp [PyData.eqvAll]
  | [], b :: m => by simp [PyData.eqvAll]
  | a :: l, [] => by simp [PyData.eqvAll]
  | a :: l, b :: m => by
    rw [List.map_cons, List.map_cons]
    simp only [PyData.eqvAll, h, eqvAll_map h l m]
    by_cases e : a = b <;> by_cases e2 : l = m <;> simp [e, e2]
end
mutual
/-- a bound on the length of the text of d -/
def cost : D → Nat
  | .none => 4
  | .bool _ => 5
  | .int i => i.natAbs.log2 + 3
  | .str x => 10 * x.length + 2
  | .list xs => costAll xs + 2
  | .tuple xs => costAll xs + 3
  | .dict _ => 0
def costAll : List D → Nat
  | [] => 0
  | x :: xs => cost x + 2 + costAll xs
end
theorem costAll_map {α : Type} (f : α → D) {l : List α} {n : Nat} (h : ∀ x ∈ l, cost (f x) ≤ n) : costAll (l.map f) ≤ l.length * (n + 2) := by
  induction l with
  | nil => simp [costAll]
  | cons a l ih =>
    rw [List.map_cons, List.length_cons]
    simp only [costAll]
    have := h a List.mem_cons_self
    have := ih fun x hx => h x (List.mem_cons_of_mem _ hx)
    rw [Nat.add_mul]
    omega
theorem sum_join : ∀ ts : List Str, (Str.join ", " ts).length ≤ (ts.map fun t => t.length + 2).sum
  | [] => by simp [Str.join]; rfl
  | [x] => by show x.length ≤ _; simp
  | x :: y :: r => by
    have ih := sum_join (y :: r)
    show (x ++ ", " ++ Str.join ", " (y :: r)).length ≤ _
    have e2 : ((", " : String) : Str).length = 2 := rfl
    rw [Str.length_append, Str.length_append, e2]
    simp only [List.map_cons, List.sum_cons] at ih ⊢
    omega
theorem textFrom_sum : ∀ (ts : List Str) (k : Nat) (acc : Str), (textFrom k acc ts).length ≤ acc.length + (ts.map fun t => t.length + 2).sum
  | [], k, acc => by simp [textFrom]
  | t :: r, k, acc => by
    have h := textFrom_sum r (k + 1) (acc ++ (if k > 0 then ", " else "" : String) ++ t)
    have e : (acc ++ (if k > 0 then ", " else "" : String) ++ t).length ≤ acc.length + 2 + t.length := by
      rw [Str.length_append, Str.length_append]
      split
      · have : (Str.ofString ", ").length = 2 := rfl
        omega
      · have : (Str.ofString "").length = 0 := rfl
        omega
    show (textFrom (k + 1) (acc ++ (if k > 0 then ", " else "" : String) ++ t) r).length ≤ _
    simp only [List.map_cons, List.sum_cons]
    omega
mutual
theorem shown_le : ∀ d : D, d.canLay0 = true → d.shown.length ≤ cost d
  | .none, _ => by
    have : (PyData.none.shown).length = 4 := by simp only [PyData.shown]; rfl
    rw [this]; exact Nat.le_refl _
  | .bool b, _ => by
    cases b
    · have : ((PyData.bool false).shown).length = 5 := by simp only [PyData.shown]; rfl
      rw [this]; exact Nat.le_refl _
    · have : ((PyData.bool true).shown).length = 4 := by simp only [PyData.shown]; rfl
      rw [this]; simp [cost]
  | .int i, _ => by
    simp only [PyData.shown, cost]
    have h := int_text_length_le (a := i) (k := i.natAbs.log2 + 1) (by omega) (by omega)
    rw [PySem.ofString_length]
    omega
  | .str x, h => by
    simp only [PyData.shown, cost]
    have hx : ∀ c ∈ x.cps.toList, c < 16 ^ 8 := by
      simp only [PyData.canLay0] at h
      unfold PyData.strOk at h
      rw [← Array.all_toList, List.all_eq_true] at h
      intro c hc
      have := of_decide_eq_true (h c hc)
      omega
    have := PySem.StrLaws.reprText_len x hx
    omega
  | .list xs, h => by
    simp only [PyData.shown, cost]
    simp only [PyData.canLay0] at h
    have := shownAll_le xs h
    have t := textFrom_sum (PyData.shownAll xs) 0 "["
    unfold listText
    rw [Str.length_append]
    have a2 : (Str.ofString "[").length = 1 := rfl
    have a3 : (Str.ofString "]").length = 1 := rfl
    omega
  | .tuple xs, h => by
    simp only [PyData.shown, cost]
    simp only [PyData.canLay0] at h
    have := shownAll_le xs h
    have t := sum_join (PyData.shownAll xs)
    unfold tupleText
    rw [Str.length_append, Str.length_append]
    have a2 : (Str.ofString "(").length = 1 := rfl
    have a3 : (Str.ofString (if ((PyData.shownAll xs).length == 1) = true then ",)" else ")" : String)).length ≤ 2 := by
      split
      · exact Nat.le_refl 2
      · exact Nat.le_succ 1
    omega
  | .dict kvs, h => by simp [PyData.canLay0] at h
theorem shownAll_le : ∀ ds : List D, PyData.canLayAll0 ds = true → ((PyData.shownAll ds).map fun t => t.length + 2).sum ≤ costAll ds
  | [], _ => by simp [PyData.shownAll, costAll]
  | x :: xs, h => by
    simp only [PyData.canLayAll0, Bool.and_eq_true] at h
    have h1 := shown_le x h.1
    have h2 := shownAll_le xs h.2
    simp only [PyData.shownAll, costAll, List.map_cons, List.sum_cons]
    omega
end
mutual
theorem noDict : ∀ d : D, d.canLay0 = true → d.hasDict = false
  | .none, _ => by simp [PyData.hasDict]
  | .bool _, _ => by simp [PyData.hasDict]
  | .int _, _ => by simp [PyData.hasDict]
  | .str _, _ => by simp [PyData.hasDict]
  | .list xs, h => by
    simp only [PyData.canLay0] at h
    simp only [PyData.hasDict]
    exact noDictAll xs h
  | .tuple xs, h => by
    simp only [PyData.canLay0] at h
    simp only [PyData.hasDict]
    exact noDictAll xs h
  | .dict kvs, h => by simp [PyData.canLay0] at h
theorem noDictAll : ∀ ds : List D, PyData.canLayAll0 ds = true → PyData.hasDictAll ds = false
  | [], _ => by simp [PyData.hasDictAll]
  | x :: xs, h => by
    simp only [PyData.canLayAll0, Bool.and_eq_true] at h
    simp only [PyData.hasDictAll, noDict x h.1, noDictAll xs h.2, Bool.or_false]
end
/-- what repr([x]) asks -/
structure Shows (x : D) (c : Nat) : Prop where
  can : x.canLay0 = true
  sh : x.showable = true
  dp : x.depth ≤ 50
  co : cost x ≤ c
theorem repr_ok {x : D} {c : Nat} (h : Shows x c) (hc : c ≤ 900000) : ∃ z, reprD [.list [x]] = some (.str z) := by
  have can : (PyData.list [x]).canLay0 = true := by simp [PyData.canLay0, PyData.canLayAll0, h.can]
  have c1 : (PyData.list [x]).showable = true := by simp [PyData.showable, PyData.showableAll, h.sh]
  have c2 := noDict _ can
  have c3 : (PyData.list [x]).depth ≤ 60 := by
    have := h.dp
    simp [PyData.depth, PyData.depthAll]
    omega
  have c4 : (PyData.list [x]).shown.length ≤ lim := by
    have := shown_le _ can
    have h4 := h.co
    simp only [cost, costAll] at this
    have : lim = 1000000 := rfl
    omega
  refine ⟨(PyData.list [x]).shown, ?_⟩
  unfold reprD
  exact if_pos ⟨c1, c2, c3, c4⟩
theorem shaped_of {x : D} (h : x.canLay0 = true) (hd : x.depth ≤ 64) : SeqAt.shaped x = true := by
  unfold SeqAt.shaped
  rw [h, Bool.true_and]
  exact decide_eq_true hd
theorem eqB_lists {xs ys : List D} (h1 : SeqAt.shaped (.list xs) = true) (h2 : SeqAt.shaped (.list ys) = true) : eqB (.list xs) (.list ys) = some (PyData.eqvAll xs ys) := by
  show (if (SeqAt.shaped (.list xs) && SeqAt.shaped (.list ys)) = true then some (PyData.eqv (.list xs) (.list ys)) else none) = _
  rw [h1, h2, if_pos (show (true && true) = true from rfl)]
  simp only [PyData.eqv]
theorem eqB_tuples {xs ys : List D} (h1 : SeqAt.shaped (.tuple xs) = true) (h2 : SeqAt.shaped (.tuple ys) = true) : eqB (.tuple xs) (.tuple ys) = some (PyData.eqvAll xs ys) := by
  show (if (SeqAt.shaped (.tuple xs) && SeqAt.shaped (.tuple ys)) = true then some (PyData.eqv (.tuple xs) (.tuple ys)) else none) = _
  rw [h1, h2, if_pos (show (true && true) = true from rfl)]
  simp only [PyData.eqv]
theorem inB_tup {xs : List D} {ds : List D} (h1 : SeqAt.shaped (.tuple xs) = true) (h2 : SeqAt.shaped (.list ds) = true) : inB (.tuple xs) (.list ds) = some (ds.any fun z => PyData.eqv z (.tuple xs)) := by
  show (if (flatD (.tuple xs) && ds.all flatD) = true then some (ds.any fun z => PyData.eqv z (.tuple xs)) else if (SeqAt.shaped (.tuple xs) && SeqAt.shaped (.list ds)) = true then some (ds.any fun z => PyData.eqv z (.tuple xs)) else none) = _
  rw [h1, h2, if_neg (by simp [flatD]), if_pos (show (true && true) = true from rfl)]
theorem inB_ints (i : Int) (l : List Int) : inB (.int i) (.list (l.map .int)) = some (decide (i ∈ l)) := by
  have h : (l.map PyData.int).all flatD = true := by simp [flatD]
  show (if (flatD (.int i) && (l.map PyData.int).all flatD) = true then some ((l.map PyData.int).any fun z => PyData.eqv z (.int i)) else _) = _
  rw [h, if_pos (by simp [flatD])]
  congr 1
  rw [List.any_map]
  induction l with
  | nil => simp
  | cons a l ih =>
    have := ih (by simp [flatD])
    simp only [List.any_cons, Function.comp, PyData.eqv, List.mem_cons] at this ⊢
    rw [this]
    by_cases e : a = i
    · subst e; simp
    · have e' : ¬ i = a := fun z => e z.symm
      simp [e, e']
end DL

namespace K34
open PySem PySem.Spec PyProof.Rows L2 DL
abbrev Env := DL.Env
def topS (i : Nat) : Stmt := PySem.Challenge.pw_slipguard_k34_whole_measures_read.main.body.getD i (.Pass ⟨0, 0, 0, 0⟩)
abbrev s_l_stream : Stmt := topS 25
theorem sc_l_stream : FnScope ["script", "numbers", "cell", "rest", "k", "stirred"] ["script"] (defScope s_l_stream) := ⟨rfl, rfl, rfl, by decide +kernel, rfl, by decide +kernel, by decide +kernel⟩
abbrev s_l_next : Stmt := topS 26
theorem sc_l_next : FnScope ["state", "many", "turn"] ["state", "many"] (defScope s_l_next) := ⟨rfl, rfl, rfl, by decide +kernel, rfl, by decide +kernel, by decide +kernel⟩
abbrev s_l_patterns : Stmt := topS 31
theorem sc_l_patterns : FnScope ["state", "bars", "top", "found", "k", "row", "pick", "bar", "width"] ["state"] (defScope s_l_patterns) := ⟨rfl, rfl, rfl, by decide +kernel, rfl, by decide +kernel, by decide +kernel⟩
abbrev s_l_gcd : Stmt := topS 28
theorem sc_l_gcd : FnScope ["one", "other", "turn"] ["one", "other"] (defScope s_l_gcd) := ⟨rfl, rfl, rfl, by decide +kernel, rfl, by decide +kernel, by decide +kernel⟩
abbrev s_l_fraction : Stmt := topS 29
theorem sc_l_fraction : FnScope ["top", "below", "part"] ["top", "below"] (defScope s_l_fraction) := ⟨rfl, rfl, rfl, by decide +kernel, rfl, by decide +kernel, by decide +kernel⟩
abbrev s_l_error : Stmt := topS 32
theorem sc_l_error : FnScope ["state", "below"] ["state"] (defScope s_l_error) := ⟨rfl, rfl, rfl, by decide +kernel, rfl, by decide +kernel, by decide +kernel⟩
abbrev s_l_measures : Stmt := topS 37
theorem sc_l_measures : FnScope ["state", "pattern", "error", "unit", "found", "width", "move", "top"] ["state", "pattern", "error"] (defScope s_l_measures) := ⟨rfl, rfl, rfl, by decide +kernel, rfl, by decide +kernel, by decide +kernel⟩
abbrev s_check_patterns : Stmt := topS 17
theorem sc_check_patterns : FnScope ["patterns", "pattern", "width"] ["patterns"] (defScope s_check_patterns) := ⟨rfl, rfl, rfl, by decide +kernel, rfl, by decide +kernel, by decide +kernel⟩
abbrev s_divisor : Stmt := topS 9
theorem sc_divisor : FnScope ["first", "second"] ["first", "second"] (defScope s_divisor) := ⟨rfl, rfl, rfl, by decide +kernel, rfl, by decide +kernel, by decide +kernel⟩
abbrev s_is_fraction : Stmt := topS 11
theorem sc_is_fraction : FnScope ["value"] ["value"] (defScope s_is_fraction) := ⟨rfl, rfl, rfl, by decide +kernel, rfl, by decide +kernel, by decide +kernel⟩
abbrev s_check_measures : Stmt := topS 20
theorem sc_check_measures : FnScope ["patterns", "measures", "measure"] ["patterns", "measures"] (defScope s_check_measures) := ⟨rfl, rfl, rfl, by decide +kernel, rfl, by decide +kernel, by decide +kernel⟩
abbrev s_fraction : Stmt := topS 10
theorem sc_fraction : FnScope ["top", "below", "common"] ["top", "below"] (defScope s_fraction) := ⟨rfl, rfl, rfl, by decide +kernel, rfl, by decide +kernel, by decide +kernel⟩
abbrev s_less : Stmt := topS 12
theorem sc_less : FnScope ["first", "second"] ["first", "second"] (defScope s_less) := ⟨rfl, rfl, rfl, by decide +kernel, rfl, by decide +kernel, by decide +kernel⟩
abbrev s_least_error : Stmt := topS 22
theorem sc_least_error : FnScope ["patterns", "place", "measures", "pattern", "best", "first", "one", "second", "other", "top", "limit"] ["patterns", "place", "measures"] (defScope s_least_error) := ⟨rfl, rfl, rfl, by decide +kernel, rfl, by decide +kernel, by decide +kernel⟩
abbrev s_l_same : Stmt := topS 24
theorem sc_l_same : FnScope ["told", "due"] ["told", "due"] (defScope s_l_same) := ⟨rfl, rfl, rfl, by decide +kernel, rfl, by decide +kernel, by decide +kernel⟩
abbrev s_l_below : Stmt := topS 30
theorem sc_l_below : FnScope ["one", "other"] ["one", "other"] (defScope s_l_below) := ⟨rfl, rfl, rfl, by decide +kernel, rfl, by decide +kernel, by decide +kernel⟩
abbrev s_l_unit : Stmt := topS 36
theorem sc_l_unit : FnScope ["pattern", "error", "measures", "low", "high", "k", "top", "below", "first", "rest", "last"] ["pattern", "error", "measures"] (defScope s_l_unit) := ⟨rfl, rfl, rfl, by decide +kernel, rfl, by decide +kernel, by decide +kernel⟩
abbrev s_l_told : Stmt := topS 27
theorem sc_l_told : FnScope ["call", "e", "kinds", "names", "k"] ["call"] (defScope s_l_told) := ⟨rfl, rfl, rfl, by decide +kernel, rfl, by decide +kernel, by decide +kernel⟩
abbrev s_check_error : Stmt := topS 18
theorem sc_check_error : FnScope ["error"] ["error"] (defScope s_check_error) := ⟨rfl, rfl, rfl, by decide +kernel, rfl, by decide +kernel, by decide +kernel⟩
abbrev s_unit_ends : Stmt := topS 19
theorem sc_unit_ends : FnScope ["pattern", "error", "measures", "top", "below", "low", "high", "width", "measure", "under", "above"] ["pattern", "error", "measures"] (defScope s_unit_ends) := ⟨rfl, rfl, rfl, by decide +kernel, rfl, by decide +kernel, by decide +kernel⟩
abbrev s_readings : Stmt := topS 21
theorem sc_readings : FnScope ["patterns", "error", "measures", "found", "place", "pattern", "low", "high"] ["patterns", "error", "measures"] (defScope s_readings) := ⟨rfl, rfl, rfl, by decide +kernel, rfl, by decide +kernel, by decide +kernel⟩
abbrev s_law : Stmt := topS 38
theorem sc_law : FnScope ["script", "state", "turn", "patterns", "error", "place", "measures", "due", "least", "less_v", "odd", "k"] ["script"] (defScope s_law) := ⟨rfl, rfl, rfl, by decide +kernel, rfl, by decide +kernel, by decide +kernel⟩
/-- what the top has written -/
structure Txt (K : PySem.W.Frag) (mg : Str → Option Value) : Prop where
  b_abs : mg "abs" = none
  b_all : mg "all" = none
  b_enumerate : mg "enumerate" = none
  b_int : mg "int" = none
  b_isinstance : mg "isinstance" = none
  b_len : mg "len" = none
  b_max : mg "max" = none
  b_min : mg "min" = none
  b_range : mg "range" = none
  b_repr : mg "repr" = none
  b_set : mg "set" = none
  b_tuple : mg "tuple" = none
  b_zip : mg "zip" = none
  c_MAX_BARS : ∃ t, mg "MAX_BARS" = some (.int 12 t)
  c_MAX_PATTERNS : ∃ t, mg "MAX_PATTERNS" = some (.int 16 t)
  c_MAX_WIDTH : ∃ t, mg "MAX_WIDTH" = some (.int 30 t)
variable {Tl : List (Addr × Str)} {P : Program} {w : World} {K : PySem.W.Frag} {mg : Str → Option Value} {base : Heap}
def lb_l_stream_1 : Env → SR :=
  (sqS (sM (M.bind (getO 1) fun _ => (M.bind (M.bind (M.bind (getV 3) fun d => M.bind (M.pure []) fun ds => M.pure (d :: ds)) fun ds => opt (intD ds)) fun x => M.bind (M.pure (.int 1009)) fun y => opt (modD x y))) fun d ρ => nxO (updO 1 (fun ds => if ds.length < lim then some (ds ++ [d]) else none) ρ))
  (sqS (sM (M.bind (getV 3) fun x => M.bind (M.pure (.int 1009)) fun y => opt (fdivD x y)) fun d ρ => .nx (ρ.set 3 (some (.val d))))
  (ifS (M.bind (getV 3) fun x => M.bind (M.pure (.int 0)) fun y => opt ((eqD x y).bind boolOf))
    SR.bk
    SR.nx)))
def lb_l_stream_2 : Env → SR :=
  (sqS (sM (M.bind (M.bind (M.bind (M.bind (M.bind (M.bind (getV 5) fun x => M.bind (M.pure (.int 48271)) fun y => opt (mulD2 x y)) fun x => M.bind (M.bind (M.pure (.int 7)) fun x => M.bind (getV 4) fun y => opt (mulD2 x y)) fun y => opt (addD x y)) fun x => M.bind (M.pure (.int 11)) fun y => opt (addD x y)) fun d => M.bind (M.pure []) fun ds => M.pure (d :: ds)) fun ds => opt (intD ds)) fun x => M.bind (M.pure (.int 2147483647)) fun y => opt (modD x y)) fun d ρ => .nx (ρ.set 5 (some (.val d))))
  (sM (M.bind (getO 1) fun _ => (M.bind (M.bind (M.bind (M.bind (M.bind (M.bind (getV 5) fun x => M.bind (M.pure (.int 69621)) fun y => opt (mulD2 x y)) fun x => M.bind (getV 4) fun y => opt (addD x y)) fun d => M.bind (M.pure []) fun ds => M.pure (d :: ds)) fun ds => opt (intD ds)) fun x => M.bind (M.pure (.int 2147483629)) fun y => opt (modD x y)) fun x => M.bind (M.pure (.int 1009)) fun y => opt (modD x y))) fun d ρ => nxO (updO 1 (fun ds => if ds.length < lim then some (ds ++ [d]) else none) ρ)))
def lb_l_stream_3 : Env → SR :=
  (sqS (sM (M.bind (M.bind (M.bind (M.bind (getV 2) fun d => M.bind (M.pure []) fun ds => M.pure (d :: ds)) fun ds => opt (intD ds)) fun d => M.bind (M.pure []) fun ds => M.pure (d :: ds)) fun ds => opt (absD ds)) fun d ρ => .nx (ρ.set 3 (some (.val d))))
  (ifS (M.bind (getV 3) fun x => M.bind (M.bind (M.pure (.int 10)) fun x => M.bind (M.pure (.int 18)) fun y => opt (powD x y)) fun y => opt ((geD x y).bind boolOf))
    (sM (M.bind (M.bind (M.pure (.int 60)) fun d => M.bind (M.pure []) fun ds => M.pure (d :: ds)) fun ds => opt (range1 ds)) fun items ρ => forS [4] (fun d ρ => some (ρ.set 4 (some (.val d))))
    lb_l_stream_1 items (wipeE [4] ρ))
    (sqS (sM (M.bind (M.bind (M.bind (getV 3) fun d => M.bind (M.pure []) fun ds => M.pure (d :: ds)) fun ds => opt (intD ds)) fun x => M.bind (M.pure (.int 2147483647)) fun y => opt (modD x y)) fun d ρ => .nx (ρ.set 5 (some (.val d))))
  (sM (M.bind (M.bind (M.pure (.int 10)) fun d => M.bind (M.pure []) fun ds => M.pure (d :: ds)) fun ds => opt (range1 ds)) fun items ρ => forS [4] (fun d ρ => some (ρ.set 4 (some (.val d))))
    lb_l_stream_2 items (wipeE [4] ρ)))))
def g_l_stream : Env → SR :=
  (sqS (sM (M.pure []) fun ds ρ => .nx (ρ.set 1 (some (.own false (.list ds)))))
  (sqS (sM (M.bind (M.bind (getS 0) fun ds => M.bind (M.pure none) fun l => M.bind (M.bind (M.pure (.int 63)) fun d => opt (partOf d)) fun u => M.pure (.list (cutD ds l u))) fun x => opt (itemsOf x)) fun items ρ => forS [2, 3, 4, 5] (fun d ρ => some (ρ.set 2 (some (.val d))))
    lb_l_stream_3 items (wipeE [2, 3, 4, 5] ρ))
  (sqS (ifS (M.bind (M.bind (getO 1) fun ds => M.pure (.int ds.length)) fun x => M.bind (M.pure (.int 0)) fun y => opt ((eqD x y).bind boolOf))
    (sM (M.bind (getO 1) fun _ => (M.pure (.int 0))) fun d ρ => nxO (updO 1 (fun ds => if ds.length < lim then some (ds ++ [d]) else none) ρ))
    SR.nx)
  (fun ρ => (sM (getV 1) .rt) (frzs [1] ρ)))))
def F_l_stream (ds : List D) : Rz := fdS 6 g_l_stream ds
set_option maxHeartbeats 4000000 in
theorem ok_l_stream (T : Txt K mg)  {f : Addr} {fd : FuncData} (F : Fun K "_law_stream" "_law_stream" s_l_stream f fd) : FnOk P w K mg base (L2N.CX P w) 1 f fd ["script"] (spS Tl K F_l_stream) :=
  dl_defS F sc_l_stream rfl (fun cdv A outer s H E hr =>
  show DSs _ _ _ _ g_l_stream from
  (dss_cons (ds_setN 1 sc_l_stream.nd (dn_lst da_nil))
  (dss_cons (ds_for [2, 3, 4, 5] (passes_of rfl) rfl (di_seq (de_slSeq 0 do_none (do_some de_int))) (dg_name 2 sc_l_stream.nd)
    (dss_cons (ds_set 3 sc_l_stream.nd (de_callB cd_abs (by rfl) T.b_abs (by decide +kernel) (da_cons (de_callT cd_int (by rfl) T.b_int (by decide +kernel) (da_cons (de_var 2) da_nil)) da_nil)))
  (dss_one (ds_if (dt_cmp opd_ge (de_var 3) (de_op opd_pow de_int de_int) (by first | exact nomark _ | rfl | decide))
    (dss_one (ds_for [4] (passes_of rfl) rfl (di_range1 (by rfl) T.b_range (da_cons de_int da_nil)) (dg_name 4 sc_l_stream.nd)
    (dss_cons (ds_append 1 (de_op opd_mod (de_callT cd_int (by rfl) T.b_int (by decide +kernel) (da_cons (de_var 3) da_nil)) de_int))
  (dss_cons (ds_set 3 sc_l_stream.nd (de_op opd_fdiv (de_var 3) de_int))
  (dss_one (ds_if (dt_cmp (opd_eq (by exact hu_n _ hr)) (de_var 3) de_int (by first | exact nomark _ | rfl | decide))
    (dss_one ds_break)
    dss_nil))))))
    (dss_cons (ds_set 5 sc_l_stream.nd (de_op opd_mod (de_callT cd_int (by rfl) T.b_int (by decide +kernel) (da_cons (de_var 3) da_nil)) de_int))
  (dss_one (ds_for [4] (passes_of rfl) rfl (di_range1 (by rfl) T.b_range (da_cons de_int da_nil)) (dg_name 4 sc_l_stream.nd)
    (dss_cons (ds_set 5 sc_l_stream.nd (de_op opd_mod (de_callT cd_int (by rfl) T.b_int (by decide +kernel) (da_cons (de_op opd_add (de_op opd_add (de_op opd_mul (de_var 5) de_int) (de_op opd_mul de_int (de_var 4))) de_int) da_nil)) de_int))
  (dss_one (ds_append 1 (de_op opd_mod (de_op opd_mod (de_callT cd_int (by rfl) T.b_int (by decide +kernel) (da_cons (de_op opd_add (de_op opd_mul (de_var 5) de_int) (de_var 4)) da_nil)) de_int) de_int)))))))))))
  (dss_cons (ds_if (dt_cmp (opd_eq (by exact hu_n _ hr)) (de_lenO 1 (by rfl) T.b_len) de_int (by first | exact nomark _ | rfl | decide))
    (dss_one (ds_append 1 de_int))
    dss_nil)
  (dss_one (ds_pre (snd_frzs [1]) (ds_ret (de_var 1))))))))
def g_l_next : Env → SR :=
  (sqS (sM (M.bind (M.bind (getO 0) fun _ => M.bind (M.pure (.int 1)) fun y => M.bind (getO 0) fun ds => opt (ixD (.list ds) y)) fun x => M.bind (M.pure (.int 1)) fun y => opt (addD x y)) fun d => sM (M.bind (getO 0) fun _ => (M.pure (.int 1))) fun k ρ => nxO (updO 0 (fun ds => setIxD ds k d) ρ))
  (sqS (sM (M.bind (M.bind (getO 0) fun _ => M.bind (M.pure (.int 1)) fun y => M.bind (getO 0) fun ds => opt (ixD (.list ds) y)) fun x => M.bind (M.bind (M.bind (M.bind (getO 0) fun _ => M.bind (M.pure (.int 0)) fun y => M.bind (getO 0) fun ds => opt (ixD (.list ds) y)) fun d => M.bind (M.pure []) fun ds => M.pure (d :: ds)) fun ds => opt (lenD ds)) fun y => opt (fdivD x y)) fun d ρ => .nx (ρ.set 2 (some (.val d))))
  (sM (M.bind (M.bind (M.bind (M.bind (M.bind (M.bind (M.bind (getO 0) fun _ => M.bind (M.pure (.int 0)) fun y => M.bind (getO 0) fun ds => opt (ixD (.list ds) y)) fun x => M.bind (M.bind (M.bind (getO 0) fun _ => M.bind (M.pure (.int 1)) fun y => M.bind (getO 0) fun ds => opt (ixD (.list ds) y)) fun x => M.bind (M.bind (M.bind (M.bind (getO 0) fun _ => M.bind (M.pure (.int 0)) fun y => M.bind (getO 0) fun ds => opt (ixD (.list ds) y)) fun d => M.bind (M.pure []) fun ds => M.pure (d :: ds)) fun ds => opt (lenD ds)) fun y => opt (modD x y)) fun y => opt (ixD x y)) fun x => M.bind (M.bind (getV 2) fun x => M.bind (M.pure (.int 389)) fun y => opt (mulD2 x y)) fun y => opt (addD x y)) fun x => M.bind (M.bind (M.bind (M.bind (getO 0) fun _ => M.bind (M.pure (.int 1)) fun y => M.bind (getO 0) fun ds => opt (ixD (.list ds) y)) fun x => M.bind (getV 2) fun y => opt (mulD2 x y)) fun x => M.bind (M.pure (.int 17)) fun y => opt (mulD2 x y)) fun y => opt (addD x y)) fun d => M.bind (M.pure []) fun ds => M.pure (d :: ds)) fun ds => opt (intD ds)) fun x => M.bind (getV 1) fun y => opt (modD x y)) .rt)))
def F_l_next (s0 ds : List D) : Option (D × List D) := fdOO 3 g_l_next s0 ds
set_option maxHeartbeats 4000000 in
theorem ok_l_next (T : Txt K mg)  {f : Addr} {fd : FuncData} (F : Fun K "_law_next" "_law_next" s_l_next f fd) : FnOk P w K mg base (L2N.CX P w) 1 f fd ["state", "many"] (spO Tl 2 F_l_next) :=
  dl_defO F sc_l_next (fun cdv A outer s H E hr =>
  show DSs _ _ _ _ g_l_next from
  (dss_cons (ds_setIx 0 (de_op opd_add (de_ixO 0 de_int (by intro _ _; rfl)) de_int) de_int)
  (dss_cons (ds_set 2 sc_l_next.nd (de_op opd_fdiv (de_ixO 0 de_int (by intro _ _; rfl)) (de_callB cd_len (by rfl) T.b_len (by decide +kernel) (da_cons (de_ixO 0 de_int (by intro _ _; rfl)) da_nil))))
  (dss_one (ds_ret (de_op opd_mod (de_callT cd_int (by rfl) T.b_int (by decide +kernel) (da_cons (de_op opd_add (de_op opd_add (de_ix (de_ixO 0 de_int (by intro _ _; rfl)) (de_op opd_mod (de_ixO 0 de_int (by intro _ _; rfl)) (de_callB cd_len (by rfl) T.b_len (by decide +kernel) (da_cons (de_ixO 0 de_int (by intro _ _; rfl)) da_nil))) (by intro _ _; rfl)) (de_op opd_mul (de_var 2) de_int)) (de_op opd_mul (de_op opd_mul (de_ixO 0 de_int (by intro _ _; rfl)) (de_var 2)) de_int)) da_nil)) (de_var 1)))))))
def le_l_patterns_1 : M D :=
  (M.bind (M.pure (.int 1)) fun x => M.bind (M.bind (getO 0) fun _ => M.bind (M.bind (getV 2) fun d => M.bind (M.pure []) fun ds => M.pure (d :: ds)) fun ds => M.bind (getO 0) fun s0 => M.bind (opt (F_l_next s0 ds)) fun z => M.bind (putO 0 z.2) fun _ => M.pure z.1) fun y => opt (addD x y))
def le_l_patterns_2 : M D :=
  (M.bind (M.bind (M.pure (.int 30)) fun d => M.bind (M.bind (M.bind (M.pure (.int 2)) fun x => M.bind (getV 8) fun y => opt (mulD2 x y)) fun d => M.bind (M.pure []) fun ds => M.pure (d :: ds)) fun ds => M.pure (d :: ds)) fun ds => opt (min2D ds))
def lb_l_patterns_3 : Env → SR :=
  (sqS (sM (M.bind (M.bind (M.bind (M.bind (M.bind (M.bind (getV 1) fun d => M.bind (M.pure []) fun ds => M.pure (d :: ds)) fun ds => opt (range1 ds)) (lcM [7] (fun d ρ => some (ρ.set 7 (some (.val d)))) (M.pure true) le_l_patterns_1)) fun ds => M.pure (.list ds)) fun d => M.bind (M.pure []) fun ds => M.pure (d :: ds)) fun ds => opt (tupleD ds)) fun d ρ => .nx (ρ.set 5 (some (.val d))))
  (sqS (sM (M.bind (getO 0) fun _ => M.bind (M.bind (M.pure (.int 4)) fun d => M.bind (M.pure []) fun ds => M.pure (d :: ds)) fun ds => M.bind (getO 0) fun s0 => M.bind (opt (F_l_next s0 ds)) fun z => M.bind (putO 0 z.2) fun _ => M.pure z.1) fun d ρ => .nx (ρ.set 6 (some (.val d))))
  (sqS (ifS (M.bind (M.bind (getO 3) fun _ => M.bind (M.bind (M.pure []) fun ds => M.pure (.list ds)) fun y => M.bind (getO 3) fun ds => opt ((neD (.list ds) y).bind boolOf)) fun t => if t = true then (M.bind (getV 6) fun x => M.bind (M.pure (.int 0)) fun y => opt ((eqD x y).bind boolOf)) else M.pure false)
    (sM (M.bind (M.bind (getO 3) fun _ => M.bind (M.bind (M.pure (.int 1)) fun x => opt (negD x)) fun y => M.bind (getO 3) fun ds => opt (ixD (.list ds) y)) fun x => opt (revAD x)) fun d ρ => .nx (ρ.set 5 (some (.val d))))
    SR.nx)
  (sqS (ifS (M.bind (M.bind (getO 3) fun _ => M.bind (M.bind (M.pure []) fun ds => M.pure (.list ds)) fun y => M.bind (getO 3) fun ds => opt ((neD (.list ds) y).bind boolOf)) fun t => if t = true then (M.bind (getV 6) fun x => M.bind (M.pure (.int 1)) fun y => opt ((eqD x y).bind boolOf)) else M.pure false)
    (sM (M.bind (M.bind (M.bind (M.bind (M.bind (M.bind (getO 3) fun _ => M.bind (M.bind (M.pure (.int 1)) fun x => opt (negD x)) fun y => M.bind (getO 3) fun ds => opt (ixD (.list ds) y)) fun x => opt (itemsOf x)) (lcM [8] (fun d ρ => some (ρ.set 8 (some (.val d)))) (M.pure true) le_l_patterns_2)) fun ds => M.pure (.list ds)) fun d => M.bind (M.pure []) fun ds => M.pure (d :: ds)) fun ds => opt (tupleD ds)) fun d ρ => .nx (ρ.set 5 (some (.val d))))
    SR.nx)
  (ifS (M.bind (getV 5) fun y => M.bind (getO 3) fun ds => opt ((ninD y (.list ds)).bind boolOf))
    (sM (M.bind (getO 3) fun _ => (getV 5)) fun d ρ => nxO (updO 3 (fun ds => if ds.length < lim then some (ds ++ [d]) else none) ρ))
    SR.nx)))))
def g_l_patterns : Env → SR :=
  (sqS (sM (M.bind (M.pure (.int 2)) fun x => M.bind (M.bind (getO 0) fun _ => M.bind (M.bind (M.bind (M.bind (M.bind (M.pure (.int 3)) fun d => M.bind (M.bind (M.pure (.int 5)) fun d => M.bind (M.pure []) fun ds => M.pure (d :: ds)) fun ds => M.pure (d :: ds)) fun ds => M.pure (.list ds)) fun x => M.bind (M.bind (getO 0) fun _ => M.bind (M.bind (M.pure (.int 2)) fun d => M.bind (M.pure []) fun ds => M.pure (d :: ds)) fun ds => M.bind (getO 0) fun s0 => M.bind (opt (F_l_next s0 ds)) fun z => M.bind (putO 0 z.2) fun _ => M.pure z.1) fun y => opt (ixD x y)) fun d => M.bind (M.pure []) fun ds => M.pure (d :: ds)) fun ds => M.bind (getO 0) fun s0 => M.bind (opt (F_l_next s0 ds)) fun z => M.bind (putO 0 z.2) fun _ => M.pure z.1) fun y => opt (addD x y)) fun d ρ => .nx (ρ.set 1 (some (.val d))))
  (sqS (sM (M.bind (M.bind (M.bind (M.pure (.int 3)) fun d => M.bind (M.bind (M.pure (.int 6)) fun d => M.bind (M.bind (M.pure (.int 30)) fun d => M.bind (M.pure []) fun ds => M.pure (d :: ds)) fun ds => M.pure (d :: ds)) fun ds => M.pure (d :: ds)) fun ds => M.pure (.list ds)) fun x => M.bind (M.bind (getO 0) fun _ => M.bind (M.bind (M.pure (.int 3)) fun d => M.bind (M.pure []) fun ds => M.pure (d :: ds)) fun ds => M.bind (getO 0) fun s0 => M.bind (opt (F_l_next s0 ds)) fun z => M.bind (putO 0 z.2) fun _ => M.pure z.1) fun y => opt (ixD x y)) fun d ρ => .nx (ρ.set 2 (some (.val d))))
  (sqS (sM (M.pure []) fun ds ρ => .nx (ρ.set 3 (some (.own false (.list ds)))))
  (sqS (sM (M.bind (M.bind (M.bind (M.pure (.int 1)) fun x => M.bind (M.bind (getO 0) fun _ => M.bind (M.bind (M.pure (.int 5)) fun d => M.bind (M.pure []) fun ds => M.pure (d :: ds)) fun ds => M.bind (getO 0) fun s0 => M.bind (opt (F_l_next s0 ds)) fun z => M.bind (putO 0 z.2) fun _ => M.pure z.1) fun y => opt (addD x y)) fun d => M.bind (M.pure []) fun ds => M.pure (d :: ds)) fun ds => opt (range1 ds)) fun items ρ => forS [4, 5, 6] (fun d ρ => some (ρ.set 4 (some (.val d))))
    lb_l_patterns_3 items (wipeE [4, 5, 6] ρ))
  (fun ρ => (sM (M.bind (M.bind (getV 3) fun d => M.bind (M.pure []) fun ds => M.pure (d :: ds)) fun ds => opt (tupleD ds)) .rt) (frzs [3] ρ))))))
def F_l_patterns (s0 ds : List D) : Option (D × List D) := fdOO 9 g_l_patterns s0 ds
set_option maxHeartbeats 4000000 in
theorem ok_l_patterns (T : Txt K mg)  {f_l_next : Addr} {fd_l_next : FuncData} (h_l_next : Has K mg "_law_next" s_l_next ["state", "many"] f_l_next fd_l_next) (G_l_next : FnOk P w K mg base (L2N.CX P w) 1 f_l_next fd_l_next ["state", "many"] (spO Tl 2 F_l_next)) {f : Addr} {fd : FuncData} (F : Fun K "_law_patterns" "_law_patterns" s_l_patterns f fd) : FnOk P w K mg base (L2N.CX P w) 2 f fd ["state"] (spO Tl 1 F_l_patterns) :=
  dl_defO F sc_l_patterns (fun cdv A outer s H E hr =>
  show DSs _ _ _ _ g_l_patterns from
  (dss_cons (ds_set 1 sc_l_patterns.nd (de_op opd_add de_int (de_callO 0 G_l_next (hr.mono (by decide)) (by rfl) h_l_next.g h_l_next.k h_l_next.b (da_cons (de_ix (de_n (dn_lst (da_cons de_int (da_cons de_int da_nil)))) (de_callO 0 G_l_next (hr.mono (by decide)) (by rfl) h_l_next.g h_l_next.k h_l_next.b (da_cons de_int da_nil)) (by intro _ _; rfl)) da_nil))))
  (dss_cons (ds_set 2 sc_l_patterns.nd (de_ix (de_n (dn_lst (da_cons de_int (da_cons de_int (da_cons de_int da_nil))))) (de_callO 0 G_l_next (hr.mono (by decide)) (by rfl) h_l_next.g h_l_next.k h_l_next.b (da_cons de_int da_nil)) (by intro _ _; rfl)))
  (dss_cons (ds_setN 3 sc_l_patterns.nd (dn_lst da_nil))
  (dss_cons (ds_for [4, 5, 6] (passes_of rfl) rfl (di_range1 (by rfl) T.b_range (da_cons (de_op opd_add de_int (de_callO 0 G_l_next (hr.mono (by decide)) (by rfl) h_l_next.g h_l_next.k h_l_next.b (da_cons de_int da_nil))) da_nil)) (dg_name 4 sc_l_patterns.nd)
    (dss_cons (ds_set 5 sc_l_patterns.nd (de_callT cd_tuple (by rfl) T.b_tuple (by decide +kernel) (da_cons (de_n (dn_lc (own := [("bar", 7)]) rfl sc_l_patterns.nd (di_range1 (by rfl) T.b_range (da_cons (de_var 1) da_nil)) (by refine blkOk_by (own := [("bar", 7)]) ?_; show blkC ["state", "bars", "top", "found", "k", "row", "pick", "bar", "width"] (defScope s_l_patterns) _ _ = true; decide +kernel) (by decide) (fun _ _ _ _ _ => (dg_name 7 sc_l_patterns.nd)) (fun _ _ _ _ _ => dts_nil) (fun _ _ _ _ _ => (de_op opd_add de_int (de_callO 0 G_l_next (hr.mono (by decide)) (by rfl) h_l_next.g h_l_next.k h_l_next.b (da_cons (de_var 2) da_nil)))))) da_nil)))
  (dss_cons (ds_set 6 sc_l_patterns.nd (de_callO 0 G_l_next (hr.mono (by decide)) (by rfl) h_l_next.g h_l_next.k h_l_next.b (da_cons de_int da_nil)))
  (dss_cons (ds_if (dt_w (dw_and (dt_cmpO 3 (opd_ne (by exact hu_n _ hr)) (de_n (dn_lst da_nil)) (by first | exact nomark _ | rfl | decide)) (dw_and1 (dt_cmp (opd_eq (by exact hu_n _ hr)) (de_var 6) de_int (by first | exact nomark _ | rfl | decide)))))
    (dss_one (ds_set 5 sc_l_patterns.nd (de_revA (de_ixO 3 (de_neg de_int) (by intro _ _; rfl)))))
    dss_nil)
  (dss_cons (ds_if (dt_w (dw_and (dt_cmpO 3 (opd_ne (by exact hu_n _ hr)) (de_n (dn_lst da_nil)) (by first | exact nomark _ | rfl | decide)) (dw_and1 (dt_cmp (opd_eq (by exact hu_n _ hr)) (de_var 6) de_int (by first | exact nomark _ | rfl | decide)))))
    (dss_one (ds_set 5 sc_l_patterns.nd (de_callT cd_tuple (by rfl) T.b_tuple (by decide +kernel) (da_cons (de_n (dn_lc (own := [("width", 8)]) rfl sc_l_patterns.nd (di_seq (de_ixO 3 (de_neg de_int) (by intro _ _; rfl))) (by refine blkOk_by (own := [("width", 8)]) ?_; show blkC ["state", "bars", "top", "found", "k", "row", "pick", "bar", "width"] (defScope s_l_patterns) _ _ = true; decide +kernel) (by decide) (fun _ _ _ _ _ => (dg_name 8 sc_l_patterns.nd)) (fun _ _ _ _ _ => dts_nil) (fun _ _ _ _ _ => (de_callB (cd_min2 rfl) (by rfl) T.b_min (by decide +kernel) (da_cons de_int (da_cons (de_op opd_mul de_int (de_var 8)) da_nil)))))) da_nil))))
    dss_nil)
  (dss_one (ds_if (dt_cmpR 3 (opd_nin (by exact hu_n _ hr)) (de_var 5) (by first | exact nomark _ | rfl | decide))
    (dss_one (ds_append 3 (de_var 5)))
    dss_nil)))))))
  (dss_one (ds_pre (snd_frzs [3]) (ds_ret (de_callT cd_tuple (by rfl) T.b_tuple (by decide +kernel) (da_cons (de_var 3) da_nil))))))))))
def lb_l_gcd_1 : Env → SR :=
  (sqS (ifS (M.bind (getV 1) fun x => M.bind (M.pure (.int 0)) fun y => opt ((eqD x y).bind boolOf))
    SR.bk
    SR.nx)
  (sM (M.bind (getV 1) fun d => M.bind (M.bind (M.bind (getV 0) fun x => M.bind (getV 1) fun y => opt (modD x y)) fun d => M.bind (M.pure []) fun ds => M.pure (d :: ds)) fun ds => M.pure (d :: ds)) fun (ds : List D) ρ => match ds with | [d, e] => .nx ((ρ.set 0 (some (.val d))).set 1 (some (.val e))) | _ => .bad))
def g_l_gcd : Env → SR :=
  (sqS (sM (M.bind (M.bind (M.pure (.int 400)) fun d => M.bind (M.pure []) fun ds => M.pure (d :: ds)) fun ds => opt (range1 ds)) fun items ρ => forS [2] (fun d ρ => some (ρ.set 2 (some (.val d))))
    lb_l_gcd_1 items (wipeE [2] ρ))
  (sM (M.bind (M.bind (getV 0) fun d => M.bind (M.pure []) fun ds => M.pure (d :: ds)) fun ds => opt (absD ds)) .rt))
def F_l_gcd (ds : List D) : Rz := fdOf 3 g_l_gcd ds
set_option maxHeartbeats 4000000 in
theorem ok_l_gcd (T : Txt K mg)  {f : Addr} {fd : FuncData} (F : Fun K "_law_gcd" "_law_gcd" s_l_gcd f fd) : FnOk P w K mg base (L2N.CX P w) 1 f fd ["one", "other"] (spD Tl mg 2 F_l_gcd) :=
  dl_def F sc_l_gcd (fun cdv A outer s H E hr =>
  show DSs _ _ _ _ g_l_gcd from
  (dss_cons (ds_for [2] (passes_of rfl) rfl (di_range1 (by rfl) T.b_range (da_cons de_int da_nil)) (dg_name 2 sc_l_gcd.nd)
    (dss_cons (ds_if (dt_cmp (opd_eq (by exact hu_n _ hr)) (de_var 1) de_int (by first | exact nomark _ | rfl | decide))
    (dss_one ds_break)
    dss_nil)
  (dss_one (ds_par 0 1 rfl sc_l_gcd.nd (da_cons (de_var 1) (da_cons (de_op opd_mod (de_var 0) (de_var 1)) da_nil))))))
  (dss_one (ds_ret (de_callB cd_abs (by rfl) T.b_abs (by decide +kernel) (da_cons (de_var 0) da_nil))))))
def g_l_fraction : Env → SR :=
  (sqS (ifS (M.bind (getV 1) fun x => M.bind (M.pure (.int 0)) fun y => opt ((ltD x y).bind boolOf))
    (sM (M.bind (M.bind (getV 0) fun x => opt (negD x)) fun d => M.bind (M.bind (M.bind (getV 1) fun x => opt (negD x)) fun d => M.bind (M.pure []) fun ds => M.pure (d :: ds)) fun ds => M.pure (d :: ds)) fun (ds : List D) ρ => match ds with | [d, e] => .nx ((ρ.set 0 (some (.val d))).set 1 (some (.val e))) | _ => .bad)
    SR.nx)
  (sqS (sM (M.bind (M.bind (getV 0) fun d => M.bind (M.bind (getV 1) fun d => M.bind (M.pure []) fun ds => M.pure (d :: ds)) fun ds => M.pure (d :: ds)) fun ds => callM (F_l_gcd ds)) fun d ρ => .nx (ρ.set 2 (some (.val d))))
  (sM (M.bind (M.bind (M.bind (getV 0) fun x => M.bind (getV 2) fun y => opt (fdivW x y)) fun d => M.bind (M.bind (M.bind (getV 1) fun x => M.bind (getV 2) fun y => opt (fdivW x y)) fun d => M.bind (M.pure []) fun ds => M.pure (d :: ds)) fun ds => M.pure (d :: ds)) fun ds => M.pure (.tuple ds)) .rt)))
def F_l_fraction (ds : List D) : Rz := fdOf 3 g_l_fraction ds
set_option maxHeartbeats 4000000 in
theorem ok_l_fraction (T : Txt K mg)  {f_l_gcd : Addr} {fd_l_gcd : FuncData} (h_l_gcd : Has K mg "_law_gcd" s_l_gcd ["one", "other"] f_l_gcd fd_l_gcd) (G_l_gcd : FnOk P w K mg base (L2N.CX P w) 1 f_l_gcd fd_l_gcd ["one", "other"] (spD Tl mg 2 F_l_gcd)) {f : Addr} {fd : FuncData} (F : Fun K "_law_fraction" "_law_fraction" s_l_fraction f fd) : FnOk P w K mg base (L2N.CX P w) 2 f fd ["top", "below"] (spD Tl mg 2 F_l_fraction) :=
  dl_def F sc_l_fraction (fun cdv A outer s H E hr =>
  show DSs _ _ _ _ g_l_fraction from
  (dss_cons (ds_if (dt_cmp opd_lt (de_var 1) de_int (by first | exact nomark _ | rfl | decide))
    (dss_one (ds_par 0 1 rfl sc_l_fraction.nd (da_cons (de_neg (de_var 0)) (da_cons (de_neg (de_var 1)) da_nil))))
    dss_nil)
  (dss_cons (ds_set 2 sc_l_fraction.nd (de_call G_l_gcd (hr.mono (by decide)) (by rfl) h_l_gcd.g h_l_gcd.k h_l_gcd.b (L2N.takes_of rfl rfl rfl rfl) (da_cons (de_var 0) (da_cons (de_var 1) da_nil))))
  (dss_one (ds_ret (de_tup (da_cons (de_op opd_fdivW (de_var 0) (de_var 2)) (da_cons (de_op opd_fdivW (de_var 1) (de_var 2)) da_nil))))))))
def g_l_error : Env → SR :=
  (sqS (sM (M.bind (M.pure (.int 1)) fun x => M.bind (M.bind (getO 0) fun _ => M.bind (M.bind (M.pure (.int 12)) fun d => M.bind (M.pure []) fun ds => M.pure (d :: ds)) fun ds => M.bind (getO 0) fun s0 => M.bind (opt (F_l_next s0 ds)) fun z => M.bind (putO 0 z.2) fun _ => M.pure z.1) fun y => opt (addD x y)) fun d ρ => .nx (ρ.set 1 (some (.val d))))
  (sM (M.bind (M.bind (M.bind (getO 0) fun _ => M.bind (M.bind (getV 1) fun d => M.bind (M.pure []) fun ds => M.pure (d :: ds)) fun ds => M.bind (getO 0) fun s0 => M.bind (opt (F_l_next s0 ds)) fun z => M.bind (putO 0 z.2) fun _ => M.pure z.1) fun d => M.bind (M.bind (getV 1) fun d => M.bind (M.pure []) fun ds => M.pure (d :: ds)) fun ds => M.pure (d :: ds)) fun ds => callM (F_l_fraction ds)) .rt))
def F_l_error (s0 ds : List D) : Option (D × List D) := fdOO 2 g_l_error s0 ds
set_option maxHeartbeats 4000000 in
theorem ok_l_error (T : Txt K mg)  {f_l_fraction : Addr} {fd_l_fraction : FuncData} (h_l_fraction : Has K mg "_law_fraction" s_l_fraction ["top", "below"] f_l_fraction fd_l_fraction) (G_l_fraction : FnOk P w K mg base (L2N.CX P w) 2 f_l_fraction fd_l_fraction ["top", "below"] (spD Tl mg 2 F_l_fraction)) {f_l_next : Addr} {fd_l_next : FuncData} (h_l_next : Has K mg "_law_next" s_l_next ["state", "many"] f_l_next fd_l_next) (G_l_next : FnOk P w K mg base (L2N.CX P w) 1 f_l_next fd_l_next ["state", "many"] (spO Tl 2 F_l_next)) {f : Addr} {fd : FuncData} (F : Fun K "_law_error" "_law_error" s_l_error f fd) : FnOk P w K mg base (L2N.CX P w) 3 f fd ["state"] (spO Tl 1 F_l_error) :=
  dl_defO F sc_l_error (fun cdv A outer s H E hr =>
  show DSs _ _ _ _ g_l_error from
  (dss_cons (ds_set 1 sc_l_error.nd (de_op opd_add de_int (de_callO 0 G_l_next (hr.mono (by decide)) (by rfl) h_l_next.g h_l_next.k h_l_next.b (da_cons de_int da_nil))))
  (dss_one (ds_ret (de_call G_l_fraction (hr.mono (by decide)) (by rfl) h_l_fraction.g h_l_fraction.k h_l_fraction.b (takesN _) (da_cons (de_callO 0 G_l_next (hr.mono (by decide)) (by rfl) h_l_next.g h_l_next.k h_l_next.b (da_cons (de_var 1) da_nil)) (da_cons (de_var 1) da_nil)))))))
def lb_l_measures_1 : Env → SR :=
  (sqS (sM (M.bind (M.bind (M.bind (M.pure (.int 0)) fun d => M.bind (M.bind (M.pure (.int 0)) fun d => M.bind (M.bind (M.pure (.int 1)) fun d => M.bind (M.bind (M.bind (M.pure (.int 1)) fun x => opt (negD x)) fun d => M.bind (M.bind (M.pure (.int 2)) fun d => M.bind (M.pure []) fun ds => M.pure (d :: ds)) fun ds => M.pure (d :: ds)) fun ds => M.pure (d :: ds)) fun ds => M.pure (d :: ds)) fun ds => M.pure (d :: ds)) fun ds => M.pure (.list ds)) fun x => M.bind (M.bind (getO 0) fun _ => M.bind (M.bind (M.pure (.int 5)) fun d => M.bind (M.pure []) fun ds => M.pure (d :: ds)) fun ds => M.bind (getO 0) fun s0 => M.bind (opt (F_l_next s0 ds)) fun z => M.bind (putO 0 z.2) fun _ => M.pure z.1) fun y => opt (ixD x y)) fun d ρ => .nx (ρ.set 6 (some (.val d))))
  (sqS (sM (M.bind (M.bind (M.bind (getV 5) fun x => M.bind (M.bind (getV 2) fun x => M.bind (M.pure (.int 1)) fun y => opt (ixD x y)) fun y => opt (mulD2 x y)) fun x => M.bind (M.pure (.int 2)) fun y => opt (mulD2 x y)) fun x => M.bind (M.bind (M.bind (getV 6) fun x => M.bind (M.bind (getV 2) fun x => M.bind (M.pure (.int 0)) fun y => opt (ixD x y)) fun y => opt (mulD2 x y)) fun x => M.bind (M.bind (M.bind (M.bind (M.pure (.int 1)) fun d => M.bind (M.bind (M.pure (.int 2)) fun d => M.bind (M.pure []) fun ds => M.pure (d :: ds)) fun ds => M.pure (d :: ds)) fun ds => M.pure (.list ds)) fun x => M.bind (M.bind (getO 0) fun _ => M.bind (M.bind (M.pure (.int 2)) fun d => M.bind (M.pure []) fun ds => M.pure (d :: ds)) fun ds => M.bind (getO 0) fun s0 => M.bind (opt (F_l_next s0 ds)) fun z => M.bind (putO 0 z.2) fun _ => M.pure z.1) fun y => opt (ixD x y)) fun y => opt (mulD2 x y)) fun y => opt (addD x y)) fun d ρ => .nx (ρ.set 7 (some (.val d))))
  (sM (M.bind (getO 4) fun _ => (M.bind (M.bind (M.bind (M.bind (M.pure (.int 1)) fun d => M.bind (M.bind (M.bind (getV 7) fun x => M.bind (M.bind (getV 3) fun x => M.bind (M.pure (.int 0)) fun y => opt (ixD x y)) fun y => opt (mulD2 x y)) fun d => M.bind (M.pure []) fun ds => M.pure (d :: ds)) fun ds => M.pure (d :: ds)) fun ds => opt (max2D ds)) fun d => M.bind (M.bind (M.bind (M.bind (M.pure (.int 2)) fun x => M.bind (M.bind (getV 2) fun x => M.bind (M.pure (.int 1)) fun y => opt (ixD x y)) fun y => opt (mulD2 x y)) fun x => M.bind (M.bind (getV 3) fun x => M.bind (M.pure (.int 1)) fun y => opt (ixD x y)) fun y => opt (mulD2 x y)) fun d => M.bind (M.pure []) fun ds => M.pure (d :: ds)) fun ds => M.pure (d :: ds)) fun ds => callM (F_l_fraction ds))) fun d ρ => nxO (updO 4 (fun ds => if ds.length < lim then some (ds ++ [d]) else none) ρ))))
def g_l_measures : Env → SR :=
  (sqS (sM (M.bind (M.bind (M.bind (M.pure (.int 1)) fun x => M.bind (M.bind (getO 0) fun _ => M.bind (M.bind (M.pure (.int 30)) fun d => M.bind (M.pure []) fun ds => M.pure (d :: ds)) fun ds => M.bind (getO 0) fun s0 => M.bind (opt (F_l_next s0 ds)) fun z => M.bind (putO 0 z.2) fun _ => M.pure z.1) fun y => opt (addD x y)) fun d => M.bind (M.bind (M.bind (M.pure (.int 1)) fun x => M.bind (M.bind (getO 0) fun _ => M.bind (M.bind (M.pure (.int 4)) fun d => M.bind (M.pure []) fun ds => M.pure (d :: ds)) fun ds => M.bind (getO 0) fun s0 => M.bind (opt (F_l_next s0 ds)) fun z => M.bind (putO 0 z.2) fun _ => M.pure z.1) fun y => opt (addD x y)) fun d => M.bind (M.pure []) fun ds => M.pure (d :: ds)) fun ds => M.pure (d :: ds)) fun ds => callM (F_l_fraction ds)) fun d ρ => .nx (ρ.set 3 (some (.val d))))
  (sqS (sM (M.pure []) fun ds ρ => .nx (ρ.set 4 (some (.own false (.list ds)))))
  (sqS (sM (M.bind (getV 1) fun x => opt (itemsOf x)) fun items ρ => forS [5, 6, 7] (fun d ρ => some (ρ.set 5 (some (.val d))))
    lb_l_measures_1 items (wipeE [5, 6, 7] ρ))
  (fun ρ => (sM (M.bind (M.bind (getV 4) fun d => M.bind (M.pure []) fun ds => M.pure (d :: ds)) fun ds => opt (tupleD ds)) .rt) (frzs [4] ρ)))))
def F_l_measures (s0 ds : List D) : Option (D × List D) := fdOO 8 g_l_measures s0 ds
set_option maxHeartbeats 4000000 in
theorem ok_l_measures (T : Txt K mg)  {f_l_fraction : Addr} {fd_l_fraction : FuncData} (h_l_fraction : Has K mg "_law_fraction" s_l_fraction ["top", "below"] f_l_fraction fd_l_fraction) (G_l_fraction : FnOk P w K mg base (L2N.CX P w) 2 f_l_fraction fd_l_fraction ["top", "below"] (spD Tl mg 2 F_l_fraction)) {f_l_next : Addr} {fd_l_next : FuncData} (h_l_next : Has K mg "_law_next" s_l_next ["state", "many"] f_l_next fd_l_next) (G_l_next : FnOk P w K mg base (L2N.CX P w) 1 f_l_next fd_l_next ["state", "many"] (spO Tl 2 F_l_next)) {f : Addr} {fd : FuncData} (F : Fun K "_law_measures" "_law_measures" s_l_measures f fd) : FnOk P w K mg base (L2N.CX P w) 3 f fd ["state", "pattern", "error"] (spO Tl 3 F_l_measures) :=
  dl_defO F sc_l_measures (fun cdv A outer s H E hr =>
  show DSs _ _ _ _ g_l_measures from
  (dss_cons (ds_set 3 sc_l_measures.nd (de_call G_l_fraction (hr.mono (by decide)) (by rfl) h_l_fraction.g h_l_fraction.k h_l_fraction.b (takesN _) (da_cons (de_op opd_add de_int (de_callO 0 G_l_next (hr.mono (by decide)) (by rfl) h_l_next.g h_l_next.k h_l_next.b (da_cons de_int da_nil))) (da_cons (de_op opd_add de_int (de_callO 0 G_l_next (hr.mono (by decide)) (by rfl) h_l_next.g h_l_next.k h_l_next.b (da_cons de_int da_nil))) da_nil))))
  (dss_cons (ds_setN 4 sc_l_measures.nd (dn_lst da_nil))
  (dss_cons (ds_for [5, 6, 7] (passes_of rfl) rfl (di_seq (de_var 1)) (dg_name 5 sc_l_measures.nd)
    (dss_cons (ds_set 6 sc_l_measures.nd (de_ix (de_n (dn_lst (da_cons de_int (da_cons de_int (da_cons de_int (da_cons (de_neg de_int) (da_cons de_int da_nil))))))) (de_callO 0 G_l_next (hr.mono (by decide)) (by rfl) h_l_next.g h_l_next.k h_l_next.b (da_cons de_int da_nil)) (by intro _ _; rfl)))
  (dss_cons (ds_set 7 sc_l_measures.nd (de_op opd_add (de_op opd_mul (de_op opd_mul (de_var 5) (de_ix (de_var 2) de_int (by intro _ _; rfl))) de_int) (de_op opd_mul (de_op opd_mul (de_var 6) (de_ix (de_var 2) de_int (by intro _ _; rfl))) (de_ix (de_n (dn_lst (da_cons de_int (da_cons de_int da_nil)))) (de_callO 0 G_l_next (hr.mono (by decide)) (by rfl) h_l_next.g h_l_next.k h_l_next.b (da_cons de_int da_nil)) (by intro _ _; rfl)))))
  (dss_one (ds_append 4 (de_call G_l_fraction (hr.mono (by decide)) (by rfl) h_l_fraction.g h_l_fraction.k h_l_fraction.b (takesN _) (da_cons (de_callB (cd_max2 rfl) (by rfl) T.b_max (by decide +kernel) (da_cons de_int (da_cons (de_op opd_mul (de_var 7) (de_ix (de_var 3) de_int (by intro _ _; rfl))) da_nil))) (da_cons (de_op opd_mul (de_op opd_mul de_int (de_ix (de_var 2) de_int (by intro _ _; rfl))) (de_ix (de_var 3) de_int (by intro _ _; rfl))) da_nil))))))))
  (dss_one (ds_pre (snd_frzs [4]) (ds_ret (de_callT cd_tuple (by rfl) T.b_tuple (by decide +kernel) (da_cons (de_var 4) da_nil)))))))))
def le_check_patterns_1 : M D :=
  (M.bind (chainM leD leD (M.pure (.int 1)) (getV 2) (M.pure (.int 30))) fun t => M.pure (.bool t))
def lb_check_patterns_2 : Env → SR :=
  (ifS (M.bind (M.bind (M.bind (M.bind (getV 1) fun d => M.bind (M.pure []) fun ds => M.pure (d :: ds)) fun ds => opt (lenD ds)) fun x => M.bind (M.bind (M.bind (M.bind (getV 0) fun x => M.bind (M.pure (.int 0)) fun y => opt (ixD x y)) fun d => M.bind (M.pure []) fun ds => M.pure (d :: ds)) fun ds => opt (lenD ds)) fun y => opt ((neD x y).bind boolOf)) fun t => if t = true then M.pure true else (M.bind (M.bind (M.bind (M.bind (M.bind (M.bind (M.bind (getV 1) fun x => opt (itemsOf x)) (lcM [2] (fun d ρ => some (ρ.set 2 (some (.val d)))) (M.pure true) le_check_patterns_1)) fun ds => M.pure (.list ds)) fun d => M.bind (M.pure []) fun ds => M.pure (d :: ds)) fun ds => opt (allD ds)) fun d => opt (truD d)) fun t => M.pure (!t)))
    (fun ρ => .er "NotAllowed" ρ)
    SR.nx)
def g_check_patterns : Env → SR :=
  (sqS (ifS (M.bind (M.bind (chainM leD leD (M.pure (.int 1)) (M.bind (M.bind (getV 0) fun d => M.bind (M.pure []) fun ds => M.pure (d :: ds)) fun ds => opt (lenD ds)) (M.pure (.int 16))) fun t => M.pure (!t)) fun t => if t = true then M.pure true else (M.bind (chainM leD leD (M.pure (.int 2)) (M.bind (M.bind (M.bind (getV 0) fun x => M.bind (M.pure (.int 0)) fun y => opt (ixD x y)) fun d => M.bind (M.pure []) fun ds => M.pure (d :: ds)) fun ds => opt (lenD ds)) (M.pure (.int 12))) fun t => M.pure (!t)))
    (fun ρ => .er "NotAllowed" ρ)
    SR.nx)
  (sqS (sM (M.bind (getV 0) fun x => opt (itemsOf x)) fun items ρ => forS [1] (fun d ρ => some (ρ.set 1 (some (.val d))))
    lb_check_patterns_2 items (wipeE [1] ρ))
  (ifS (M.bind (M.bind (getV 0) fun x => opt (lenSetD x)) fun x => M.bind (M.bind (M.bind (getV 0) fun d => M.bind (M.pure []) fun ds => M.pure (d :: ds)) fun ds => opt (lenD ds)) fun y => opt ((ltD x y).bind boolOf))
    (fun ρ => .er "NotAllowed" ρ)
    SR.nx)))
def F_check_patterns (ds : List D) : Rz := fdOf 3 g_check_patterns ds
set_option maxHeartbeats 4000000 in
theorem ok_check_patterns (T : Txt K mg) {C_NotAllowed : Addr} (c_NotAllowed : HasC K mg "NotAllowed" C_NotAllowed) {f : Addr} {fd : FuncData} (F : Fun K "check_patterns" "check_patterns" s_check_patterns f fd) : FnOk P w K mg base (L2N.CX P w) 1 f fd ["patterns"] (spD Tl mg 1 F_check_patterns) :=
  dl_def F sc_check_patterns (fun cdv A outer s H E hr =>
  show DSs _ _ _ _ g_check_patterns from
  (dss_cons (ds_if (dt_w (dw_or (dt_not (dt_chain opd_le opd_le de_int (de_callB cd_len (by rfl) T.b_len (by decide +kernel) (da_cons (de_var 0) da_nil)) (de_globI (by rfl) T.c_MAX_PATTERNS))) (dw_or1 (dt_not (dt_chain opd_le opd_le de_int (de_callB cd_len (by rfl) T.b_len (by decide +kernel) (da_cons (de_ix (de_var 0) de_int (by intro _ _; rfl)) da_nil)) (de_globI (by rfl) T.c_MAX_BARS))))))
    (dss_one (ds_raise rfl (L2N.takes_of rfl rfl rfl rfl) PySem.F.excBase_ValueError c_NotAllowed.q c_NotAllowed.g c_NotAllowed.k (raises_own c_NotAllowed.s c_NotAllowed.t) (by rfl)))
    dss_nil)
  (dss_cons (ds_for [1] (passes_of rfl) rfl (di_seq (de_var 0)) (dg_name 1 sc_check_patterns.nd)
    (dss_one (ds_if (dt_w (dw_or (dt_cmp (opd_ne (by exact hu_n _ hr)) (de_callB cd_len (by rfl) T.b_len (by decide +kernel) (da_cons (de_var 1) da_nil)) (de_callB cd_len (by rfl) T.b_len (by decide +kernel) (da_cons (de_ix (de_var 0) de_int (by intro _ _; rfl)) da_nil)) (by first | exact nomark _ | rfl | decide)) (dw_or1 (dt_not (dt_truth (de_callB (cd_all rfl) (by rfl) T.b_all (by decide +kernel) (da_cons (de_n (dn_lc (own := [("width", 2)]) rfl sc_check_patterns.nd (di_seq (de_var 1)) (by refine blkOk_by (own := [("width", 2)]) ?_; show blkC ["patterns", "pattern", "width"] (defScope s_check_patterns) _ _ = true; decide +kernel) (by decide) (fun _ _ _ _ _ => (dg_name 2 sc_check_patterns.nd)) (fun _ _ _ _ _ => dts_nil) (fun _ _ _ _ _ => (de_chain opd_le opd_le de_int (de_var 2) (de_globI (by rfl) T.c_MAX_WIDTH))))) da_nil)))))))
    (dss_one (ds_raise rfl (L2N.takes_of rfl rfl rfl rfl) PySem.F.excBase_ValueError c_NotAllowed.q c_NotAllowed.g c_NotAllowed.k (raises_own c_NotAllowed.s c_NotAllowed.t) (by rfl)))
    dss_nil)))
  (dss_one (ds_if (dt_cmp opd_lt (de_lenSet rfl (by exact hu_n _ hr) (by rfl) T.b_len (by rfl) T.b_set (de_var 0)) (de_callB cd_len (by rfl) T.b_len (by decide +kernel) (da_cons (de_var 0) da_nil)) (by first | exact nomark _ | rfl | decide))
    (dss_one (ds_raise rfl (L2N.takes_of rfl rfl rfl rfl) PySem.F.excBase_ValueError c_NotAllowed.q c_NotAllowed.g c_NotAllowed.k (raises_own c_NotAllowed.s c_NotAllowed.t) (by rfl)))
    dss_nil)))))
def lb_divisor_1 : Env → SR :=
  (sM (M.bind (getV 1) fun d => M.bind (M.bind (M.bind (getV 0) fun x => M.bind (getV 1) fun y => opt (modD x y)) fun d => M.bind (M.pure []) fun ds => M.pure (d :: ds)) fun ds => M.pure (d :: ds)) fun (ds : List D) ρ => match ds with | [d, e] => .nx ((ρ.set 0 (some (.val d))).set 1 (some (.val e))) | _ => .bad)
def lw_divisor_2 : M Bool :=
  (M.bind (getV 1) fun x => M.bind (M.pure (.int 0)) fun y => opt ((gtD x y).bind boolOf))
def fu_divisor_3 : Env → Nat :=
  fuelE
def g_divisor : Env → SR :=
  (sqS (sM (M.bind (M.bind (M.bind (getV 0) fun d => M.bind (M.pure []) fun ds => M.pure (d :: ds)) fun ds => opt (absD ds)) fun d => M.bind (M.bind (M.bind (M.bind (getV 1) fun d => M.bind (M.pure []) fun ds => M.pure (d :: ds)) fun ds => opt (absD ds)) fun d => M.bind (M.pure []) fun ds => M.pure (d :: ds)) fun ds => M.pure (d :: ds)) fun (ds : List D) ρ => match ds with | [d, e] => .nx ((ρ.set 0 (some (.val d))).set 1 (some (.val e))) | _ => .bad)
  (sqS (fun ρ => whileS [] lw_divisor_2
    lb_divisor_1 (fu_divisor_3 ρ) (wipeE [] ρ))
  (sM (getV 0) .rt)))
def F_divisor (ds : List D) : Rz := fdOf 2 g_divisor ds
set_option maxHeartbeats 4000000 in
theorem ok_divisor (T : Txt K mg)  {f : Addr} {fd : FuncData} (F : Fun K "divisor" "divisor" s_divisor f fd) : FnOk P w K mg base (L2N.CX P w) 1 f fd ["first", "second"] (spD Tl mg 2 F_divisor) :=
  dl_def F sc_divisor (fun cdv A outer s H E hr =>
  show DSs _ _ _ _ g_divisor from
  (dss_cons (ds_par 0 1 rfl sc_divisor.nd (da_cons (de_callB cd_abs (by rfl) T.b_abs (by decide +kernel) (da_cons (de_var 0) da_nil)) (da_cons (de_callB cd_abs (by rfl) T.b_abs (by decide +kernel) (da_cons (de_var 1) da_nil)) da_nil)))
  (dss_cons (ds_while [] fu_divisor_3 (passes_of rfl) (dt_cmp opd_gt (de_var 1) de_int (by first | exact nomark _ | rfl | decide))
    (dss_one (ds_par 0 1 rfl sc_divisor.nd (da_cons (de_var 1) (da_cons (de_op opd_mod (de_var 0) (de_var 1)) da_nil)))))
  (dss_one (ds_ret (de_var 0))))))
def g_is_fraction : Env → SR :=
  (sM (M.bind (M.bind (M.bind (M.bind (getV 0) fun d => M.bind (M.pure []) fun ds => M.pure (d :: ds)) fun ds => opt (lenD ds)) fun x => M.bind (M.pure (.int 2)) fun y => opt (eqD x y)) fun x => M.bind (opt (boolOf x)) fun t => if t = true then (M.bind (M.bind (M.bind (getV 0) fun x => M.bind (M.pure (.int 1)) fun y => opt (ixD x y)) fun x => M.bind (M.pure (.int 1)) fun y => opt (geD x y)) fun x => M.bind (opt (boolOf x)) fun t => if t = true then (M.bind (M.bind (M.bind (M.bind (getV 0) fun x => M.bind (M.pure (.int 0)) fun y => opt (ixD x y)) fun d => M.bind (M.bind (M.bind (getV 0) fun x => M.bind (M.pure (.int 1)) fun y => opt (ixD x y)) fun d => M.bind (M.pure []) fun ds => M.pure (d :: ds)) fun ds => M.pure (d :: ds)) fun ds => callM (F_divisor ds)) fun x => M.bind (M.pure (.int 1)) fun y => opt (eqD x y)) else M.pure (.bool false)) else M.pure (.bool false)) .rt)
def F_is_fraction (ds : List D) : Rz := fdOf 1 g_is_fraction ds
set_option maxHeartbeats 4000000 in
theorem ok_is_fraction (T : Txt K mg)  {f_divisor : Addr} {fd_divisor : FuncData} (h_divisor : Has K mg "divisor" s_divisor ["first", "second"] f_divisor fd_divisor) (G_divisor : FnOk P w K mg base (L2N.CX P w) 1 f_divisor fd_divisor ["first", "second"] (spD Tl mg 2 F_divisor)) {f : Addr} {fd : FuncData} (F : Fun K "is_fraction" "is_fraction" s_is_fraction f fd) : FnOk P w K mg base (L2N.CX P w) 2 f fd ["value"] (spD Tl mg 1 F_is_fraction) :=
  dl_def F sc_is_fraction (fun cdv A outer s H E hr =>
  show DSs _ _ _ _ g_is_fraction from
  (dss_one (ds_ret (de_and (de_cmp (opd_eq (by exact hu_n _ hr)) (de_callB cd_len (by rfl) T.b_len (by decide +kernel) (da_cons (de_var 0) da_nil)) de_int (by first | exact nomark _ | rfl | decide)) (de_and (de_cmp opd_ge (de_ix (de_var 0) de_int (by intro _ _; rfl)) de_int (by first | exact nomark _ | rfl | decide)) (de_one (de_cmp (opd_eq (by exact hu_n _ hr)) (de_call G_divisor (hr.mono (by decide)) (by rfl) h_divisor.g h_divisor.k h_divisor.b (L2N.takes_of rfl rfl rfl rfl) (da_cons (de_ix (de_var 0) de_int (by intro _ _; rfl)) (da_cons (de_ix (de_var 0) de_int (by intro _ _; rfl)) da_nil))) de_int (by first | exact nomark _ | rfl | decide))))))))
def le_check_measures_1 : M D :=
  (M.bind (M.bind (M.bind (getV 2) fun d => M.bind (M.pure []) fun ds => M.pure (d :: ds)) fun ds => callM (F_is_fraction ds)) fun x => M.bind (opt (boolOf x)) fun t => if t = true then (M.bind (M.bind (getV 2) fun x => M.bind (M.pure (.int 0)) fun y => opt (ixD x y)) fun x => M.bind (M.pure (.int 0)) fun y => opt (gtD x y)) else M.pure (.bool false))
def g_check_measures : Env → SR :=
  (sqS (ifS (M.bind (M.bind (M.bind (getV 1) fun d => M.bind (M.pure []) fun ds => M.pure (d :: ds)) fun ds => opt (lenD ds)) fun x => M.bind (M.bind (M.bind (M.bind (getV 0) fun x => M.bind (M.pure (.int 0)) fun y => opt (ixD x y)) fun d => M.bind (M.pure []) fun ds => M.pure (d :: ds)) fun ds => opt (lenD ds)) fun y => opt ((neD x y).bind boolOf))
    (fun ρ => .er "NotAllowed" ρ)
    SR.nx)
  (ifS (M.bind (M.bind (M.bind (M.bind (M.bind (M.bind (M.bind (getV 1) fun x => opt (itemsOf x)) (lcM [2] (fun d ρ => some (ρ.set 2 (some (.val d)))) (M.pure true) le_check_measures_1)) fun ds => M.pure (.list ds)) fun d => M.bind (M.pure []) fun ds => M.pure (d :: ds)) fun ds => opt (allD ds)) fun d => opt (truD d)) fun t => M.pure (!t))
    (fun ρ => .er "NotAllowed" ρ)
    SR.nx))
def F_check_measures (ds : List D) : Rz := fdOf 3 g_check_measures ds
set_option maxHeartbeats 4000000 in
theorem ok_check_measures (T : Txt K mg) {C_NotAllowed : Addr} (c_NotAllowed : HasC K mg "NotAllowed" C_NotAllowed) {f_is_fraction : Addr} {fd_is_fraction : FuncData} (h_is_fraction : Has K mg "is_fraction" s_is_fraction ["value"] f_is_fraction fd_is_fraction) (G_is_fraction : FnOk P w K mg base (L2N.CX P w) 2 f_is_fraction fd_is_fraction ["value"] (spD Tl mg 1 F_is_fraction)) {f : Addr} {fd : FuncData} (F : Fun K "check_measures" "check_measures" s_check_measures f fd) : FnOk P w K mg base (L2N.CX P w) 3 f fd ["patterns", "measures"] (spD Tl mg 2 F_check_measures) :=
  dl_def F sc_check_measures (fun cdv A outer s H E hr =>
  show DSs _ _ _ _ g_check_measures from
  (dss_cons (ds_if (dt_cmp (opd_ne (by exact hu_n _ hr)) (de_callB cd_len (by rfl) T.b_len (by decide +kernel) (da_cons (de_var 1) da_nil)) (de_callB cd_len (by rfl) T.b_len (by decide +kernel) (da_cons (de_ix (de_var 0) de_int (by intro _ _; rfl)) da_nil)) (by first | exact nomark _ | rfl | decide))
    (dss_one (ds_raise rfl (L2N.takes_of rfl rfl rfl rfl) PySem.F.excBase_ValueError c_NotAllowed.q c_NotAllowed.g c_NotAllowed.k (raises_own c_NotAllowed.s c_NotAllowed.t) (by rfl)))
    dss_nil)
  (dss_one (ds_if (dt_not (dt_truth (de_callB (cd_all rfl) (by rfl) T.b_all (by decide +kernel) (da_cons (de_n (dn_lc (own := [("measure", 2)]) rfl sc_check_measures.nd (di_seq (de_var 1)) (by refine blkOk_by (own := [("measure", 2)]) ?_; show blkC ["patterns", "measures", "measure"] (defScope s_check_measures) _ _ = true; decide +kernel) (by decide) (fun _ _ _ _ _ => (dg_name 2 sc_check_measures.nd)) (fun _ _ _ _ _ => dts_nil) (fun _ _ _ _ _ => (de_and (de_call G_is_fraction (hr.mono (by decide)) (by rfl) h_is_fraction.g h_is_fraction.k h_is_fraction.b (takesN _) (da_cons (de_var 2) da_nil)) (de_one (de_cmp opd_gt (de_ix (de_var 2) de_int (by intro _ _; rfl)) de_int (by first | exact nomark _ | rfl | decide))))))) da_nil))))
    (dss_one (ds_raise rfl (L2N.takes_of rfl rfl rfl rfl) PySem.F.excBase_ValueError c_NotAllowed.q c_NotAllowed.g c_NotAllowed.k (raises_own c_NotAllowed.s c_NotAllowed.t) (by rfl)))
    dss_nil))))
def g_fraction : Env → SR :=
  (sqS (ifS (M.bind (getV 1) fun x => M.bind (M.pure (.int 0)) fun y => opt ((eqD x y).bind boolOf))
    (fun ρ => .er "NotAllowed" ρ)
    SR.nx)
  (sqS (sM (M.bind (M.bind (getV 0) fun d => M.bind (M.bind (getV 1) fun d => M.bind (M.pure []) fun ds => M.pure (d :: ds)) fun ds => M.pure (d :: ds)) fun ds => callM (F_divisor ds)) fun d ρ => .nx (ρ.set 2 (some (.val d))))
  (sqS (ifS (M.bind (getV 1) fun x => M.bind (M.pure (.int 0)) fun y => opt ((ltD x y).bind boolOf))
    (sM (M.bind (getV 2) fun x => opt (negD x)) fun d ρ => .nx (ρ.set 2 (some (.val d))))
    SR.nx)
  (sM (M.bind (M.bind (M.bind (getV 0) fun x => M.bind (getV 2) fun y => opt (fdivW x y)) fun d => M.bind (M.bind (M.bind (getV 1) fun x => M.bind (getV 2) fun y => opt (fdivW x y)) fun d => M.bind (M.pure []) fun ds => M.pure (d :: ds)) fun ds => M.pure (d :: ds)) fun ds => M.pure (.tuple ds)) .rt))))
def F_fraction (ds : List D) : Rz := fdOf 3 g_fraction ds
set_option maxHeartbeats 4000000 in
theorem ok_fraction (T : Txt K mg) {C_NotAllowed : Addr} (c_NotAllowed : HasC K mg "NotAllowed" C_NotAllowed) {f_divisor : Addr} {fd_divisor : FuncData} (h_divisor : Has K mg "divisor" s_divisor ["first", "second"] f_divisor fd_divisor) (G_divisor : FnOk P w K mg base (L2N.CX P w) 1 f_divisor fd_divisor ["first", "second"] (spD Tl mg 2 F_divisor)) {f : Addr} {fd : FuncData} (F : Fun K "fraction" "fraction" s_fraction f fd) : FnOk P w K mg base (L2N.CX P w) 2 f fd ["top", "below"] (spD Tl mg 2 F_fraction) :=
  dl_def F sc_fraction (fun cdv A outer s H E hr =>
  show DSs _ _ _ _ g_fraction from
  (dss_cons (ds_if (dt_cmp (opd_eq (by exact hu_n _ hr)) (de_var 1) de_int (by first | exact nomark _ | rfl | decide))
    (dss_one (ds_raise rfl (L2N.takes_of rfl rfl rfl rfl) PySem.F.excBase_ValueError c_NotAllowed.q c_NotAllowed.g c_NotAllowed.k (raises_own c_NotAllowed.s c_NotAllowed.t) (by rfl)))
    dss_nil)
  (dss_cons (ds_set 2 sc_fraction.nd (de_call G_divisor (hr.mono (by decide)) (by rfl) h_divisor.g h_divisor.k h_divisor.b (L2N.takes_of rfl rfl rfl rfl) (da_cons (de_var 0) (da_cons (de_var 1) da_nil))))
  (dss_cons (ds_if (dt_cmp opd_lt (de_var 1) de_int (by first | exact nomark _ | rfl | decide))
    (dss_one (ds_set 2 sc_fraction.nd (de_neg (de_var 2))))
    dss_nil)
  (dss_one (ds_ret (de_tup (da_cons (de_op opd_fdivW (de_var 0) (de_var 2)) (da_cons (de_op opd_fdivW (de_var 1) (de_var 2)) da_nil)))))))))
def g_less : Env → SR :=
  (sM (M.bind (M.bind (M.bind (getV 0) fun x => M.bind (M.pure (.int 0)) fun y => opt (ixD x y)) fun x => M.bind (M.bind (getV 1) fun x => M.bind (M.pure (.int 1)) fun y => opt (ixD x y)) fun y => opt (mulD2 x y)) fun x => M.bind (M.bind (M.bind (getV 1) fun x => M.bind (M.pure (.int 0)) fun y => opt (ixD x y)) fun x => M.bind (M.bind (getV 0) fun x => M.bind (M.pure (.int 1)) fun y => opt (ixD x y)) fun y => opt (mulD2 x y)) fun y => opt (ltD x y)) .rt)
def F_less (ds : List D) : Rz := fdOf 2 g_less ds
set_option maxHeartbeats 4000000 in
theorem ok_less (T : Txt K mg)  {f : Addr} {fd : FuncData} (F : Fun K "less" "less" s_less f fd) : FnOk P w K mg base (L2N.CX P w) 1 f fd ["first", "second"] (spD Tl mg 2 F_less) :=
  dl_def F sc_less (fun cdv A outer s H E hr =>
  show DSs _ _ _ _ g_less from
  (dss_one (ds_ret (de_cmp opd_lt (de_op opd_mul (de_ix (de_var 0) de_int (by intro _ _; rfl)) (de_ix (de_var 1) de_int (by intro _ _; rfl))) (de_op opd_mul (de_ix (de_var 1) de_int (by intro _ _; rfl)) (de_ix (de_var 0) de_int (by intro _ _; rfl))) (by first | exact nomark _ | rfl | decide)))))
def tg_least_error_1 : D → Env → Option Env :=
  (fun (d : D) ρ => match d with | .tuple ds => (fun (ds : List D) ρ => match ds with | d :: r => ((fun d ρ => some (ρ.set 5 (some (.val d)))) d ρ).bind ((fun (ds : List D) ρ => match ds with | d :: r => ((fun d ρ => some (ρ.set 6 (some (.val d)))) d ρ).bind ((fun (ds : List D) ρ => match ds with | [] => some ρ | _ => none) r) | [] => none) r) | [] => none) ds ρ | _ => none)
def tg_least_error_2 : D → Env → Option Env :=
  (fun (d : D) ρ => match d with | .tuple ds => (fun (ds : List D) ρ => match ds with | d :: r => ((fun d ρ => some (ρ.set 7 (some (.val d)))) d ρ).bind ((fun (ds : List D) ρ => match ds with | d :: r => ((fun d ρ => some (ρ.set 8 (some (.val d)))) d ρ).bind ((fun (ds : List D) ρ => match ds with | [] => some ρ | _ => none) r) | [] => none) r) | [] => none) ds ρ | _ => none)
def lb_least_error_3 : Env → SR :=
  (sqS (sM (M.bind (M.bind (M.bind (M.bind (getV 3) fun x => M.bind (getV 7) fun y => opt (ixD x y)) fun x => M.bind (M.bind (getV 6) fun x => M.bind (M.pure (.int 0)) fun y => opt (ixD x y)) fun y => opt (mulD2 x y)) fun x => M.bind (M.bind (getV 8) fun x => M.bind (M.pure (.int 1)) fun y => opt (ixD x y)) fun y => opt (mulD2 x y)) fun x => M.bind (M.bind (M.bind (M.bind (getV 3) fun x => M.bind (getV 5) fun y => opt (ixD x y)) fun x => M.bind (M.bind (getV 8) fun x => M.bind (M.pure (.int 0)) fun y => opt (ixD x y)) fun y => opt (mulD2 x y)) fun x => M.bind (M.bind (getV 6) fun x => M.bind (M.pure (.int 1)) fun y => opt (ixD x y)) fun y => opt (mulD2 x y)) fun y => opt (subD x y)) fun d ρ => .nx (ρ.set 9 (some (.val d))))
  (sqS (sM (M.bind (M.bind (getV 9) fun d => M.bind (M.bind (M.bind (M.bind (M.bind (getV 6) fun x => M.bind (M.pure (.int 0)) fun y => opt (ixD x y)) fun x => M.bind (M.bind (getV 8) fun x => M.bind (M.pure (.int 1)) fun y => opt (ixD x y)) fun y => opt (mulD2 x y)) fun x => M.bind (M.bind (M.bind (getV 8) fun x => M.bind (M.pure (.int 0)) fun y => opt (ixD x y)) fun x => M.bind (M.bind (getV 6) fun x => M.bind (M.pure (.int 1)) fun y => opt (ixD x y)) fun y => opt (mulD2 x y)) fun y => opt (addD x y)) fun d => M.bind (M.pure []) fun ds => M.pure (d :: ds)) fun ds => M.pure (d :: ds)) fun ds => callM (F_fraction ds)) fun d ρ => .nx (ρ.set 10 (some (.val d))))
  (sM (M.bind (M.bind (M.bind (M.bind (getV 4) fun d => M.bind (M.bind (getV 10) fun d => M.bind (M.pure []) fun ds => M.pure (d :: ds)) fun ds => M.pure (d :: ds)) fun ds => callM (F_less ds)) fun d => opt (truD d)) fun t => if t = true then (getV 10) else (getV 4)) fun d ρ => .nx (ρ.set 4 (some (.val d))))))
def lb_least_error_4 : Env → SR :=
  (sM (M.bind (M.bind (getV 2) fun d => M.bind (M.pure []) fun ds => M.pure (d :: ds)) fun ds => opt (enumD ds)) fun items ρ => forS [7, 8, 9, 10] tg_least_error_2
    lb_least_error_3 items (wipeE [7, 8, 9, 10] ρ))
def g_least_error : Env → SR :=
  (sqS (sM (M.bind (M.bind (getV 0) fun d => M.bind (M.pure []) fun ds => M.pure (d :: ds)) fun ds => callM (F_check_patterns ds)) fun _ ρ => .nx ρ)
  (sqS (ifS (M.bind (chainM leD ltD (M.pure (.int 0)) (getV 1) (M.bind (M.bind (getV 0) fun d => M.bind (M.pure []) fun ds => M.pure (d :: ds)) fun ds => opt (lenD ds))) fun t => M.pure (!t))
    (fun ρ => .er "NotAllowed" ρ)
    SR.nx)
  (sqS (sM (M.bind (M.bind (getV 0) fun d => M.bind (M.bind (getV 2) fun d => M.bind (M.pure []) fun ds => M.pure (d :: ds)) fun ds => M.pure (d :: ds)) fun ds => callM (F_check_measures ds)) fun _ ρ => .nx ρ)
  (sqS (sM (M.bind (getV 0) fun x => M.bind (getV 1) fun y => opt (ixD x y)) fun d ρ => .nx (ρ.set 3 (some (.val d))))
  (sqS (sM (M.bind (M.bind (M.pure (.int 0)) fun d => M.bind (M.bind (M.pure (.int 1)) fun d => M.bind (M.pure []) fun ds => M.pure (d :: ds)) fun ds => M.pure (d :: ds)) fun ds => M.pure (.tuple ds)) fun d ρ => .nx (ρ.set 4 (some (.val d))))
  (sqS (sM (M.bind (M.bind (getV 2) fun d => M.bind (M.pure []) fun ds => M.pure (d :: ds)) fun ds => opt (enumD ds)) fun items ρ => forS [5, 6, 7, 8, 9, 10] tg_least_error_1
    lb_least_error_4 items (wipeE [5, 6, 7, 8, 9, 10] ρ))
  (sM (getV 4) .rt)))))))
def F_least_error (ds : List D) : Rz := fdOf 11 g_least_error ds
set_option maxHeartbeats 4000000 in
theorem ok_least_error (T : Txt K mg) {C_NotAllowed : Addr} (c_NotAllowed : HasC K mg "NotAllowed" C_NotAllowed) {f_check_patterns : Addr} {fd_check_patterns : FuncData} (h_check_patterns : Has K mg "check_patterns" s_check_patterns ["patterns"] f_check_patterns fd_check_patterns) (G_check_patterns : FnOk P w K mg base (L2N.CX P w) 1 f_check_patterns fd_check_patterns ["patterns"] (spD Tl mg 1 F_check_patterns)) {f_check_measures : Addr} {fd_check_measures : FuncData} (h_check_measures : Has K mg "check_measures" s_check_measures ["patterns", "measures"] f_check_measures fd_check_measures) (G_check_measures : FnOk P w K mg base (L2N.CX P w) 3 f_check_measures fd_check_measures ["patterns", "measures"] (spD Tl mg 2 F_check_measures)) {f_fraction : Addr} {fd_fraction : FuncData} (h_fraction : Has K mg "fraction" s_fraction ["top", "below"] f_fraction fd_fraction) (G_fraction : FnOk P w K mg base (L2N.CX P w) 2 f_fraction fd_fraction ["top", "below"] (spD Tl mg 2 F_fraction)) {f_less : Addr} {fd_less : FuncData} (h_less : Has K mg "less" s_less ["first", "second"] f_less fd_less) (G_less : FnOk P w K mg base (L2N.CX P w) 1 f_less fd_less ["first", "second"] (spD Tl mg 2 F_less)) {f : Addr} {fd : FuncData} (F : Fun K "least_error" "least_error" s_least_error f fd) : FnOk P w K mg base (L2N.CX P w) 4 f fd ["patterns", "place", "measures"] (spD Tl mg 3 F_least_error) :=
  dl_def F sc_least_error (fun cdv A outer s H E hr =>
  show DSs _ _ _ _ g_least_error from
  (dss_cons (ds_expr (de_call G_check_patterns (hr.mono (by decide)) (by rfl) h_check_patterns.g h_check_patterns.k h_check_patterns.b (L2N.takes_of rfl rfl rfl rfl) (da_cons (de_var 0) da_nil)))
  (dss_cons (ds_if (dt_not (dt_chain opd_le opd_lt de_int (de_var 1) (de_callB cd_len (by rfl) T.b_len (by decide +kernel) (da_cons (de_var 0) da_nil))))
    (dss_one (ds_raise rfl (L2N.takes_of rfl rfl rfl rfl) PySem.F.excBase_ValueError c_NotAllowed.q c_NotAllowed.g c_NotAllowed.k (raises_own c_NotAllowed.s c_NotAllowed.t) (by rfl)))
    dss_nil)
  (dss_cons (ds_expr (de_call G_check_measures (hr.mono (by decide)) (by rfl) h_check_measures.g h_check_measures.k h_check_measures.b (L2N.takes_of rfl rfl rfl rfl) (da_cons (de_var 0) (da_cons (de_var 2) da_nil))))
  (dss_cons (ds_set 3 sc_least_error.nd (de_ix (de_var 0) (de_var 1) (by intro _ _; rfl)))
  (dss_cons (ds_set 4 sc_least_error.nd (de_tup (da_cons de_int (da_cons de_int da_nil))))
  (dss_cons (ds_for [5, 6, 7, 8, 9, 10] (passes_of rfl) rfl (di_enum (by rfl) T.b_enumerate (da_cons (de_var 2) da_nil)) (dg_tup rfl (dgs_cons (dg_name 5 sc_least_error.nd) (dgs_cons (dg_name 6 sc_least_error.nd) dgs_nil)))
    (dss_one (ds_for [7, 8, 9, 10] (passes_of rfl) rfl (di_enum (by rfl) T.b_enumerate (da_cons (de_var 2) da_nil)) (dg_tup rfl (dgs_cons (dg_name 7 sc_least_error.nd) (dgs_cons (dg_name 8 sc_least_error.nd) dgs_nil)))
    (dss_cons (ds_set 9 sc_least_error.nd (de_op opd_sub (de_op opd_mul (de_op opd_mul (de_ix (de_var 3) (de_var 7) (by intro _ _; rfl)) (de_ix (de_var 6) de_int (by intro _ _; rfl))) (de_ix (de_var 8) de_int (by intro _ _; rfl))) (de_op opd_mul (de_op opd_mul (de_ix (de_var 3) (de_var 5) (by intro _ _; rfl)) (de_ix (de_var 8) de_int (by intro _ _; rfl))) (de_ix (de_var 6) de_int (by intro _ _; rfl)))))
  (dss_cons (ds_set 10 sc_least_error.nd (de_call G_fraction (hr.mono (by decide)) (by rfl) h_fraction.g h_fraction.k h_fraction.b (L2N.takes_of rfl rfl rfl rfl) (da_cons (de_var 9) (da_cons (de_op opd_add (de_op opd_mul (de_ix (de_var 6) de_int (by intro _ _; rfl)) (de_ix (de_var 8) de_int (by intro _ _; rfl))) (de_op opd_mul (de_ix (de_var 8) de_int (by intro _ _; rfl)) (de_ix (de_var 6) de_int (by intro _ _; rfl)))) da_nil))))
  (dss_one (ds_set 4 sc_least_error.nd (de_if (dt_truth (de_call G_less (hr.mono (by decide)) (by rfl) h_less.g h_less.k h_less.b (L2N.takes_of rfl rfl rfl rfl) (da_cons (de_var 4) (da_cons (de_var 10) da_nil)))) (de_var 10) (de_var 4)))))))))
  (dss_one (ds_ret (de_var 4))))))))))
def g_l_same : Env → SR :=
  (sM (M.bind (M.bind (M.bind (M.bind (M.bind (getV 0) fun d => M.bind (M.pure []) fun ds => M.pure (d :: ds)) fun ds => M.pure (.list ds)) fun d => M.bind (M.pure []) fun ds => M.pure (d :: ds)) fun ds => opt (reprD ds)) fun x => M.bind (M.bind (M.bind (M.bind (M.bind (getV 1) fun d => M.bind (M.pure []) fun ds => M.pure (d :: ds)) fun ds => M.pure (.list ds)) fun d => M.bind (M.pure []) fun ds => M.pure (d :: ds)) fun ds => opt (reprD ds)) fun y => opt (eqD x y)) .rt)
def F_l_same (ds : List D) : Rz := fdOf 2 g_l_same ds
set_option maxHeartbeats 4000000 in
theorem ok_l_same (T : Txt K mg)  {f : Addr} {fd : FuncData} (F : Fun K "_law_same" "_law_same" s_l_same f fd) : FnG P w K mg base (L2N.CX P w) 1 f fd ["told", "due"] (spD Tl mg 2 F_l_same) :=
  dl_defG F sc_l_same (fun cdv A outer s H E hgd hr =>
  show DSs _ _ _ _ g_l_same from
  (dss_one (ds_ret (de_cmp (opd_eq (by exact hu_n _ hr)) (de_callB (cd_repr hgd (by exact hu_n _ hr)) (by rfl) T.b_repr (by decide +kernel) (da_cons (de_n (dn_lst (da_cons (de_var 0) da_nil))) da_nil)) (de_callB (cd_repr hgd (by exact hu_n _ hr)) (by rfl) T.b_repr (by decide +kernel) (da_cons (de_n (dn_lst (da_cons (de_var 1) da_nil))) da_nil)) (by first | exact nomark _ | rfl | decide)))))
def g_l_below : Env → SR :=
  (sM (M.bind (M.bind (M.bind (getV 0) fun x => M.bind (M.pure (.int 0)) fun y => opt (ixD x y)) fun x => M.bind (M.bind (getV 1) fun x => M.bind (M.pure (.int 1)) fun y => opt (ixD x y)) fun y => opt (mulD2 x y)) fun x => M.bind (M.bind (M.bind (getV 1) fun x => M.bind (M.pure (.int 0)) fun y => opt (ixD x y)) fun x => M.bind (M.bind (getV 0) fun x => M.bind (M.pure (.int 1)) fun y => opt (ixD x y)) fun y => opt (mulD2 x y)) fun y => opt (ltD x y)) .rt)
def F_l_below (ds : List D) : Rz := fdOf 2 g_l_below ds
set_option maxHeartbeats 4000000 in
theorem ok_l_below (T : Txt K mg)  {f : Addr} {fd : FuncData} (F : Fun K "_law_below" "_law_below" s_l_below f fd) : FnOk P w K mg base (L2N.CX P w) 1 f fd ["one", "other"] (spD Tl mg 2 F_l_below) :=
  dl_def F sc_l_below (fun cdv A outer s H E hr =>
  show DSs _ _ _ _ g_l_below from
  (dss_one (ds_ret (de_cmp opd_lt (de_op opd_mul (de_ix (de_var 0) de_int (by intro _ _; rfl)) (de_ix (de_var 1) de_int (by intro _ _; rfl))) (de_op opd_mul (de_ix (de_var 1) de_int (by intro _ _; rfl)) (de_ix (de_var 0) de_int (by intro _ _; rfl))) (by first | exact nomark _ | rfl | decide)))))
def tg_l_unit_1 : D → Env → Option Env :=
  (fun (d : D) ρ => match d with | .tuple ds => (fun (ds : List D) ρ => match ds with | d :: r => ((fun d ρ => some (ρ.set 6 (some (.val d)))) d ρ).bind ((fun (ds : List D) ρ => match ds with | d :: r => ((fun d ρ => some (ρ.set 7 (some (.val d)))) d ρ).bind ((fun (ds : List D) ρ => match ds with | [] => some ρ | _ => none) r) | [] => none) r) | [] => none) ds ρ | _ => none)
def lb_l_unit_2 : Env → SR :=
  (sqS (sM (M.bind (getV 2) fun x => M.bind (getV 5) fun y => opt (ixD x y)) fun d ρ => nxO (tg_l_unit_1 d ρ))
  (sqS (sM (M.bind (M.bind (M.bind (getV 6) fun x => M.bind (M.bind (getV 1) fun x => M.bind (M.pure (.int 1)) fun y => opt (ixD x y)) fun y => opt (mulD2 x y)) fun d => M.bind (M.bind (M.bind (getV 7) fun x => M.bind (M.bind (M.bind (M.bind (getV 0) fun x => M.bind (getV 5) fun y => opt (ixD x y)) fun x => M.bind (M.bind (getV 1) fun x => M.bind (M.pure (.int 1)) fun y => opt (ixD x y)) fun y => opt (mulD2 x y)) fun x => M.bind (M.bind (getV 1) fun x => M.bind (M.pure (.int 0)) fun y => opt (ixD x y)) fun y => opt (addD x y)) fun y => opt (mulD2 x y)) fun d => M.bind (M.pure []) fun ds => M.pure (d :: ds)) fun ds => M.pure (d :: ds)) fun ds => callM (F_l_fraction ds)) fun d ρ => .nx (ρ.set 8 (some (.val d))))
  (sqS (sM (M.bind (M.bind (M.bind (getV 0) fun x => M.bind (getV 5) fun y => opt (ixD x y)) fun x => M.bind (M.bind (getV 1) fun x => M.bind (M.pure (.int 1)) fun y => opt (ixD x y)) fun y => opt (mulD2 x y)) fun x => M.bind (M.bind (getV 1) fun x => M.bind (M.pure (.int 0)) fun y => opt (ixD x y)) fun y => opt (subD x y)) fun d ρ => .nx (ρ.set 9 (some (.val d))))
  (sqS (ifS (M.bind (M.bind (M.bind (getV 3) fun d => M.bind (M.bind (getV 8) fun d => M.bind (M.pure []) fun ds => M.pure (d :: ds)) fun ds => M.pure (d :: ds)) fun ds => callM (F_l_below ds)) fun d => opt (truD d))
    (sM (getV 8) fun d ρ => .nx (ρ.set 3 (some (.val d))))
    SR.nx)
  (ifS (M.bind (getV 9) fun x => M.bind (M.pure (.int 0)) fun y => opt ((gtD x y).bind boolOf))
    (sqS (sM (M.bind (M.bind (M.bind (getV 6) fun x => M.bind (M.bind (getV 1) fun x => M.bind (M.pure (.int 1)) fun y => opt (ixD x y)) fun y => opt (mulD2 x y)) fun d => M.bind (M.bind (M.bind (getV 7) fun x => M.bind (getV 9) fun y => opt (mulD2 x y)) fun d => M.bind (M.pure []) fun ds => M.pure (d :: ds)) fun ds => M.pure (d :: ds)) fun ds => callM (F_l_fraction ds)) fun d ρ => .nx (ρ.set 10 (some (.val d))))
  (ifS (M.bind (M.bind (getV 4) fun x => M.bind (M.pure .none) fun y => opt ((isD x y).bind boolOf)) fun t => if t = true then M.pure true else (M.bind (M.bind (M.bind (getV 10) fun d => M.bind (M.bind (getV 4) fun d => M.bind (M.pure []) fun ds => M.pure (d :: ds)) fun ds => M.pure (d :: ds)) fun ds => callM (F_l_below ds)) fun d => opt (truD d)))
    (sM (getV 10) fun d ρ => .nx (ρ.set 4 (some (.val d))))
    SR.nx))
    SR.nx)))))
def g_l_unit : Env → SR :=
  (sqS (sM (M.bind (M.bind (M.pure (.int 0)) fun d => M.bind (M.bind (M.pure (.int 1)) fun d => M.bind (M.pure []) fun ds => M.pure (d :: ds)) fun ds => M.pure (d :: ds)) fun ds => M.pure (.tuple ds)) fun d ρ => .nx (ρ.set 3 (some (.val d))))
  (sqS (sM (M.pure .none) fun d ρ => .nx (ρ.set 4 (some (.val d))))
  (sqS (sM (M.bind (M.bind (M.bind (M.bind (getV 0) fun d => M.bind (M.pure []) fun ds => M.pure (d :: ds)) fun ds => opt (lenD ds)) fun d => M.bind (M.pure []) fun ds => M.pure (d :: ds)) fun ds => opt (range1 ds)) fun items ρ => forS [5, 6, 7, 8, 9, 10] (fun d ρ => some (ρ.set 5 (some (.val d))))
    lb_l_unit_2 items (wipeE [5, 6, 7, 8, 9, 10] ρ))
  (sM (M.bind (M.bind (getV 4) fun x => M.bind (M.pure .none) fun y => opt (isD x y)) fun x => M.bind (opt (boolOf x)) fun t => if t = true then M.pure (.bool true) else (M.bind (M.bind (M.bind (getV 4) fun d => M.bind (M.bind (getV 3) fun d => M.bind (M.pure []) fun ds => M.pure (d :: ds)) fun ds => M.pure (d :: ds)) fun ds => callM (F_l_below ds)) fun x => opt ((boolOf x).map fun t => .bool (!t)))) .rt))))
def F_l_unit (ds : List D) : Rz := fdOf 11 g_l_unit ds
set_option maxHeartbeats 4000000 in
theorem ok_l_unit (T : Txt K mg)  {f_l_fraction : Addr} {fd_l_fraction : FuncData} (h_l_fraction : Has K mg "_law_fraction" s_l_fraction ["top", "below"] f_l_fraction fd_l_fraction) (G_l_fraction : FnOk P w K mg base (L2N.CX P w) 2 f_l_fraction fd_l_fraction ["top", "below"] (spD Tl mg 2 F_l_fraction)) {f_l_below : Addr} {fd_l_below : FuncData} (h_l_below : Has K mg "_law_below" s_l_below ["one", "other"] f_l_below fd_l_below) (G_l_below : FnOk P w K mg base (L2N.CX P w) 1 f_l_below fd_l_below ["one", "other"] (spD Tl mg 2 F_l_below)) {f : Addr} {fd : FuncData} (F : Fun K "_law_unit" "_law_unit" s_l_unit f fd) : FnOk P w K mg base (L2N.CX P w) 3 f fd ["pattern", "error", "measures"] (spD Tl mg 3 F_l_unit) :=
  dl_def F sc_l_unit (fun cdv A outer s H E hr =>
  show DSs _ _ _ _ g_l_unit from
  (dss_cons (ds_set 3 sc_l_unit.nd (de_tup (da_cons de_int (da_cons de_int da_nil))))
  (dss_cons (ds_set 4 sc_l_unit.nd de_none)
  (dss_cons (ds_for [5, 6, 7, 8, 9, 10] (passes_of rfl) rfl (di_range1 (by rfl) T.b_range (da_cons (de_callB cd_len (by rfl) T.b_len (by decide +kernel) (da_cons (de_var 0) da_nil)) da_nil)) (dg_name 5 sc_l_unit.nd)
    (dss_cons (ds_asg (de_ix (de_var 2) (de_var 5) (by intro _ _; rfl)) (dg_tup rfl (dgs_cons (dg_name 6 sc_l_unit.nd) (dgs_cons (dg_name 7 sc_l_unit.nd) dgs_nil))))
  (dss_cons (ds_set 8 sc_l_unit.nd (de_call G_l_fraction (hr.mono (by decide)) (by rfl) h_l_fraction.g h_l_fraction.k h_l_fraction.b (L2N.takes_of rfl rfl rfl rfl) (da_cons (de_op opd_mul (de_var 6) (de_ix (de_var 1) de_int (by intro _ _; rfl))) (da_cons (de_op opd_mul (de_var 7) (de_op opd_add (de_op opd_mul (de_ix (de_var 0) (de_var 5) (by intro _ _; rfl)) (de_ix (de_var 1) de_int (by intro _ _; rfl))) (de_ix (de_var 1) de_int (by intro _ _; rfl)))) da_nil))))
  (dss_cons (ds_set 9 sc_l_unit.nd (de_op opd_sub (de_op opd_mul (de_ix (de_var 0) (de_var 5) (by intro _ _; rfl)) (de_ix (de_var 1) de_int (by intro _ _; rfl))) (de_ix (de_var 1) de_int (by intro _ _; rfl))))
  (dss_cons (ds_if (dt_truth (de_call G_l_below (hr.mono (by decide)) (by rfl) h_l_below.g h_l_below.k h_l_below.b (L2N.takes_of rfl rfl rfl rfl) (da_cons (de_var 3) (da_cons (de_var 8) da_nil))))
    (dss_one (ds_set 3 sc_l_unit.nd (de_var 8)))
    dss_nil)
  (dss_one (ds_if (dt_cmp opd_gt (de_var 9) de_int (by first | exact nomark _ | rfl | decide))
    (dss_cons (ds_set 10 sc_l_unit.nd (de_call G_l_fraction (hr.mono (by decide)) (by rfl) h_l_fraction.g h_l_fraction.k h_l_fraction.b (L2N.takes_of rfl rfl rfl rfl) (da_cons (de_op opd_mul (de_var 6) (de_ix (de_var 1) de_int (by intro _ _; rfl))) (da_cons (de_op opd_mul (de_var 7) (de_var 9)) da_nil))))
  (dss_one (ds_if (dt_w (dw_or (dt_cmp opd_is (de_var 4) de_none (by first | exact nomark _ | rfl | decide)) (dw_or1 (dt_truth (de_call G_l_below (hr.mono (by decide)) (by rfl) h_l_below.g h_l_below.k h_l_below.b (L2N.takes_of rfl rfl rfl rfl) (da_cons (de_var 10) (da_cons (de_var 4) da_nil)))))))
    (dss_one (ds_set 4 sc_l_unit.nd (de_var 10)))
    dss_nil)))
    dss_nil)))))))
  (dss_one (ds_ret (de_or (de_cmp opd_is (de_var 4) de_none (by first | exact nomark _ | rfl | decide)) (de_one (de_not (de_call G_l_below (hr.mono (by decide)) (by rfl) h_l_below.g h_l_below.k h_l_below.b (L2N.takes_of rfl rfl rfl rfl) (da_cons (de_var 4) (da_cons (de_var 3) da_nil))))))))))))
def g_check_error : Env → SR :=
  (ifS (M.bind (M.bind (M.bind (M.bind (M.bind (getV 0) fun d => M.bind (M.pure []) fun ds => M.pure (d :: ds)) fun ds => callM (F_is_fraction ds)) fun d => opt (truD d)) fun t => M.pure (!t)) fun t => if t = true then M.pure true else (M.bind (M.bind (M.bind (getV 0) fun x => M.bind (M.pure (.int 0)) fun y => opt (ixD x y)) fun x => M.bind (M.pure (.int 0)) fun y => opt ((ltD x y).bind boolOf)) fun t => if t = true then M.pure true else (M.bind (M.bind (M.bind (M.bind (getV 0) fun d => M.bind (M.bind (M.bind (M.bind (M.pure (.int 1)) fun d => M.bind (M.bind (M.pure (.int 1)) fun d => M.bind (M.pure []) fun ds => M.pure (d :: ds)) fun ds => M.pure (d :: ds)) fun ds => M.pure (.tuple ds)) fun d => M.bind (M.pure []) fun ds => M.pure (d :: ds)) fun ds => M.pure (d :: ds)) fun ds => callM (F_less ds)) fun d => opt (truD d)) fun t => M.pure (!t))))
    (fun ρ => .er "NotAllowed" ρ)
    SR.nx)
def F_check_error (ds : List D) : Rz := fdOf 1 g_check_error ds
set_option maxHeartbeats 4000000 in
theorem ok_check_error (T : Txt K mg) {C_NotAllowed : Addr} (c_NotAllowed : HasC K mg "NotAllowed" C_NotAllowed) {f_is_fraction : Addr} {fd_is_fraction : FuncData} (h_is_fraction : Has K mg "is_fraction" s_is_fraction ["value"] f_is_fraction fd_is_fraction) (G_is_fraction : FnOk P w K mg base (L2N.CX P w) 2 f_is_fraction fd_is_fraction ["value"] (spD Tl mg 1 F_is_fraction)) {f_less : Addr} {fd_less : FuncData} (h_less : Has K mg "less" s_less ["first", "second"] f_less fd_less) (G_less : FnOk P w K mg base (L2N.CX P w) 1 f_less fd_less ["first", "second"] (spD Tl mg 2 F_less)) {f : Addr} {fd : FuncData} (F : Fun K "check_error" "check_error" s_check_error f fd) : FnOk P w K mg base (L2N.CX P w) 3 f fd ["error"] (spD Tl mg 1 F_check_error) :=
  dl_def F sc_check_error (fun cdv A outer s H E hr =>
  show DSs _ _ _ _ g_check_error from
  (dss_one (ds_if (dt_w (dw_or (dt_not (dt_truth (de_call G_is_fraction (hr.mono (by decide)) (by rfl) h_is_fraction.g h_is_fraction.k h_is_fraction.b (L2N.takes_of rfl rfl rfl rfl) (da_cons (de_var 0) da_nil)))) (dw_or (dt_cmp opd_lt (de_ix (de_var 0) de_int (by intro _ _; rfl)) de_int (by first | exact nomark _ | rfl | decide)) (dw_or1 (dt_not (dt_truth (de_call G_less (hr.mono (by decide)) (by rfl) h_less.g h_less.k h_less.b (L2N.takes_of rfl rfl rfl rfl) (da_cons (de_var 0) (da_cons (de_tup (da_cons de_int (da_cons de_int da_nil))) da_nil)))))))))
    (dss_one (ds_raise rfl (L2N.takes_of rfl rfl rfl rfl) PySem.F.excBase_ValueError c_NotAllowed.q c_NotAllowed.g c_NotAllowed.k (raises_own c_NotAllowed.s c_NotAllowed.t) (by rfl)))
    dss_nil)))
def tg_unit_ends_1 : D → Env → Option Env :=
  (fun (d : D) ρ => match d with | .tuple ds => (fun (ds : List D) ρ => match ds with | d :: r => ((fun d ρ => some (ρ.set 3 (some (.val d)))) d ρ).bind ((fun (ds : List D) ρ => match ds with | d :: r => ((fun d ρ => some (ρ.set 4 (some (.val d)))) d ρ).bind ((fun (ds : List D) ρ => match ds with | [] => some ρ | _ => none) r) | [] => none) r) | [] => none) ds ρ | _ => none)
def tg_unit_ends_2 : D → Env → Option Env :=
  (fun (d : D) ρ => match d with | .tuple ds => (fun (ds : List D) ρ => match ds with | d :: r => ((fun d ρ => some (ρ.set 5 (some (.val d)))) d ρ).bind ((fun (ds : List D) ρ => match ds with | d :: r => ((fun d ρ => some (ρ.set 6 (some (.val d)))) d ρ).bind ((fun (ds : List D) ρ => match ds with | [] => some ρ | _ => none) r) | [] => none) r) | [] => none) ds ρ | _ => none)
def tg_unit_ends_3 : D → Env → Option Env :=
  (fun (d : D) ρ => match d with | .tuple ds => (fun (ds : List D) ρ => match ds with | d :: r => ((fun d ρ => some (ρ.set 7 (some (.val d)))) d ρ).bind ((fun (ds : List D) ρ => match ds with | d :: r => ((fun d ρ => some (ρ.set 8 (some (.val d)))) d ρ).bind ((fun (ds : List D) ρ => match ds with | [] => some ρ | _ => none) r) | [] => none) r) | [] => none) ds ρ | _ => none)
def lb_unit_ends_4 : Env → SR :=
  (sqS (sM (M.bind (M.bind (M.bind (M.bind (getV 8) fun x => M.bind (M.pure (.int 0)) fun y => opt (ixD x y)) fun x => M.bind (getV 4) fun y => opt (mulD2 x y)) fun d => M.bind (M.bind (M.bind (M.bind (getV 8) fun x => M.bind (M.pure (.int 1)) fun y => opt (ixD x y)) fun x => M.bind (M.bind (M.bind (getV 7) fun x => M.bind (getV 4) fun y => opt (mulD2 x y)) fun x => M.bind (getV 3) fun y => opt (addD x y)) fun y => opt (mulD2 x y)) fun d => M.bind (M.pure []) fun ds => M.pure (d :: ds)) fun ds => M.pure (d :: ds)) fun ds => callM (F_fraction ds)) fun d ρ => .nx (ρ.set 9 (some (.val d))))
  (sqS (sM (M.bind (M.bind (M.bind (M.bind (getV 8) fun x => M.bind (M.pure (.int 0)) fun y => opt (ixD x y)) fun x => M.bind (getV 4) fun y => opt (mulD2 x y)) fun d => M.bind (M.bind (M.bind (M.bind (getV 8) fun x => M.bind (M.pure (.int 1)) fun y => opt (ixD x y)) fun x => M.bind (M.bind (M.bind (getV 7) fun x => M.bind (getV 4) fun y => opt (mulD2 x y)) fun x => M.bind (getV 3) fun y => opt (subD x y)) fun y => opt (mulD2 x y)) fun d => M.bind (M.pure []) fun ds => M.pure (d :: ds)) fun ds => M.pure (d :: ds)) fun ds => callM (F_fraction ds)) fun d ρ => .nx (ρ.set 10 (some (.val d))))
  (sqS (sM (M.bind (M.bind (M.bind (getV 5) fun x => M.bind (M.pure .none) fun y => opt ((isD x y).bind boolOf)) fun t => if t = true then M.pure true else (M.bind (M.bind (M.bind (getV 5) fun d => M.bind (M.bind (getV 9) fun d => M.bind (M.pure []) fun ds => M.pure (d :: ds)) fun ds => M.pure (d :: ds)) fun ds => callM (F_less ds)) fun d => opt (truD d))) fun t => if t = true then (getV 9) else (getV 5)) fun d ρ => .nx (ρ.set 5 (some (.val d))))
  (sM (M.bind (M.bind (M.bind (getV 6) fun x => M.bind (M.pure .none) fun y => opt ((isD x y).bind boolOf)) fun t => if t = true then M.pure true else (M.bind (M.bind (M.bind (getV 10) fun d => M.bind (M.bind (getV 6) fun d => M.bind (M.pure []) fun ds => M.pure (d :: ds)) fun ds => M.pure (d :: ds)) fun ds => callM (F_less ds)) fun d => opt (truD d))) fun t => if t = true then (getV 10) else (getV 6)) fun d ρ => .nx (ρ.set 6 (some (.val d)))))))
def g_unit_ends : Env → SR :=
  (sqS (sM (getV 1) fun d ρ => nxO (tg_unit_ends_1 d ρ))
  (sqS (sM (M.bind (M.bind (M.pure .none) fun d => M.bind (M.bind (M.pure .none) fun d => M.bind (M.pure []) fun ds => M.pure (d :: ds)) fun ds => M.pure (d :: ds)) fun ds => M.pure (.tuple ds)) fun d ρ => nxO (tg_unit_ends_2 d ρ))
  (sqS (sM (M.bind (M.bind (getV 0) fun d => M.bind (M.bind (getV 2) fun d => M.bind (M.pure []) fun ds => M.pure (d :: ds)) fun ds => M.pure (d :: ds)) fun ds => opt (zipD ds)) fun items ρ => forS [7, 8, 9, 10] tg_unit_ends_3
    lb_unit_ends_4 items (wipeE [7, 8, 9, 10] ρ))
  (sM (M.bind (M.bind (getV 5) fun d => M.bind (M.bind (getV 6) fun d => M.bind (M.pure []) fun ds => M.pure (d :: ds)) fun ds => M.pure (d :: ds)) fun ds => M.pure (.tuple ds)) .rt))))
def F_unit_ends (ds : List D) : Rz := fdOf 11 g_unit_ends ds
set_option maxHeartbeats 4000000 in
theorem ok_unit_ends (T : Txt K mg)  {f_fraction : Addr} {fd_fraction : FuncData} (h_fraction : Has K mg "fraction" s_fraction ["top", "below"] f_fraction fd_fraction) (G_fraction : FnOk P w K mg base (L2N.CX P w) 2 f_fraction fd_fraction ["top", "below"] (spD Tl mg 2 F_fraction)) {f_less : Addr} {fd_less : FuncData} (h_less : Has K mg "less" s_less ["first", "second"] f_less fd_less) (G_less : FnOk P w K mg base (L2N.CX P w) 1 f_less fd_less ["first", "second"] (spD Tl mg 2 F_less)) {f : Addr} {fd : FuncData} (F : Fun K "unit_ends" "unit_ends" s_unit_ends f fd) : FnOk P w K mg base (L2N.CX P w) 3 f fd ["pattern", "error", "measures"] (spD Tl mg 3 F_unit_ends) :=
  dl_def F sc_unit_ends (fun cdv A outer s H E hr =>
  show DSs _ _ _ _ g_unit_ends from
  (dss_cons (ds_asg (de_var 1) (dg_tup rfl (dgs_cons (dg_name 3 sc_unit_ends.nd) (dgs_cons (dg_name 4 sc_unit_ends.nd) dgs_nil))))
  (dss_cons (ds_asg (de_tup (da_cons de_none (da_cons de_none da_nil))) (dg_tup rfl (dgs_cons (dg_name 5 sc_unit_ends.nd) (dgs_cons (dg_name 6 sc_unit_ends.nd) dgs_nil))))
  (dss_cons (ds_for [7, 8, 9, 10] (passes_of rfl) rfl (di_zip (by rfl) T.b_zip (da_cons (de_var 0) (da_cons (de_var 2) da_nil))) (dg_tup rfl (dgs_cons (dg_name 7 sc_unit_ends.nd) (dgs_cons (dg_name 8 sc_unit_ends.nd) dgs_nil)))
    (dss_cons (ds_set 9 sc_unit_ends.nd (de_call G_fraction (hr.mono (by decide)) (by rfl) h_fraction.g h_fraction.k h_fraction.b (L2N.takes_of rfl rfl rfl rfl) (da_cons (de_op opd_mul (de_ix (de_var 8) de_int (by intro _ _; rfl)) (de_var 4)) (da_cons (de_op opd_mul (de_ix (de_var 8) de_int (by intro _ _; rfl)) (de_op opd_add (de_op opd_mul (de_var 7) (de_var 4)) (de_var 3))) da_nil))))
  (dss_cons (ds_set 10 sc_unit_ends.nd (de_call G_fraction (hr.mono (by decide)) (by rfl) h_fraction.g h_fraction.k h_fraction.b (L2N.takes_of rfl rfl rfl rfl) (da_cons (de_op opd_mul (de_ix (de_var 8) de_int (by intro _ _; rfl)) (de_var 4)) (da_cons (de_op opd_mul (de_ix (de_var 8) de_int (by intro _ _; rfl)) (de_op opd_sub (de_op opd_mul (de_var 7) (de_var 4)) (de_var 3))) da_nil))))
  (dss_cons (ds_set 5 sc_unit_ends.nd (de_if (dt_w (dw_or (dt_cmp opd_is (de_var 5) de_none (by first | exact nomark _ | rfl | decide)) (dw_or1 (dt_truth (de_call G_less (hr.mono (by decide)) (by rfl) h_less.g h_less.k h_less.b (L2N.takes_of rfl rfl rfl rfl) (da_cons (de_var 5) (da_cons (de_var 9) da_nil))))))) (de_var 9) (de_var 5)))
  (dss_one (ds_set 6 sc_unit_ends.nd (de_if (dt_w (dw_or (dt_cmp opd_is (de_var 6) de_none (by first | exact nomark _ | rfl | decide)) (dw_or1 (dt_truth (de_call G_less (hr.mono (by decide)) (by rfl) h_less.g h_less.k h_less.b (L2N.takes_of rfl rfl rfl rfl) (da_cons (de_var 10) (da_cons (de_var 6) da_nil))))))) (de_var 10) (de_var 6))))))))
  (dss_one (ds_ret (de_tup (da_cons (de_var 5) (da_cons (de_var 6) da_nil)))))))))
def tg_readings_1 : D → Env → Option Env :=
  (fun (d : D) ρ => match d with | .tuple ds => (fun (ds : List D) ρ => match ds with | d :: r => ((fun d ρ => some (ρ.set 4 (some (.val d)))) d ρ).bind ((fun (ds : List D) ρ => match ds with | d :: r => ((fun d ρ => some (ρ.set 5 (some (.val d)))) d ρ).bind ((fun (ds : List D) ρ => match ds with | [] => some ρ | _ => none) r) | [] => none) r) | [] => none) ds ρ | _ => none)
def tg_readings_2 : D → Env → Option Env :=
  (fun (d : D) ρ => match d with | .tuple ds => (fun (ds : List D) ρ => match ds with | d :: r => ((fun d ρ => some (ρ.set 6 (some (.val d)))) d ρ).bind ((fun (ds : List D) ρ => match ds with | d :: r => ((fun d ρ => some (ρ.set 7 (some (.val d)))) d ρ).bind ((fun (ds : List D) ρ => match ds with | [] => some ρ | _ => none) r) | [] => none) r) | [] => none) ds ρ | _ => none)
def lb_readings_3 : Env → SR :=
  (sqS (sM (M.bind (M.bind (getV 5) fun d => M.bind (M.bind (getV 1) fun d => M.bind (M.bind (getV 2) fun d => M.bind (M.pure []) fun ds => M.pure (d :: ds)) fun ds => M.pure (d :: ds)) fun ds => M.pure (d :: ds)) fun ds => callM (F_unit_ends ds)) fun d ρ => nxO (tg_readings_2 d ρ))
  (ifS (M.bind (M.bind (M.bind (M.bind (getV 7) fun d => M.bind (M.bind (getV 6) fun d => M.bind (M.pure []) fun ds => M.pure (d :: ds)) fun ds => M.pure (d :: ds)) fun ds => callM (F_less ds)) fun d => opt (truD d)) fun t => M.pure (!t))
    (sM (M.bind (getO 3) fun _ => (getV 4)) fun d ρ => nxO (updO 3 (fun ds => if ds.length < lim then some (ds ++ [d]) else none) ρ))
    SR.nx))
def g_readings : Env → SR :=
  (sqS (sM (M.bind (M.bind (getV 0) fun d => M.bind (M.pure []) fun ds => M.pure (d :: ds)) fun ds => callM (F_check_patterns ds)) fun _ ρ => .nx ρ)
  (sqS (sM (M.bind (M.bind (getV 1) fun d => M.bind (M.pure []) fun ds => M.pure (d :: ds)) fun ds => callM (F_check_error ds)) fun _ ρ => .nx ρ)
  (sqS (sM (M.bind (M.bind (getV 0) fun d => M.bind (M.bind (getV 2) fun d => M.bind (M.pure []) fun ds => M.pure (d :: ds)) fun ds => M.pure (d :: ds)) fun ds => callM (F_check_measures ds)) fun _ ρ => .nx ρ)
  (sqS (sM (M.pure []) fun ds ρ => .nx (ρ.set 3 (some (.own false (.list ds)))))
  (sqS (sM (M.bind (M.bind (getV 0) fun d => M.bind (M.pure []) fun ds => M.pure (d :: ds)) fun ds => opt (enumD ds)) fun items ρ => forS [4, 5, 6, 7] tg_readings_1
    lb_readings_3 items (wipeE [4, 5, 6, 7] ρ))
  (fun ρ => (sM (getV 3) .rt) (frzs [3] ρ)))))))
def F_readings (ds : List D) : Rz := fdOf 8 g_readings ds
set_option maxHeartbeats 4000000 in
theorem ok_readings (T : Txt K mg)  {f_check_patterns : Addr} {fd_check_patterns : FuncData} (h_check_patterns : Has K mg "check_patterns" s_check_patterns ["patterns"] f_check_patterns fd_check_patterns) (G_check_patterns : FnOk P w K mg base (L2N.CX P w) 1 f_check_patterns fd_check_patterns ["patterns"] (spD Tl mg 1 F_check_patterns)) {f_check_error : Addr} {fd_check_error : FuncData} (h_check_error : Has K mg "check_error" s_check_error ["error"] f_check_error fd_check_error) (G_check_error : FnOk P w K mg base (L2N.CX P w) 3 f_check_error fd_check_error ["error"] (spD Tl mg 1 F_check_error)) {f_check_measures : Addr} {fd_check_measures : FuncData} (h_check_measures : Has K mg "check_measures" s_check_measures ["patterns", "measures"] f_check_measures fd_check_measures) (G_check_measures : FnOk P w K mg base (L2N.CX P w) 3 f_check_measures fd_check_measures ["patterns", "measures"] (spD Tl mg 2 F_check_measures)) {f_unit_ends : Addr} {fd_unit_ends : FuncData} (h_unit_ends : Has K mg "unit_ends" s_unit_ends ["pattern", "error", "measures"] f_unit_ends fd_unit_ends) (G_unit_ends : FnOk P w K mg base (L2N.CX P w) 3 f_unit_ends fd_unit_ends ["pattern", "error", "measures"] (spD Tl mg 3 F_unit_ends)) {f_less : Addr} {fd_less : FuncData} (h_less : Has K mg "less" s_less ["first", "second"] f_less fd_less) (G_less : FnOk P w K mg base (L2N.CX P w) 1 f_less fd_less ["first", "second"] (spD Tl mg 2 F_less)) {f : Addr} {fd : FuncData} (F : Fun K "readings" "readings" s_readings f fd) : FnOk P w K mg base (L2N.CX P w) 4 f fd ["patterns", "error", "measures"] (spD Tl mg 3 F_readings) :=
  dl_def F sc_readings (fun cdv A outer s H E hr =>
  show DSs _ _ _ _ g_readings from
  (dss_cons (ds_expr (de_call G_check_patterns (hr.mono (by decide)) (by rfl) h_check_patterns.g h_check_patterns.k h_check_patterns.b (L2N.takes_of rfl rfl rfl rfl) (da_cons (de_var 0) da_nil)))
  (dss_cons (ds_expr (de_call G_check_error (hr.mono (by decide)) (by rfl) h_check_error.g h_check_error.k h_check_error.b (L2N.takes_of rfl rfl rfl rfl) (da_cons (de_var 1) da_nil)))
  (dss_cons (ds_expr (de_call G_check_measures (hr.mono (by decide)) (by rfl) h_check_measures.g h_check_measures.k h_check_measures.b (L2N.takes_of rfl rfl rfl rfl) (da_cons (de_var 0) (da_cons (de_var 2) da_nil))))
  (dss_cons (ds_setN 3 sc_readings.nd (dn_lst da_nil))
  (dss_cons (ds_for [4, 5, 6, 7] (passes_of rfl) rfl (di_enum (by rfl) T.b_enumerate (da_cons (de_var 0) da_nil)) (dg_tup rfl (dgs_cons (dg_name 4 sc_readings.nd) (dgs_cons (dg_name 5 sc_readings.nd) dgs_nil)))
    (dss_cons (ds_asg (de_call G_unit_ends (hr.mono (by decide)) (by rfl) h_unit_ends.g h_unit_ends.k h_unit_ends.b (L2N.takes_of rfl rfl rfl rfl) (da_cons (de_var 5) (da_cons (de_var 1) (da_cons (de_var 2) da_nil)))) (dg_tup rfl (dgs_cons (dg_name 6 sc_readings.nd) (dgs_cons (dg_name 7 sc_readings.nd) dgs_nil))))
  (dss_one (ds_if (dt_not (dt_truth (de_call G_less (hr.mono (by decide)) (by rfl) h_less.g h_less.k h_less.b (L2N.takes_of rfl rfl rfl rfl) (da_cons (de_var 7) (da_cons (de_var 6) da_nil)))))
    (dss_one (ds_append 3 (de_var 4)))
    dss_nil))))
  (dss_one (ds_pre (snd_frzs [3]) (ds_ret (de_var 3))))))))))
def le_law_1 : M D :=
  (getV 11)
def lt_law_2 : M Bool :=
  (M.bind (M.bind (M.bind (M.bind (getV 3) fun x => M.bind (getV 11) fun y => opt (ixD x y)) fun d => M.bind (M.bind (getV 4) fun d => M.bind (M.bind (getV 6) fun d => M.bind (M.pure []) fun ds => M.pure (d :: ds)) fun ds => M.pure (d :: ds)) fun ds => M.pure (d :: ds)) fun ds => callM (F_l_unit ds)) fun d => opt (truD d))
def lb_law_3 : Env → SR :=
  (sqS (sM (M.bind (getO 1) fun _ => M.bind (M.pure []) fun ds => M.bind (getO 1) fun s0 => M.bind (opt (F_l_patterns s0 ds)) fun z => M.bind (putO 1 z.2) fun _ => M.pure z.1) fun d ρ => .nx (ρ.set 3 (some (.val d))))
  (sqS (sM (M.bind (getO 1) fun _ => M.bind (M.pure []) fun ds => M.bind (getO 1) fun s0 => M.bind (opt (F_l_error s0 ds)) fun z => M.bind (putO 1 z.2) fun _ => M.pure z.1) fun d ρ => .nx (ρ.set 4 (some (.val d))))
  (sqS (sM (M.bind (getO 1) fun _ => M.bind (M.bind (M.bind (M.bind (getV 3) fun d => M.bind (M.pure []) fun ds => M.pure (d :: ds)) fun ds => opt (lenD ds)) fun d => M.bind (M.pure []) fun ds => M.pure (d :: ds)) fun ds => M.bind (getO 1) fun s0 => M.bind (opt (F_l_next s0 ds)) fun z => M.bind (putO 1 z.2) fun _ => M.pure z.1) fun d ρ => .nx (ρ.set 5 (some (.val d))))
  (sqS (sM (M.bind (getO 1) fun _ => M.bind (M.bind (M.bind (getV 3) fun x => M.bind (getV 5) fun y => opt (ixD x y)) fun d => M.bind (M.bind (getV 4) fun d => M.bind (M.pure []) fun ds => M.pure (d :: ds)) fun ds => M.pure (d :: ds)) fun ds => M.bind (getO 1) fun s0 => M.bind (opt (F_l_measures s0 ds)) fun z => M.bind (putO 1 z.2) fun _ => M.pure z.1) fun d ρ => .nx (ρ.set 6 (some (.val d))))
  (sqS (sM (M.bind (M.bind (M.bind (M.bind (M.bind (getV 3) fun d => M.bind (M.pure []) fun ds => M.pure (d :: ds)) fun ds => opt (lenD ds)) fun d => M.bind (M.pure []) fun ds => M.pure (d :: ds)) fun ds => opt (range1 ds)) (lcM [11] (fun d ρ => some (ρ.set 11 (some (.val d)))) lt_law_2 le_law_1)) fun ds ρ => .nx (ρ.set 7 (some (.val (.list ds)))))
  (sqS (ifS (M.bind (M.bind (M.bind (M.bind (M.bind (M.bind (getV 3) fun d => M.bind (M.bind (getV 4) fun d => M.bind (M.bind (getV 6) fun d => M.bind (M.pure []) fun ds => M.pure (d :: ds)) fun ds => M.pure (d :: ds)) fun ds => M.pure (d :: ds)) fun ds => callM (F_readings ds)) fun d => M.bind (M.bind (getV 7) fun d => M.bind (M.pure []) fun ds => M.pure (d :: ds)) fun ds => M.pure (d :: ds)) fun ds => callM (F_l_same ds)) fun d => opt (truD d)) fun t => M.pure (!t))
    (sM (M.pure (.bool false)) .rt)
    SR.nx)
  (sqS (sM (M.bind (M.bind (getV 3) fun d => M.bind (M.bind (getV 5) fun d => M.bind (M.bind (getV 6) fun d => M.bind (M.pure []) fun ds => M.pure (d :: ds)) fun ds => M.pure (d :: ds)) fun ds => M.pure (d :: ds)) fun ds => callM (F_least_error ds)) fun d ρ => .nx (ρ.set 8 (some (.val d))))
  (sqS (ifS (M.bind (M.bind (M.bind (getV 8) fun x => M.bind (M.pure (.int 1)) fun y => opt (ixD x y)) fun x => M.bind (M.pure (.int 1)) fun y => opt ((ltD x y).bind boolOf)) fun t => if t = true then M.pure true else (M.bind (M.bind (M.bind (M.bind (M.bind (getV 8) fun x => M.bind (M.pure (.int 0)) fun y => opt (ixD x y)) fun d => M.bind (M.bind (M.bind (getV 8) fun x => M.bind (M.pure (.int 1)) fun y => opt (ixD x y)) fun d => M.bind (M.pure []) fun ds => M.pure (d :: ds)) fun ds => M.pure (d :: ds)) fun ds => callM (F_l_fraction ds)) fun x => M.bind (getV 8) fun y => opt ((neD x y).bind boolOf)) fun t => if t = true then M.pure true else (M.bind (M.bind (M.bind (getV 8) fun x => M.bind (M.pure (.int 0)) fun y => opt (ixD x y)) fun x => M.bind (M.pure (.int 0)) fun y => opt ((ltD x y).bind boolOf)) fun t => if t = true then M.pure true else (M.bind (M.bind (M.bind (M.bind (M.bind (getV 3) fun x => M.bind (getV 5) fun y => opt (ixD x y)) fun d => M.bind (M.bind (getV 8) fun d => M.bind (M.bind (getV 6) fun d => M.bind (M.pure []) fun ds => M.pure (d :: ds)) fun ds => M.pure (d :: ds)) fun ds => M.pure (d :: ds)) fun ds => callM (F_l_unit ds)) fun d => opt (truD d)) fun t => M.pure (!t)))))
    (sM (M.pure (.bool false)) .rt)
    SR.nx)
  (sqS (sM (M.bind (M.bind (M.bind (M.bind (M.bind (getV 8) fun x => M.bind (M.pure (.int 0)) fun y => opt (ixD x y)) fun x => M.bind (M.pure (.int 1000)) fun y => opt (mulD2 x y)) fun x => M.bind (M.pure (.int 1)) fun y => opt (subD x y)) fun d => M.bind (M.bind (M.bind (M.bind (getV 8) fun x => M.bind (M.pure (.int 1)) fun y => opt (ixD x y)) fun x => M.bind (M.pure (.int 1000)) fun y => opt (mulD2 x y)) fun d => M.bind (M.pure []) fun ds => M.pure (d :: ds)) fun ds => M.pure (d :: ds)) fun ds => callM (F_l_fraction ds)) fun d ρ => .nx (ρ.set 9 (some (.val d))))
  (sqS (ifS (M.bind (M.bind (M.bind (getV 8) fun x => M.bind (M.pure (.int 0)) fun y => opt (ixD x y)) fun x => M.bind (M.pure (.int 0)) fun y => opt ((gtD x y).bind boolOf)) fun t => if t = true then (M.bind (M.bind (M.bind (getV 9) fun x => M.bind (M.pure (.int 0)) fun y => opt (ixD x y)) fun x => M.bind (M.pure (.int 0)) fun y => opt ((geD x y).bind boolOf)) fun t => if t = true then (M.bind (M.bind (M.bind (M.bind (getV 3) fun x => M.bind (getV 5) fun y => opt (ixD x y)) fun d => M.bind (M.bind (getV 9) fun d => M.bind (M.bind (getV 6) fun d => M.bind (M.pure []) fun ds => M.pure (d :: ds)) fun ds => M.pure (d :: ds)) fun ds => M.pure (d :: ds)) fun ds => callM (F_l_unit ds)) fun d => opt (truD d)) else M.pure false) else M.pure false)
    (sM (M.pure (.bool false)) .rt)
    SR.nx)
  (sqS (ifS (M.bind (M.bind (getV 5) fun x => M.bind (getV 7) fun y => opt (inD x y)) fun x => M.bind (M.bind (M.bind (M.bind (getV 4) fun d => M.bind (M.bind (getV 8) fun d => M.bind (M.pure []) fun ds => M.pure (d :: ds)) fun ds => M.pure (d :: ds)) fun ds => callM (F_l_below ds)) fun x => opt ((boolOf x).map fun t => .bool (!t))) fun y => opt ((neD x y).bind boolOf))
    (sM (M.pure (.bool false)) .rt)
    SR.nx)
  (sqS (sM (M.bind (M.bind (toldR kn (M.bind (M.bind (getV 3) fun d => M.bind (M.bind (getV 4) fun d => M.bind (M.bind (M.bind (getV 6) fun x => M.bind (M.bind (M.pure (.int 1)) fun d => opt (partOf d)) fun l => M.bind (M.pure none) fun u => opt (slD x l u)) fun d => M.bind (M.pure []) fun ds => M.pure (d :: ds)) fun ds => M.pure (d :: ds)) fun ds => M.pure (d :: ds)) fun ds => callM (F_readings ds))) fun d => M.bind (M.bind (toldR kn (M.bind (M.bind (getV 3) fun d => M.bind (M.bind (getV 4) fun d => M.bind (M.bind (M.bind (M.bind (M.bind (M.bind (M.bind (M.pure (.int 0)) fun d => M.bind (M.bind (M.pure (.int 1)) fun d => M.bind (M.pure []) fun ds => M.pure (d :: ds)) fun ds => M.pure (d :: ds)) fun ds => M.pure (.tuple ds)) fun d => M.bind (M.pure []) fun ds => M.pure (d :: ds)) fun ds => M.pure (.tuple ds)) fun x => M.bind (M.bind (getV 6) fun x => M.bind (M.bind (M.pure (.int 1)) fun d => opt (partOf d)) fun l => M.bind (M.pure none) fun u => opt (slD x l u)) fun y => opt (addD x y)) fun d => M.bind (M.pure []) fun ds => M.pure (d :: ds)) fun ds => M.pure (d :: ds)) fun ds => M.pure (d :: ds)) fun ds => callM (F_readings ds))) fun d => M.bind (M.bind (toldR kn (M.bind (M.bind (getV 3) fun d => M.bind (M.bind (getV 4) fun d => M.bind (M.bind (M.bind (M.bind (M.bind (M.bind (M.bind (M.pure (.int 2)) fun d => M.bind (M.bind (M.pure (.int 4)) fun d => M.bind (M.pure []) fun ds => M.pure (d :: ds)) fun ds => M.pure (d :: ds)) fun ds => M.pure (.tuple ds)) fun d => M.bind (M.pure []) fun ds => M.pure (d :: ds)) fun ds => M.pure (.tuple ds)) fun x => M.bind (M.bind (getV 6) fun x => M.bind (M.bind (M.pure (.int 1)) fun d => opt (partOf d)) fun l => M.bind (M.pure none) fun u => opt (slD x l u)) fun y => opt (addD x y)) fun d => M.bind (M.pure []) fun ds => M.pure (d :: ds)) fun ds => M.pure (d :: ds)) fun ds => M.pure (d :: ds)) fun ds => callM (F_readings ds))) fun d => M.bind (M.bind (toldR kn (M.bind (M.bind (getV 3) fun d => M.bind (M.bind (M.bind (M.bind (M.pure (.int 1)) fun d => M.bind (M.bind (M.pure (.int 1)) fun d => M.bind (M.pure []) fun ds => M.pure (d :: ds)) fun ds => M.pure (d :: ds)) fun ds => M.pure (.tuple ds)) fun d => M.bind (M.bind (getV 6) fun d => M.bind (M.pure []) fun ds => M.pure (d :: ds)) fun ds => M.pure (d :: ds)) fun ds => M.pure (d :: ds)) fun ds => callM (F_readings ds))) fun d => M.bind (M.bind (toldR kn (M.bind (M.bind (getV 3) fun d => M.bind (M.bind (M.bind (M.bind (getV 3) fun d => M.bind (M.pure []) fun ds => M.pure (d :: ds)) fun ds => opt (lenD ds)) fun d => M.bind (M.bind (getV 6) fun d => M.bind (M.pure []) fun ds => M.pure (d :: ds)) fun ds => M.pure (d :: ds)) fun ds => M.pure (d :: ds)) fun ds => callM (F_least_error ds))) fun d => M.bind (M.bind (toldR kn (M.bind (M.bind (getV 3) fun d => M.bind (M.bind (getV 5) fun d => M.bind (M.bind (M.bind (getV 6) fun x => M.bind (M.bind (M.bind (M.bind (M.bind (M.pure (.int 1)) fun d => M.bind (M.bind (M.pure (.int 1)) fun d => M.bind (M.pure []) fun ds => M.pure (d :: ds)) fun ds => M.pure (d :: ds)) fun ds => M.pure (.tuple ds)) fun d => M.bind (M.pure []) fun ds => M.pure (d :: ds)) fun ds => M.pure (.tuple ds)) fun y => opt (addD x y)) fun d => M.bind (M.pure []) fun ds => M.pure (d :: ds)) fun ds => M.pure (d :: ds)) fun ds => M.pure (d :: ds)) fun ds => callM (F_least_error ds))) fun d => M.bind (M.pure []) fun ds => M.pure (d :: ds)) fun ds => M.pure (d :: ds)) fun ds => M.pure (d :: ds)) fun ds => M.pure (d :: ds)) fun ds => M.pure (d :: ds)) fun ds => M.pure (d :: ds)) fun ds => M.pure (.list ds)) fun d ρ => .nx (ρ.set 10 (some (.val d))))
  (ifS (M.bind (getV 10) fun x => M.bind (M.bind (M.bind (M.bind (M.bind (M.bind (M.pure (.str "refused")) fun d => M.bind (M.pure []) fun ds => M.pure (d :: ds)) fun ds => M.pure (.tuple ds)) fun d => M.bind (M.pure []) fun ds => M.pure (d :: ds)) fun ds => M.pure (.list ds)) fun x => M.bind (M.pure (.int 6)) fun y => opt (mulD2 x y)) fun y => opt ((neD x y).bind boolOf))
    (sM (M.pure (.bool false)) .rt)
    SR.nx)))))))))))))
def g_law : Env → SR :=
  (sqS (sM (M.bind (M.bind (getS 0) fun ds => okM (F_l_stream ds)) fun d => M.bind (M.bind (M.pure (.int 0)) fun d => M.bind (M.pure []) fun ds => M.pure (d :: ds)) fun ds => M.pure (d :: ds)) fun ds ρ => .nx (ρ.set 1 (some (.own false (.list ds)))))
  (sqS (sM (M.bind (M.bind (M.pure (.int 5)) fun d => M.bind (M.pure []) fun ds => M.pure (d :: ds)) fun ds => opt (range1 ds)) fun items ρ => forS [2, 3, 4, 5, 6, 7, 8, 9, 10] (fun d ρ => some (ρ.set 2 (some (.val d))))
    lb_law_3 items (wipeE [2, 3, 4, 5, 6, 7, 8, 9, 10] ρ))
  (sM (M.pure (.bool true)) .rt)))
def le_l_told_1 : M D :=
  (M.bind (M.bind (M.bind (M.pure (.str "refused")) fun d => M.bind (M.bind (M.pure (.str "large")) fun d => M.bind (M.bind (M.pure (.str "missing")) fun d => M.bind (M.bind (M.pure (.str "paper")) fun d => M.bind (M.bind (M.pure (.str "form")) fun d => M.bind (M.bind (M.pure (.str "broken")) fun d => M.bind (M.pure []) fun ds => M.pure (d :: ds)) fun ds => M.pure (d :: ds)) fun ds => M.pure (d :: ds)) fun ds => M.pure (d :: ds)) fun ds => M.pure (d :: ds)) fun ds => M.pure (d :: ds)) fun ds => M.pure (.list ds)) fun x => M.bind (getV 4) fun y => opt (ixD x y))
def lt_l_told_2 : M Bool :=
  (M.bind (M.bind (getV 2) fun x => M.bind (getV 4) fun y => opt (ixD x y)) fun d => opt (truD d))
def g_told : Env → SR :=
  (sqS (sM (M.bind (M.bind (M.bind (M.pure (.int 6)) fun d => M.bind (M.pure []) fun ds => M.pure (d :: ds)) fun ds => opt (range1 ds)) (lcM [4] (fun d ρ => some (ρ.set 4 (some (.val d)))) lt_l_told_2 le_l_told_1)) fun ds ρ => .nx (ρ.set 3 (some (.val (.list ds)))))
  (sM (M.bind (M.bind (M.bind (M.bind (M.bind (M.pure (.str "odd")) fun d => M.bind (M.bind (M.bind (M.bind (getV 3) fun x => M.bind (M.bind (M.bind (M.pure (.str "")) fun d => M.bind (M.pure []) fun ds => M.pure (d :: ds)) fun ds => M.pure (.list ds)) fun y => opt (addD x y)) fun x => M.bind (M.pure (.int 0)) fun y => opt (ixD x y)) fun d => M.bind (M.pure []) fun ds => M.pure (d :: ds)) fun ds => M.pure (d :: ds)) fun ds => M.pure (.list ds)) fun x => M.bind (M.bind (M.bind (M.bind (M.bind (M.bind (getV 3) fun d => M.bind (M.pure []) fun ds => M.pure (d :: ds)) fun ds => opt (lenD ds)) fun x => M.bind (M.pure (.int 1)) fun y => opt (eqD x y)) fun d => M.bind (M.pure []) fun ds => M.pure (d :: ds)) fun ds => opt (intD ds)) fun y => opt (ixD x y)) fun d => M.bind (M.pure []) fun ds => M.pure (d :: ds)) fun ds => M.pure (.tuple ds)) .rt))
theorem told_end (i : Nat) (hi : i < 6) : ∃ ρ, g_told (kinds0 i) = .rt (.tuple [.str (kindName i)]) ρ := by
  match i, hi with
  | 0, _ => exact ⟨_, rfl⟩
  | 1, _ => exact ⟨_, rfl⟩
  | 2, _ => exact ⟨_, rfl⟩
  | 3, _ => exact ⟨_, rfl⟩
  | 4, _ => exact ⟨_, rfl⟩
  | 5, _ => exact ⟨_, rfl⟩
set_option maxHeartbeats 4000000 in
theorem told_ok {X : Cx} (T : Txt X.K X.mg) {CS d0 d1 d2 d3 d4 d5 g : Addr} (C : HasK X.K X.mg CS d0 d1 d2 d3 d4 d5) (hrX : Room 0 X.A) {q : Str} {cdg : Value} : LamN.GivesToN X ["call", "e", "kinds", "names", "k"] "_law_told" (defScope s_l_told) g cdg (defBody s_l_told) "call" q (TTold X.K CS [d0, d1, d2, d3, d4, d5]) :=
  told_gives sc_l_told.nd rfl rfl rfl rfl C.s (fun _ => rfl) told_end
  (fun s H a oe C' pn i EC ik hz hv => ps_imp (ps_set (i := 2) sc_l_told.nd rfl (by first | exact Or.inl rfl | exact Or.inr rfl) (pe_lst (pa_cons (pe_is 1 EC hz hv (ik.is 0 d0 rfl) C.m0 rfl (Or.inl rfl) (by decide) (by decide) (by rfl) (by decide) (by rfl) T.b_isinstance) (pa_cons (pe_is 1 EC hz hv (ik.is 1 d1 rfl) C.m1 rfl (Or.inl rfl) (by decide) (by decide) (by rfl) (by decide) (by rfl) T.b_isinstance) (pa_cons (pe_is 1 EC hz hv (ik.is 2 d2 rfl) C.m2 rfl (Or.inl rfl) (by decide) (by decide) (by rfl) (by decide) (by rfl) T.b_isinstance) (pa_cons (pe_is 1 EC hz hv (ik.is 3 d3 rfl) C.m3 rfl (Or.inl rfl) (by decide) (by decide) (by rfl) (by decide) (by rfl) T.b_isinstance) (pa_cons (pe_is 1 EC hz hv (ik.is 4 d4 rfl) C.m4 rfl (Or.inl rfl) (by decide) (by decide) (by rfl) (by decide) (by rfl) T.b_isinstance) (pa_cons (pe_is 1 EC hz hv (ik.is 5 d5 rfl) C.m5 rfl (Or.inl rfl) (by decide) (by decide) (by rfl) (by decide) (by rfl) T.b_isinstance) pa_nil)))))))) fun D σ H ⟨h1, h2⟩ => ⟨h1, h1, h1, h1, h1, h1, (by show 6 ≤ sizeLine; decide), fun p hp => h2 p hp⟩)
  (fun s H a oe pn hot => by
    show DSs _ _ _ _ g_told
    exact (dss_cons (ds_setLcV 3 (ds_setLcH 3 (own := [("k", 4)]) rfl rfl hot List.mem_cons_self sc_l_told.nd (di_range1H (by rfl) T.b_range (da_cons de_int da_nil)) (by refine blkOk_by (own := [("k", 4)]) ?_; show blkC ["call", "e", "kinds", "names", "k"] (defScope s_l_told) _ _ = true; decide +kernel) (by decide) (fun _ _ _ _ _ => (dg_name 4 sc_l_told.nd)) (fun _ _ _ _ _ => (dts_one (dt_truth (de_ix (de_var 2) (de_var 4) (by intro _ _; rfl))))) (fun _ _ _ _ _ => (de_ix (de_n (dn_lst (da_cons de_str (da_cons de_str (da_cons de_str (da_cons de_str (da_cons de_str (da_cons de_str da_nil)))))))) (de_var 4) (by intro _ _; rfl)))))
  (dss_one (ds_ret (de_tup (da_cons (de_ix (de_n (dn_lst (da_cons de_str (da_cons (de_ix (de_op opd_add (de_var 3) (de_n (dn_lst (da_cons de_str da_nil)))) de_int (by intro _ _; rfl)) da_nil)))) (de_callT cd_int (by rfl) T.b_int (by decide +kernel) (da_cons (de_cmp (opd_eq (by have := hrX.un; show X.A.units + 3 + _ < _; omega)) (de_callB cd_len (by rfl) T.b_len (by decide +kernel) (da_cons (de_var 3) da_nil)) de_int (by first | exact nomark _ | rfl | decide)) da_nil)) (by intro _ _; rfl)) da_nil))))))
def lamQ : Str := (envOfC "law" (defScope s_law) 0 0 .none).qual ++ "<lambda>"
set_option maxHeartbeats 8000000 in
theorem ok_law (T : Txt K mg) {CS d0 d1 d2 d3 d4 d5 : Addr} (C : HasK K mg CS d0 d1 d2 d3 d4 d5)
   {f_l_stream : Addr} {fd_l_stream : FuncData} (h_l_stream : Has K mg "_law_stream" s_l_stream ["script"] f_l_stream fd_l_stream) (G_l_stream : FnOk P w K mg base (L2N.CX P w) 1 f_l_stream fd_l_stream ["script"] (spS Tl K F_l_stream)) {f_l_patterns : Addr} {fd_l_patterns : FuncData} (h_l_patterns : Has K mg "_law_patterns" s_l_patterns ["state"] f_l_patterns fd_l_patterns) (G_l_patterns : FnOk P w K mg base (L2N.CX P w) 2 f_l_patterns fd_l_patterns ["state"] (spO Tl 1 F_l_patterns)) {f_l_error : Addr} {fd_l_error : FuncData} (h_l_error : Has K mg "_law_error" s_l_error ["state"] f_l_error fd_l_error) (G_l_error : FnOk P w K mg base (L2N.CX P w) 3 f_l_error fd_l_error ["state"] (spO Tl 1 F_l_error)) {f_l_next : Addr} {fd_l_next : FuncData} (h_l_next : Has K mg "_law_next" s_l_next ["state", "many"] f_l_next fd_l_next) (G_l_next : FnOk P w K mg base (L2N.CX P w) 1 f_l_next fd_l_next ["state", "many"] (spO Tl 2 F_l_next)) {f_l_measures : Addr} {fd_l_measures : FuncData} (h_l_measures : Has K mg "_law_measures" s_l_measures ["state", "pattern", "error"] f_l_measures fd_l_measures) (G_l_measures : FnOk P w K mg base (L2N.CX P w) 3 f_l_measures fd_l_measures ["state", "pattern", "error"] (spO Tl 3 F_l_measures)) {f_least_error : Addr} {fd_least_error : FuncData} (h_least_error : Has K mg "least_error" s_least_error ["patterns", "place", "measures"] f_least_error fd_least_error) (G_least_error : FnOk P w K mg base (L2N.CX P w) 4 f_least_error fd_least_error ["patterns", "place", "measures"] (spD Tl mg 3 F_least_error)) {f_l_fraction : Addr} {fd_l_fraction : FuncData} (h_l_fraction : Has K mg "_law_fraction" s_l_fraction ["top", "below"] f_l_fraction fd_l_fraction) (G_l_fraction : FnOk P w K mg base (L2N.CX P w) 2 f_l_fraction fd_l_fraction ["top", "below"] (spD Tl mg 2 F_l_fraction)) {f_l_same : Addr} {fd_l_same : FuncData} (h_l_same : Has K mg "_law_same" s_l_same ["told", "due"] f_l_same fd_l_same) (G_l_same : FnG P w K mg base (L2N.CX P w) 1 f_l_same fd_l_same ["told", "due"] (spD Tl mg 2 F_l_same)) {f_l_unit : Addr} {fd_l_unit : FuncData} (h_l_unit : Has K mg "_law_unit" s_l_unit ["pattern", "error", "measures"] f_l_unit fd_l_unit) (G_l_unit : FnOk P w K mg base (L2N.CX P w) 3 f_l_unit fd_l_unit ["pattern", "error", "measures"] (spD Tl mg 3 F_l_unit)) {f_readings : Addr} {fd_readings : FuncData} (h_readings : Has K mg "readings" s_readings ["patterns", "error", "measures"] f_readings fd_readings) (G_readings : FnOk P w K mg base (L2N.CX P w) 4 f_readings fd_readings ["patterns", "error", "measures"] (spD Tl mg 3 F_readings)) {f_l_below : Addr} {fd_l_below : FuncData} (h_l_below : Has K mg "_law_below" s_l_below ["one", "other"] f_l_below fd_l_below) (G_l_below : FnOk P w K mg base (L2N.CX P w) 1 f_l_below fd_l_below ["one", "other"] (spD Tl mg 2 F_l_below))
  {f_l_told : Addr} {fd_l_told : FuncData} (h_l_told : Has K mg "_law_told" s_l_told ["call"] f_l_told fd_l_told) {c P0 : Addr} (hTl : Tl = [(P0, lamQ)]) (TB : LamX.TabB base mg c P0) {f : Addr} {fd : FuncData} {oc : Value} {od : Option Addr} {kV doc pm ct : Value} {an : Option Addr} {osl : Array (Option Value)}
  (hlc : K.lookup f = some ⟨oc, od, .func (PySem.W.fnOf "law" "law" (defArgs s_law) (defBody s_law) (defScope s_law) .none kV doc pm an (.ref c) ct), osl⟩) (F : Fun K "law" "law" s_law f fd)
  (hmath : ∀ ns : List Int, ns.length ≤ 63 → (∀ z ∈ ns, Builtin.Int.intBits z ≤ 1048576) → ∃ ρ, g_law (envS 12 (ns.map .int)) = .rt (.bool true) ρ) :
  FnG P w K mg base (L2N.CX P w) 8 f fd ["script"] (spLaw Tl K 63) :=
  dl_law F sc_law rfl hmath (fun cdv A outer s H E hgd hr hcd lk => by
    obtain ⟨oc', od', kV', doc', pm', an', ct', osl', lk⟩ := lk
    have e := code_of lk hlc
    subst e
    subst hTl
    show DSs _ _ _ _ g_law
    exact (dss_cons (ds_setN 1 sc_law.nd (dn_lst (da_cons (de_callSeq 0 G_l_stream (hr.mono (by decide)) (by rfl) h_l_stream.g h_l_stream.k h_l_stream.b) (da_cons de_int da_nil))))
  (dss_cons (ds_for [2, 3, 4, 5, 6, 7, 8, 9, 10] (passes_of rfl) rfl (di_range1 (by rfl) T.b_range (da_cons de_int da_nil)) (dg_name 2 sc_law.nd)
    (dss_cons (ds_set 3 sc_law.nd (de_callO 1 G_l_patterns (hr.mono (by decide)) (by rfl) h_l_patterns.g h_l_patterns.k h_l_patterns.b da_nil))
  (dss_cons (ds_set 4 sc_law.nd (de_callO 1 G_l_error (hr.mono (by decide)) (by rfl) h_l_error.g h_l_error.k h_l_error.b da_nil))
  (dss_cons (ds_set 5 sc_law.nd (de_callO 1 G_l_next (hr.mono (by decide)) (by rfl) h_l_next.g h_l_next.k h_l_next.b (da_cons (de_callB cd_len (by rfl) T.b_len (by decide +kernel) (da_cons (de_var 3) da_nil)) da_nil)))
  (dss_cons (ds_set 6 sc_law.nd (de_callO 1 G_l_measures (hr.mono (by decide)) (by rfl) h_l_measures.g h_l_measures.k h_l_measures.b (da_cons (de_ix (de_var 3) (de_var 5) (by intro _ _; rfl)) (da_cons (de_var 4) da_nil))))
  (dss_cons (ds_setLcV 7 (ds_setLc 7 (own := [("k", 11)]) rfl sc_law.nd (di_range1 (by rfl) T.b_range (da_cons (de_callB cd_len (by rfl) T.b_len (by decide +kernel) (da_cons (de_var 3) da_nil)) da_nil)) (by refine blkOk_by (own := [("k", 11)]) ?_; show blkC ["script", "state", "turn", "patterns", "error", "place", "measures", "due", "least", "less_v", "odd", "k"] (defScope s_law) _ _ = true; decide +kernel) (by decide) (fun _ _ _ _ _ => (dg_name 11 sc_law.nd)) (fun _ _ _ _ _ => (dts_one (dt_truth (de_call G_l_unit (hr.mono (by decide)) (by rfl) h_l_unit.g h_l_unit.k h_l_unit.b (takesN _) (da_cons (de_ix (de_var 3) (de_var 11) (by intro _ _; rfl)) (da_cons (de_var 4) (da_cons (de_var 6) da_nil))))))) (fun _ _ _ _ _ => (de_var 11))))
  (dss_cons (ds_if (dt_not (dt_truth (de_callG G_l_same hgd (hr.mono (by decide)) (by rfl) h_l_same.g h_l_same.k h_l_same.b (takesN _) (da_cons (de_call G_readings (hr.mono (by decide)) (by rfl) h_readings.g h_readings.k h_readings.b (takesN _) (da_cons (de_var 3) (da_cons (de_var 4) (da_cons (de_var 6) da_nil)))) (da_cons (de_var 7) da_nil)))))
    (dss_one (ds_ret de_bool))
    dss_nil)
  (dss_cons (ds_set 8 sc_law.nd (de_call G_least_error (hr.mono (by decide)) (by rfl) h_least_error.g h_least_error.k h_least_error.b (takesN _) (da_cons (de_var 3) (da_cons (de_var 5) (da_cons (de_var 6) da_nil)))))
  (dss_cons (ds_if (dt_w (dw_or (dt_cmp opd_lt (de_ix (de_var 8) de_int (by intro _ _; rfl)) de_int (by first | exact nomark _ | rfl | decide)) (dw_or (dt_cmp (opd_ne (by exact hu_n _ hr)) (de_call G_l_fraction (hr.mono (by decide)) (by rfl) h_l_fraction.g h_l_fraction.k h_l_fraction.b (takesN _) (da_cons (de_ix (de_var 8) de_int (by intro _ _; rfl)) (da_cons (de_ix (de_var 8) de_int (by intro _ _; rfl)) da_nil))) (de_var 8) (by first | exact nomark _ | rfl | decide)) (dw_or (dt_cmp opd_lt (de_ix (de_var 8) de_int (by intro _ _; rfl)) de_int (by first | exact nomark _ | rfl | decide)) (dw_or1 (dt_not (dt_truth (de_call G_l_unit (hr.mono (by decide)) (by rfl) h_l_unit.g h_l_unit.k h_l_unit.b (takesN _) (da_cons (de_ix (de_var 3) (de_var 5) (by intro _ _; rfl)) (da_cons (de_var 8) (da_cons (de_var 6) da_nil)))))))))))
    (dss_one (ds_ret de_bool))
    dss_nil)
  (dss_cons (ds_set 9 sc_law.nd (de_call G_l_fraction (hr.mono (by decide)) (by rfl) h_l_fraction.g h_l_fraction.k h_l_fraction.b (takesN _) (da_cons (de_op opd_sub (de_op opd_mul (de_ix (de_var 8) de_int (by intro _ _; rfl)) de_int) de_int) (da_cons (de_op opd_mul (de_ix (de_var 8) de_int (by intro _ _; rfl)) de_int) da_nil))))
  (dss_cons (ds_if (dt_w (dw_and (dt_cmp opd_gt (de_ix (de_var 8) de_int (by intro _ _; rfl)) de_int (by first | exact nomark _ | rfl | decide)) (dw_and (dt_cmp opd_ge (de_ix (de_var 9) de_int (by intro _ _; rfl)) de_int (by first | exact nomark _ | rfl | decide)) (dw_and1 (dt_truth (de_call G_l_unit (hr.mono (by decide)) (by rfl) h_l_unit.g h_l_unit.k h_l_unit.b (takesN _) (da_cons (de_ix (de_var 3) (de_var 5) (by intro _ _; rfl)) (da_cons (de_var 9) (da_cons (de_var 6) da_nil)))))))))
    (dss_one (ds_ret de_bool))
    dss_nil)
  (dss_cons (ds_if (dt_cmp (opd_ne (by exact hu_n _ hr)) (de_cmp (opd_in (by exact hu_n _ hr)) (de_var 5) (de_var 7) (by first | exact nomark _ | rfl | decide)) (de_not (de_call G_l_below (hr.mono (by decide)) (by rfl) h_l_below.g h_l_below.k h_l_below.b (takesN _) (da_cons (de_var 4) (da_cons (de_var 8) da_nil)))) (by first | exact nomark _ | rfl | decide))
    (dss_one (ds_ret de_bool))
    dss_nil)
  (dss_cons (ds_set 10 sc_law.nd (de_n (dn_lst (da_cons (de_toldH (k := 4) C h_l_told sc_l_told (fun _ => told_ok T C (hr.mono (by decide))) rfl (Or.inl rfl) TB rfl rfl (hr.mono (by decide)) (by rfl) (by refine LamX.lamS_by ?_; show LamX.lamSB (defScope s_law) _ = true; decide +kernel) (by rfl) (by intro _ _ _ _ _; rfl) (fun A outer s H E f1 c1 hr => (de_call G_readings (hr.mono (by decide)) (by rfl) h_readings.g h_readings.k h_readings.b (L2N.takes_of rfl rfl rfl rfl) (da_cons (de_var 3) (da_cons (de_var 4) (da_cons (de_slice (de_var 6) (do_some de_int) do_none) da_nil)))))) (da_cons (de_toldH (k := 4) C h_l_told sc_l_told (fun _ => told_ok T C (hr.mono (by decide))) rfl (Or.inl rfl) TB rfl rfl (hr.mono (by decide)) (by rfl) (by refine LamX.lamS_by ?_; show LamX.lamSB (defScope s_law) _ = true; decide +kernel) (by rfl) (by intro _ _ _ _ _; rfl) (fun A outer s H E f1 c1 hr => (de_call G_readings (hr.mono (by decide)) (by rfl) h_readings.g h_readings.k h_readings.b (L2N.takes_of rfl rfl rfl rfl) (da_cons (de_var 3) (da_cons (de_var 4) (da_cons (de_op opd_add (de_tup (da_cons (de_tup (da_cons de_int (da_cons de_int da_nil))) da_nil)) (de_slice (de_var 6) (do_some de_int) do_none)) da_nil)))))) (da_cons (de_toldH (k := 4) C h_l_told sc_l_told (fun _ => told_ok T C (hr.mono (by decide))) rfl (Or.inl rfl) TB rfl rfl (hr.mono (by decide)) (by rfl) (by refine LamX.lamS_by ?_; show LamX.lamSB (defScope s_law) _ = true; decide +kernel) (by rfl) (by intro _ _ _ _ _; rfl) (fun A outer s H E f1 c1 hr => (de_call G_readings (hr.mono (by decide)) (by rfl) h_readings.g h_readings.k h_readings.b (L2N.takes_of rfl rfl rfl rfl) (da_cons (de_var 3) (da_cons (de_var 4) (da_cons (de_op opd_add (de_tup (da_cons (de_tup (da_cons de_int (da_cons de_int da_nil))) da_nil)) (de_slice (de_var 6) (do_some de_int) do_none)) da_nil)))))) (da_cons (de_toldH (k := 4) C h_l_told sc_l_told (fun _ => told_ok T C (hr.mono (by decide))) rfl (Or.inl rfl) TB rfl rfl (hr.mono (by decide)) (by rfl) (by refine LamX.lamS_by ?_; show LamX.lamSB (defScope s_law) _ = true; decide +kernel) (by rfl) (by intro _ _ _ _ _; rfl) (fun A outer s H E f1 c1 hr => (de_call G_readings (hr.mono (by decide)) (by rfl) h_readings.g h_readings.k h_readings.b (L2N.takes_of rfl rfl rfl rfl) (da_cons (de_var 3) (da_cons (de_tup (da_cons de_int (da_cons de_int da_nil))) (da_cons (de_var 6) da_nil)))))) (da_cons (de_toldH (k := 4) C h_l_told sc_l_told (fun _ => told_ok T C (hr.mono (by decide))) rfl (Or.inl rfl) TB rfl rfl (hr.mono (by decide)) (by rfl) (by refine LamX.lamS_by ?_; show LamX.lamSB (defScope s_law) _ = true; decide +kernel) (by rfl) (by intro _ _ _ _ _; rfl) (fun A outer s H E f1 c1 hr => (de_call G_least_error (hr.mono (by decide)) (by rfl) h_least_error.g h_least_error.k h_least_error.b (L2N.takes_of rfl rfl rfl rfl) (da_cons (de_var 3) (da_cons (de_callB cd_len (by rfl) T.b_len (by decide +kernel) (da_cons (de_var 3) da_nil)) (da_cons (de_var 6) da_nil)))))) (da_cons (de_toldH (k := 4) C h_l_told sc_l_told (fun _ => told_ok T C (hr.mono (by decide))) rfl (Or.inl rfl) TB rfl rfl (hr.mono (by decide)) (by rfl) (by refine LamX.lamS_by ?_; show LamX.lamSB (defScope s_law) _ = true; decide +kernel) (by rfl) (by intro _ _ _ _ _; rfl) (fun A outer s H E f1 c1 hr => (de_call G_least_error (hr.mono (by decide)) (by rfl) h_least_error.g h_least_error.k h_least_error.b (L2N.takes_of rfl rfl rfl rfl) (da_cons (de_var 3) (da_cons (de_var 5) (da_cons (de_op opd_add (de_var 6) (de_tup (da_cons (de_tup (da_cons de_int (da_cons de_int da_nil))) da_nil))) da_nil)))))) da_nil)))))))))
  (dss_one (ds_if (dt_cmp (opd_ne (by exact hu_n _ hr)) (de_var 10) (de_op opd_mul (de_n (dn_lst (da_cons (de_tup (da_cons de_str da_nil)) da_nil))) de_int) (by first | exact nomark _ | rfl | decide))
    (dss_one (ds_ret de_bool))
    dss_nil)))))))))))))))
  (dss_one (ds_ret de_bool)))))
end K34

/-! ## fractions, plain -/
namespace K34
abbrev Fr := Int × Int
def fr (t b : Int) : Fr := (t / (Int.gcd t b : Int), b / (Int.gcd t b : Int))
def lt (p q : Fr) : Prop := p.1 * q.2 < q.1 * p.2
instance (p q : Fr) : Decidable (lt p q) := by unfold lt; infer_instance
theorem gcd_pos {t b : Int} (hb : 0 < b) : 0 < (Int.gcd t b : Int) := by
  have : Int.gcd t b ≠ 0 := fun h => by
    have := (Int.gcd_eq_zero_iff.mp h).2
    omega
  omega
theorem fr_mul1 {t b : Int} : (fr t b).1 * (Int.gcd t b : Int) = t := Int.ediv_mul_cancel (Int.gcd_dvd_left ..)
theorem fr_mul2 {t b : Int} : (fr t b).2 * (Int.gcd t b : Int) = b := Int.ediv_mul_cancel (Int.gcd_dvd_right ..)
theorem fr_pos {t b : Int} (hb : 0 < b) : 0 < (fr t b).2 := by
  have h := @fr_mul2 t b
  have g := @gcd_pos t b hb
  rcases Int.lt_trichotomy (fr t b).2 0 with c | c | c
  · have := Int.mul_neg_of_neg_of_pos c g
    omega
  · rw [c] at h; simp at h; omega
  · exact c
theorem fr_eq {t b : Int} : (fr t b).1 * b = t * (fr t b).2 := by
  have h1 := @fr_mul1 t b
  have h2 := @fr_mul2 t b
  calc (fr t b).1 * b = (fr t b).1 * ((fr t b).2 * (Int.gcd t b : Int)) := by rw [h2]
    _ = ((fr t b).1 * (Int.gcd t b : Int)) * (fr t b).2 := by grind
    _ = t * (fr t b).2 := by rw [h1]
theorem fr_gcd {t b : Int} (hb : 0 < b) : Int.gcd (fr t b).1 (fr t b).2 = 1 := by
  have h := @gcd_pos t b hb
  exact Int.gcd_ediv_gcd_ediv_gcd (by omega)
theorem fr_le1 {t b : Int} (hb : 0 < b) : (fr t b).1.natAbs ≤ t.natAbs := by
  have h := congrArg Int.natAbs (@fr_mul1 t b)
  rw [Int.natAbs_mul] at h
  have g := @gcd_pos t b hb
  have : 1 ≤ (Int.gcd t b : Int).natAbs := by omega
  calc (fr t b).1.natAbs = (fr t b).1.natAbs * 1 := (Nat.mul_one _).symm
    _ ≤ (fr t b).1.natAbs * (Int.gcd t b : Int).natAbs := Nat.mul_le_mul_left _ this
    _ = t.natAbs := h
theorem fr_le2 {t b : Int} (hb : 0 < b) : (fr t b).2 ≤ b := by
  have h := @fr_mul2 t b
  have g := @gcd_pos t b hb
  have p := @fr_pos t b hb
  calc (fr t b).2 = (fr t b).2 * 1 := (Int.mul_one _).symm
    _ ≤ (fr t b).2 * (Int.gcd t b : Int) := Int.mul_le_mul_of_nonneg_left (by omega) (by omega)
    _ = b := h
theorem fr_self {p q : Int} (h : Int.gcd p q = 1) : fr p q = (p, q) := by
  unfold fr
  rw [h]
  simp
theorem fr_sign {t b : Int} (hb : 0 < b) : (0 < t → 0 < (fr t b).1) ∧ (0 ≤ t → 0 ≤ (fr t b).1) := by
  have h1 := @fr_mul1 t b
  have g := @gcd_pos t b hb
  refine ⟨fun ht => ?_, fun ht => ?_⟩
  · rcases Int.lt_or_le 0 (fr t b).1 with c | c
    · exact c
    · have := Int.mul_nonpos_of_nonpos_of_nonneg c (Int.le_of_lt g)
      omega
  · rcases Int.lt_or_le (fr t b).1 0 with c | c
    · have := Int.mul_neg_of_neg_of_pos c g
      omega
    · exact c
theorem mul_lt_iff {a b c : Int} (hc : 0 < c) : a * c < b * c ↔ a < b := by
  constructor
  · exact fun h => Int.lt_of_mul_lt_mul_right h (Int.le_of_lt hc)
  · exact fun h => Int.mul_lt_mul_of_pos_right h hc
theorem lt_fr_l {t b : Int} (hb : 0 < b) (q : Fr) : lt (fr t b) q ↔ t * q.2 < q.1 * b := by
  unfold lt
  have h1 := @fr_mul1 t b
  have h2 := @fr_mul2 t b
  have g := @gcd_pos t b hb
  rw [← mul_lt_iff g]
  have e1 : (fr t b).1 * q.2 * (Int.gcd t b : Int) = t * q.2 := by
    calc (fr t b).1 * q.2 * (Int.gcd t b : Int) = ((fr t b).1 * (Int.gcd t b : Int)) * q.2 := by grind
      _ = t * q.2 := by rw [h1]
  have e2 : q.1 * (fr t b).2 * (Int.gcd t b : Int) = q.1 * b := by
    rw [Int.mul_assoc, h2]
  rw [e1, e2]
theorem lt_fr_r {t b : Int} (hb : 0 < b) (p : Fr) : lt p (fr t b) ↔ p.1 * b < t * p.2 := by
  unfold lt
  have h1 := @fr_mul1 t b
  have h2 := @fr_mul2 t b
  have g := @gcd_pos t b hb
  rw [← mul_lt_iff g]
  have e1 : p.1 * (fr t b).2 * (Int.gcd t b : Int) = p.1 * b := by rw [Int.mul_assoc, h2]
  have e2 : (fr t b).1 * p.2 * (Int.gcd t b : Int) = t * p.2 := by
    calc (fr t b).1 * p.2 * (Int.gcd t b : Int) = ((fr t b).1 * (Int.gcd t b : Int)) * p.2 := by grind
      _ = t * p.2 := by rw [h1]
  rw [e1, e2]
/-- z ≤ x < y gives z < y, so not y < z -/
theorem lt_step {x y z : Fr} (hx : 0 < x.2) (hy : 0 < y.2) (hz : 0 < z.2) (h : lt x y) (k : ¬ lt x z) : ¬ lt y z := by
  unfold lt at *
  intro q
  have a1 : x.1 * y.2 * z.2 < y.1 * x.2 * z.2 := Int.mul_lt_mul_of_pos_right h hz
  have a2 : y.1 * z.2 * x.2 < z.1 * y.2 * x.2 := Int.mul_lt_mul_of_pos_right q hx
  have a3 : (z.1 * x.2) * y.2 ≤ (x.1 * z.2) * y.2 := Int.mul_le_mul_of_nonneg_right (by omega) (by omega)
  grind
theorem lt_step2 {x y z : Fr} (hx : 0 < x.2) (hy : 0 < y.2) (hz : 0 < z.2) (h : lt y x) (k : ¬ lt z x) : ¬ lt z y := by
  unfold lt at *
  intro q
  have a1 : y.1 * x.2 * z.2 < x.1 * y.2 * z.2 := Int.mul_lt_mul_of_pos_right h hz
  have a2 : z.1 * y.2 * x.2 < y.1 * z.2 * x.2 := Int.mul_lt_mul_of_pos_right q hx
  have a3 : (x.1 * z.2) * y.2 ≤ (z.1 * x.2) * y.2 := Int.mul_le_mul_of_nonneg_right (by omega) (by omega)
  grind
theorem lt_irrefl (x : Fr) : ¬ lt x x := Int.lt_irrefl _
def IsMx (L : List Fr) (x : Fr) : Prop := x ∈ L ∧ ∀ y ∈ L, ¬ lt x y
def IsMn (L : List Fr) (x : Fr) : Prop := x ∈ L ∧ ∀ y ∈ L, ¬ lt y x
theorem mx_one (x : Fr) : IsMx [x] x := ⟨List.mem_singleton.mpr rfl, fun y h => by rw [List.mem_singleton.mp h]; exact lt_irrefl x⟩
theorem mn_one (x : Fr) : IsMn [x] x := ⟨List.mem_singleton.mpr rfl, fun y h => by rw [List.mem_singleton.mp h]; exact lt_irrefl x⟩
theorem mx_step {L : List Fr} {x y : Fr} (hp : ∀ z ∈ L, 0 < z.2) (hy : 0 < y.2) (h : IsMx L x) : IsMx (L ++ [y]) (if lt x y then y else x) := by
  split
  · rename_i q
    refine ⟨by simp, fun z hz => ?_⟩
    rcases List.mem_append.mp hz with hz | hz
    · exact lt_step (hp _ h.1) hy (hp _ hz) q (h.2 z hz)
    · rw [List.mem_singleton.mp hz]; exact lt_irrefl _
  · rename_i q
    refine ⟨List.mem_append_left _ h.1, fun z hz => ?_⟩
    rcases List.mem_append.mp hz with hz | hz
    · exact h.2 z hz
    · rw [List.mem_singleton.mp hz]; exact q
theorem mn_step {L : List Fr} {x y : Fr} (hp : ∀ z ∈ L, 0 < z.2) (hy : 0 < y.2) (h : IsMn L x) : IsMn (L ++ [y]) (if lt y x then y else x) := by
  split
  · rename_i q
    refine ⟨by simp, fun z hz => ?_⟩
    rcases List.mem_append.mp hz with hz | hz
    · exact lt_step2 (hp _ h.1) hy (hp _ hz) q (h.2 z hz)
    · rw [List.mem_singleton.mp hz]; exact lt_irrefl _
  · rename_i q
    refine ⟨List.mem_append_left _ h.1, fun z hz => ?_⟩
    rcases List.mem_append.mp hz with hz | hz
    · exact h.2 z hz
    · rw [List.mem_singleton.mp hz]; exact q
/-- not min < max: no pair is in the wrong order -/
theorem mn_mx {L H : List Fr} {l h : Fr} (hl : IsMx L l) (hh : IsMn H h) (pL : ∀ z ∈ L, 0 < z.2) (pH : ∀ z ∈ H, 0 < z.2) : ¬ lt h l ↔ ∀ a ∈ H, ∀ b ∈ L, ¬ lt a b := by
  constructor
  · intro k a ha b hb q
    have k1 := hh.2 a ha
    have k2 := hl.2 b hb
    have p1 := pH _ hh.1
    have p2 := pL _ hl.1
    have p3 := pH _ ha
    have p4 := pL _ hb
    have s1 : ¬ lt b h := fun z => lt_step p3 p4 p1 q k1 z
    -- h ≤ a < b ≤ l
    by_cases c : lt h b
    · exact k (by
        unfold lt at *
        have a1 : h.1 * b.2 * l.2 < b.1 * h.2 * l.2 := Int.mul_lt_mul_of_pos_right c p2
        have a3 : (b.1 * l.2) * h.2 ≤ (l.1 * b.2) * h.2 := Int.mul_le_mul_of_nonneg_right (by omega) (by omega)
        have : (h.1 * l.2) * b.2 < (l.1 * h.2) * b.2 := by grind
        exact Int.lt_of_mul_lt_mul_right this (by omega))
    · unfold lt at *
      have a1 : a.1 * b.2 * h.2 < b.1 * a.2 * h.2 := Int.mul_lt_mul_of_pos_right q p1
      have a3 : (h.1 * a.2) * b.2 ≤ (a.1 * h.2) * b.2 := Int.mul_le_mul_of_nonneg_right (by omega) (by omega)
      have a4 : (b.1 * h.2) * a.2 ≤ (h.1 * b.2) * a.2 := Int.mul_le_mul_of_nonneg_right (by omega) (by omega)
      grind
  · exact fun k => k h hh.1 l hl.1
/-! ### the unit's ends -/
def under (e : Fr) (p : Int) (m : Fr) : Fr := fr (m.1 * e.2) (m.2 * (p * e.2 + e.1))
def above (e : Fr) (p : Int) (m : Fr) : Fr := fr (m.1 * e.2) (m.2 * (p * e.2 - e.1))
def limT (p q : Int) (m n : Fr) : Int := q * m.1 * n.2 - p * n.1 * m.2
def limB (m n : Fr) : Int := m.1 * n.2 + n.1 * m.2
def lim (p q : Int) (m n : Fr) : Fr := fr (limT p q m n) (limB m n)
theorem limB_pos {m n : Fr} (h1 : 0 < m.1 ∧ 0 < m.2) (h2 : 0 < n.1 ∧ 0 < n.2) : 0 < limB m n := by
  unfold limB
  have := Int.mul_pos h1.1 h2.2
  have := Int.mul_pos h2.1 h1.2
  omega
theorem den_pos {e : Fr} {p : Int} {m : Fr} (he : 0 ≤ e.1 ∧ 0 < e.2) (hp : 1 ≤ p) (hm : 0 < m.1 ∧ 0 < m.2) : 0 < m.2 * (p * e.2 + e.1) := by
  have : 0 < p * e.2 := Int.mul_pos (by omega) he.2
  exact Int.mul_pos hm.2 (by omega)
/-- above j < under i exactly where the error is below the limit -/
theorem pair_iff {e : Fr} {p q : Int} {m n : Fr} (he : 0 ≤ e.1 ∧ 0 < e.2) (hp : 1 ≤ p) (hm : 0 < m.1 ∧ 0 < m.2) (hn : 0 < n.1 ∧ 0 < n.2) (hr : 0 < q * e.2 - e.1) :
    lt (above e q n) (under e p m) ↔ lt e (lim p q m n) := by
  have d1 : 0 < n.2 * (q * e.2 - e.1) := Int.mul_pos hn.2 hr
  have d2 := den_pos he hp hm
  have d3 := limB_pos hm hn
  rw [under, lt_fr_r d2, above]
  have hx : (fr (n.1 * e.2) (n.2 * (q * e.2 - e.1))).1 * (m.2 * (p * e.2 + e.1)) < m.1 * e.2 * (fr (n.1 * e.2) (n.2 * (q * e.2 - e.1))).2 ↔ lt (fr (n.1 * e.2) (n.2 * (q * e.2 - e.1))) (m.1 * e.2, m.2 * (p * e.2 + e.1)) := Iff.rfl
  rw [hx, lt_fr_l d1, lim, lt_fr_r d3]
  dsimp only
  unfold limT limB
  rw [← mul_lt_iff (c := e.2) he.2 (a := e.1 * _)]
  have e1 : m.1 * e.2 * (n.2 * (q * e.2 - e.1)) - n.1 * e.2 * (m.2 * (p * e.2 + e.1)) = (q * m.1 * n.2 - p * n.1 * m.2) * e.2 * e.2 - e.1 * (m.1 * n.2 + n.1 * m.2) * e.2 := by grind
  omega
/-- where the width is not above the error, no limit is above it -/
theorem pair_free {e : Fr} {p q : Int} {m n : Fr} (he : 0 ≤ e.1 ∧ 0 < e.2) (hp : 1 ≤ p) (hm : 0 < m.1 ∧ 0 < m.2) (hn : 0 < n.1 ∧ 0 < n.2) (hr : q * e.2 - e.1 ≤ 0) : ¬ lt e (lim p q m n) := by
  have d3 := limB_pos hm hn
  rw [lim, lt_fr_r d3]
  unfold limT limB
  intro h
  have a1 : 0 < m.1 * n.2 := Int.mul_pos hm.1 hn.2
  have a2 : 0 < n.1 * m.2 := Int.mul_pos hn.1 hm.2
  have a3 : (q * e.2 - e.1) * (m.1 * n.2) ≤ 0 := Int.mul_nonpos_of_nonpos_of_nonneg hr (by omega)
  have a4 : 0 ≤ (p * e.2) * (n.1 * m.2) := Int.mul_nonneg (Int.mul_nonneg (by omega) (by omega)) (by omega)
  have a5 : 0 ≤ e.1 * (n.1 * m.2) := Int.mul_nonneg he.1 (by omega)
  have : e.1 * (m.1 * n.2 + n.1 * m.2) - (q * m.1 * n.2 - p * n.1 * m.2) * e.2 = e.1 * (n.1 * m.2) + (p * e.2) * (n.1 * m.2) - (q * e.2 - e.1) * (m.1 * n.2) := by grind
  omega
theorem less_lt {x : Fr} (h2 : 0 < x.2) : lt (fr (x.1 * 1000 - 1) (x.2 * 1000)) x := by
  rw [lt_fr_l (by omega)]
  have : (x.1 * 1000 - 1) * x.2 = x.1 * (x.2 * 1000) - x.2 := by grind
  omega
end K34

namespace K34
open PySem PySem.Spec PyProof.Rows L2 DL
theorem next_spec {n : Nat} {s : List D} (h : Good n s) (hn : n ≤ 1000000) {m : Int} (hm : 0 < m) : ∃ v s', F_l_next s [.int m] = some (.int v, s') ∧ 0 ≤ v ∧ v < m ∧ Good (n + 1) s' := by
  obtain ⟨ns, c, rfl, h0, h1, h4, h5⟩ := h
  have h2 : (ns.length : Int) < 1073741824 := by omega
  have h3 : (0 : Int) < ns.length := by omega
  obtain ⟨z, hz⟩ := at_emod (c := c + 1) h0
  have m1 : ∀ x, mulOk x 389 = true := fun x => mulOk_r (by omega)
  have m2 : ∀ x, mulOk x 17 = true := fun x => mulOk_r (by omega)
  have m3 : ∀ x, mulOk (c + 1) x = true := fun x => mulOk_l (by omega)
  unfold F_l_next fdOO envO env0 g_l_next
  simp [sqS, DL.sM, ifS, DL.M.bind_def, opt, getV, getO, peek, putO, nxO, updO, setIxD, ixD, addD, subD, mulD2, mulD, fdivD, modD, powD, lenD, absD, DL.intD, eqD, neD, ltD, leD, gtD, geD, intC, inD, ninD, chainM, boolOf, truD, negD, tupleD, listD, partOf, slD, DL.strOf, joinD, sidxD, revLD, range1, range2, lrgD, usetD, itemsOf, enumD, zipD, revSD, getS, peekS, callM, okM, toldR, frzs, frz, wipeE, lcM, resE, at0, at1, ix1, h0, h2, h3, hz, hm, m1, m2, m3]
  exact ⟨_, _, ⟨rfl, rfl⟩, Int.emod_nonneg _ (by omega), Int.emod_lt_of_pos _ hm, ns, c + 1, rfl, h0, h1, by omega, by omega⟩
end K34

namespace K34
open PySem PySem.Spec PyProof.Rows L2 DL
def ρs (script : List D) (acc : List Int) (a b c d : Option SV) : DL.Env := [some (.seq script), some (.own false (.list (acc.map .int))), a, b, c, d]
theorem body1 (script : List D) (x k y : Option SV) (acc : List Int) (r : Int) (h : acc.length < 1000000) :
    lb_l_stream_1 (ρs script acc x (some (.val (.int r))) k y) = if r / 1009 = 0 then .bk (ρs script (acc ++ [r % 1009]) x (some (.val (.int (r / 1009)))) k y) else .nx (ρs script (acc ++ [r % 1009]) x (some (.val (.int (r / 1009)))) k y) := by
  unfold lb_l_stream_1 ρs
  by_cases hz : r / 1009 = 0
  · simp [sqS, DL.sM, ifS, DL.M.bind_def, opt, getV, getO, peek, putO, nxO, updO, setIxD, ixD, addD, subD, mulD2, mulD, fdivD, modD, powD, lenD, absD, DL.intD, eqD, neD, ltD, leD, gtD, geD, intC, inD, ninD, chainM, boolOf, truD, negD, tupleD, listD, partOf, slD, DL.strOf, joinD, sidxD, revLD, range1, range2, lrgD, usetD, itemsOf, enumD, zipD, revSD, getS, peekS, callM, okM, toldR, frzs, frz, wipeE, lcM, resE, eqB_int, hz, h]
  · simp [sqS, DL.sM, ifS, DL.M.bind_def, opt, getV, getO, peek, putO, nxO, updO, setIxD, ixD, addD, subD, mulD2, mulD, fdivD, modD, powD, lenD, absD, DL.intD, eqD, neD, ltD, leD, gtD, geD, intC, inD, ninD, chainM, boolOf, truD, negD, tupleD, listD, partOf, slD, DL.strOf, joinD, sidxD, revLD, range1, range2, lrgD, usetD, itemsOf, enumD, zipD, revSD, getS, peekS, callM, okM, toldR, frzs, frz, wipeE, lcM, resE, eqB_int, hz, h]
theorem loop1 (script : List D) (x : Option SV) : ∀ (items : List D) (acc : List Int) (r : Int) (y : Option SV), acc.length + items.length ≤ 100000 →
    ∃ acc' r', forS [4] (fun d ρ => some (ρ.set 4 (some (.val d)))) lb_l_stream_1 items (ρs script acc x (some (.val (.int r))) none y) = .nx (ρs script acc' x (some (.val (.int r'))) none y) ∧ acc.length + min 1 items.length ≤ acc'.length ∧ acc'.length ≤ acc.length + items.length
  | [], acc, r, y, _ => ⟨acc, r, rfl, by simp, by simp⟩
  | d :: items, acc, r, y, h => by
    rw [List.length_cons] at h
    have hb := body1 script x (some (.val d)) y acc r (by omega)
    by_cases hz : r / 1009 = 0
    · rw [if_pos hz] at hb
      exact ⟨acc ++ [r % 1009], r / 1009, (forS_bk rfl hb).trans rfl, (by first | omega | (simp; done) | (simp; omega)), (by first | omega | (simp; done) | (simp; omega))⟩
    · rw [if_neg hz] at hb
      obtain ⟨acc', r', e, h1, h2⟩ := loop1 script x items (acc ++ [r % 1009]) (r / 1009) y (by simp; omega)
      exact ⟨acc', r', (forS_nx rfl hb).trans e, by simp at h1 ⊢; omega, by simp at h2 ⊢; omega⟩
theorem body2 (script : List D) (x y : Option SV) (acc : List Int) (k : Int) (z : Int) (h : acc.length < 1000000) (hk : 0 ≤ k ∧ k ≤ 1000) :
    ∃ z' v, lb_l_stream_2 (ρs script acc x y (some (.val (.int k))) (some (.val (.int z)))) = .nx (ρs script (acc ++ [v]) x y (some (.val (.int k))) (some (.val (.int z')))) := by
  have m1 : ∀ x, mulOk x 48271 = true := fun x => mulOk_r (by omega)
  have m2 : ∀ x, mulOk x 69621 = true := fun x => mulOk_r (by omega)
  have m3 : ∀ x, mulOk 7 x = true := fun x => mulOk_l (by omega)
  unfold lb_l_stream_2 ρs
  simp [sqS, DL.sM, ifS, DL.M.bind_def, opt, getV, getO, peek, putO, nxO, updO, setIxD, ixD, addD, subD, mulD2, mulD, fdivD, modD, powD, lenD, absD, DL.intD, eqD, neD, ltD, leD, gtD, geD, intC, inD, ninD, chainM, boolOf, truD, negD, tupleD, listD, partOf, slD, DL.strOf, joinD, sidxD, revLD, range1, range2, lrgD, usetD, itemsOf, enumD, zipD, revSD, getS, peekS, callM, okM, toldR, frzs, frz, wipeE, lcM, resE, eqB_int, h, m1, m2, m3]
theorem loop2 (script : List D) (x y : Option SV) : ∀ (l : List Int) (acc : List Int) (z : Int), (∀ k ∈ l, 0 ≤ k ∧ k ≤ 1000) → acc.length + l.length ≤ 100000 →
    ∃ acc' z', forS [4] (fun d ρ => some (ρ.set 4 (some (.val d)))) lb_l_stream_2 (l.map .int) (ρs script acc x y none (some (.val (.int z)))) = .nx (ρs script acc' x y none (some (.val (.int z')))) ∧ acc'.length = acc.length + l.length
  | [], acc, z, _, _ => ⟨acc, z, rfl, rfl⟩
  | k :: l, acc, z, hk, h => by
    rw [List.length_cons] at h
    obtain ⟨z1, v, hb⟩ := body2 script x y acc k z (by omega) (hk k List.mem_cons_self)
    obtain ⟨acc', z', e, h1⟩ := loop2 script x y l (acc ++ [v]) z1 (fun k hk' => hk k (List.mem_cons_of_mem _ hk')) (by simp; omega)
    exact ⟨acc', z', (forS_nx rfl hb).trans e, by simp at h1 ⊢; omega⟩
theorem body3 (script : List D) (acc : List Int) (cell : Int) (h : acc.length + 60 ≤ 100000) :
    ∃ acc' r z, lb_l_stream_3 (ρs script acc (some (.val (.int cell))) none none none) = .nx (ρs script acc' (some (.val (.int cell))) r none z) ∧ acc.length + 1 ≤ acc'.length ∧ acc'.length ≤ acc.length + 60 := by
  by_cases hb : (1000000000000000000 : Int) ≤ (if cell < 0 then -cell else cell)
  · obtain ⟨acc', r', e, h1, h2⟩ := loop1 script (some (.val (.int cell))) (rangeL 0 60) acc (if cell < 0 then -cell else cell) none (by rw [rangeL_length]; omega)
    rw [rangeL_length] at h1 h2
    refine ⟨acc', some (.val (.int r')), none, ?_, by omega, by omega⟩
    have e' := e
    unfold ρs at e'
    unfold lb_l_stream_3 ρs
    simp [sqS, DL.sM, ifS, DL.M.bind_def, opt, getV, getO, peek, putO, nxO, updO, setIxD, ixD, addD, subD, mulD2, mulD, fdivD, modD, powD, lenD, absD, DL.intD, eqD, neD, ltD, leD, gtD, geD, intC, inD, ninD, chainM, boolOf, truD, negD, tupleD, listD, partOf, slD, DL.strOf, joinD, sidxD, revLD, range1, range2, lrgD, usetD, itemsOf, enumD, zipD, revSD, getS, peekS, callM, okM, toldR, frzs, frz, wipeE, lcM, resE, hb, e']
  · obtain ⟨acc', z', e, h1⟩ := loop2 script (some (.val (.int cell))) (some (.val (.int (if cell < 0 then -cell else cell)))) ((List.range 10).map fun i => (0 : Int) + (i : Nat)) acc ((if cell < 0 then -cell else cell) % 2147483647) (by intro k hk; simp at hk; omega) (by simp; omega)
    have hr : ((List.range 10).map fun i => (0 : Int) + (i : Nat)).map PyData.int = rangeL 0 10 := by
      unfold rangeL
      rw [List.map_map]
      rfl
    rw [hr] at e
    refine ⟨acc', some (.val (.int (if cell < 0 then -cell else cell))), some (.val (.int z')), ?_, by simp at h1; omega, by simp at h1; omega⟩
    have e' := e
    unfold ρs at e'
    unfold lb_l_stream_3 ρs
    simp [sqS, DL.sM, ifS, DL.M.bind_def, opt, getV, getO, peek, putO, nxO, updO, setIxD, ixD, addD, subD, mulD2, mulD, fdivD, modD, powD, lenD, absD, DL.intD, eqD, neD, ltD, leD, gtD, geD, intC, inD, ninD, chainM, boolOf, truD, negD, tupleD, listD, partOf, slD, DL.strOf, joinD, sidxD, revLD, range1, range2, lrgD, usetD, itemsOf, enumD, zipD, revSD, getS, peekS, callM, okM, toldR, frzs, frz, wipeE, lcM, resE, hb, e']
theorem loop3 (script : List D) : ∀ (l acc : List Int), acc.length + 60 * l.length ≤ 100000 →
    ∃ acc', forS [2, 3, 4, 5] (fun d ρ => some (ρ.set 2 (some (.val d)))) lb_l_stream_3 (l.map .int) (ρs script acc none none none none) = .nx (ρs script acc' none none none none) ∧ acc'.length ≤ acc.length + 60 * l.length
  | [], acc, _ => ⟨acc, rfl, by simp⟩
  | c :: l, acc, h => by
    rw [List.length_cons] at h
    obtain ⟨acc1, r, z, hb, h1, h2⟩ := body3 script acc c (by omega)
    obtain ⟨acc', e, h3⟩ := loop3 script l acc1 (by omega)
    exact ⟨acc', (forS_nx rfl hb).trans e, by rw [List.length_cons]; omega⟩
theorem stream_spec (ns : List Int) (h : ns.length ≤ 63) : ∃ ms : List Int, F_l_stream (ns.map .int) = .ok (.list (ms.map .int)) ∧ 0 < ms.length ∧ ms.length ≤ 100000 := by
  obtain ⟨acc, e, h1⟩ := loop3 (ns.map .int) ns [] (by simp; omega)
  have hc : DL.cutD (ns.map PyData.int) none (some 63) = ns.map PyData.int := cut63 (by rw [List.length_map]; exact h)
  unfold ρs at e
  have e' := e
  rw [List.map_nil] at e'
  unfold F_l_stream fdS envS g_l_stream
  by_cases hz : acc = []
  · subst hz
    refine ⟨[0], ?_, by simp, by simp⟩
    simp [sqS, DL.sM, ifS, DL.M.bind_def, opt, getV, getO, peek, putO, nxO, updO, setIxD, ixD, addD, subD, mulD2, mulD, fdivD, modD, powD, lenD, absD, DL.intD, eqD, neD, ltD, leD, gtD, geD, intC, inD, ninD, chainM, boolOf, truD, negD, tupleD, listD, partOf, slD, DL.strOf, joinD, sidxD, revLD, range1, range2, lrgD, usetD, itemsOf, enumD, zipD, revSD, getS, peekS, callM, okM, toldR, frzs, frz, wipeE, lcM, resE, hc, e', eqB_int]
  · refine ⟨acc, ?_, by cases acc <;> simp_all, by simp at h1; omega⟩
    simp [sqS, DL.sM, ifS, DL.M.bind_def, opt, getV, getO, peek, putO, nxO, updO, setIxD, ixD, addD, subD, mulD2, mulD, fdivD, modD, powD, lenD, absD, DL.intD, eqD, neD, ltD, leD, gtD, geD, intC, inD, ninD, chainM, boolOf, truD, negD, tupleD, listD, partOf, slD, DL.strOf, joinD, sidxD, revLD, range1, range2, lrgD, usetD, itemsOf, enumD, zipD, revSD, getS, peekS, callM, okM, toldR, frzs, frz, wipeE, lcM, resE, hc, e', eqB_int, hz]
end K34

namespace K34
open PySem PySem.Spec PyProof.Rows L2 DL
def iv (i : Int) : Option SV := some (.val (.int i))
abbrev frD (p : Fr) : D := .tuple [.int p.1, .int p.2]
/-! ### the divisor -/
theorem abs_nn (a : Int) : (if a < 0 then -a else a) = (a.natAbs : Int) := by split <;> omega
theorem gcd_step {x y : Int} (h : 0 < y) : Int.gcd y (x % y) = Int.gcd x y := by
  rw [Int.emod_def, Int.gcd_sub_mul_left_right, Int.gcd_comm]
theorem div_loop : ∀ (n : Nat) (x y : Int), 0 ≤ x → 0 ≤ y → y.toNat < n → whileS [] lw_divisor_2 lb_divisor_1 n [iv x, iv y] = .nx [iv (Int.gcd x y), iv 0]
  | 0, x, y, _, _, h => by omega
  | n + 1, x, y, hx, hy, h => by
    by_cases hz : y = 0
    · subst hz
      have t : lw_divisor_2 [iv x, iv 0] = .ok false [iv x, iv 0] := by unfold lw_divisor_2 iv; simp [sqS, DL.sM, ifS, DL.M.bind_def, opt, getV, getO, peek, putO, nxO, updO, setIxD, ixD, addD, subD, mulD2, mulD, fdivD, fdivW, modD, powD, lenD, absD, max2D, min2D, DL.intD, eqD, neD, ltD, leD, gtD, geD, intC, isD, nisD, isB, isNone, inD, ninD, chainM, boolOf, truD, negD, tupleD, listD, partOf, slD, DL.strOf, sidxD, revLD, range1, range2, lrgD, itemsOf, enumD, zipD, revSD, getS, peekS, callM, okM, toldR, frzs, frz, wipeE, lcM, resE]
      unfold whileS
      rw [t, Int.gcd_zero_right]
      dsimp only
      rw [show ((x.natAbs : Nat) : Int) = x by omega]
    · have hp : 0 < y := by omega
      have t : lw_divisor_2 [iv x, iv y] = .ok true [iv x, iv y] := by unfold lw_divisor_2 iv; simp [sqS, DL.sM, ifS, DL.M.bind_def, opt, getV, getO, peek, putO, nxO, updO, setIxD, ixD, addD, subD, mulD2, mulD, fdivD, fdivW, modD, powD, lenD, absD, max2D, min2D, DL.intD, eqD, neD, ltD, leD, gtD, geD, intC, isD, nisD, isB, isNone, inD, ninD, chainM, boolOf, truD, negD, tupleD, listD, partOf, slD, DL.strOf, sidxD, revLD, range1, range2, lrgD, itemsOf, enumD, zipD, revSD, getS, peekS, callM, okM, toldR, frzs, frz, wipeE, lcM, resE, hp]
      have b : lb_divisor_1 [iv x, iv y] = .nx [iv y, iv (x % y)] := by unfold lb_divisor_1 iv; simp [sqS, DL.sM, ifS, DL.M.bind_def, opt, getV, getO, peek, putO, nxO, updO, setIxD, ixD, addD, subD, mulD2, mulD, fdivD, fdivW, modD, powD, lenD, absD, max2D, min2D, DL.intD, eqD, neD, ltD, leD, gtD, geD, intC, isD, nisD, isB, isNone, inD, ninD, chainM, boolOf, truD, negD, tupleD, listD, partOf, slD, DL.strOf, sidxD, revLD, range1, range2, lrgD, itemsOf, enumD, zipD, revSD, getS, peekS, callM, okM, toldR, frzs, frz, wipeE, lcM, resE, hp]
      unfold whileS
      rw [t]
      dsimp only
      rw [b]
      dsimp only
      show whileS [] lw_divisor_2 lb_divisor_1 n [iv y, iv (x % y)] = _
      have h1 := Int.emod_nonneg x (show y ≠ 0 by omega)
      have h2 := Int.emod_lt_of_pos x hp
      rw [div_loop n y (x % y) (by omega) h1 (by omega), gcd_step hp]
theorem divisor_spec (a b : Int) : F_divisor [.int a, .int b] = .ok (.int (Int.gcd a b)) := by
  have hl : whileS [] lw_divisor_2 lb_divisor_1 (fuelE [iv a.natAbs, iv b.natAbs]) [iv a.natAbs, iv b.natAbs] = .nx [iv (Int.gcd a.natAbs b.natAbs), iv 0] := by
    refine div_loop _ _ _ (by omega) (by omega) ?_
    unfold fuelE iv
    simp [sizeS]
    omega
  have e : Int.gcd (a.natAbs : Int) (b.natAbs : Int) = Int.gcd a b := by simp [Int.gcd]
  rw [e] at hl
  unfold iv at hl
  unfold F_divisor DL.fdOf DL.env0 g_divisor fu_divisor_3
  simp [sqS, DL.sM, ifS, DL.M.bind_def, opt, getV, getO, peek, putO, nxO, updO, setIxD, ixD, addD, subD, mulD2, mulD, fdivD, fdivW, modD, powD, lenD, absD, max2D, min2D, DL.intD, eqD, neD, ltD, leD, gtD, geD, intC, isD, nisD, isB, isNone, inD, ninD, chainM, boolOf, truD, negD, tupleD, listD, partOf, slD, DL.strOf, sidxD, revLD, range1, range2, lrgD, itemsOf, enumD, zipD, revSD, getS, peekS, callM, okM, toldR, frzs, frz, wipeE, lcM, resE, abs_nn, hl]
def gdv : DL.Env := [none]
theorem gcd_turn {a b : Int} {t : Option SV} (h : 0 < b) : lb_l_gcd_1 [iv a, iv b, t] = .nx [iv b, iv (a % b), t] := by
  unfold lb_l_gcd_1 iv
  have : ¬ b = 0 := by omega
  simp [sqS, DL.sM, ifS, DL.M.bind_def, opt, getV, getO, peek, putO, nxO, updO, setIxD, ixD, addD, subD, mulD2, mulD, fdivD, fdivW, modD, powD, lenD, absD, max2D, min2D, DL.intD, eqD, neD, ltD, leD, gtD, geD, intC, isD, nisD, isB, isNone, inD, ninD, chainM, boolOf, truD, negD, tupleD, listD, partOf, slD, DL.strOf, sidxD, revLD, range1, range2, lrgD, itemsOf, enumD, zipD, revSD, getS, peekS, callM, okM, toldR, frzs, frz, wipeE, lcM, resE, eqB_int, this, h]
theorem gcd_stop {a : Int} {t : Option SV} : lb_l_gcd_1 [iv a, iv 0, t] = .bk [iv a, iv 0, t] := by
  unfold lb_l_gcd_1 iv
  simp [sqS, DL.sM, ifS, DL.M.bind_def, opt, getV, getO, peek, putO, nxO, updO, setIxD, ixD, addD, subD, mulD2, mulD, fdivD, fdivW, modD, powD, lenD, absD, max2D, min2D, DL.intD, eqD, neD, ltD, leD, gtD, geD, intC, isD, nisD, isB, isNone, inD, ninD, chainM, boolOf, truD, negD, tupleD, listD, partOf, slD, DL.strOf, sidxD, revLD, range1, range2, lrgD, itemsOf, enumD, zipD, revSD, getS, peekS, callM, okM, toldR, frzs, frz, wipeE, lcM, resE, eqB_int]
/-- 2 k + 1 turns are enough for other below 2 ^ k -/
theorem gcd_loop : ∀ (k : Nat) (items : List D) (a b : Int) (t : Option SV), 0 ≤ b → b < 2 ^ k → 2 * k + 1 ≤ items.length →
    ∃ g : Int, ∃ t', forS [2] (fun d ρ => some (ρ.set 2 (some (.val d)))) lb_l_gcd_1 items [iv a, iv b, t] = .nx [iv g, iv 0, t'] ∧ g.natAbs = Int.gcd a b
  | k, [], a, b, t, _, _, h => by simp at h
  | k, d :: items, a, b, t, h0, hb, h => by
    by_cases hz : b = 0
    · subst hz
      exact ⟨a, none, (forS_bk (ρ1 := [iv a, iv 0, some (.val d)]) rfl gcd_stop).trans rfl, by rw [Int.gcd_zero_right]⟩
    · have hp : 0 < b := by omega
      have e1 := Int.emod_nonneg a (show b ≠ 0 by omega)
      have e2 := Int.emod_lt_of_pos a hp
      have s1 : forS [2] (fun d ρ => some (ρ.set 2 (some (.val d)))) lb_l_gcd_1 (d :: items) [iv a, iv b, t] = forS [2] (fun d ρ => some (ρ.set 2 (some (.val d)))) lb_l_gcd_1 items [iv b, iv (a % b), none] :=
        forS_nx (ρ1 := [iv a, iv b, some (.val d)]) rfl (gcd_turn hp)
      rw [s1]
      cases k with
      | zero => simp at hb; omega
      | succ k =>
        cases items with
        | nil => simp at h
        | cons d2 items =>
          by_cases hz2 : a % b = 0
          · rw [hz2]
            refine ⟨b, none, (forS_bk (ρ1 := [iv b, iv 0, some (.val d2)]) rfl gcd_stop).trans rfl, ?_⟩
            rw [← gcd_step hp, hz2, Int.gcd_zero_right]
          · have hp2 : 0 < a % b := by omega
            have f1 := Int.emod_nonneg b (show a % b ≠ 0 by omega)
            have f2 := Int.emod_lt_of_pos b hp2
            have s2 : forS [2] (fun d ρ => some (ρ.set 2 (some (.val d)))) lb_l_gcd_1 (d2 :: items) [iv b, iv (a % b), none] = forS [2] (fun d ρ => some (ρ.set 2 (some (.val d)))) lb_l_gcd_1 items [iv (a % b), iv (b % (a % b)), none] :=
              forS_nx (ρ1 := [iv b, iv (a % b), some (.val d2)]) rfl (gcd_turn hp2)
            rw [s2]
            have hh : b % (a % b) + a % b ≤ b := by
              have q := Int.emod_add_mul_ediv b (a % b)
              have q1 : 1 ≤ b / (a % b) := (Int.le_ediv_iff_mul_le hp2).mpr (by omega)
              have q2 : (a % b) * 1 ≤ (a % b) * (b / (a % b)) := Int.mul_le_mul_of_nonneg_left q1 (by omega)
              omega
            have hk : (2 : Int) ^ (k + 1) = 2 ^ k * 2 := Int.pow_succ ..
            rw [List.length_cons, List.length_cons] at h
            obtain ⟨g, t', e, eg⟩ := gcd_loop k items (a % b) (b % (a % b)) none f1 (by omega) (by omega)
            exact ⟨g, t', e, by rw [eg, gcd_step hp2, gcd_step hp]⟩
theorem lgcd_spec (a b : Int) (h : 0 ≤ b) (hb : b < 2 ^ 64) : F_l_gcd [.int a, .int b] = .ok (.int (Int.gcd a b)) := by
  obtain ⟨g, t', e, eg⟩ := gcd_loop 64 (rangeL 0 400) a b none h hb (by rw [rangeL_length]; omega)
  unfold iv at e
  unfold F_l_gcd DL.fdOf DL.env0 g_l_gcd
  simp [sqS, DL.sM, ifS, DL.M.bind_def, opt, getV, getO, peek, putO, nxO, updO, setIxD, ixD, addD, subD, mulD2, mulD, fdivD, fdivW, modD, powD, lenD, absD, max2D, min2D, DL.intD, eqD, neD, ltD, leD, gtD, geD, intC, isD, nisD, isB, isNone, inD, ninD, chainM, boolOf, truD, negD, tupleD, listD, partOf, slD, DL.strOf, sidxD, revLD, range1, range2, lrgD, itemsOf, enumD, zipD, revSD, getS, peekS, callM, okM, toldR, frzs, frz, wipeE, lcM, resE, e, abs_nn, eg]
/-! ### fractions -/
theorem gcd_wide {t b : Int} (h : 0 < b) (hb : b < 2 ^ 64) : wideJ (Int.gcd t b : Int) = true := by
  refine wideJ_ok ⟨gcd_pos h, ?_⟩
  have := Int.le_of_dvd h (Int.gcd_dvd_right t b)
  omega
theorem lfr_spec (t b : Int) (h : 0 < b) (hb : b < 2 ^ 64) : F_l_fraction [.int t, .int b] = .ok (frD (fr t b)) := by
  have g := lgcd_spec t b (by omega) hb
  have w := gcd_wide (t := t) h hb
  have h' : ¬ b < 0 := by omega
  unfold F_l_fraction DL.fdOf DL.env0 g_l_fraction
  simp [sqS, DL.sM, ifS, DL.M.bind_def, opt, getV, getO, peek, putO, nxO, updO, setIxD, ixD, addD, subD, mulD2, mulD, fdivD, fdivW, modD, powD, lenD, absD, max2D, min2D, DL.intD, eqD, neD, ltD, leD, gtD, geD, intC, isD, nisD, isB, isNone, inD, ninD, chainM, boolOf, truD, negD, tupleD, listD, partOf, slD, DL.strOf, sidxD, revLD, range1, range2, lrgD, itemsOf, enumD, zipD, revSD, getS, peekS, callM, okM, toldR, frzs, frz, wipeE, lcM, resE, g, w, h']
  exact ⟨rfl, rfl⟩
theorem fr_spec (t b : Int) (h : 0 < b) (hb : b < 2 ^ 64) : F_fraction [.int t, .int b] = .ok (frD (fr t b)) := by
  have g := divisor_spec t b
  have w := gcd_wide (t := t) h hb
  have h' : ¬ b < 0 := by omega
  have h2 : ¬ b = 0 := by omega
  unfold F_fraction DL.fdOf DL.env0 g_fraction
  simp [sqS, DL.sM, ifS, DL.M.bind_def, opt, getV, getO, peek, putO, nxO, updO, setIxD, ixD, addD, subD, mulD2, mulD, fdivD, fdivW, modD, powD, lenD, absD, max2D, min2D, DL.intD, eqD, neD, ltD, leD, gtD, geD, intC, isD, nisD, isB, isNone, inD, ninD, chainM, boolOf, truD, negD, tupleD, listD, partOf, slD, DL.strOf, sidxD, revLD, range1, range2, lrgD, itemsOf, enumD, zipD, revSD, getS, peekS, callM, okM, toldR, frzs, frz, wipeE, lcM, resE, g, w, h', h2, eqB_int]
  exact ⟨rfl, rfl⟩
theorem isfr_spec (p : Fr) : F_is_fraction [frD p] = .ok (.bool (decide (1 ≤ p.2) && decide (Int.gcd p.1 p.2 = 1))) := by
  have g := divisor_spec p.1 p.2
  unfold F_is_fraction DL.fdOf DL.env0 g_is_fraction frD
  by_cases h : 1 ≤ p.2
  · simp [sqS, DL.sM, ifS, DL.M.bind_def, opt, getV, getO, peek, putO, nxO, updO, setIxD, ixD, addD, subD, mulD2, mulD, fdivD, fdivW, modD, powD, lenD, absD, max2D, min2D, DL.intD, eqD, neD, ltD, leD, gtD, geD, intC, isD, nisD, isB, isNone, inD, ninD, chainM, boolOf, truD, negD, tupleD, listD, partOf, slD, DL.strOf, sidxD, revLD, range1, range2, lrgD, itemsOf, enumD, zipD, revSD, getS, peekS, callM, okM, toldR, frzs, frz, wipeE, lcM, resE, g, h, at0, at1, eqB_int]
    omega
  · simp [sqS, DL.sM, ifS, DL.M.bind_def, opt, getV, getO, peek, putO, nxO, updO, setIxD, ixD, addD, subD, mulD2, mulD, fdivD, fdivW, modD, powD, lenD, absD, max2D, min2D, DL.intD, eqD, neD, ltD, leD, gtD, geD, intC, isD, nisD, isB, isNone, inD, ninD, chainM, boolOf, truD, negD, tupleD, listD, partOf, slD, DL.strOf, sidxD, revLD, range1, range2, lrgD, itemsOf, enumD, zipD, revSD, getS, peekS, callM, okM, toldR, frzs, frz, wipeE, lcM, resE, g, h, at0, at1, eqB_int]
def Bd (p : Fr) : Prop := -(2 ^ 64) < p.1 ∧ p.1 < 2 ^ 64 ∧ 0 < p.2 ∧ p.2 < 2 ^ 64
theorem mulOk_b {i j : Int} (h : -(2 ^ 64) < i ∧ i < 2 ^ 64) : mulOk i j = true := by
  unfold mulOk
  have : i.natAbs < 2 ^ 64 := by omega
  simp [this]
theorem mulOk_b2 {i j : Int} (h : -(2 ^ 64) < j ∧ j < 2 ^ 64) : mulOk i j = true := by
  unfold mulOk
  have : j.natAbs < 2 ^ 64 := by omega
  simp [this]
theorem less_spec (p q : Fr) (hp : Bd p) (hq : Bd q) : F_less [frD p, frD q] = .ok (.bool (decide (lt p q))) := by
  have m1 : mulOk p.1 q.2 = true := mulOk_b ⟨hp.1, hp.2.1⟩
  have m2 : mulOk q.1 p.2 = true := mulOk_b ⟨hq.1, hq.2.1⟩
  unfold F_less DL.fdOf DL.env0 g_less frD
  simp [sqS, DL.sM, ifS, DL.M.bind_def, opt, getV, getO, peek, putO, nxO, updO, setIxD, ixD, addD, subD, mulD2, mulD, fdivD, fdivW, modD, powD, lenD, absD, max2D, min2D, DL.intD, eqD, neD, ltD, leD, gtD, geD, intC, isD, nisD, isB, isNone, inD, ninD, chainM, boolOf, truD, negD, tupleD, listD, partOf, slD, DL.strOf, sidxD, revLD, range1, range2, lrgD, itemsOf, enumD, zipD, revSD, getS, peekS, callM, okM, toldR, frzs, frz, wipeE, lcM, resE, at0, at1, m1, m2]
  rfl
theorem below_spec (p q : Fr) (hp : Bd p) (hq : Bd q) : F_l_below [frD p, frD q] = .ok (.bool (decide (lt p q))) := by
  have m1 : mulOk p.1 q.2 = true := mulOk_b ⟨hp.1, hp.2.1⟩
  have m2 : mulOk q.1 p.2 = true := mulOk_b ⟨hq.1, hq.2.1⟩
  unfold F_l_below DL.fdOf DL.env0 g_l_below frD
  simp [sqS, DL.sM, ifS, DL.M.bind_def, opt, getV, getO, peek, putO, nxO, updO, setIxD, ixD, addD, subD, mulD2, mulD, fdivD, fdivW, modD, powD, lenD, absD, max2D, min2D, DL.intD, eqD, neD, ltD, leD, gtD, geD, intC, isD, nisD, isB, isNone, inD, ninD, chainM, boolOf, truD, negD, tupleD, listD, partOf, slD, DL.strOf, sidxD, revLD, range1, range2, lrgD, itemsOf, enumD, zipD, revSD, getS, peekS, callM, okM, toldR, frzs, frz, wipeE, lcM, resE, at0, at1, m1, m2]
  rfl
end K34

namespace K34
open PySem PySem.Spec PyProof.Rows L2 DL
abbrev Pat := List Int
abbrev patD (p : Pat) : D := .tuple (p.map .int)
abbrev patsD (P : List Pat) : D := .tuple (P.map patD)
abbrev msD (ms : List Fr) : D := .tuple (ms.map frD)
structure PsOk (P : List Pat) (bars : Nat) : Prop where
  n1 : 1 ≤ P.length
  n2 : P.length ≤ 16
  b1 : 2 ≤ bars
  b2 : bars ≤ 12
  len : ∀ p ∈ P, p.length = bars
  wid : ∀ p ∈ P, ∀ w ∈ p, 1 ≤ w ∧ w ≤ 30
  nd : P.Nodup
def EOk (e : Fr) : Prop := 0 ≤ e.1 ∧ 0 < e.2 ∧ e.1 ≤ 2 ^ 40 ∧ e.2 ≤ 2 ^ 40
def MOk (m : Fr) : Prop := 0 < m.1 ∧ 0 < m.2 ∧ m.1 ≤ 32768 ∧ m.2 ≤ 128
/-! ### lists -/
theorem intsOf_map (l : List Int) : intsOf (l.map PyData.int) = some l := by
  induction l with
  | nil => rfl
  | cons a l ih => rw [List.map_cons, intsOf, ih]; rfl
theorem tupsOf_map (P : List Pat) : tupsOf (P.map patD) = some P := by
  induction P with
  | nil => rfl
  | cons p P ih => rw [List.map_cons, tupsOf, intsOf_map, ih]; rfl
theorem ddL_id : ∀ {P : List Pat}, P.Nodup → ddL P = P
  | [], _ => rfl
  | p :: P, h => by
    have := List.nodup_cons.mp h
    rw [ddL, if_neg this.1, ddL_id this.2]
theorem lenSet_ok {P : List Pat} (h : P.Nodup) (hl : P.length < 64) : lenSetD (patsD P) = some (.int P.length) := by
  unfold lenSetD
  show (seqOf (.tuple (P.map patD))).bind _ = _
  simp only [seqOf, Option.bind_some, tupsOf_map, hl, if_true, ddL_id h]
theorem at_head {α : Type} {l : List α} {f : α → D} (x : α) (r : List α) (h : l = x :: r) : L2.atI (l.map f) 0 = some (f x) := by
  subst h
  exact at0 _ _
theorem allD_map {α : Type} (l : List α) (f : α → Bool) : allD [.list (l.map fun x => PyData.bool (f x))] = some (.bool (l.all f)) := by
  show (boolsOf _).map _ = _
  rw [boolsOf_map']
  simp [List.all_map]
/-! ### the checks -/
theorem cp_elem {a b : Option SV} {w : Int} : le_check_patterns_1 [a, b, iv w] = .ok (.bool (decide (1 ≤ w) && decide (w ≤ 30))) [a, b, iv w] := by
  unfold le_check_patterns_1 iv
  by_cases h : 1 ≤ w
  · simp [sqS, DL.sM, ifS, DL.M.bind_def, opt, getV, getO, peek, putO, nxO, updO, setIxD, ixD, addD, subD, mulD2, mulD, fdivD, fdivW, modD, powD, lenD, absD, max2D, min2D, DL.intD, eqD, neD, ltD, leD, gtD, geD, intC, isD, nisD, isB, isNone, inD, ninD, chainM, boolOf, truD, negD, tupleD, listD, partOf, slD, DL.strOf, sidxD, revLD, range1, range2, lrgD, itemsOf, enumD, zipD, revSD, getS, peekS, callM, okM, toldR, frzs, frz, wipeE, lcM, resE, h]
  · simp [sqS, DL.sM, ifS, DL.M.bind_def, opt, getV, getO, peek, putO, nxO, updO, setIxD, ixD, addD, subD, mulD2, mulD, fdivD, fdivW, modD, powD, lenD, absD, max2D, min2D, DL.intD, eqD, neD, ltD, leD, gtD, geD, intC, isD, nisD, isB, isNone, inD, ninD, chainM, boolOf, truD, negD, tupleD, listD, partOf, slD, DL.strOf, sidxD, revLD, range1, range2, lrgD, itemsOf, enumD, zipD, revSD, getS, peekS, callM, okM, toldR, frzs, frz, wipeE, lcM, resE, h]
theorem cp_body {P : List Pat} {bars : Nat} {p p0 : Pat} (h0 : L2.atI (P.map patD) 0 = some (patD p0)) (hl0 : p0.length = bars) (hl : p.length = bars) (hw : ∀ w ∈ p, 1 ≤ w ∧ w ≤ 30) :
    lb_check_patterns_2 [some (.val (patsD P)), some (.val (patD p)), none] = .nx [some (.val (patsD P)), some (.val (patD p)), none] := by
  have e := lcS_rt (vs := [2]) (b := fun d ρ => some (ρ.set 2 (some (.val d)))) (e := le_check_patterns_1) (fun (w : Int) => PyData.int w) (fun w => [some (.val (patsD P)), some (.val (patD p)), iv w]) (fun w => PyData.bool (decide (1 ≤ w) && decide (w ≤ 30)))
    (ρ := [some (.val (patsD P)), some (.val (patD p)), none]) p [] (fun w _ => ⟨rfl, cp_elem, rfl⟩)
  rw [List.nil_append] at e
  have ha := allD_map p (fun w => decide (1 ≤ w) && decide (w ≤ 30))
  rw [show p.all (fun w => decide (1 ≤ w) && decide (w ≤ 30)) = true by simp; exact hw] at ha
  generalize hz : (p.map fun w => PyData.bool (decide (1 ≤ w) && decide (w ≤ 30))) = z at e ha
  unfold patsD at *
  generalize P.map patD = Q at *
  unfold patD at *
  generalize hq : p.map PyData.int = q at *
  have hlq : q.length = bars := by rw [← hq, List.length_map, hl]
  unfold lb_check_patterns_2
  simp [sqS, DL.sM, ifS, DL.M.bind_def, opt, getV, getO, peek, putO, nxO, updO, setIxD, ixD, addD, subD, mulD2, mulD, fdivD, fdivW, modD, powD, lenD, absD, max2D, min2D, DL.intD, eqD, neD, ltD, leD, gtD, geD, intC, isD, nisD, isB, isNone, inD, ninD, chainM, boolOf, truD, negD, tupleD, listD, partOf, slD, DL.strOf, sidxD, revLD, range1, range2, lrgD, itemsOf, enumD, zipD, revSD, getS, peekS, callM, okM, toldR, frzs, frz, wipeE, lcM, resE, h0, hlq, hl0, eqB_int, e, ha]
theorem check_patterns_ok {P : List Pat} {bars : Nat} (h : PsOk P bars) : F_check_patterns [patsD P] = .ok .none := by
  obtain ⟨p0, R, hP⟩ : ∃ p0 R, P = p0 :: R := by
    cases P with
    | nil => exact absurd h.n1 (by simp)
    | cons a b => exact ⟨a, b, rfl⟩
  have h0 := at_head (f := patD) p0 R hP
  have hl0 : p0.length = bars := h.len p0 (by rw [hP]; exact List.mem_cons_self)
  have hloop : ∀ Q : List Pat, (∀ p ∈ Q, p ∈ P) → forS [1] (fun d ρ => some (ρ.set 1 (some (.val d)))) lb_check_patterns_2 (Q.map patD) [some (.val (patsD P)), none, none] = .nx [some (.val (patsD P)), none, none] := by
    intro Q
    induction Q with
    | nil => intro _; rfl
    | cons p Q ih =>
      intro hQ
      have hp := hQ p List.mem_cons_self
      rw [List.map_cons, forS_nx (ρ1 := [some (.val (patsD P)), some (.val (patD p)), none]) rfl (cp_body h0 hl0 (h.len p hp) (h.wid p hp))]
      exact ih fun z hz => hQ z (List.mem_cons_of_mem _ hz)
  have hl := hloop P fun _ hp => hp
  have hs := lenSet_ok h.nd (by have := h.n2; omega)
  have n1 := h.n1
  have n2 := h.n2
  have n1' : (1 : Int) ≤ P.length := by omega
  have n2' : (P.length : Int) ≤ 16 := by omega
  have b1' : (2 : Int) ≤ bars := by have := h.b1; omega
  have b2' : (bars : Int) ≤ 12 := by have := h.b2; omega
  unfold F_check_patterns DL.fdOf DL.env0 g_check_patterns
  have hlq : (P.map patD).length = P.length := List.length_map ..
  unfold patsD at *
  generalize hq : P.map patD = q at *
  simp [sqS, DL.sM, ifS, DL.M.bind_def, opt, getV, getO, peek, putO, nxO, updO, setIxD, ixD, addD, subD, mulD2, mulD, fdivD, fdivW, modD, powD, lenD, absD, max2D, min2D, DL.intD, eqD, neD, ltD, leD, gtD, geD, intC, isD, nisD, isB, isNone, inD, ninD, chainM, boolOf, truD, negD, tupleD, listD, partOf, slD, DL.strOf, sidxD, revLD, range1, range2, lrgD, itemsOf, enumD, zipD, revSD, getS, peekS, callM, okM, toldR, frzs, frz, wipeE, lcM, resE, h0, hlq, hl0, n1', n2', n1, n2, b1', b2', hl, hs]
theorem check_error_spec {e : Fr} (he : Bd e) : F_check_error [frD e] = if 1 ≤ e.2 ∧ Int.gcd e.1 e.2 = 1 ∧ 0 ≤ e.1 ∧ lt e (1, 1) then .ok .none else .er "NotAllowed" := by
  have h1 := isfr_spec e
  have h2 := less_spec e (1, 1) he ⟨by decide, by decide, by decide, by decide⟩
  unfold F_check_error DL.fdOf DL.env0 g_check_error
  by_cases a : 1 ≤ e.2
  · by_cases b : Int.gcd e.1 e.2 = 1
    · by_cases c : e.1 < 0
      · have c' : ¬ 0 ≤ e.1 := by omega
        simp [sqS, DL.sM, ifS, DL.M.bind_def, opt, getV, getO, peek, putO, nxO, updO, setIxD, ixD, addD, subD, mulD2, mulD, fdivD, fdivW, modD, powD, lenD, absD, max2D, min2D, DL.intD, eqD, neD, ltD, leD, gtD, geD, intC, isD, nisD, isB, isNone, inD, ninD, chainM, boolOf, truD, negD, tupleD, listD, partOf, slD, DL.strOf, sidxD, revLD, range1, range2, lrgD, itemsOf, enumD, zipD, revSD, getS, peekS, callM, okM, toldR, frzs, frz, wipeE, lcM, resE, h1, a, b, c, c', at0, h2]
      · have c' : 0 ≤ e.1 := by omega
        by_cases d : lt e (1, 1)
        · simp [sqS, DL.sM, ifS, DL.M.bind_def, opt, getV, getO, peek, putO, nxO, updO, setIxD, ixD, addD, subD, mulD2, mulD, fdivD, fdivW, modD, powD, lenD, absD, max2D, min2D, DL.intD, eqD, neD, ltD, leD, gtD, geD, intC, isD, nisD, isB, isNone, inD, ninD, chainM, boolOf, truD, negD, tupleD, listD, partOf, slD, DL.strOf, sidxD, revLD, range1, range2, lrgD, itemsOf, enumD, zipD, revSD, getS, peekS, callM, okM, toldR, frzs, frz, wipeE, lcM, resE, h1, a, b, c, c', d, at0, h2]
        · simp [sqS, DL.sM, ifS, DL.M.bind_def, opt, getV, getO, peek, putO, nxO, updO, setIxD, ixD, addD, subD, mulD2, mulD, fdivD, fdivW, modD, powD, lenD, absD, max2D, min2D, DL.intD, eqD, neD, ltD, leD, gtD, geD, intC, isD, nisD, isB, isNone, inD, ninD, chainM, boolOf, truD, negD, tupleD, listD, partOf, slD, DL.strOf, sidxD, revLD, range1, range2, lrgD, itemsOf, enumD, zipD, revSD, getS, peekS, callM, okM, toldR, frzs, frz, wipeE, lcM, resE, h1, a, b, c, c', d, at0, h2]
    · simp [sqS, DL.sM, ifS, DL.M.bind_def, opt, getV, getO, peek, putO, nxO, updO, setIxD, ixD, addD, subD, mulD2, mulD, fdivD, fdivW, modD, powD, lenD, absD, max2D, min2D, DL.intD, eqD, neD, ltD, leD, gtD, geD, intC, isD, nisD, isB, isNone, inD, ninD, chainM, boolOf, truD, negD, tupleD, listD, partOf, slD, DL.strOf, sidxD, revLD, range1, range2, lrgD, itemsOf, enumD, zipD, revSD, getS, peekS, callM, okM, toldR, frzs, frz, wipeE, lcM, resE, h1, a, b]
  · simp [sqS, DL.sM, ifS, DL.M.bind_def, opt, getV, getO, peek, putO, nxO, updO, setIxD, ixD, addD, subD, mulD2, mulD, fdivD, fdivW, modD, powD, lenD, absD, max2D, min2D, DL.intD, eqD, neD, ltD, leD, gtD, geD, intC, isD, nisD, isB, isNone, inD, ninD, chainM, boolOf, truD, negD, tupleD, listD, partOf, slD, DL.strOf, sidxD, revLD, range1, range2, lrgD, itemsOf, enumD, zipD, revSD, getS, peekS, callM, okM, toldR, frzs, frz, wipeE, lcM, resE, h1, a]
def frOk (m : Fr) : Bool := decide (1 ≤ m.2) && decide (Int.gcd m.1 m.2 = 1) && decide (0 < m.1)
theorem cm_elem {a b : Option SV} {m : Fr} : le_check_measures_1 [a, b, some (.val (frD m))] = .ok (.bool (frOk m)) [a, b, some (.val (frD m))] := by
  have h1 := isfr_spec m
  unfold le_check_measures_1 frOk
  by_cases h : 1 ≤ m.2
  · by_cases h2 : Int.gcd m.1 m.2 = 1
    · simp [sqS, DL.sM, ifS, DL.M.bind_def, opt, getV, getO, peek, putO, nxO, updO, setIxD, ixD, addD, subD, mulD2, mulD, fdivD, fdivW, modD, powD, lenD, absD, max2D, min2D, DL.intD, eqD, neD, ltD, leD, gtD, geD, intC, isD, nisD, isB, isNone, inD, ninD, chainM, boolOf, truD, negD, tupleD, listD, partOf, slD, DL.strOf, sidxD, revLD, range1, range2, lrgD, itemsOf, enumD, zipD, revSD, getS, peekS, callM, okM, toldR, frzs, frz, wipeE, lcM, resE, h1, h, h2, at0]
    · simp [sqS, DL.sM, ifS, DL.M.bind_def, opt, getV, getO, peek, putO, nxO, updO, setIxD, ixD, addD, subD, mulD2, mulD, fdivD, fdivW, modD, powD, lenD, absD, max2D, min2D, DL.intD, eqD, neD, ltD, leD, gtD, geD, intC, isD, nisD, isB, isNone, inD, ninD, chainM, boolOf, truD, negD, tupleD, listD, partOf, slD, DL.strOf, sidxD, revLD, range1, range2, lrgD, itemsOf, enumD, zipD, revSD, getS, peekS, callM, okM, toldR, frzs, frz, wipeE, lcM, resE, h1, h, h2, at0]
  · simp [sqS, DL.sM, ifS, DL.M.bind_def, opt, getV, getO, peek, putO, nxO, updO, setIxD, ixD, addD, subD, mulD2, mulD, fdivD, fdivW, modD, powD, lenD, absD, max2D, min2D, DL.intD, eqD, neD, ltD, leD, gtD, geD, intC, isD, nisD, isB, isNone, inD, ninD, chainM, boolOf, truD, negD, tupleD, listD, partOf, slD, DL.strOf, sidxD, revLD, range1, range2, lrgD, itemsOf, enumD, zipD, revSD, getS, peekS, callM, okM, toldR, frzs, frz, wipeE, lcM, resE, h1, h, at0]
theorem check_measures_spec {P : List Pat} {bars : Nat} (h : PsOk P bars) (ms : List Fr) : F_check_measures [patsD P, msD ms] = if ms.length = bars ∧ ms.all frOk = true then .ok .none else .er "NotAllowed" := by
  obtain ⟨p0, R, hP⟩ : ∃ p0 R, P = p0 :: R := by
    cases P with
    | nil => exact absurd h.n1 (by simp)
    | cons a b => exact ⟨a, b, rfl⟩
  have h0 := at_head (f := patD) p0 R hP
  have hl0 : p0.length = bars := h.len p0 (by rw [hP]; exact List.mem_cons_self)
  have e := lcS_rt (vs := [2]) (b := fun d ρ => some (ρ.set 2 (some (.val d)))) (e := le_check_measures_1) frD (fun m => [some (.val (patsD P)), some (.val (msD ms)), some (.val (frD m))]) (fun m => PyData.bool (frOk m))
    (ρ := [some (.val (patsD P)), some (.val (msD ms)), none]) ms [] (fun w _ => ⟨rfl, cm_elem, rfl⟩)
  rw [List.nil_append] at e
  have ha := allD_map ms frOk
  generalize hz : (ms.map fun w => PyData.bool (frOk w)) = z at e ha
  have hlq : (ms.map frD).length = ms.length := List.length_map ..
  unfold F_check_measures DL.fdOf DL.env0 g_check_measures
  unfold patsD msD at *
  generalize hq : ms.map frD = q at *
  generalize hq2 : P.map patD = q2 at *
  by_cases hl : ms.length = bars
  · by_cases hk : ms.all frOk = true
    · simp [sqS, DL.sM, ifS, DL.M.bind_def, opt, getV, getO, peek, putO, nxO, updO, setIxD, ixD, addD, subD, mulD2, mulD, fdivD, fdivW, modD, powD, lenD, absD, max2D, min2D, DL.intD, eqD, neD, ltD, leD, gtD, geD, intC, isD, nisD, isB, isNone, inD, ninD, chainM, boolOf, truD, negD, tupleD, listD, partOf, slD, DL.strOf, sidxD, revLD, range1, range2, lrgD, itemsOf, enumD, zipD, revSD, getS, peekS, callM, okM, toldR, frzs, frz, wipeE, lcM, resE, h0, hlq, hl0, hl, e, ha, hk, eqB_int]
    · rw [Bool.not_eq_true] at hk
      simp [sqS, DL.sM, ifS, DL.M.bind_def, opt, getV, getO, peek, putO, nxO, updO, setIxD, ixD, addD, subD, mulD2, mulD, fdivD, fdivW, modD, powD, lenD, absD, max2D, min2D, DL.intD, eqD, neD, ltD, leD, gtD, geD, intC, isD, nisD, isB, isNone, inD, ninD, chainM, boolOf, truD, negD, tupleD, listD, partOf, slD, DL.strOf, sidxD, revLD, range1, range2, lrgD, itemsOf, enumD, zipD, revSD, getS, peekS, callM, okM, toldR, frzs, frz, wipeE, lcM, resE, h0, hlq, hl0, hl, e, ha, hk, eqB_int]
  · have hl' : ¬ (ms.length : Int) = bars := by omega
    simp [sqS, DL.sM, ifS, DL.M.bind_def, opt, getV, getO, peek, putO, nxO, updO, setIxD, ixD, addD, subD, mulD2, mulD, fdivD, fdivW, modD, powD, lenD, absD, max2D, min2D, DL.intD, eqD, neD, ltD, leD, gtD, geD, intC, isD, nisD, isB, isNone, inD, ninD, chainM, boolOf, truD, negD, tupleD, listD, partOf, slD, DL.strOf, sidxD, revLD, range1, range2, lrgD, itemsOf, enumD, zipD, revSD, getS, peekS, callM, okM, toldR, frzs, frz, wipeE, lcM, resE, h0, hlq, hl0, hl, hl', eqB_int]
end K34

namespace K34
open PySem PySem.Spec PyProof.Rows L2 DL
abbrev Qm := Int × Fr
def QOk (q : Qm) : Prop := 1 ≤ q.1 ∧ q.1 ≤ 30 ∧ MOk q.2
abbrev Un (e : Fr) (q : Qm) : Fr := under e q.1 q.2
abbrev Ab (e : Fr) (q : Qm) : Fr := above e q.1 q.2
abbrev Lm (a b : Qm) : Fr := lim a.1 b.1 a.2 b.2
theorem mul_bd {a b A B : Int} (h0 : 0 ≤ a) (h1 : a ≤ A) (h2 : 0 ≤ b) (h3 : b ≤ B) : 0 ≤ a * b ∧ a * b ≤ A * B :=
  ⟨Int.mul_nonneg h0 h2, Int.mul_le_mul h1 h3 h2 (Int.le_trans h0 h1)⟩
theorem fr_bd {t b : Int} (ht : -(2 ^ 64) < t ∧ t < 2 ^ 64) (hb : 0 < b ∧ b < 2 ^ 64) : Bd (fr t b) := by
  have h1 := @fr_le1 t b hb.1
  have h2 := @fr_le2 t b hb.1
  have h3 := @fr_pos t b hb.1
  unfold Bd
  omega
structure UB (e : Fr) (q : Qm) : Prop where
  d1 : 0 < q.2.2 * (q.1 * e.2 + e.1)
  d2 : q.2.2 * (q.1 * e.2 + e.1) < 2 ^ 64
  t1 : 0 < q.2.1 * e.2
  t2 : q.2.1 * e.2 < 2 ^ 64
  r2 : q.2.2 * (q.1 * e.2 - e.1) < 2 ^ 64
  r3 : 0 < q.1 * e.2 - e.1 → 0 < q.2.2 * (q.1 * e.2 - e.1)
theorem ub {e : Fr} {q : Qm} (he : EOk e) (hq : QOk q) : UB e q := by
  obtain ⟨e0, e1, e2, e3⟩ := he
  obtain ⟨q1, q2, m1, m2, m3, m4⟩ := hq
  have a1 := mul_bd (a := q.2.1) (b := e.2) (A := 32768) (B := 2 ^ 40) (by omega) m3 (by omega) e3
  have a2 := mul_bd (a := q.1) (b := e.2) (A := 30) (B := 2 ^ 40) (by omega) q2 (by omega) e3
  have a3 := mul_bd (a := q.2.2) (b := q.1 * e.2 + e.1) (A := 32768) (B := 30 * 2 ^ 40 + 2 ^ 40) (by omega) (by omega) (by omega) (by omega)
  have p1 : 0 < q.1 * e.2 := Int.mul_pos (by omega) e1
  have p2 : 0 < q.2.2 * (q.1 * e.2 + e.1) := Int.mul_pos m2 (by omega)
  have p3 : q.2.2 * (q.1 * e.2 - e.1) ≤ q.2.2 * (q.1 * e.2 + e.1) := Int.mul_le_mul_of_nonneg_left (by omega) (by omega)
  exact ⟨p2, by omega, Int.mul_pos m1 e1, by omega, by omega, fun h => Int.mul_pos m2 h⟩
theorem un_bd {e : Fr} {q : Qm} (he : EOk e) (hq : QOk q) : Bd (Un e q) := by
  have u := ub he hq
  exact fr_bd ⟨by have := u.t1; omega, u.t2⟩ ⟨u.d1, u.d2⟩
theorem ab_bd {e : Fr} {q : Qm} (he : EOk e) (hq : QOk q) (hr : 0 < q.1 * e.2 - e.1) : Bd (Ab e q) := by
  have u := ub he hq
  exact fr_bd ⟨by have := u.t1; omega, u.t2⟩ ⟨u.r3 hr, u.r2⟩
theorem un_pos {e : Fr} {q : Qm} (he : EOk e) (hq : QOk q) : 0 < (Un e q).2 := (un_bd he hq).2.2.1
theorem ab_pos {e : Fr} {q : Qm} (he : EOk e) (hq : QOk q) (hr : 0 < q.1 * e.2 - e.1) : 0 < (Ab e q).2 := (ab_bd he hq hr).2.2.1
def Cb (e : Fr) (qs : List Qm) : Bool := qs.all fun a => qs.all fun b => !decide (lt e (Lm a b))
theorem cb_iff {e : Fr} {qs : List Qm} : Cb e qs = true ↔ ∀ a ∈ qs, ∀ b ∈ qs, ¬ lt e (Lm a b) := by
  unfold Cb
  simp
def OMx (L : List Fr) : Option Fr → Prop
  | none => L = []
  | some x => IsMx L x
def OMn (L : List Fr) : Option Fr → Prop
  | none => L = []
  | some x => IsMn L x
def mxo : Option Fr → Fr → Fr
  | none, u => u
  | some l, u => if lt l u then u else l
def mno : Option Fr → Fr → Fr
  | none, u => u
  | some l, u => if lt u l then u else l
theorem omx_step {L : List Fr} {o : Option Fr} {u : Fr} (hp : ∀ z ∈ L, 0 < z.2) (hu : 0 < u.2) (h : OMx L o) : IsMx (L ++ [u]) (mxo o u) := by
  cases o with
  | none => rw [show L = [] from h]; exact mx_one u
  | some x => exact mx_step hp hu h
theorem omn_step {L : List Fr} {o : Option Fr} {u : Fr} (hp : ∀ z ∈ L, 0 < z.2) (hu : 0 < u.2) (h : OMn L o) : IsMn (L ++ [u]) (mno o u) := by
  cases o with
  | none => rw [show L = [] from h]; exact mn_one u
  | some x => exact mn_step hp hu h
/-! ### unit_ends -/
def ofr : Option Fr → Option SV
  | none => some (.val .none)
  | some f => some (.val (frD f))
def qD (q : Qm) : D := .tuple [.int q.1, frD q.2]
def ρu (p : Pat) (e : Fr) (ms : List Fr) (lo hi : Option Fr) (w m u a : Option SV) : DL.Env := [some (.val (patD p)), some (.val (frD e)), some (.val (msD ms)), iv e.1, iv e.2, ofr lo, ofr hi, w, m, u, a]
theorem ue_body {p : Pat} {e : Fr} {ms : List Fr} {lo hi : Option Fr} {q : Qm} (he : EOk e) (hq : QOk q) (hr : 0 < q.1 * e.2 - e.1) (hlo : ∀ x, lo = some x → Bd x) (hhi : ∀ x, hi = some x → Bd x) :
    lb_unit_ends_4 (ρu p e ms lo hi (iv q.1) (some (.val (frD q.2))) none none) = .nx (ρu p e ms (some (mxo lo (Un e q))) (some (mno hi (Ab e q))) (iv q.1) (some (.val (frD q.2))) (some (.val (frD (Un e q)))) (some (.val (frD (Ab e q))))) := by
  have u := ub he hq
  have f1 : F_fraction [.int (q.2.1 * e.2), .int (q.2.2 * (q.1 * e.2 + e.1))] = .ok (frD (Un e q)) := fr_spec _ _ u.d1 u.d2
  have f2 : F_fraction [.int (q.2.1 * e.2), .int (q.2.2 * (q.1 * e.2 - e.1))] = .ok (frD (Ab e q)) := fr_spec _ _ (u.r3 hr) u.r2
  obtain ⟨q1, q2, m1, m2, m3, m4⟩ := id hq
  have o1 : ∀ x, mulOk q.2.1 x = true := fun x => mulOk_b (by omega)
  have o2 : ∀ x, mulOk q.2.2 x = true := fun x => mulOk_b (by omega)
  have o3 : ∀ x, mulOk q.1 x = true := fun x => mulOk_b (by omega)
  have b1 := un_bd he hq
  have b2 := ab_bd he hq hr
  generalize Un e q = U at *
  generalize Ab e q = A at *
  unfold lb_unit_ends_4 ρu
  generalize patD p = pd
  generalize msD ms = md
  cases lo with
  | none =>
    cases hi with
    | none => simp [sqS, DL.sM, ifS, DL.M.bind_def, opt, getV, getO, peek, putO, nxO, updO, setIxD, ixD, addD, subD, mulD2, mulD, fdivD, fdivW, modD, powD, lenD, absD, max2D, min2D, DL.intD, eqD, neD, ltD, leD, gtD, geD, intC, isD, nisD, isB, isNone, inD, ninD, chainM, boolOf, truD, negD, tupleD, listD, partOf, slD, DL.strOf, sidxD, revLD, range1, range2, lrgD, itemsOf, enumD, zipD, revSD, getS, peekS, callM, okM, toldR, frzs, frz, wipeE, lcM, resE, iv, ofr, at0, at1, o1, o2, o3, f1, f2, mxo, mno]
    | some h =>
      have g2 := less_spec A h b2 (hhi h rfl)
      by_cases c : lt A h
      · simp [sqS, DL.sM, ifS, DL.M.bind_def, opt, getV, getO, peek, putO, nxO, updO, setIxD, ixD, addD, subD, mulD2, mulD, fdivD, fdivW, modD, powD, lenD, absD, max2D, min2D, DL.intD, eqD, neD, ltD, leD, gtD, geD, intC, isD, nisD, isB, isNone, inD, ninD, chainM, boolOf, truD, negD, tupleD, listD, partOf, slD, DL.strOf, sidxD, revLD, range1, range2, lrgD, itemsOf, enumD, zipD, revSD, getS, peekS, callM, okM, toldR, frzs, frz, wipeE, lcM, resE, iv, ofr, at0, at1, o1, o2, o3, f1, f2, mxo, mno, g2, c]
      · simp [sqS, DL.sM, ifS, DL.M.bind_def, opt, getV, getO, peek, putO, nxO, updO, setIxD, ixD, addD, subD, mulD2, mulD, fdivD, fdivW, modD, powD, lenD, absD, max2D, min2D, DL.intD, eqD, neD, ltD, leD, gtD, geD, intC, isD, nisD, isB, isNone, inD, ninD, chainM, boolOf, truD, negD, tupleD, listD, partOf, slD, DL.strOf, sidxD, revLD, range1, range2, lrgD, itemsOf, enumD, zipD, revSD, getS, peekS, callM, okM, toldR, frzs, frz, wipeE, lcM, resE, iv, ofr, at0, at1, o1, o2, o3, f1, f2, mxo, mno, g2, c]
  | some l =>
    have g1 := less_spec l U (hlo l rfl) b1
    cases hi with
    | none =>
      by_cases c : lt l U
      · simp [sqS, DL.sM, ifS, DL.M.bind_def, opt, getV, getO, peek, putO, nxO, updO, setIxD, ixD, addD, subD, mulD2, mulD, fdivD, fdivW, modD, powD, lenD, absD, max2D, min2D, DL.intD, eqD, neD, ltD, leD, gtD, geD, intC, isD, nisD, isB, isNone, inD, ninD, chainM, boolOf, truD, negD, tupleD, listD, partOf, slD, DL.strOf, sidxD, revLD, range1, range2, lrgD, itemsOf, enumD, zipD, revSD, getS, peekS, callM, okM, toldR, frzs, frz, wipeE, lcM, resE, iv, ofr, at0, at1, o1, o2, o3, f1, f2, mxo, mno, g1, c]
      · simp [sqS, DL.sM, ifS, DL.M.bind_def, opt, getV, getO, peek, putO, nxO, updO, setIxD, ixD, addD, subD, mulD2, mulD, fdivD, fdivW, modD, powD, lenD, absD, max2D, min2D, DL.intD, eqD, neD, ltD, leD, gtD, geD, intC, isD, nisD, isB, isNone, inD, ninD, chainM, boolOf, truD, negD, tupleD, listD, partOf, slD, DL.strOf, sidxD, revLD, range1, range2, lrgD, itemsOf, enumD, zipD, revSD, getS, peekS, callM, okM, toldR, frzs, frz, wipeE, lcM, resE, iv, ofr, at0, at1, o1, o2, o3, f1, f2, mxo, mno, g1, c]
    | some h =>
      have g2 := less_spec A h b2 (hhi h rfl)
      by_cases c : lt l U
      · by_cases c2 : lt A h
        · simp [sqS, DL.sM, ifS, DL.M.bind_def, opt, getV, getO, peek, putO, nxO, updO, setIxD, ixD, addD, subD, mulD2, mulD, fdivD, fdivW, modD, powD, lenD, absD, max2D, min2D, DL.intD, eqD, neD, ltD, leD, gtD, geD, intC, isD, nisD, isB, isNone, inD, ninD, chainM, boolOf, truD, negD, tupleD, listD, partOf, slD, DL.strOf, sidxD, revLD, range1, range2, lrgD, itemsOf, enumD, zipD, revSD, getS, peekS, callM, okM, toldR, frzs, frz, wipeE, lcM, resE, iv, ofr, at0, at1, o1, o2, o3, f1, f2, mxo, mno, g1, g2, c, c2]
        · simp [sqS, DL.sM, ifS, DL.M.bind_def, opt, getV, getO, peek, putO, nxO, updO, setIxD, ixD, addD, subD, mulD2, mulD, fdivD, fdivW, modD, powD, lenD, absD, max2D, min2D, DL.intD, eqD, neD, ltD, leD, gtD, geD, intC, isD, nisD, isB, isNone, inD, ninD, chainM, boolOf, truD, negD, tupleD, listD, partOf, slD, DL.strOf, sidxD, revLD, range1, range2, lrgD, itemsOf, enumD, zipD, revSD, getS, peekS, callM, okM, toldR, frzs, frz, wipeE, lcM, resE, iv, ofr, at0, at1, o1, o2, o3, f1, f2, mxo, mno, g1, g2, c, c2]
      · by_cases c2 : lt A h
        · simp [sqS, DL.sM, ifS, DL.M.bind_def, opt, getV, getO, peek, putO, nxO, updO, setIxD, ixD, addD, subD, mulD2, mulD, fdivD, fdivW, modD, powD, lenD, absD, max2D, min2D, DL.intD, eqD, neD, ltD, leD, gtD, geD, intC, isD, nisD, isB, isNone, inD, ninD, chainM, boolOf, truD, negD, tupleD, listD, partOf, slD, DL.strOf, sidxD, revLD, range1, range2, lrgD, itemsOf, enumD, zipD, revSD, getS, peekS, callM, okM, toldR, frzs, frz, wipeE, lcM, resE, iv, ofr, at0, at1, o1, o2, o3, f1, f2, mxo, mno, g1, g2, c, c2]
        · simp [sqS, DL.sM, ifS, DL.M.bind_def, opt, getV, getO, peek, putO, nxO, updO, setIxD, ixD, addD, subD, mulD2, mulD, fdivD, fdivW, modD, powD, lenD, absD, max2D, min2D, DL.intD, eqD, neD, ltD, leD, gtD, geD, intC, isD, nisD, isB, isNone, inD, ninD, chainM, boolOf, truD, negD, tupleD, listD, partOf, slD, DL.strOf, sidxD, revLD, range1, range2, lrgD, itemsOf, enumD, zipD, revSD, getS, peekS, callM, okM, toldR, frzs, frz, wipeE, lcM, resE, iv, ofr, at0, at1, o1, o2, o3, f1, f2, mxo, mno, g1, g2, c, c2]
theorem rest_pos {e : Fr} {q : Qm} (h1 : e.1 < e.2) (h0 : 0 ≤ e.1) (hq : QOk q) : 0 < q.1 * e.2 - e.1 := by
  have : 1 * e.2 ≤ q.1 * e.2 := Int.mul_le_mul_of_nonneg_right hq.1 (by omega)
  omega
theorem ue_loop {p : Pat} {e : Fr} {ms : List Fr} (he : EOk e) (h1 : e.1 < e.2) : ∀ (qs pre : List Qm) (lo hi : Option Fr), (∀ q ∈ pre, QOk q) → (∀ q ∈ qs, QOk q) → OMx (pre.map (Un e)) lo → OMn (pre.map (Ab e)) hi →
    ∃ lo' hi', forS [7, 8, 9, 10] tg_unit_ends_3 lb_unit_ends_4 (qs.map qD) (ρu p e ms lo hi none none none none) = .nx (ρu p e ms lo' hi' none none none none) ∧ OMx ((pre ++ qs).map (Un e)) lo' ∧ OMn ((pre ++ qs).map (Ab e)) hi'
  | [], pre, lo, hi, _, _, h2, h3 => ⟨lo, hi, rfl, by rw [List.append_nil]; exact h2, by rw [List.append_nil]; exact h3⟩
  | q :: qs, pre, lo, hi, hp, hq, h2, h3 => by
    have hq0 := hq q List.mem_cons_self
    have hr := fun z (hz : QOk z) => rest_pos h1 he.1 hz
    have pU : ∀ z ∈ pre.map (Un e), Bd z := fun z hz => by
      obtain ⟨y, hy, rfl⟩ := List.mem_map.mp hz
      exact un_bd he (hp y hy)
    have pA : ∀ z ∈ pre.map (Ab e), Bd z := fun z hz => by
      obtain ⟨y, hy, rfl⟩ := List.mem_map.mp hz
      exact ab_bd he (hp y hy) (hr y (hp y hy))
    have hb := ue_body (p := p) (ms := ms) (lo := lo) (hi := hi) he hq0 (hr q hq0) (fun x hx => by subst hx; exact pU x h2.1) (fun x hx => by subst hx; exact pA x h3.1)
    have s1 := omx_step (u := Un e q) (fun z hz => (pU z hz).2.2.1) (un_pos he hq0) h2
    have s2 := omn_step (u := Ab e q) (fun z hz => (pA z hz).2.2.1) (ab_pos he hq0 (hr q hq0)) h3
    obtain ⟨lo', hi', e1, e2, e3⟩ := ue_loop (p := p) (ms := ms) he h1 qs (pre ++ [q]) (some (mxo lo (Un e q))) (some (mno hi (Ab e q))) (fun z hz => by
      rcases List.mem_append.mp hz with hz | hz
      · exact hp z hz
      · rw [List.mem_singleton.mp hz]; exact hq0) (fun z hz => hq z (List.mem_cons_of_mem _ hz)) (by rw [List.map_append]; exact s1) (by rw [List.map_append]; exact s2)
    rw [List.append_assoc] at e2 e3
    refine ⟨lo', hi', ?_, e2, e3⟩
    rw [List.map_cons, forS_nx (ρ1 := ρu p e ms lo hi (iv q.1) (some (.val (frD q.2))) none none) rfl hb]
    exact e1
theorem zip_qs : ∀ (p : Pat) (ms : List Fr), zipL (p.map PyData.int) (ms.map frD) = (p.zip ms).map qD
  | [], ms => by simp [zipL]
  | a :: p, [] => by simp [zipL]
  | a :: p, m :: ms => by
    have := zip_qs p ms
    unfold zipL at this ⊢
    rw [List.map_cons, List.map_cons, List.zipWith_cons_cons, this]
    rfl
theorem unit_ends_spec {p : Pat} {e : Fr} {ms : List Fr} (he : EOk e) (h1 : e.1 < e.2) (hq : ∀ q ∈ p.zip ms, QOk q) (hne : p.zip ms ≠ []) :
    ∃ lo hi, F_unit_ends [patD p, frD e, msD ms] = .ok (.tuple [frD lo, frD hi]) ∧ IsMx ((p.zip ms).map (Un e)) lo ∧ IsMn ((p.zip ms).map (Ab e)) hi := by
  obtain ⟨lo, hi, e1, e2, e3⟩ := ue_loop (p := p) (ms := ms) he h1 (p.zip ms) [] none none (fun q h => by cases h) hq rfl rfl
  rw [List.nil_append] at e2 e3
  cases lo with
  | none => exact absurd (List.map_eq_nil_iff.mp e2) hne
  | some lo =>
    cases hi with
    | none => exact absurd (List.map_eq_nil_iff.mp e3) hne
    | some hi =>
      refine ⟨lo, hi, ?_, e2, e3⟩
      rw [← zip_qs] at e1
      unfold ρu patD msD at e1
      unfold F_unit_ends DL.fdOf DL.env0 g_unit_ends patD msD
      generalize p.map PyData.int = pd at *
      generalize ms.map frD = md at *
      simp only [iv, ofr] at e1
      simp [sqS, DL.sM, ifS, DL.M.bind_def, opt, getV, getO, peek, putO, nxO, updO, setIxD, ixD, addD, subD, mulD2, mulD, fdivD, fdivW, modD, powD, lenD, absD, max2D, min2D, DL.intD, eqD, neD, ltD, leD, gtD, geD, intC, isD, nisD, isB, isNone, inD, ninD, chainM, boolOf, truD, negD, tupleD, listD, partOf, slD, DL.strOf, sidxD, revLD, range1, range2, lrgD, itemsOf, enumD, zipD, revSD, getS, peekS, callM, okM, toldR, frzs, frz, wipeE, lcM, resE, tg_unit_ends_1, tg_unit_ends_2, e1]
theorem ends_cb {p : Pat} {e : Fr} {ms : List Fr} {lo hi : Fr} (he : EOk e) (h1 : e.1 < e.2) (hq : ∀ q ∈ p.zip ms, QOk q) (hlo : IsMx ((p.zip ms).map (Un e)) lo) (hhi : IsMn ((p.zip ms).map (Ab e)) hi) :
    Bd lo ∧ Bd hi ∧ (decide (lt hi lo) = !Cb e (p.zip ms)) := by
  generalize p.zip ms = qs at *
  have hr := fun z (hz : QOk z) => rest_pos h1 he.1 hz
  have pU : ∀ z ∈ qs.map (Un e), Bd z := fun z hz => by
    obtain ⟨y, hy, rfl⟩ := List.mem_map.mp hz
    exact un_bd he (hq y hy)
  have pA : ∀ z ∈ qs.map (Ab e), Bd z := fun z hz => by
    obtain ⟨y, hy, rfl⟩ := List.mem_map.mp hz
    exact ab_bd he (hq y hy) (hr y (hq y hy))
  refine ⟨pU _ hlo.1, pA _ hhi.1, ?_⟩
  have k := mn_mx hlo hhi (fun z hz => (pU z hz).2.2.1) (fun z hz => (pA z hz).2.2.1)
  have k2 : ¬ lt hi lo ↔ Cb e qs = true := by
    rw [k, cb_iff]
    constructor
    · intro h a ha b hb
      have := h _ (List.mem_map.mpr ⟨b, hb, rfl⟩) _ (List.mem_map.mpr ⟨a, ha, rfl⟩)
      rwa [pair_iff ⟨he.1, he.2.1⟩ (hq a ha).1 ⟨(hq a ha).2.2.1, (hq a ha).2.2.2.1⟩ ⟨(hq b hb).2.2.1, (hq b hb).2.2.2.1⟩ (hr b (hq b hb))] at this
    · intro h z hz y hy
      obtain ⟨b, hb, rfl⟩ := List.mem_map.mp hz
      obtain ⟨a, ha, rfl⟩ := List.mem_map.mp hy
      rw [pair_iff ⟨he.1, he.2.1⟩ (hq a ha).1 ⟨(hq a ha).2.2.1, (hq a ha).2.2.2.1⟩ ⟨(hq b hb).2.2.1, (hq b hb).2.2.2.1⟩ (hr b (hq b hb))]
      exact h a ha b hb
  cases hc : Cb e qs with
  | true => rw [hc] at k2; simp [k2.mpr rfl]
  | false =>
    rw [hc] at k2
    have : lt hi lo := Classical.byContradiction fun c => by have := k2.mp c; cases this
    simp [this]
end K34

namespace K34
open PySem PySem.Spec PyProof.Rows L2 DL
/-! ### readings -/
def MsOk (ms : List Fr) (bars : Nat) : Prop := ms.length = bars ∧ (∀ m ∈ ms, MOk m ∧ Int.gcd m.1 m.2 = 1)
theorem zip_ok {P : List Pat} {bars : Nat} {ms : List Fr} (h : PsOk P bars) (hm : MsOk ms bars) {p : Pat} (hp : p ∈ P) : (∀ q ∈ p.zip ms, QOk q) ∧ p.zip ms ≠ [] := by
  refine ⟨fun q hq => ?_, fun hz => ?_⟩
  · have h1 := List.of_mem_zip (a := q.1) (b := q.2) hq
    have h2 := h.wid p hp q.1 h1.1
    exact ⟨h2.1, h2.2, (hm.2 q.2 h1.2).1⟩
  · have h1 := h.len p hp
    have h2 := hm.1
    have h3 := h.b1
    have := congrArg List.length hz
    rw [List.length_zip, h1, h2] at this
    simp at this
    omega
theorem ms_all {ms : List Fr} {bars : Nat} (h : MsOk ms bars) : ms.all frOk = true := by
  rw [List.all_eq_true]
  intro m hm
  have h1 := h.2 m hm
  obtain ⟨⟨a, b, c, d⟩, g⟩ := h1
  unfold frOk
  simp [a, g]
  omega
def dueL (P : List Pat) (e : Fr) (ms : List Fr) : List Int := (P.zipIdx.filter fun q => Cb e (q.1.zip ms)).map fun q => (q.2 : Int)
def eD (q : Pat × Nat) : D := .tuple [.int (q.2 : Nat), patD q.1]
theorem enum_pats (P : List Pat) : enumL (P.map patD) = P.zipIdx.map eD := by
  unfold enumL
  rw [List.zipIdx_map, List.map_map]
  rfl
def ρr (pd e md : D) (found : List Int) (a b c d : Option SV) : DL.Env := [some (.val pd), some (.val e), some (.val md), some (.own false (.list (found.map .int))), a, b, c, d]
theorem rd_body {P : List Pat} {bars : Nat} {e : Fr} {ms : List Fr} (h : PsOk P bars) (hm : MsOk ms bars) (he : EOk e) (h1 : e.1 < e.2) {q : Pat × Nat} (hq : q.1 ∈ P) (found : List Int) (hf : found.length < 1000000) :
    ∃ lo hi, lb_readings_3 (ρr (patsD P) (frD e) (msD ms) found (iv (q.2 : Nat)) (some (.val (patD q.1))) none none) = .nx (ρr (patsD P) (frD e) (msD ms) (found ++ (if Cb e (q.1.zip ms) then [(q.2 : Int)] else [])) (iv (q.2 : Nat)) (some (.val (patD q.1))) lo hi) := by
  have z := zip_ok h hm hq
  obtain ⟨lo, hi, f, e1, e2⟩ := unit_ends_spec he h1 z.1 z.2
  obtain ⟨b1, b2, c⟩ := ends_cb he h1 z.1 e1 e2
  have g := less_spec hi lo b2 b1
  refine ⟨some (.val (frD lo)), some (.val (frD hi)), ?_⟩
  unfold lb_readings_3 ρr
  generalize patsD P = pd at *
  generalize patD q.1 = qd at *
  generalize msD ms = md at *
  rw [c] at g
  cases hc : Cb e (q.1.zip ms) with
  | true =>
    rw [hc] at g
    simp [sqS, DL.sM, ifS, DL.M.bind_def, opt, getV, getO, peek, putO, nxO, updO, setIxD, ixD, addD, subD, mulD2, mulD, fdivD, fdivW, modD, powD, lenD, absD, max2D, min2D, DL.intD, eqD, neD, ltD, leD, gtD, geD, intC, isD, nisD, isB, isNone, inD, ninD, chainM, boolOf, truD, negD, tupleD, listD, partOf, slD, DL.strOf, sidxD, revLD, range1, range2, lrgD, itemsOf, enumD, zipD, revSD, getS, peekS, callM, okM, toldR, frzs, frz, wipeE, lcM, resE, iv, f, g, tg_readings_2, hf]
  | false =>
    rw [hc] at g
    simp [sqS, DL.sM, ifS, DL.M.bind_def, opt, getV, getO, peek, putO, nxO, updO, setIxD, ixD, addD, subD, mulD2, mulD, fdivD, fdivW, modD, powD, lenD, absD, max2D, min2D, DL.intD, eqD, neD, ltD, leD, gtD, geD, intC, isD, nisD, isB, isNone, inD, ninD, chainM, boolOf, truD, negD, tupleD, listD, partOf, slD, DL.strOf, sidxD, revLD, range1, range2, lrgD, itemsOf, enumD, zipD, revSD, getS, peekS, callM, okM, toldR, frzs, frz, wipeE, lcM, resE, iv, f, g, tg_readings_2, hf]
theorem rd_loop {P : List Pat} {bars : Nat} {e : Fr} {ms : List Fr} (h : PsOk P bars) (hm : MsOk ms bars) (he : EOk e) (h1 : e.1 < e.2) : ∀ (qs : List (Pat × Nat)) (found : List Int), (∀ q ∈ qs, q.1 ∈ P) → found.length + qs.length ≤ 1000 →
    forS [4, 5, 6, 7] tg_readings_1 lb_readings_3 (qs.map eD) (ρr (patsD P) (frD e) (msD ms) found none none none none) = .nx (ρr (patsD P) (frD e) (msD ms) (found ++ (qs.filter fun q => Cb e (q.1.zip ms)).map fun q => (q.2 : Int)) none none none none)
  | [], found, _, _ => by simp; rfl
  | q :: qs, found, hq, hl => by
    rw [List.length_cons] at hl
    obtain ⟨lo, hi, hb⟩ := rd_body (q := q) h hm he h1 (hq q List.mem_cons_self) found (by omega)
    rw [List.map_cons, forS_nx (ρ1 := ρr (patsD P) (frD e) (msD ms) found (iv (q.2 : Nat)) (some (.val (patD q.1))) none none) rfl hb]
    have ih := rd_loop h hm he h1 qs (found ++ (if Cb e (q.1.zip ms) then [(q.2 : Int)] else [])) (fun z hz => hq z (List.mem_cons_of_mem _ hz)) (by
      rw [List.length_append]
      split <;> simp <;> omega)
    refine Eq.trans ih ?_
    rw [List.append_assoc]
    cases hc : Cb e (q.1.zip ms) with
    | true => simp [hc]
    | false => simp [hc]
theorem zipIdx_mem {P : List Pat} : ∀ q ∈ P.zipIdx, q.1 ∈ P := fun q hq => by
  have := List.mem_zipIdx hq
  rw [this.2.2]
  exact List.getElem_mem _
theorem eok_bd {e : Fr} (he : EOk e) : Bd e := by
  obtain ⟨a, b, c, d⟩ := he
  unfold Bd
  omega
theorem readings_spec {P : List Pat} {bars : Nat} {e : Fr} {ms : List Fr} (h : PsOk P bars) (hm : MsOk ms bars) (he : EOk e) (h1 : e.1 < e.2) (hg : Int.gcd e.1 e.2 = 1) :
    F_readings [patsD P, frD e, msD ms] = .ok (.list ((dueL P e ms).map .int)) := by
  have c1 := check_patterns_ok h
  have c2 := check_error_spec (eok_bd he)
  rw [if_pos ⟨by have := he.2.1; omega, hg, he.1, by unfold lt; simp; exact h1⟩] at c2
  have c3 := check_measures_spec h ms
  rw [if_pos ⟨hm.1, ms_all hm⟩] at c3
  have l := rd_loop h hm he h1 P.zipIdx [] zipIdx_mem (by have := h.n2; simp; omega)
  rw [List.nil_append, ← enum_pats] at l
  unfold ρr patsD at l
  rw [List.map_nil] at l
  unfold F_readings DL.fdOf DL.env0 g_readings
  unfold patsD at *
  unfold dueL
  generalize P.map patD = pd at *
  generalize msD ms = md at *
  generalize (List.map (fun q : Pat × Nat => (q.2 : Int)) (P.zipIdx.filter fun q => Cb e (q.1.zip ms))) = due at *
  simp [sqS, DL.sM, ifS, DL.M.bind_def, opt, getV, getO, peek, putO, nxO, updO, setIxD, ixD, addD, subD, mulD2, mulD, fdivD, fdivW, modD, powD, lenD, absD, max2D, min2D, DL.intD, eqD, neD, ltD, leD, gtD, geD, intC, isD, nisD, isB, isNone, inD, ninD, chainM, boolOf, truD, negD, tupleD, listD, partOf, slD, DL.strOf, sidxD, revLD, range1, range2, lrgD, itemsOf, enumD, zipD, revSD, getS, peekS, callM, okM, toldR, frzs, frz, wipeE, lcM, resE, c1, c2, c3, l]
theorem readings_er1 {P : List Pat} {bars : Nat} {e : Fr} (md : D) (h : PsOk P bars) (he : Bd e) (h1 : ¬ (1 ≤ e.2 ∧ Int.gcd e.1 e.2 = 1 ∧ 0 ≤ e.1 ∧ lt e (1, 1))) : F_readings [patsD P, frD e, md] = .er "NotAllowed" := by
  have c1 := check_patterns_ok h
  have c2 := check_error_spec he
  rw [if_neg h1] at c2
  unfold F_readings DL.fdOf DL.env0 g_readings
  generalize patsD P = pd at *
  simp [sqS, DL.sM, ifS, DL.M.bind_def, opt, getV, getO, peek, putO, nxO, updO, setIxD, ixD, addD, subD, mulD2, mulD, fdivD, fdivW, modD, powD, lenD, absD, max2D, min2D, DL.intD, eqD, neD, ltD, leD, gtD, geD, intC, isD, nisD, isB, isNone, inD, ninD, chainM, boolOf, truD, negD, tupleD, listD, partOf, slD, DL.strOf, sidxD, revLD, range1, range2, lrgD, itemsOf, enumD, zipD, revSD, getS, peekS, callM, okM, toldR, frzs, frz, wipeE, lcM, resE, c1, c2]
theorem readings_er2 {P : List Pat} {bars : Nat} {e : Fr} {ms : List Fr} (h : PsOk P bars) (he : EOk e) (h1 : e.1 < e.2) (hg : Int.gcd e.1 e.2 = 1) (hm : ¬ (ms.length = bars ∧ ms.all frOk = true)) : F_readings [patsD P, frD e, msD ms] = .er "NotAllowed" := by
  have c1 := check_patterns_ok h
  have c2 := check_error_spec (eok_bd he)
  rw [if_pos ⟨by have := he.2.1; omega, hg, he.1, by unfold lt; simp; exact h1⟩] at c2
  have c3 := check_measures_spec h ms
  rw [if_neg hm] at c3
  unfold F_readings DL.fdOf DL.env0 g_readings
  generalize patsD P = pd at *
  generalize msD ms = md at *
  simp [sqS, DL.sM, ifS, DL.M.bind_def, opt, getV, getO, peek, putO, nxO, updO, setIxD, ixD, addD, subD, mulD2, mulD, fdivD, fdivW, modD, powD, lenD, absD, max2D, min2D, DL.intD, eqD, neD, ltD, leD, gtD, geD, intC, isD, nisD, isB, isNone, inD, ninD, chainM, boolOf, truD, negD, tupleD, listD, partOf, slD, DL.strOf, sidxD, revLD, range1, range2, lrgD, itemsOf, enumD, zipD, revSD, getS, peekS, callM, okM, toldR, frzs, frz, wipeE, lcM, resE, c1, c2, c3]
/-! ### least_error -/
def LmOk (L : List Fr) : Prop := ∀ z ∈ L, Bd z
theorem lm_facts {a b : Qm} (ha : QOk a) (hb : QOk b) : 0 < limB a.2 b.2 ∧ limB a.2 b.2 < 2 ^ 64 ∧ -(2 ^ 64) < limT a.1 b.1 a.2 b.2 ∧ limT a.1 b.1 a.2 b.2 < 2 ^ 64 ∧ limB a.2 b.2 ≤ 2 ^ 23 ∧ (limT a.1 b.1 a.2 b.2).natAbs ≤ 2 ^ 27 := by
  obtain ⟨a1, a2, a3, a4, a5, a6⟩ := ha
  obtain ⟨b1, b2, b3, b4, b5, b6⟩ := hb
  have p := limB_pos (m := a.2) (n := b.2) ⟨a3, a4⟩ ⟨b3, b4⟩
  have m1 := mul_bd (a := a.2.1) (b := b.2.2) (A := 32768) (B := 128) (by omega) a5 (by omega) b6
  have m2 := mul_bd (a := b.2.1) (b := a.2.2) (A := 32768) (B := 128) (by omega) b5 (by omega) a6
  have m3 := mul_bd (a := b.1) (b := a.2.1 * b.2.2) (A := 30) (B := 32768 * 128) (by omega) b2 m1.1 m1.2
  have m4 := mul_bd (a := a.1) (b := b.2.1 * a.2.2) (A := 30) (B := 32768 * 128) (by omega) a2 m2.1 m2.2
  unfold limB limT at *
  rw [Int.mul_assoc, Int.mul_assoc]
  omega
theorem lm_bd {a b : Qm} (ha : QOk a) (hb : QOk b) : Bd (Lm a b) := by
  have f := lm_facts ha hb
  exact fr_bd ⟨f.2.2.1, f.2.2.2.1⟩ ⟨f.1, f.2.1⟩
def ρe (pd : D) (pl : Int) (md : D) (p : Pat) (best : Fr) (a b c d e f : Option SV) : DL.Env := [some (.val pd), iv pl, some (.val md), some (.val (patD p)), some (.val (frD best)), a, b, c, d, e, f]
theorem le_body {pd md : D} {pl : Int} {p : Pat} {best : Fr} {a b : Qm × Nat} (ha : QOk a.1) (hb : QOk b.1) (hpa : p[a.2]? = some a.1.1) (hpb : p[b.2]? = some b.1.1) (hbest : Bd best) :
    ∃ t, lb_least_error_3 (ρe pd pl md p best (iv (a.2 : Nat)) (some (.val (frD a.1.2))) (iv (b.2 : Nat)) (some (.val (frD b.1.2))) none none) = .nx (ρe pd pl md p (if lt best (Lm a.1 b.1) then Lm a.1 b.1 else best) (iv (a.2 : Nat)) (some (.val (frD a.1.2))) (iv (b.2 : Nat)) (some (.val (frD b.1.2))) t (some (.val (frD (Lm a.1 b.1))))) := by
  have f := lm_facts ha hb
  have f1 : F_fraction [.int (limT a.1.1 b.1.1 a.1.2 b.1.2), .int (limB a.1.2 b.1.2)] = .ok (frD (Lm a.1 b.1)) := fr_spec _ _ f.1 f.2.1
  have g := less_spec best (Lm a.1 b.1) hbest (lm_bd ha hb)
  have x1 : L2.atI (p.map PyData.int) (a.2 : Nat) = some (.int a.1.1) := by rw [at_n, List.getElem?_map, hpa]; rfl
  have x2 : L2.atI (p.map PyData.int) (b.2 : Nat) = some (.int b.1.1) := by rw [at_n, List.getElem?_map, hpb]; rfl
  obtain ⟨a1, a2, a3, a4, a5, a6⟩ := ha
  obtain ⟨b1, b2, b3, b4, b5, b6⟩ := hb
  have o1 : ∀ x, mulOk a.1.1 x = true := fun x => mulOk_b (by omega)
  have o2 : ∀ x, mulOk b.1.1 x = true := fun x => mulOk_b (by omega)
  have o3 : ∀ x, mulOk a.1.2.1 x = true := fun x => mulOk_b (by omega)
  have o4 : ∀ x, mulOk b.1.2.1 x = true := fun x => mulOk_b (by omega)
  have o5 : ∀ x, mulOk x a.1.2.2 = true := fun x => mulOk_b2 (by omega)
  have o6 : ∀ x, mulOk x b.1.2.2 = true := fun x => mulOk_b2 (by omega)
  unfold limT limB at f1
  refine ⟨some (.val (.int (limT a.1.1 b.1.1 a.1.2 b.1.2))), ?_⟩
  unfold limT
  generalize Lm a.1 b.1 = L at *
  unfold lb_least_error_3 ρe
  unfold patD
  generalize p.map PyData.int = q at *
  by_cases c : lt best L
  · simp [sqS, DL.sM, ifS, DL.M.bind_def, opt, getV, getO, peek, putO, nxO, updO, setIxD, ixD, addD, subD, mulD2, mulD, fdivD, fdivW, modD, powD, lenD, absD, max2D, min2D, DL.intD, eqD, neD, ltD, leD, gtD, geD, intC, isD, nisD, isB, isNone, inD, ninD, chainM, boolOf, truD, negD, tupleD, listD, partOf, slD, DL.strOf, sidxD, revLD, range1, range2, lrgD, itemsOf, enumD, zipD, revSD, getS, peekS, callM, okM, toldR, frzs, frz, wipeE, lcM, resE, iv, at0, at1, x1, x2, o1, o2, o3, o4, o5, o6, f1, g, c]
  · simp [sqS, DL.sM, ifS, DL.M.bind_def, opt, getV, getO, peek, putO, nxO, updO, setIxD, ixD, addD, subD, mulD2, mulD, fdivD, fdivW, modD, powD, lenD, absD, max2D, min2D, DL.intD, eqD, neD, ltD, leD, gtD, geD, intC, isD, nisD, isB, isNone, inD, ninD, chainM, boolOf, truD, negD, tupleD, listD, partOf, slD, DL.strOf, sidxD, revLD, range1, range2, lrgD, itemsOf, enumD, zipD, revSD, getS, peekS, callM, okM, toldR, frzs, frz, wipeE, lcM, resE, iv, at0, at1, x1, x2, o1, o2, o3, o4, o5, o6, f1, g, c]
def jD (q : Qm × Nat) : D := .tuple [.int (q.2 : Nat), frD q.1.2]
def IxOk (p : Pat) (qs : List (Qm × Nat)) : Prop := ∀ q ∈ qs, QOk q.1 ∧ p[q.2]? = some q.1.1
theorem le_inner {pd md : D} {pl : Int} {p : Pat} {a : Qm × Nat} (ha : QOk a.1) (hpa : p[a.2]? = some a.1.1) : ∀ (qs : List (Qm × Nat)) (best : Fr) (L : List Fr), IxOk p qs → LmOk L → IsMx L best →
    ∃ best', forS [7, 8, 9, 10] tg_least_error_2 lb_least_error_3 (qs.map jD) (ρe pd pl md p best (iv (a.2 : Nat)) (some (.val (frD a.1.2))) none none none none) = .nx (ρe pd pl md p best' (iv (a.2 : Nat)) (some (.val (frD a.1.2))) none none none none) ∧ LmOk (L ++ qs.map fun b => Lm a.1 b.1) ∧ IsMx (L ++ qs.map fun b => Lm a.1 b.1) best'
  | [], best, L, _, hL, h => ⟨best, rfl, by simpa using hL, by simpa using h⟩
  | b :: qs, best, L, hq, hL, h => by
    have hb := hq b List.mem_cons_self
    obtain ⟨t, e⟩ := le_body (pd := pd) (md := md) (pl := pl) ha hb.1 hpa hb.2 (hL _ h.1)
    have lb := lm_bd ha hb.1
    have s := mx_step (fun z hz => (hL z hz).2.2.1) lb.2.2.1 h
    obtain ⟨best', e1, e2, e3⟩ := le_inner (pd := pd) (md := md) (pl := pl) ha hpa qs _ (L ++ [Lm a.1 b.1]) (fun z hz => hq z (List.mem_cons_of_mem _ hz)) (fun z hz => by
      rcases List.mem_append.mp hz with hz | hz
      · exact hL z hz
      · rw [List.mem_singleton.mp hz]; exact lb) s
    rw [List.append_assoc] at e2 e3
    refine ⟨best', ?_, e2, e3⟩
    rw [List.map_cons, forS_nx (ρ1 := ρe pd pl md p best (iv (a.2 : Nat)) (some (.val (frD a.1.2))) (iv (b.2 : Nat)) (some (.val (frD b.1.2))) none none) rfl e]
    exact e1
theorem enum_qs {p : Pat} {ms : List Fr} (h : p.length = ms.length) : enumL (ms.map frD) = (p.zip ms).zipIdx.map jD := by
  have e : ms = (p.zip ms).map Prod.snd := (List.map_snd_zip (by omega)).symm
  generalize p.zip ms = qs at *
  subst e
  unfold enumL
  rw [List.zipIdx_map, List.zipIdx_map, List.map_map, List.map_map]
  rfl
theorem ix_ok {p : Pat} {ms : List Fr} (h : ∀ q ∈ p.zip ms, QOk q) : IxOk p (p.zip ms).zipIdx := fun q hq => by
  have := List.mem_zipIdx hq
  have h1 := this.2.1
  have h2 := this.2.2
  simp only [Nat.zero_add, Nat.sub_zero] at h1 h2
  refine ⟨?_, ?_⟩
  · rw [h2]
    exact h _ (List.getElem_mem _)
  · rw [h2, List.getElem_zip]
    rw [List.length_zip] at h1
    exact List.getElem?_eq_getElem (by omega)
end K34

namespace K34
open PySem PySem.Spec PyProof.Rows L2 DL
def lims (qs : List Qm) : List Fr := (0, 1) :: qs.flatMap fun a => qs.map fun b => Lm a b
theorem le_outer_body {pd : D} {pl : Int} {p : Pat} {ms : List Fr} (hl : p.length = ms.length) (hq : ∀ q ∈ p.zip ms, QOk q) {a : Qm × Nat} (ha : QOk a.1) (hpa : p[a.2]? = some a.1.1) {best : Fr} {L : List Fr} (hL : LmOk L) (h : IsMx L best) :
    ∃ best', lb_least_error_4 (ρe pd pl (msD ms) p best (iv (a.2 : Nat)) (some (.val (frD a.1.2))) none none none none) = .nx (ρe pd pl (msD ms) p best' (iv (a.2 : Nat)) (some (.val (frD a.1.2))) none none none none) ∧ LmOk (L ++ (p.zip ms).map fun b => Lm a.1 b) ∧ IsMx (L ++ (p.zip ms).map fun b => Lm a.1 b) best' := by
  obtain ⟨best', e1, e2, e3⟩ := le_inner (pd := pd) (md := msD ms) (pl := pl) ha hpa (p.zip ms).zipIdx best L (ix_ok hq) hL h
  have k : ((p.zip ms).zipIdx.map fun b => Lm a.1 b.1) = (p.zip ms).map fun b => Lm a.1 b := by
    have : ((p.zip ms).zipIdx.map fun b => Lm a.1 b.1) = ((p.zip ms).zipIdx.map Prod.fst).map fun b => Lm a.1 b := by rw [List.map_map]; rfl
    rw [this, List.zipIdx_map_fst]
  rw [k] at e2 e3
  refine ⟨best', ?_, e2, e3⟩
  rw [← enum_qs hl] at e1
  unfold ρe msD at e1
  unfold lb_least_error_4 ρe msD
  generalize ms.map frD = md at *
  generalize patD p = pp at *
  simp [sqS, DL.sM, ifS, DL.M.bind_def, opt, getV, getO, peek, putO, nxO, updO, setIxD, ixD, addD, subD, mulD2, mulD, fdivD, fdivW, modD, powD, lenD, absD, max2D, min2D, DL.intD, eqD, neD, ltD, leD, gtD, geD, intC, isD, nisD, isB, isNone, inD, ninD, chainM, boolOf, truD, negD, tupleD, listD, partOf, slD, DL.strOf, sidxD, revLD, range1, range2, lrgD, itemsOf, enumD, zipD, revSD, getS, peekS, callM, okM, toldR, frzs, frz, wipeE, lcM, resE, e1]
theorem le_outer {pd : D} {pl : Int} {p : Pat} {ms : List Fr} (hl : p.length = ms.length) (hq : ∀ q ∈ p.zip ms, QOk q) : ∀ (as : List (Qm × Nat)) (best : Fr) (L : List Fr), IxOk p as → LmOk L → IsMx L best →
    ∃ best', forS [5, 6, 7, 8, 9, 10] tg_least_error_1 lb_least_error_4 (as.map jD) (ρe pd pl (msD ms) p best none none none none none none) = .nx (ρe pd pl (msD ms) p best' none none none none none none) ∧ LmOk (L ++ as.flatMap fun a => (p.zip ms).map fun b => Lm a.1 b) ∧ IsMx (L ++ as.flatMap fun a => (p.zip ms).map fun b => Lm a.1 b) best'
  | [], best, L, _, hL, h => ⟨best, rfl, by simpa using hL, by simpa using h⟩
  | a :: as, best, L, hx, hL, h => by
    have ha := hx a List.mem_cons_self
    obtain ⟨b1, e, e2, e3⟩ := le_outer_body (pd := pd) (pl := pl) hl hq ha.1 ha.2 hL h
    obtain ⟨best', f1, f2, f3⟩ := le_outer (pd := pd) (pl := pl) hl hq as b1 _ (fun z hz => hx z (List.mem_cons_of_mem _ hz)) e2 e3
    rw [List.append_assoc] at f2 f3
    refine ⟨best', ?_, by rw [List.flatMap_cons]; exact f2, by rw [List.flatMap_cons]; exact f3⟩
    rw [List.map_cons, forS_nx (ρ1 := ρe pd pl (msD ms) p best (iv (a.2 : Nat)) (some (.val (frD a.1.2))) none none none none) rfl e]
    exact f1
theorem bd01 : Bd (0, 1) := ⟨by decide, by decide, by decide, by decide⟩
theorem least_spec {P : List Pat} {bars : Nat} {ms : List Fr} {pl : Nat} {p : Pat} (h : PsOk P bars) (hm : MsOk ms bars) (hp : P[pl]? = some p) :
    ∃ best, F_least_error [patsD P, .int pl, msD ms] = .ok (frD best) ∧ LmOk (lims (p.zip ms)) ∧ IsMx (lims (p.zip ms)) best := by
  have hpm : p ∈ P := List.mem_of_getElem? hp
  have z := zip_ok h hm hpm
  have hl : p.length = ms.length := by rw [h.len p hpm, hm.1]
  have hlt : pl < P.length := (List.getElem?_eq_some_iff.mp hp).1
  obtain ⟨best, e1, e2, e3⟩ := le_outer (pd := patsD P) (pl := pl) hl z.1 (p.zip ms).zipIdx (0, 1) [(0, 1)] (ix_ok z.1) (fun y hy => by rw [List.mem_singleton.mp hy]; exact bd01) (mx_one _)
  have k : ((p.zip ms).zipIdx.flatMap fun a => (p.zip ms).map fun b => Lm a.1 b) = (p.zip ms).flatMap fun a => (p.zip ms).map fun b => Lm a b := by
    have : ((p.zip ms).zipIdx.flatMap fun a => (p.zip ms).map fun b => Lm a.1 b) = ((p.zip ms).zipIdx.map Prod.fst).flatMap fun a => (p.zip ms).map fun b => Lm a b := by rw [List.flatMap_map]
    rw [this, List.zipIdx_map_fst]
  rw [k] at e2 e3
  refine ⟨best, ?_, e2, e3⟩
  have c1 := check_patterns_ok h
  have c3 := check_measures_spec h ms
  rw [if_pos ⟨hm.1, ms_all hm⟩] at c3
  have x : L2.atI (P.map patD) (pl : Int) = some (patD p) := by rw [at_n, List.getElem?_map, hp]; rfl
  have hlt' : (pl : Int) < P.length := by omega
  have hlq : (P.map patD).length = P.length := List.length_map ..
  rw [← enum_qs hl] at e1
  unfold ρe at e1
  simp only [iv] at e1
  unfold F_least_error DL.fdOf DL.env0 g_least_error
  unfold patsD msD at *
  generalize P.map patD = pd at *
  generalize ms.map frD = md at *
  generalize patD p = pp at *
  simp [sqS, DL.sM, ifS, DL.M.bind_def, opt, getV, getO, peek, putO, nxO, updO, setIxD, ixD, addD, subD, mulD2, mulD, fdivD, fdivW, modD, powD, lenD, absD, max2D, min2D, DL.intD, eqD, neD, ltD, leD, gtD, geD, intC, isD, nisD, isB, isNone, inD, ninD, chainM, boolOf, truD, negD, tupleD, listD, partOf, slD, DL.strOf, sidxD, revLD, range1, range2, lrgD, itemsOf, enumD, zipD, revSD, getS, peekS, callM, okM, toldR, frzs, frz, wipeE, lcM, resE, c1, c3, x, hlq, hlt', e1]
theorem least_er1 {P : List Pat} {bars : Nat} (md : D) (h : PsOk P bars) : F_least_error [patsD P, .int P.length, md] = .er "NotAllowed" := by
  have c1 := check_patterns_ok h
  have hlq : (P.map patD).length = P.length := List.length_map ..
  unfold F_least_error DL.fdOf DL.env0 g_least_error
  unfold patsD at *
  generalize P.map patD = pd at *
  simp [sqS, DL.sM, ifS, DL.M.bind_def, opt, getV, getO, peek, putO, nxO, updO, setIxD, ixD, addD, subD, mulD2, mulD, fdivD, fdivW, modD, powD, lenD, absD, max2D, min2D, DL.intD, eqD, neD, ltD, leD, gtD, geD, intC, isD, nisD, isB, isNone, inD, ninD, chainM, boolOf, truD, negD, tupleD, listD, partOf, slD, DL.strOf, sidxD, revLD, range1, range2, lrgD, itemsOf, enumD, zipD, revSD, getS, peekS, callM, okM, toldR, frzs, frz, wipeE, lcM, resE, c1, hlq]
theorem least_er2 {P : List Pat} {bars : Nat} {ms : List Fr} {pl : Nat} (h : PsOk P bars) (hlt : pl < P.length) (hm : ¬ (ms.length = bars ∧ ms.all frOk = true)) : F_least_error [patsD P, .int pl, msD ms] = .er "NotAllowed" := by
  have c1 := check_patterns_ok h
  have c3 := check_measures_spec h ms
  rw [if_neg hm] at c3
  have hlt' : (pl : Int) < P.length := by omega
  have hlq : (P.map patD).length = P.length := List.length_map ..
  unfold F_least_error DL.fdOf DL.env0 g_least_error
  unfold patsD at *
  generalize P.map patD = pd at *
  generalize msD ms = md at *
  simp [sqS, DL.sM, ifS, DL.M.bind_def, opt, getV, getO, peek, putO, nxO, updO, setIxD, ixD, addD, subD, mulD2, mulD, fdivD, fdivW, modD, powD, lenD, absD, max2D, min2D, DL.intD, eqD, neD, ltD, leD, gtD, geD, intC, isD, nisD, isB, isNone, inD, ninD, chainM, boolOf, truD, negD, tupleD, listD, partOf, slD, DL.strOf, sidxD, revLD, range1, range2, lrgD, itemsOf, enumD, zipD, revSD, getS, peekS, callM, okM, toldR, frzs, frz, wipeE, lcM, resE, c1, c3, hlq, hlt']
/-- e takes the pattern just if it is not below the least error -/
theorem cb_best {qs : List Qm} {best e : Fr} (hq : ∀ q ∈ qs, QOk q) (hL : LmOk (lims qs)) (h : IsMx (lims qs) best) (he : 0 ≤ e.1 ∧ 0 < e.2) : Cb e qs = !decide (lt e best) := by
  have k : Cb e qs = true ↔ ¬ lt e best := by
    rw [cb_iff]
    constructor
    · intro c
      have h1 := h.1
      unfold lims at h1
      rcases List.mem_cons.mp h1 with h1 | h1
      · rw [h1]
        unfold lt
        simp
        omega
      · obtain ⟨a, ha, h1⟩ := List.mem_flatMap.mp h1
        obtain ⟨b, hb, rfl⟩ := List.mem_map.mp h1
        exact c a ha b hb
    · intro c a ha b hb q
      have hm : Lm a b ∈ lims qs := List.mem_cons_of_mem _ (List.mem_flatMap.mpr ⟨a, ha, List.mem_map.mpr ⟨b, hb, rfl⟩⟩)
      have h2 := h.2 _ hm
      have p1 := (hL _ hm).2.2.1
      have p2 := (hL _ h.1).2.2.1
      -- e < lim ≤ best
      apply c
      unfold lt at *
      have a1 : e.1 * (Lm a b).2 * best.2 < (Lm a b).1 * e.2 * best.2 := Int.mul_lt_mul_of_pos_right q p2
      have a2 : ((Lm a b).1 * best.2) * e.2 ≤ (best.1 * (Lm a b).2) * e.2 := Int.mul_le_mul_of_nonneg_right (by omega) (by omega)
      have a3 : (e.1 * best.2) * (Lm a b).2 < (best.1 * e.2) * (Lm a b).2 := by grind
      exact Int.lt_of_mul_lt_mul_right a3 (by omega)
  cases hc : Cb e qs with
  | true => rw [hc] at k; simp [k.mp rfl]
  | false =>
    rw [hc] at k
    have : lt e best := Classical.byContradiction fun c => by have := k.mpr c; cases this
    simp [this]
/-! ### the law's own reading -/
def ρn (p : Pat) (e : Fr) (ms : List Fr) (lo : Fr) (hi : Option Fr) (k a b c d f : Option SV) : DL.Env := [some (.val (patD p)), some (.val (frD e)), some (.val (msD ms)), some (.val (frD lo)), ofr hi, k, a, b, c, d, f]
theorem lu_body {p : Pat} {e : Fr} {ms : List Fr} {lo : Fr} {hi : Option Fr} {q : Qm} {k : Nat} (he : EOk e) (hq : QOk q) (hpk : p[k]? = some q.1) (hmk : ms[k]? = some q.2) (hlo : Bd lo) (hhi : ∀ x, hi = some x → Bd x) :
    ∃ a b c d f, lb_l_unit_2 (ρn p e ms lo hi (iv k) none none none none none) = .nx (ρn p e ms (if lt lo (Un e q) then Un e q else lo) (if 0 < q.1 * e.2 - e.1 then some (mno hi (Ab e q)) else hi) (iv k) a b c d f) := by
  have u := ub he hq
  have f1 : F_l_fraction [.int (q.2.1 * e.2), .int (q.2.2 * (q.1 * e.2 + e.1))] = .ok (frD (Un e q)) := lfr_spec _ _ u.d1 u.d2
  obtain ⟨q1, q2, m1, m2, m3, m4⟩ := id hq
  have o1 : ∀ x, mulOk q.2.1 x = true := fun x => mulOk_b (by omega)
  have o2 : ∀ x, mulOk q.2.2 x = true := fun x => mulOk_b (by omega)
  have o3 : ∀ x, mulOk q.1 x = true := fun x => mulOk_b (by omega)
  have b1 := un_bd he hq
  have g1 := below_spec lo (Un e q) hlo b1
  have x1 : L2.atI (p.map PyData.int) (k : Nat) = some (.int q.1) := by rw [at_n, List.getElem?_map, hpk]; rfl
  have x2 : L2.atI (ms.map frD) (k : Nat) = some (frD q.2) := by rw [at_n, List.getElem?_map, hmk]; rfl
  unfold lb_l_unit_2 ρn
  unfold patD msD at *
  generalize p.map PyData.int = pd at *
  generalize ms.map frD = md at *
  by_cases hr : 0 < q.1 * e.2 - e.1
  · have f2 : F_l_fraction [.int (q.2.1 * e.2), .int (q.2.2 * (q.1 * e.2 - e.1))] = .ok (frD (Ab e q)) := lfr_spec _ _ (u.r3 hr) u.r2
    have b2 := ab_bd he hq hr
    rw [if_pos hr]
    generalize Un e q = U at *
    generalize Ab e q = A at *
    generalize hR : q.1 * e.2 - e.1 = R at *
    cases hi with
    | none =>
      refine ⟨iv q.2.1, iv q.2.2, some (.val (frD U)), iv R, some (.val (frD A)), ?_⟩
      by_cases c : lt lo U
      · simp [sqS, DL.sM, ifS, DL.M.bind_def, opt, getV, getO, peek, putO, nxO, updO, setIxD, ixD, addD, subD, mulD2, mulD, fdivD, fdivW, modD, powD, lenD, absD, max2D, min2D, DL.intD, eqD, neD, ltD, leD, gtD, geD, intC, isD, nisD, isB, isNone, inD, ninD, chainM, boolOf, truD, negD, tupleD, listD, partOf, slD, DL.strOf, sidxD, revLD, range1, range2, lrgD, itemsOf, enumD, zipD, revSD, getS, peekS, callM, okM, toldR, frzs, frz, wipeE, lcM, resE, iv, ofr, at0, at1, x1, x2, o1, o2, o3, f1, f2, mno, g1, c, tg_l_unit_1, hR, hr]
      · simp [sqS, DL.sM, ifS, DL.M.bind_def, opt, getV, getO, peek, putO, nxO, updO, setIxD, ixD, addD, subD, mulD2, mulD, fdivD, fdivW, modD, powD, lenD, absD, max2D, min2D, DL.intD, eqD, neD, ltD, leD, gtD, geD, intC, isD, nisD, isB, isNone, inD, ninD, chainM, boolOf, truD, negD, tupleD, listD, partOf, slD, DL.strOf, sidxD, revLD, range1, range2, lrgD, itemsOf, enumD, zipD, revSD, getS, peekS, callM, okM, toldR, frzs, frz, wipeE, lcM, resE, iv, ofr, at0, at1, x1, x2, o1, o2, o3, f1, f2, mno, g1, c, tg_l_unit_1, hR, hr]
    | some h =>
      have g2 := below_spec A h b2 (hhi h rfl)
      refine ⟨iv q.2.1, iv q.2.2, some (.val (frD U)), iv R, some (.val (frD A)), ?_⟩
      by_cases c : lt lo U
      · by_cases c2 : lt A h
        · simp [sqS, DL.sM, ifS, DL.M.bind_def, opt, getV, getO, peek, putO, nxO, updO, setIxD, ixD, addD, subD, mulD2, mulD, fdivD, fdivW, modD, powD, lenD, absD, max2D, min2D, DL.intD, eqD, neD, ltD, leD, gtD, geD, intC, isD, nisD, isB, isNone, inD, ninD, chainM, boolOf, truD, negD, tupleD, listD, partOf, slD, DL.strOf, sidxD, revLD, range1, range2, lrgD, itemsOf, enumD, zipD, revSD, getS, peekS, callM, okM, toldR, frzs, frz, wipeE, lcM, resE, iv, ofr, at0, at1, x1, x2, o1, o2, o3, f1, f2, mno, g1, c, tg_l_unit_1, hR, hr, g2, c2]
        · simp [sqS, DL.sM, ifS, DL.M.bind_def, opt, getV, getO, peek, putO, nxO, updO, setIxD, ixD, addD, subD, mulD2, mulD, fdivD, fdivW, modD, powD, lenD, absD, max2D, min2D, DL.intD, eqD, neD, ltD, leD, gtD, geD, intC, isD, nisD, isB, isNone, inD, ninD, chainM, boolOf, truD, negD, tupleD, listD, partOf, slD, DL.strOf, sidxD, revLD, range1, range2, lrgD, itemsOf, enumD, zipD, revSD, getS, peekS, callM, okM, toldR, frzs, frz, wipeE, lcM, resE, iv, ofr, at0, at1, x1, x2, o1, o2, o3, f1, f2, mno, g1, c, tg_l_unit_1, hR, hr, g2, c2]
      · by_cases c2 : lt A h
        · simp [sqS, DL.sM, ifS, DL.M.bind_def, opt, getV, getO, peek, putO, nxO, updO, setIxD, ixD, addD, subD, mulD2, mulD, fdivD, fdivW, modD, powD, lenD, absD, max2D, min2D, DL.intD, eqD, neD, ltD, leD, gtD, geD, intC, isD, nisD, isB, isNone, inD, ninD, chainM, boolOf, truD, negD, tupleD, listD, partOf, slD, DL.strOf, sidxD, revLD, range1, range2, lrgD, itemsOf, enumD, zipD, revSD, getS, peekS, callM, okM, toldR, frzs, frz, wipeE, lcM, resE, iv, ofr, at0, at1, x1, x2, o1, o2, o3, f1, f2, mno, g1, c, tg_l_unit_1, hR, hr, g2, c2]
        · simp [sqS, DL.sM, ifS, DL.M.bind_def, opt, getV, getO, peek, putO, nxO, updO, setIxD, ixD, addD, subD, mulD2, mulD, fdivD, fdivW, modD, powD, lenD, absD, max2D, min2D, DL.intD, eqD, neD, ltD, leD, gtD, geD, intC, isD, nisD, isB, isNone, inD, ninD, chainM, boolOf, truD, negD, tupleD, listD, partOf, slD, DL.strOf, sidxD, revLD, range1, range2, lrgD, itemsOf, enumD, zipD, revSD, getS, peekS, callM, okM, toldR, frzs, frz, wipeE, lcM, resE, iv, ofr, at0, at1, x1, x2, o1, o2, o3, f1, f2, mno, g1, c, tg_l_unit_1, hR, hr, g2, c2]
  · rw [if_neg hr]
    generalize Un e q = U at *
    generalize hR : q.1 * e.2 - e.1 = R at *
    refine ⟨iv q.2.1, iv q.2.2, some (.val (frD U)), iv R, none, ?_⟩
    by_cases c : lt lo U
    · simp [sqS, DL.sM, ifS, DL.M.bind_def, opt, getV, getO, peek, putO, nxO, updO, setIxD, ixD, addD, subD, mulD2, mulD, fdivD, fdivW, modD, powD, lenD, absD, max2D, min2D, DL.intD, eqD, neD, ltD, leD, gtD, geD, intC, isD, nisD, isB, isNone, inD, ninD, chainM, boolOf, truD, negD, tupleD, listD, partOf, slD, DL.strOf, sidxD, revLD, range1, range2, lrgD, itemsOf, enumD, zipD, revSD, getS, peekS, callM, okM, toldR, frzs, frz, wipeE, lcM, resE, iv, ofr, at0, at1, x1, x2, o1, o2, o3, f1, g1, c, tg_l_unit_1, hR, hr]
    · simp [sqS, DL.sM, ifS, DL.M.bind_def, opt, getV, getO, peek, putO, nxO, updO, setIxD, ixD, addD, subD, mulD2, mulD, fdivD, fdivW, modD, powD, lenD, absD, max2D, min2D, DL.intD, eqD, neD, ltD, leD, gtD, geD, intC, isD, nisD, isB, isNone, inD, ninD, chainM, boolOf, truD, negD, tupleD, listD, partOf, slD, DL.strOf, sidxD, revLD, range1, range2, lrgD, itemsOf, enumD, zipD, revSD, getS, peekS, callM, okM, toldR, frzs, frz, wipeE, lcM, resE, iv, ofr, at0, at1, x1, x2, o1, o2, o3, f1, g1, c, tg_l_unit_1, hR, hr]
def restP (e : Fr) (q : Qm) : Bool := decide (0 < q.1 * e.2 - e.1)
theorem lu_loop {p : Pat} {e : Fr} {ms : List Fr} (he : EOk e) : ∀ (qs : List (Qm × Nat)) (pre : List Qm) (lo : Fr) (hi : Option Fr), (∀ q ∈ pre, QOk q) → (∀ q ∈ qs, QOk q.1 ∧ p[q.2]? = some q.1.1 ∧ ms[q.2]? = some q.1.2) →
    IsMx ((0, 1) :: pre.map (Un e)) lo → OMn ((pre.filter (restP e)).map (Ab e)) hi →
    ∃ lo' hi', forS [5, 6, 7, 8, 9, 10] (fun d ρ => some (ρ.set 5 (some (.val d)))) lb_l_unit_2 (qs.map fun q => PyData.int (q.2 : Nat)) (ρn p e ms lo hi none none none none none none) = .nx (ρn p e ms lo' hi' none none none none none none) ∧
      IsMx ((0, 1) :: (pre ++ qs.map Prod.fst).map (Un e)) lo' ∧ OMn (((pre ++ qs.map Prod.fst).filter (restP e)).map (Ab e)) hi'
  | [], pre, lo, hi, _, _, h2, h3 => ⟨lo, hi, rfl, by simpa using h2, by simpa using h3⟩
  | q :: qs, pre, lo, hi, hp, hq, h2, h3 => by
    obtain ⟨hq0, hq1, hq2⟩ := hq q List.mem_cons_self
    have pU : ∀ z ∈ (0, 1) :: pre.map (Un e), Bd z := fun z hz => by
      rcases List.mem_cons.mp hz with rfl | hz
      · exact bd01
      · obtain ⟨y, hy, rfl⟩ := List.mem_map.mp hz
        exact un_bd he (hp y hy)
    have pA : ∀ z ∈ (pre.filter (restP e)).map (Ab e), Bd z := fun z hz => by
      obtain ⟨y, hy, rfl⟩ := List.mem_map.mp hz
      have := List.mem_filter.mp hy
      exact ab_bd he (hp y this.1) (of_decide_eq_true this.2)
    obtain ⟨a, b, c, d, f, hb⟩ := lu_body (p := p) (ms := ms) (lo := lo) (hi := hi) he hq0 hq1 hq2 (pU _ h2.1) (fun x hx => by subst hx; exact pA x h3.1)
    have s1 := mx_step (y := Un e q.1) (fun z hz => (pU z hz).2.2.1) (un_pos he hq0) h2
    have s2 : OMn (((pre ++ [q.1]).filter (restP e)).map (Ab e)) (if 0 < q.1.1 * e.2 - e.1 then some (mno hi (Ab e q.1)) else hi) := by
      rw [List.filter_append, List.map_append]
      by_cases hr : 0 < q.1.1 * e.2 - e.1
      · rw [if_pos hr, List.filter_cons_of_pos (by unfold restP; exact decide_eq_true hr)]
        exact omn_step (fun z hz => (pA z hz).2.2.1) (ab_pos he hq0 hr) h3
      · rw [if_neg hr, List.filter_cons_of_neg (by unfold restP; simp; omega)]
        simpa using h3
    obtain ⟨lo', hi', e1, e2, e3⟩ := lu_loop (p := p) (ms := ms) he qs (pre ++ [q.1]) _ _ (fun z hz => by
      rcases List.mem_append.mp hz with hz | hz
      · exact hp z hz
      · rw [List.mem_singleton.mp hz]; exact hq0) (fun z hz => hq z (List.mem_cons_of_mem _ hz)) (by rw [List.map_append]; exact s1) s2
    rw [List.append_assoc] at e2 e3
    refine ⟨lo', hi', ?_, e2, e3⟩
    rw [List.map_cons, forS_nx (ρ1 := ρn p e ms lo hi (iv q.2) none none none none none) rfl hb]
    exact e1
theorem rangeI (n : Nat) (l : List Qm) (h : l.length = n) : rangeL 0 n = l.zipIdx.map fun q => PyData.int (q.2 : Nat) := by
  subst h
  rw [rangeL_int, List.map_map]
  have e : l.zipIdx.map (fun q => PyData.int (q.2 : Nat)) = (l.zipIdx.map Prod.snd).map fun i => PyData.int (i : Nat) := by rw [List.map_map]; rfl
  rw [e, List.zipIdx_map_snd, List.range_eq_range']
  rfl
theorem unit_spec {p : Pat} {e : Fr} {ms : List Fr} (he : EOk e) (hl : p.length = ms.length) (hq : ∀ q ∈ p.zip ms, QOk q) (hn : p.length ≤ 1000) : F_l_unit [patD p, frD e, msD ms] = .ok (.bool (Cb e (p.zip ms))) := by
  have hx : ∀ q ∈ (p.zip ms).zipIdx, QOk q.1 ∧ p[q.2]? = some q.1.1 ∧ ms[q.2]? = some q.1.2 := fun q hm => by
    have h0 := ix_ok hq q hm
    refine ⟨h0.1, h0.2, ?_⟩
    have := List.mem_zipIdx hm
    have h1 := this.2.1
    have h2 := this.2.2
    simp only [Nat.zero_add, Nat.sub_zero] at h1 h2
    rw [h2, List.getElem_zip]
    rw [List.length_zip] at h1
    exact List.getElem?_eq_getElem (by omega)
  obtain ⟨lo, hi, e1, e2, e3⟩ := lu_loop (p := p) (ms := ms) he (p.zip ms).zipIdx [] (0, 1) none (fun q h => by cases h) hx (mx_one _) rfl
  rw [List.nil_append, List.zipIdx_map_fst] at e2 e3
  rw [← rangeI p.length (p.zip ms) (by rw [List.length_zip]; omega)] at e1
  have hlq : (p.map PyData.int).length = p.length := List.length_map ..
  have hn' : (p.length : Int) ≤ 1000000 := by omega
  unfold ρn at e1
  have pU : ∀ z ∈ (0, 1) :: (p.zip ms).map (Un e), Bd z := fun z hz => by
    rcases List.mem_cons.mp hz with rfl | hz
    · exact bd01
    · obtain ⟨y, hy, rfl⟩ := List.mem_map.mp hz
      exact un_bd he (hq y hy)
  have pA : ∀ z ∈ ((p.zip ms).filter (restP e)).map (Ab e), Bd z := fun z hz => by
    obtain ⟨y, hy, rfl⟩ := List.mem_map.mp hz
    have := List.mem_filter.mp hy
    exact ab_bd he (hq y this.1) (of_decide_eq_true this.2)
  have pr : ∀ a ∈ p.zip ms, ∀ b ∈ p.zip ms, 0 < b.1 * e.2 - e.1 → (lt (Ab e b) (Un e a) ↔ lt e (Lm a b)) := fun a ha b hb hr =>
    pair_iff ⟨he.1, he.2.1⟩ (hq a ha).1 ⟨(hq a ha).2.2.1, (hq a ha).2.2.2.1⟩ ⟨(hq b hb).2.2.1, (hq b hb).2.2.2.1⟩ hr
  have fr : ∀ a ∈ p.zip ms, ∀ b ∈ p.zip ms, b.1 * e.2 - e.1 ≤ 0 → ¬ lt e (Lm a b) := fun a ha b hb hr =>
    pair_free ⟨he.1, he.2.1⟩ (hq a ha).1 ⟨(hq a ha).2.2.1, (hq a ha).2.2.2.1⟩ ⟨(hq b hb).2.2.1, (hq b hb).2.2.2.1⟩ hr
  unfold F_l_unit DL.fdOf DL.env0 g_l_unit
  unfold patD msD at *
  generalize p.map PyData.int = pd at *
  generalize ms.map frD = md at *
  cases hi with
  | none =>
    have c : Cb e (p.zip ms) = true := by
      rw [cb_iff]
      intro a ha b hb
      refine fr a ha b hb ?_
      have h0 := List.map_eq_nil_iff.mp e3
      have h1 := List.filter_eq_nil_iff.mp h0 b hb
      unfold restP at h1
      simp at h1
      omega
    simp only [ofr, iv] at e1
    rw [c]
    simp [sqS, DL.sM, ifS, DL.M.bind_def, opt, getV, getO, peek, putO, nxO, updO, setIxD, ixD, addD, subD, mulD2, mulD, fdivD, fdivW, modD, powD, lenD, absD, max2D, min2D, DL.intD, eqD, neD, ltD, leD, gtD, geD, intC, isD, nisD, isB, isNone, inD, ninD, chainM, boolOf, truD, negD, tupleD, listD, partOf, slD, DL.strOf, sidxD, revLD, range1, range2, lrgD, itemsOf, enumD, zipD, revSD, getS, peekS, callM, okM, toldR, frzs, frz, wipeE, lcM, resE, hlq, hn', e1]
  | some h =>
    have b1 := pA _ e3.1
    have b2 := pU _ e2.1
    have g := below_spec h lo b1 b2
    have k := mn_mx e2 e3 (fun z hz => (pU z hz).2.2.1) (fun z hz => (pA z hz).2.2.1)
    have k2 : ¬ lt h lo ↔ Cb e (p.zip ms) = true := by
      rw [k, cb_iff]
      constructor
      · intro c a ha b hb
        by_cases hr : 0 < b.1 * e.2 - e.1
        · have := c (Ab e b) (List.mem_map.mpr ⟨b, List.mem_filter.mpr ⟨hb, by unfold restP; exact decide_eq_true hr⟩, rfl⟩) (Un e a) (List.mem_cons_of_mem _ (List.mem_map.mpr ⟨a, ha, rfl⟩))
          rwa [pr a ha b hb hr] at this
        · exact fr a ha b hb (by omega)
      · intro c z hz y hy
        obtain ⟨b, hb, rfl⟩ := List.mem_map.mp hz
        have hb' := List.mem_filter.mp hb
        have hr : 0 < b.1 * e.2 - e.1 := of_decide_eq_true hb'.2
        rcases List.mem_cons.mp hy with rfl | hy
        · have u := ub he (hq b hb'.1)
          have := (@fr_sign (b.2.1 * e.2) (b.2.2 * (b.1 * e.2 - e.1)) (u.r3 hr)).2 (by have := u.t1; omega)
          have h0 : 0 ≤ (Ab e b).1 := this
          unfold lt
          simp
          omega
        · obtain ⟨a, ha, rfl⟩ := List.mem_map.mp hy
          rw [pr a ha b hb'.1 hr]
          exact c a ha b hb'.1
    have g2 : decide (lt h lo) = !Cb e (p.zip ms) := by
      cases hc : Cb e (p.zip ms) with
      | true => rw [hc] at k2; simp [k2.mpr rfl]
      | false =>
        rw [hc] at k2
        have : lt h lo := Classical.byContradiction fun c => by have := k2.mp c; cases this
        simp [this]
    rw [g2] at g
    simp only [ofr, iv] at e1
    simp [sqS, DL.sM, ifS, DL.M.bind_def, opt, getV, getO, peek, putO, nxO, updO, setIxD, ixD, addD, subD, mulD2, mulD, fdivD, fdivW, modD, powD, lenD, absD, max2D, min2D, DL.intD, eqD, neD, ltD, leD, gtD, geD, intC, isD, nisD, isB, isNone, inD, ninD, chainM, boolOf, truD, negD, tupleD, listD, partOf, slD, DL.strOf, sidxD, revLD, range1, range2, lrgD, itemsOf, enumD, zipD, revSD, getS, peekS, callM, okM, toldR, frzs, frz, wipeE, lcM, resE, hlq, hn', e1, g]
end K34

namespace K34
open PySem PySem.Spec PyProof.Rows L2 DL
/-! ### shapes -/
theorem pat_can (p : Pat) : (patD p).canLay0 = true := by
  simp only [PyData.canLay0]
  exact canAll_map _ fun x _ => by simp [PyData.canLay0]
theorem pat_dep (p : Pat) : (patD p).depth ≤ 1 := by
  simp only [PyData.depth]
  have := depthAll_map PyData.int (l := p) (n := 0) fun x _ => by simp [PyData.depth]
  omega
theorem pat_shaped (p : Pat) : SeqAt.shaped (patD p) = true := shaped_of (pat_can p) (by have := pat_dep p; omega)
theorem pats_shaped (P : List Pat) : SeqAt.shaped (.list (P.map patD)) = true := by
  refine shaped_of ?_ ?_
  · simp only [PyData.canLay0]
    exact canAll_map _ fun x _ => pat_can x
  · simp only [PyData.depth]
    have := depthAll_map patD (l := P) (n := 1) fun x _ => pat_dep x
    omega
theorem pat_eqv (p q : Pat) : (patD p).eqv (patD q) = decide (p = q) := by
  simp only [PyData.eqv]
  exact eqvAll_map _ (fun x y => by simp only [PyData.eqv]; by_cases h : x = y <;> simp [h]) p q
theorem pats_nil (P : List Pat) : eqB (.list (P.map patD)) (.list []) = some (decide (P = [])) := by
  rw [eqB_lists (pats_shaped P) (show SeqAt.shaped (.list []) = true from pats_shaped [])]
  cases P with
  | nil => simp [PyData.eqvAll]
  | cons a P => simp [PyData.eqvAll]
theorem pats_in (p : Pat) (P : List Pat) : inB (patD p) (.list (P.map patD)) = some (decide (p ∈ P)) := by
  rw [inB_tup (pat_shaped p) (pats_shaped P), List.any_map]
  congr 1
  induction P with
  | nil => simp
  | cons a P ih =>
    rw [List.any_cons, ih]
    simp only [Function.comp, pat_eqv, List.mem_cons]
    by_cases e : a = p
    · subst e; simp
    · have e' : ¬ p = a := fun z => e z.symm
      simp [e, e']
/-! ### drawing -/
def ρp (s : List D) (bars : Nat) (top : Int) (found : List Pat) (k row pick bar w : Option SV) : DL.Env := [some (.own true (.list s)), iv bars, iv top, some (.own false (.list (found.map patD))), k, row, pick, bar, w]
theorem pt_row {n : Nat} {s : List D} {bars : Nat} {top : Int} {found : List Pat} {k row pick : Option SV} (h : Good n s) (hn : n + bars ≤ 1000000) (hb : bars ≤ 1000) (ht : 0 < top) :
    ∃ (r : List Int) (s' : List D), lcS [7] (fun d ρ => some (ρ.set 7 (some (.val d)))) (M.pure true) le_l_patterns_1 [] (rangeL 0 bars) (ρp s bars top found k row pick none none) = .ok (r.map .int) (ρp s' bars top found k row pick none none) ∧ r.length = bars ∧ (∀ x ∈ r, 1 ≤ x ∧ x ≤ top) ∧ Good (n + bars) s' := by
  obtain ⟨ws, ρ', e, h1, h2, s', rfl, h4⟩ := lcS_inv (vs := [7]) (b := fun d ρ => some (ρ.set 7 (some (.val d)))) (e := le_l_patterns_1) bars (fun i ρ => ∃ s', ρ = ρp s' bars top found k row pick none none ∧ Good (n + i) s') (fun v => ∃ x : Int, v = .int x ∧ 1 ≤ x ∧ x ≤ top) (rangeL 0 bars) [] 0 (ρp s bars top found k row pick none none) (by rw [rangeL_length]; omega) (by
    rintro i z _ hi hd ⟨s1, rfl, hg⟩
    obtain ⟨v, s2, e, h0, h1, h2⟩ := next_spec hg (by omega) ht
    refine ⟨_, .int (1 + v), ρp s2 bars top found k row pick (some (.val z)) none, rfl, ?_, ⟨s2, rfl, h2⟩, 1 + v, rfl, by omega, by omega⟩
    unfold le_l_patterns_1 ρp iv
    generalize found.map patD = fd
    simp [sqS, DL.sM, ifS, DL.M.bind_def, opt, getV, getO, peek, putO, nxO, updO, setIxD, ixD, addD, subD, mulD2, mulD, fdivD, fdivW, modD, powD, lenD, absD, max2D, min2D, DL.intD, eqD, neD, ltD, leD, gtD, geD, intC, isD, nisD, isB, isNone, inD, ninD, chainM, boolOf, truD, negD, tupleD, listD, partOf, slD, DL.strOf, sidxD, revLD, range1, range2, lrgD, itemsOf, enumD, zipD, revSD, getS, peekS, callM, okM, toldR, frzs, frz, wipeE, lcM, resE, e]) ⟨s, rfl, h⟩
  obtain ⟨r, rfl, hr⟩ := choose_list h2
  refine ⟨r, s', e, by rw [List.length_map, rangeL_length] at h1; exact h1, hr, ?_⟩
  rw [rangeL_length] at h4
  simpa using h4
structure FOk (found : List Pat) (bars : Nat) : Prop where
  len : ∀ p ∈ found, p.length = bars
  wid : ∀ p ∈ found, ∀ w ∈ p, 1 ≤ w ∧ w ≤ 30
  nd : found.Nodup
theorem at_last {α : Type} (l : List α) (x : α) : L2.atI (l ++ [x]) (-1) = some x := by
  unfold L2.atI L2.ixN
  have h1 : (1 : Int) ≤ (l.length : Int) + 1 := by omega
  have h2 : (-1 + ((l.length : Int) + 1)).toNat = l.length := by omega
  simp [h1, h2]
theorem rev_pat {p : Pat} (h : p ≠ []) : revAD (patD p) = some (patD p.reverse) := by
  unfold patD
  rw [List.map_reverse]
  cases p with
  | nil => exact absurd rfl h
  | cons a p => rfl
theorem dbl_elem {s : List D} {bars : Nat} {top : Int} {found : List Pat} {k row pick bar : Option SV} {w : Int} : le_l_patterns_2 (ρp s bars top found k row pick bar (iv w)) = .ok (.int (if 2 * w < 30 then 2 * w else 30)) (ρp s bars top found k row pick bar (iv w)) := by
  have o : mulOk 2 w = true := mulOk_l (by omega)
  unfold le_l_patterns_2 ρp iv
  generalize found.map patD = fd
  simp [sqS, DL.sM, ifS, DL.M.bind_def, opt, getV, getO, peek, putO, nxO, updO, setIxD, ixD, addD, subD, mulD2, mulD, fdivD, fdivW, modD, powD, lenD, absD, max2D, min2D, DL.intD, eqD, neD, ltD, leD, gtD, geD, intC, isD, nisD, isB, isNone, inD, ninD, chainM, boolOf, truD, negD, tupleD, listD, partOf, slD, DL.strOf, sidxD, revLD, range1, range2, lrgD, itemsOf, enumD, zipD, revSD, getS, peekS, callM, okM, toldR, frzs, frz, wipeE, lcM, resE, o]
theorem pt_body {n : Nat} {s : List D} {bars : Nat} {top : Int} {found : List Pat} {k : Option SV} (h : Good n s) (hn : n + bars + 1 ≤ 100000) (hb : 1 ≤ bars ∧ bars ≤ 12) (ht : 0 < top ∧ top ≤ 30) (hf : FOk found bars) (hl : found.length ≤ 100) :
    ∃ s' found' row pick, lb_l_patterns_3 (ρp s bars top found k none none none none) = .nx (ρp s' bars top found' k row pick none none) ∧ FOk found' bars ∧ found'.length ≤ found.length + 1 ∧ (found.length ≤ found'.length ∧ 1 ≤ found'.length) ∧ Good (n + bars + 1) s' := by
  obtain ⟨r, s1, e1, r1, r2, g1⟩ := pt_row (bars := bars) (found := found) (k := k) (row := none) (pick := none) h (by omega) (by omega) ht.1
  obtain ⟨v, s2, e2, v0, v1, g2⟩ := next_spec (m := 4) g1 (by omega) (by omega)
  have hbr : (bars : Int) ≤ 1000000 := by omega
  -- the row that is taken
  obtain ⟨row, hlen, hwid, hmain⟩ : ∃ row : Pat, row.length = bars ∧ (∀ w ∈ row, 1 ≤ w ∧ w ≤ 30) ∧ lb_l_patterns_3 (ρp s bars top found k none none none none) = (ifS (M.bind (getV 5) fun y => M.bind (getO 3) fun ds => opt ((ninD y (.list ds)).bind boolOf))
    (sM (M.bind (getO 3) fun _ => (getV 5)) fun d ρ => nxO (updO 3 (fun ds => if ds.length < DL.lim then some (ds ++ [d]) else none) ρ)) SR.nx) (ρp s2 bars top found k (some (.val (patD row))) (iv v) none none) := by
    have hrl : ∀ w ∈ r, 1 ≤ w ∧ w ≤ 30 := fun w hw => by have := r2 w hw; omega
    have pn := pats_nil found
    by_cases hz : found = []
    · refine ⟨r, r1, hrl, ?_⟩
      subst hz
      unfold ρp at e1 ⊢
      rw [List.map_nil] at e1 pn ⊢
      unfold lb_l_patterns_3 iv
      unfold iv at e1
      unfold patD
      generalize r.map PyData.int = rd at *
      simp [sqS, DL.sM, ifS, DL.M.bind_def, opt, getV, getO, peek, putO, nxO, updO, setIxD, ixD, addD, subD, mulD2, mulD, fdivD, fdivW, modD, powD, lenD, absD, max2D, min2D, DL.intD, eqD, neD, ltD, leD, gtD, geD, intC, isD, nisD, isB, isNone, inD, ninD, chainM, boolOf, truD, negD, tupleD, listD, partOf, slD, DL.strOf, sidxD, revLD, range1, range2, lrgD, itemsOf, enumD, zipD, revSD, getS, peekS, callM, okM, toldR, frzs, frz, wipeE, lcM, resE, e1, e2, hbr, pn]
    · obtain ⟨init, last, rfl⟩ : ∃ init last, found = init ++ [last] := ⟨found.dropLast, found.getLast hz, (List.dropLast_concat_getLast hz).symm⟩
      have hlast : last ∈ init ++ [last] := List.mem_append_right _ (List.mem_singleton.mpr rfl)
      have ll := hf.len last hlast
      have lw := hf.wid last hlast
      have al : L2.atI ((init ++ [last]).map patD) (-1) = some (patD last) := by rw [List.map_append]; exact at_last _ _
      have pn' : decide (init ++ [last] = []) = false := decide_eq_false hz
      rw [pn'] at pn
      have hne : last ≠ [] := fun z => by rw [z] at ll; simp at ll; omega
      by_cases h0 : v = 0
      · refine ⟨last.reverse, by rw [List.length_reverse, ll], fun w hw => lw w (List.mem_reverse.mp hw), ?_⟩
        have rv := rev_pat hne
        unfold ρp at e1 ⊢
        generalize (init ++ [last]).map patD = fd at *
        unfold lb_l_patterns_3 iv
        unfold iv at e1
        generalize r.map PyData.int = rd at *
        generalize patD last = ld at *
        generalize patD last.reverse = ld2 at *
        simp [sqS, DL.sM, ifS, DL.M.bind_def, opt, getV, getO, peek, putO, nxO, updO, setIxD, ixD, addD, subD, mulD2, mulD, fdivD, fdivW, modD, powD, lenD, absD, max2D, min2D, DL.intD, eqD, neD, ltD, leD, gtD, geD, intC, isD, nisD, isB, isNone, inD, ninD, chainM, boolOf, truD, negD, tupleD, listD, partOf, slD, DL.strOf, sidxD, revLD, range1, range2, lrgD, itemsOf, enumD, zipD, revSD, getS, peekS, callM, okM, toldR, frzs, frz, wipeE, lcM, resE, e1, e2, hbr, pn, h0, eqB_int, al, rv]
      · by_cases h1 : v = 1
        · refine ⟨last.map fun w => if 2 * w < 30 then 2 * w else 30, by rw [List.length_map, ll], fun w hw => ?_, ?_⟩
          · obtain ⟨y, hy, rfl⟩ := List.mem_map.mp hw
            have := lw y hy
            split <;> omega
          · have e3 := lcS_rt (vs := [8]) (b := fun d ρ => some (ρ.set 8 (some (.val d)))) (e := le_l_patterns_2) PyData.int (fun w => ρp s2 bars top (init ++ [last]) k (some (.val (patD r))) (iv v) none (iv w)) (fun w => PyData.int (if 2 * w < 30 then 2 * w else 30))
              (ρ := ρp s2 bars top (init ++ [last]) k (some (.val (patD r))) (iv v) none none) last [] (fun w _ => ⟨rfl, dbl_elem, rfl⟩)
            rw [List.nil_append] at e3
            have e4 : (last.map fun w => PyData.int (if 2 * w < 30 then 2 * w else 30)) = (last.map fun w => if 2 * w < 30 then 2 * w else 30).map PyData.int := by rw [List.map_map]; rfl
            rw [e4] at e3
            unfold ρp at e1 e3 ⊢
            generalize (init ++ [last]).map patD = fd at *
            unfold lb_l_patterns_3 iv
            unfold iv at e1 e3
            unfold patD at *
            generalize r.map PyData.int = rd at *
            generalize (last.map fun w => if 2 * w < 30 then 2 * w else 30).map PyData.int = ld2 at *
            generalize last.map PyData.int = ld at *
            subst h1
            simp [sqS, DL.sM, ifS, DL.M.bind_def, opt, getV, getO, peek, putO, nxO, updO, setIxD, ixD, addD, subD, mulD2, mulD, fdivD, fdivW, modD, powD, lenD, absD, max2D, min2D, DL.intD, eqD, neD, ltD, leD, gtD, geD, intC, isD, nisD, isB, isNone, inD, ninD, chainM, boolOf, truD, negD, tupleD, listD, partOf, slD, DL.strOf, sidxD, revLD, range1, range2, lrgD, itemsOf, enumD, zipD, revSD, getS, peekS, callM, okM, toldR, frzs, frz, wipeE, lcM, resE, e1, e2, hbr, pn, eqB_int, al, e3]
        · refine ⟨r, r1, hrl, ?_⟩
          unfold ρp at e1 ⊢
          generalize (init ++ [last]).map patD = fd at *
          unfold lb_l_patterns_3 iv
          unfold iv at e1
          unfold patD
          generalize r.map PyData.int = rd at *
          simp [sqS, DL.sM, ifS, DL.M.bind_def, opt, getV, getO, peek, putO, nxO, updO, setIxD, ixD, addD, subD, mulD2, mulD, fdivD, fdivW, modD, powD, lenD, absD, max2D, min2D, DL.intD, eqD, neD, ltD, leD, gtD, geD, intC, isD, nisD, isB, isNone, inD, ninD, chainM, boolOf, truD, negD, tupleD, listD, partOf, slD, DL.strOf, sidxD, revLD, range1, range2, lrgD, itemsOf, enumD, zipD, revSD, getS, peekS, callM, okM, toldR, frzs, frz, wipeE, lcM, resE, e1, e2, hbr, pn, h0, h1, eqB_int]
  have pin := pats_in row found
  by_cases hm : row ∈ found
  · refine ⟨s2, found, some (.val (patD row)), iv v, ?_, hf, by omega, ⟨Nat.le_refl _, ?_⟩, g2⟩
    · rw [hmain]
      unfold ρp iv
      generalize found.map patD = fd at *
      generalize patD row = rd at *
      simp [sqS, DL.sM, ifS, DL.M.bind_def, opt, getV, getO, peek, putO, nxO, updO, setIxD, ixD, addD, subD, mulD2, mulD, fdivD, fdivW, modD, powD, lenD, absD, max2D, min2D, DL.intD, eqD, neD, ltD, leD, gtD, geD, intC, isD, nisD, isB, isNone, inD, ninD, chainM, boolOf, truD, negD, tupleD, listD, partOf, slD, DL.strOf, sidxD, revLD, range1, range2, lrgD, itemsOf, enumD, zipD, revSD, getS, peekS, callM, okM, toldR, frzs, frz, wipeE, lcM, resE, pin, hm]
    · cases found with
      | nil => cases hm
      | cons a b => simp
  · refine ⟨s2, found ++ [row], some (.val (patD row)), iv v, ?_, ⟨fun p hp => ?_, fun p hp => ?_, ?_⟩, by simp, ⟨by simp, by simp⟩, g2⟩
    · rw [hmain]
      unfold ρp iv
      have hl2 : (found.map patD).length < 1000000 := by rw [List.length_map]; omega
      rw [List.map_append, List.map_singleton]
      generalize found.map patD = fd at *
      generalize patD row = rd at *
      simp [sqS, DL.sM, ifS, DL.M.bind_def, opt, getV, getO, peek, putO, nxO, updO, setIxD, ixD, addD, subD, mulD2, mulD, fdivD, fdivW, modD, powD, lenD, absD, max2D, min2D, DL.intD, eqD, neD, ltD, leD, gtD, geD, intC, isD, nisD, isB, isNone, inD, ninD, chainM, boolOf, truD, negD, tupleD, listD, partOf, slD, DL.strOf, sidxD, revLD, range1, range2, lrgD, itemsOf, enumD, zipD, revSD, getS, peekS, callM, okM, toldR, frzs, frz, wipeE, lcM, resE, pin, hm, hl2]
    · rcases List.mem_append.mp hp with hp | hp
      · exact hf.len p hp
      · rw [List.mem_singleton.mp hp]; exact hlen
    · rcases List.mem_append.mp hp with hp | hp
      · exact hf.wid p hp
      · rw [List.mem_singleton.mp hp]; exact hwid
    · rw [List.nodup_append]
      exact ⟨hf.nd, List.nodup_cons.mpr ⟨List.not_mem_nil, List.nodup_nil⟩, fun a ha b hb q => hm (by rw [← List.mem_singleton.mp hb, ← q]; exact ha)⟩
theorem pt_loop {bars : Nat} {top : Int} (hb : 1 ≤ bars ∧ bars ≤ 12) (ht : 0 < top ∧ top ≤ 30) : ∀ (items : List D) (n : Nat) (s : List D) (found : List Pat), Good n s → n + 13 * items.length ≤ 100000 → FOk found bars → found.length + items.length ≤ 100 →
    ∃ s' found', forS [4, 5, 6] (fun d ρ => some (ρ.set 4 (some (.val d)))) lb_l_patterns_3 items (ρp s bars top found none none none none none) = .nx (ρp s' bars top found' none none none none none) ∧ FOk found' bars ∧ found'.length ≤ found.length + items.length ∧ (found.length ≤ found'.length ∧ (items ≠ [] → 1 ≤ found'.length)) ∧ Good (n + 13 * items.length) s'
  | [], n, s, found, h, _, hf, _ => ⟨s, found, rfl, hf, by simp, ⟨Nat.le_refl _, fun z => absurd rfl z⟩, h⟩
  | d :: items, n, s, found, h, hn, hf, hl => by
    rw [List.length_cons] at hn hl
    obtain ⟨s1, f1, row, pick, e, a1, a2, a3, a4⟩ := pt_body (k := some (.val d)) h (by omega) hb ht hf (by omega)
    obtain ⟨s', f', e', b1, b2, b3, b4⟩ := pt_loop hb ht items (n + 13) s1 f1 (a4.mono (by omega)) (by omega) a1 (by omega)
    refine ⟨s', f', ?_, b1, by rw [List.length_cons]; omega, ⟨by have := b3.1; omega, fun _ => by have := b3.1; omega⟩, b4.mono (by rw [List.length_cons]; omega)⟩
    rw [forS_nx (ρ1 := ρp s bars top found (some (.val d)) none none none none) rfl e]
    exact e'
end K34

namespace K34
open PySem PySem.Spec PyProof.Rows L2 DL
theorem pick2 {v : Int} (h : 0 ≤ v ∧ v < 2) (a b : D) : ∃ m, L2.atI [a, b] v = some m ∧ (m = a ∨ m = b) := by
  obtain rfl | rfl : v = 0 ∨ v = 1 := by omega
  · exact ⟨_, at0 _ _, .inl rfl⟩
  · exact ⟨_, at1 _ _ _, .inr rfl⟩
theorem pick3 {v : Int} (h : 0 ≤ v ∧ v < 3) (a b c : D) : ∃ m, L2.atI [a, b, c] v = some m ∧ (m = a ∨ m = b ∨ m = c) := by
  obtain rfl | rfl | rfl : v = 0 ∨ v = 1 ∨ v = 2 := by omega
  · exact ⟨_, at0 _ _, .inl rfl⟩
  · exact ⟨_, at1 _ _ _, .inr (.inl rfl)⟩
  · exact ⟨_, at2 _ _ _ _, .inr (.inr rfl)⟩
theorem patterns_spec {n : Nat} {s : List D} (h : Good n s) (hn : n + 100 ≤ 100000) : ∃ (P : List Pat) (bars : Nat) (s' : List D), F_l_patterns s [] = some (patsD P, s') ∧ PsOk P bars ∧ bars ≤ 6 ∧ P.length ≤ 5 ∧ Good (n + 100) s' := by
  obtain ⟨v1, s1, e1, a1, b1, g1⟩ := next_spec (m := 2) h (by omega) (by omega)
  obtain ⟨m, hm, hm2⟩ := pick2 ⟨a1, b1⟩ (.int 3) (.int 5)
  obtain ⟨mi, rfl, mp, mq⟩ : ∃ i : Int, m = .int i ∧ 3 ≤ i ∧ i ≤ 5 := by
    rcases hm2 with rfl | rfl
    · exact ⟨3, rfl, by omega, by omega⟩
    · exact ⟨5, rfl, by omega, by omega⟩
  obtain ⟨v2, s2, e2, a2, b2, g2⟩ := next_spec (m := mi) g1 (by omega) (by omega)
  obtain ⟨v3, s3, e3, a3, b3, g3⟩ := next_spec (m := 3) g2 (by omega) (by omega)
  obtain ⟨t, ht, ht2⟩ := pick3 ⟨a3, b3⟩ (.int 3) (.int 6) (.int 30)
  obtain ⟨ti, rfl, tp, tq⟩ : ∃ i : Int, t = .int i ∧ 0 < i ∧ i ≤ 30 := by
    rcases ht2 with rfl | rfl | rfl
    · exact ⟨3, rfl, by omega, by omega⟩
    · exact ⟨6, rfl, by omega, by omega⟩
    · exact ⟨30, rfl, by omega, by omega⟩
  obtain ⟨v4, s4, e4, a4, b4, g4⟩ := next_spec (m := 5) g3 (by omega) (by omega)
  obtain ⟨bars, hb⟩ : ∃ bars : Nat, (bars : Int) = 2 + v2 := ⟨(2 + v2).toNat, by omega⟩
  have hbb : 2 ≤ bars ∧ bars ≤ 6 := by omega
  obtain ⟨it, hit⟩ : ∃ it : Nat, (it : Int) = 1 + v4 := ⟨(1 + v4).toNat, by omega⟩
  have hitb : 1 ≤ it ∧ it ≤ 5 := by omega
  obtain ⟨s', P, e5, p1, p2, p3, g5⟩ := pt_loop (bars := bars) (top := ti) ⟨by omega, by omega⟩ ⟨tp, tq⟩ (rangeL 0 it) _ s4 [] g4 (by rw [rangeL_length]; omega) ⟨(fun _ h => by cases h), (fun _ h => by cases h), List.nodup_nil⟩ (by rw [rangeL_length]; simp; omega)
  rw [rangeL_length] at p2 g5
  simp only [List.length_nil, Nat.zero_add] at p2
  have hne : rangeL 0 it ≠ [] := fun z => by
    have := congrArg List.length z
    rw [rangeL_length] at this
    simp at this
    omega
  refine ⟨P, bars, s', ?_, ⟨p3.2 hne, by omega, by omega, by omega, p1.len, p1.wid, p1.nd⟩, by omega, by omega, g5.mono (by omega)⟩
  unfold F_l_patterns fdOO envO DL.env0 g_l_patterns
  unfold ρp at e5
  rw [List.map_nil] at e5
  unfold patsD
  generalize P.map patD = pd at *
  simp only [iv, hb] at e5
  have h4 : (1 : Int) + v4 ≤ 1000000 := by omega
  have hx : (1 + v4 : Int).toNat = it := by omega
  have h5 : (-1000000 : Int) ≤ 1 + v4 := by omega
  simp [sqS, DL.sM, ifS, DL.M.bind_def, opt, getV, getO, peek, putO, nxO, updO, setIxD, ixD, addD, subD, mulD2, mulD, fdivD, fdivW, modD, powD, lenD, absD, max2D, min2D, DL.intD, eqD, neD, ltD, leD, gtD, geD, intC, isD, nisD, isB, isNone, inD, ninD, chainM, boolOf, truD, negD, tupleD, listD, partOf, slD, DL.strOf, sidxD, revLD, range1, range2, lrgD, itemsOf, enumD, zipD, revSD, getS, peekS, callM, okM, toldR, frzs, frz, wipeE, lcM, resE, e1, e2, e3, e4, hm, ht, h4, h5, hx, e5]
theorem error_spec {n : Nat} {s : List D} (h : Good n s) (hn : n + 2 ≤ 100000) : ∃ (e : Fr) (s' : List D), F_l_error s [] = some (frD e, s') ∧ 0 ≤ e.1 ∧ e.1 < e.2 ∧ e.2 ≤ 12 ∧ Int.gcd e.1 e.2 = 1 ∧ Good (n + 2) s' := by
  obtain ⟨v1, s1, e1, a1, b1, g1⟩ := next_spec (m := 12) h (by omega) (by omega)
  obtain ⟨v2, s2, e2, a2, b2, g2⟩ := next_spec (m := 1 + v1) g1 (by omega) (by omega)
  have f := lfr_spec v2 (1 + v1) (by omega) (by omega)
  have hb : 0 < 1 + v1 := by omega
  have q1 := (fr_sign (t := v2) hb).2 a2
  have q2 := fr_le2 (t := v2) hb
  have q3 := fr_gcd (t := v2) hb
  have q4 : (fr v2 (1 + v1)).1 < (fr v2 (1 + v1)).2 := by
    have := (lt_fr_l (t := v2) hb (1, 1)).mpr (by simp; omega)
    unfold lt at this
    simpa using this
  refine ⟨fr v2 (1 + v1), s2, ?_, q1, q4, by omega, q3, g2⟩
  generalize fr v2 (1 + v1) = e at *
  unfold F_l_error fdOO envO DL.env0 g_l_error
  simp [sqS, DL.sM, ifS, DL.M.bind_def, opt, getV, getO, peek, putO, nxO, updO, setIxD, ixD, addD, subD, mulD2, mulD, fdivD, fdivW, modD, powD, lenD, absD, max2D, min2D, DL.intD, eqD, neD, ltD, leD, gtD, geD, intC, isD, nisD, isB, isNone, inD, ninD, chainM, boolOf, truD, negD, tupleD, listD, partOf, slD, DL.strOf, sidxD, revLD, range1, range2, lrgD, itemsOf, enumD, zipD, revSD, getS, peekS, callM, okM, toldR, frzs, frz, wipeE, lcM, resE, e1, e2, f]
/-! ### measures -/
def ρm (s : List D) (p : Pat) (e u : Fr) (found : List Fr) (a b c : Option SV) : DL.Env := [some (.own true (.list s)), some (.val (patD p)), some (.val (frD e)), some (.val (frD u)), some (.own false (.list (found.map frD))), a, b, c]
theorem pick5 {v : Int} (h : 0 ≤ v ∧ v < 5) : ∃ m : Int, L2.atI [PyData.int 0, .int 0, .int 1, .int (-1), .int 2] v = some (.int m) ∧ -1 ≤ m ∧ m ≤ 2 := by
  obtain rfl | rfl | rfl | rfl | rfl : v = 0 ∨ v = 1 ∨ v = 2 ∨ v = 3 ∨ v = 4 := by omega
  · exact ⟨_, at0 _ _, by omega, by omega⟩
  · exact ⟨_, at1 _ _ _, by omega, by omega⟩
  · exact ⟨_, at2 _ _ _ _, by omega, by omega⟩
  · exact ⟨-1, rfl, by omega, by omega⟩
  · exact ⟨2, rfl, by omega, by omega⟩
theorem ms_body {n : Nat} {s : List D} {p : Pat} {e u : Fr} {found : List Fr} {w : Int} (h : Good n s) (hn : n + 2 ≤ 100000) (he : 0 ≤ e.1 ∧ e.1 < e.2 ∧ e.2 ≤ 12) (hu : 1 ≤ u.1 ∧ u.1 ≤ 30 ∧ 1 ≤ u.2 ∧ u.2 ≤ 4) (hw : 1 ≤ w ∧ w ≤ 30) (hl : found.length < 1000) :
    ∃ (m : Fr) (s' : List D) (b c : Option SV), lb_l_measures_1 (ρm s p e u found (iv w) none none) = .nx (ρm s' p e u (found ++ [m]) (iv w) b c) ∧ MOk m ∧ Int.gcd m.1 m.2 = 1 ∧ Good (n + 2) s' := by
  obtain ⟨v1, s1, e1, a1, b1, g1⟩ := next_spec (m := 5) h (by omega) (by omega)
  obtain ⟨mv, hmv, m1, m2⟩ := pick5 ⟨a1, b1⟩
  obtain ⟨v2, s2, e2, a2, b2, g2⟩ := next_spec (m := 2) g1 (by omega) (by omega)
  obtain ⟨t, ht, ht2⟩ := pick2 ⟨a2, b2⟩ (.int 1) (.int 2)
  obtain ⟨x, rfl, xp, xq⟩ : ∃ i : Int, t = .int i ∧ 1 ≤ i ∧ i ≤ 2 := by
    rcases ht2 with rfl | rfl
    · exact ⟨1, rfl, by omega, by omega⟩
    · exact ⟨2, rfl, by omega, by omega⟩
  have c1 := mul_bd (a := w) (b := e.2) (A := 30) (B := 12) (by omega) (by omega) (by omega) (by omega)
  have c2 : -12 ≤ mv * e.1 ∧ mv * e.1 ≤ 24 := by
    obtain rfl | rfl | rfl | rfl : mv = -1 ∨ mv = 0 ∨ mv = 1 ∨ mv = 2 := by omega
    all_goals omega
  have c3 : -48 ≤ mv * e.1 * x ∧ mv * e.1 * x ≤ 48 := by
    obtain rfl | rfl : x = 1 ∨ x = 2 := by omega
    all_goals omega
  generalize hT : w * e.2 * 2 + mv * e.1 * x = T at *
  have cT : -48 ≤ T ∧ T ≤ 768 := by omega
  have c4 : T * u.1 ≤ 768 * 30 := by
    rcases Int.lt_or_le T 0 with q | q
    · have := Int.mul_nonpos_of_nonpos_of_nonneg (Int.le_of_lt q) (show 0 ≤ u.1 by omega)
      omega
    · exact (mul_bd q cT.2 (by omega) hu.2.1).2
  have c5 := mul_bd (a := 2 * e.2) (b := u.2) (A := 24) (B := 4) (by omega) (by omega) (by omega) (by omega)
  have c6 : 0 < 2 * e.2 * u.2 := Int.mul_pos (by omega) (by omega)
  have o1 : ∀ y, mulOk w y = true := fun y => mulOk_b (by omega)
  have o2 : ∀ y, mulOk y 2 = true := fun y => mulOk_b2 (by omega)
  have o3 : ∀ y, mulOk y e.1 = true := fun y => mulOk_b2 (by omega)
  have o4 : ∀ y, mulOk y x = true := fun y => mulOk_b2 (by omega)
  have o5 : ∀ y, mulOk y u.1 = true := fun y => mulOk_b2 (by omega)
  have o6 : ∀ y, mulOk 2 y = true := fun y => mulOk_b (by omega)
  have o7 : ∀ y, mulOk y u.2 = true := fun y => mulOk_b2 (by omega)
  generalize hTU : T * u.1 = TU at *
  generalize hB : 2 * e.2 * u.2 = B at *
  generalize hM : (if 1 < TU then TU else 1) = M at *
  have cM : 1 ≤ M ∧ M ≤ 23040 := by rw [← hM]; split <;> omega
  have f := lfr_spec M B c6 (by omega)
  have q1 := (fr_sign (t := M) c6).1 (by omega)
  have q2 := fr_le2 (t := M) c6
  have q3 := fr_gcd (t := M) c6
  have q4 := fr_le1 (t := M) c6
  have q5 := fr_pos (t := M) c6
  refine ⟨fr M B, s2, iv mv, iv T, ?_, ⟨q1, q5, by omega, by omega⟩, q3, g2⟩
  generalize fr M B = m at *
  have hl2 : (found.map frD).length < 1000000 := by rw [List.length_map]; omega
  unfold lb_l_measures_1 ρm
  rw [List.map_append, List.map_singleton]
  generalize found.map frD = fd at *
  generalize patD p = pd at *
  simp [sqS, DL.sM, ifS, DL.M.bind_def, opt, getV, getO, peek, putO, nxO, updO, setIxD, ixD, addD, subD, mulD2, mulD, fdivD, fdivW, modD, powD, lenD, absD, max2D, min2D, DL.intD, eqD, neD, ltD, leD, gtD, geD, intC, isD, nisD, isB, isNone, inD, ninD, chainM, boolOf, truD, negD, tupleD, listD, partOf, slD, DL.strOf, sidxD, revLD, range1, range2, lrgD, itemsOf, enumD, zipD, revSD, getS, peekS, callM, okM, toldR, frzs, frz, wipeE, lcM, resE, iv, at0, at1, e1, e2, hmv, ht, o1, o2, o3, o4, o5, o6, o7, hT, hTU, hB, hM, f, hl2]
theorem ms_loop {e u : Fr} {p : Pat} (he : 0 ≤ e.1 ∧ e.1 < e.2 ∧ e.2 ≤ 12) (hu : 1 ≤ u.1 ∧ u.1 ≤ 30 ∧ 1 ≤ u.2 ∧ u.2 ≤ 4) : ∀ (ws : List Int) (n : Nat) (s : List D) (found : List Fr), Good n s → n + 2 * ws.length ≤ 100000 → (∀ w ∈ ws, 1 ≤ w ∧ w ≤ 30) → found.length + ws.length ≤ 100 → (∀ m ∈ found, MOk m ∧ Int.gcd m.1 m.2 = 1) →
    ∃ s' found', forS [5, 6, 7] (fun d ρ => some (ρ.set 5 (some (.val d)))) lb_l_measures_1 (ws.map .int) (ρm s p e u found none none none) = .nx (ρm s' p e u found' none none none) ∧ found'.length = found.length + ws.length ∧ (∀ m ∈ found', MOk m ∧ Int.gcd m.1 m.2 = 1) ∧ Good (n + 2 * ws.length) s'
  | [], n, s, found, h, _, _, _, hf => ⟨s, found, rfl, by simp, hf, h⟩
  | w :: ws, n, s, found, h, hn, hw, hl, hf => by
    rw [List.length_cons] at hn hl
    obtain ⟨m, s1, b, c, e1, k1, k2, g1⟩ := ms_body (p := p) (found := found) h (by omega) he hu (hw w List.mem_cons_self) (by omega)
    obtain ⟨s', f', e', l', m', g'⟩ := ms_loop (p := p) he hu ws (n + 2) s1 (found ++ [m]) g1 (by omega) (fun y hy => hw y (List.mem_cons_of_mem _ hy)) (by rw [List.length_append]; simp; omega) (fun y hy => by
      rcases List.mem_append.mp hy with hy | hy
      · exact hf y hy
      · rw [List.mem_singleton.mp hy]; exact ⟨k1, k2⟩)
    refine ⟨s', f', ?_, by rw [List.length_append] at l'; simp at l'; rw [List.length_cons]; omega, m', g'.mono (by rw [List.length_cons]; omega)⟩
    rw [List.map_cons, forS_nx (ρ1 := ρm s p e u found (iv w) none none) rfl e1]
    exact e'
theorem measures_spec {n : Nat} {s : List D} {p : Pat} {e : Fr} (h : Good n s) (hn : n + 50 ≤ 100000) (he : 0 ≤ e.1 ∧ e.1 < e.2 ∧ e.2 ≤ 12) (hw : ∀ w ∈ p, 1 ≤ w ∧ w ≤ 30) (hp : p.length ≤ 12) :
    ∃ (ms : List Fr) (s' : List D), F_l_measures s [patD p, frD e] = some (msD ms, s') ∧ MsOk ms p.length ∧ Good (n + 50) s' := by
  obtain ⟨v1, s1, e1, a1, b1, g1⟩ := next_spec (m := 30) h (by omega) (by omega)
  obtain ⟨v2, s2, e2, a2, b2, g2⟩ := next_spec (m := 4) g1 (by omega) (by omega)
  have hb : 0 < 1 + v2 := by omega
  have f := lfr_spec (1 + v1) (1 + v2) hb (by omega)
  have q1 := (fr_sign (t := 1 + v1) hb).1 (by omega)
  have q2 := fr_le2 (t := 1 + v1) hb
  have q4 := fr_le1 (t := 1 + v1) hb
  have q5 := fr_pos (t := 1 + v1) hb
  have hu : 1 ≤ (fr (1 + v1) (1 + v2)).1 ∧ (fr (1 + v1) (1 + v2)).1 ≤ 30 ∧ 1 ≤ (fr (1 + v1) (1 + v2)).2 ∧ (fr (1 + v1) (1 + v2)).2 ≤ 4 := by omega
  generalize fr (1 + v1) (1 + v2) = u at *
  obtain ⟨s', ms, e3, l3, m3, g3⟩ := ms_loop (p := p) he hu p _ s2 [] g2 (by omega) hw (by simp; omega) (fun _ h => by cases h)
  refine ⟨ms, s', ?_, ⟨by simpa using l3, m3⟩, g3.mono (by omega)⟩
  unfold F_l_measures fdOO envO DL.env0 g_l_measures
  unfold ρm at e3
  rw [List.map_nil] at e3
  unfold patD msD at *
  generalize p.map PyData.int = pd at *
  generalize ms.map frD = md at *
  simp [sqS, DL.sM, ifS, DL.M.bind_def, opt, getV, getO, peek, putO, nxO, updO, setIxD, ixD, addD, subD, mulD2, mulD, fdivD, fdivW, modD, powD, lenD, absD, max2D, min2D, DL.intD, eqD, neD, ltD, leD, gtD, geD, intC, isD, nisD, isB, isNone, inD, ninD, chainM, boolOf, truD, negD, tupleD, listD, partOf, slD, DL.strOf, sidxD, revLD, range1, range2, lrgD, itemsOf, enumD, zipD, revSD, getS, peekS, callM, okM, toldR, frzs, frz, wipeE, lcM, resE, e1, e2, f, e3]
end K34

namespace K34
open PySem PySem.Spec PyProof.Rows L2 DL
theorem kn1 : kn "NotAllowed" = some "refused" := rfl
theorem ref6 : mulD2 (.list [.tuple [.str "refused"]]) (.int 6) = some (.list [.tuple [.str "refused"], .tuple [.str "refused"], .tuple [.str "refused"], .tuple [.str "refused"], .tuple [.str "refused"], .tuple [.str "refused"]]) := rfl
theorem eq6 : eqB (.list [.tuple [.str "refused"], .tuple [.str "refused"], .tuple [.str "refused"], .tuple [.str "refused"], .tuple [.str "refused"], .tuple [.str "refused"]]) (.list [.tuple [.str "refused"], .tuple [.str "refused"], .tuple [.str "refused"], .tuple [.str "refused"], .tuple [.str "refused"], .tuple [.str "refused"]]) = some true := by decide +kernel
theorem mu1000 (a : Int) : mulD2 (.int a) (.int 1000) = some (.int (a * 1000)) := by
  have := mulOk_r (i := a) (j := 1000) (by omega)
  simp [mulD2, mulD, this]
theorem same_spec {x s : D} (e : reprD [.list [x]] = some s) (hs : ∃ z, s = .str z) : F_l_same [x, x] = .ok (.bool true) := by
  obtain ⟨z, rfl⟩ := hs
  unfold F_l_same DL.fdOf DL.env0 g_l_same
  simp [sqS, DL.sM, ifS, DL.M.bind_def, opt, getV, getO, peek, putO, nxO, updO, setIxD, ixD, addD, subD, mulD2, mulD, fdivD, fdivW, modD, powD, lenD, absD, max2D, min2D, DL.intD, eqD, neD, ltD, leD, gtD, geD, intC, isD, nisD, isB, isNone, inD, ninD, chainM, boolOf, truD, negD, tupleD, listD, partOf, slD, DL.strOf, sidxD, revLD, range1, range2, lrgD, itemsOf, enumD, zipD, revSD, getS, peekS, callM, okM, toldR, frzs, frz, wipeE, lcM, resE, e, eqB_str]
theorem same_of {x : D} {c : Nat} (h : Shows x c) (hc : c ≤ 900000) : F_l_same [x, x] = .ok (.bool true) := by
  obtain ⟨z, e⟩ := repr_ok h hc
  exact same_spec e ⟨z, rfl⟩
theorem ints_shows {l : List Int} (h : ∀ i ∈ l, 0 ≤ i ∧ i < 1000) (hl : l.length ≤ 1000) : Shows (.list (l.map .int)) 20000 := by
  refine ⟨?_, ?_, ?_, ?_⟩
  · simp only [PyData.canLay0]
    exact canAll_map _ fun x _ => by simp [PyData.canLay0]
  · simp only [PyData.showable]
    refine showAll_map _ fun x hx => ?_
    have := h x hx
    simp only [PyData.showable]
    refine decide_eq_true ?_
    have : x.natAbs.log2 ≤ x.natAbs := Nat.log2_le_self _
    omega
  · simp only [PyData.depth]
    have := depthAll_map PyData.int (l := l) (n := 0) fun x _ => by simp [PyData.depth]
    omega
  · simp only [cost]
    have := costAll_map PyData.int (l := l) (n := 13) fun x hx => by
      have := h x hx
      have h2 : x.natAbs.log2 < 10 ∨ x.natAbs = 0 := by
        by_cases z : x.natAbs = 0
        · exact .inr z
        · exact .inl ((Nat.log2_lt z).mpr (by omega))
      simp only [cost]
      rcases h2 with h2 | h2
      · omega
      · rw [h2]; decide
    omega
theorem due_ints {P : List Pat} {e : Fr} {ms : List Fr} (hl : P.length ≤ 16) : (∀ i ∈ dueL P e ms, 0 ≤ i ∧ i < 1000) ∧ (dueL P e ms).length ≤ 1000 := by
  unfold dueL
  refine ⟨fun i hi => ?_, ?_⟩
  · obtain ⟨q, hq, rfl⟩ := List.mem_map.mp hi
    have := (List.mem_zipIdx (List.mem_filter.mp hq).1).2.1
    omega
  · rw [List.length_map]
    have := List.length_filter_le (fun q : Pat × Nat => Cb e (q.1.zip ms)) P.zipIdx
    rw [List.length_zipIdx] at this
    omega
theorem due_mem {P : List Pat} {e : Fr} {ms : List Fr} {pl : Nat} {p : Pat} (hp : P[pl]? = some p) : decide ((pl : Int) ∈ dueL P e ms) = Cb e (p.zip ms) := by
  have k : (pl : Int) ∈ dueL P e ms ↔ Cb e (p.zip ms) = true := by
    unfold dueL
    rw [List.mem_map]
    constructor
    · rintro ⟨q, hq, e1⟩
      have h1 := List.mem_filter.mp hq
      have h2 := List.mem_zipIdx_iff_getElem?.mp h1.1
      have : q.2 = pl := by omega
      rw [this, hp] at h2
      have h3 := Option.some.inj h2
      have h4 := h1.2
      rw [← h3] at h4
      exact h4
    · intro h
      exact ⟨(p, pl), List.mem_filter.mpr ⟨List.mem_zipIdx_iff_getElem?.mpr hp, h⟩, rfl⟩
  cases hc : Cb e (p.zip ms) with
  | true => rw [hc] at k; exact decide_eq_true (k.mpr rfl)
  | false =>
    rw [hc] at k
    exact decide_eq_false fun z => by have := k.mp z; cases this
theorem cut1 {l : List D} (h : 1 ≤ l.length) : DL.cutD l (some 1) none = l.drop 1 := by
  have h1 : HT.sIx l.length 0 (some 1) = 1 := by
    unfold HT.sIx
    simp
    omega
  have h2 : HT.sIx l.length l.length none = l.length := rfl
  unfold DL.cutD
  rw [h1, h2, List.take_of_length_le (by simp)]
/-! ### one round -/
def ρz (sc s : List D) (tn : Option SV) : DL.Env := [some (.seq sc), some (.own false (.list s)), tn, none, none, none, none, none, none, none, none, none]
theorem rangeP (P : List Pat) : rangeL 0 P.length = P.zipIdx.map fun q => PyData.int (q.2 : Nat) := by
  rw [rangeL_int, List.map_map]
  have e : P.zipIdx.map (fun q => PyData.int (q.2 : Nat)) = (P.zipIdx.map Prod.snd).map fun i => PyData.int (i : Nat) := by rw [List.map_map]; rfl
  rw [e, List.zipIdx_map_snd, List.range_eq_range']
  rfl
theorem due_comp {P : List Pat} {bars : Nat} {e : Fr} {ms : List Fr} (h : PsOk P bars) (hm : MsOk ms bars) (he : EOk e) (a b c d : Option SV) :
    lcS [11] (fun d ρ => some (ρ.set 11 (some (.val d)))) lt_law_2 le_law_1 [] (rangeL 0 P.length) [a, b, c, some (.val (patsD P)), some (.val (frD e)), d, some (.val (msD ms)), none, none, none, none, none] = .ok ((dueL P e ms).map .int) [a, b, c, some (.val (patsD P)), some (.val (frD e)), d, some (.val (msD ms)), none, none, none, none, none] := by
  have k := lcS_ro (vs := [11]) (b := fun d ρ => some (ρ.set 11 (some (.val d)))) (t := lt_law_2) (e := le_law_1) (ρ := [a, b, c, some (.val (patsD P)), some (.val (frD e)), d, some (.val (msD ms)), none, none, none, none, none])
    (fun q : Pat × Nat => PyData.int (q.2 : Nat)) (fun q => [a, b, c, some (.val (patsD P)), some (.val (frD e)), d, some (.val (msD ms)), none, none, none, none, iv (q.2 : Nat)]) (fun q => Cb e (q.1.zip ms)) (fun q => PyData.int (q.2 : Nat)) [] P.zipIdx [] (by
    intro q hq
    have hp := List.mem_zipIdx_iff_getElem?.mp hq
    have hpm : q.1 ∈ P := zipIdx_mem q hq
    have z := zip_ok h hm hpm
    have hl : q.1.length = ms.length := by rw [h.len _ hpm, hm.1]
    have u := unit_spec he hl z.1 (by rw [h.len _ hpm]; have := h.b2; omega)
    have x : L2.atI (P.map patD) (q.2 : Nat) = some (patD q.1) := by rw [at_n, List.getElem?_map, hp]; rfl
    refine ⟨rfl, ?_, fun _ => rfl, rfl⟩
    unfold lt_law_2 patsD iv
    generalize P.map patD = pd at *
    generalize patD q.1 = qd at *
    generalize msD ms = md at *
    simp [sqS, DL.sM, ifS, DL.M.bind_def, opt, getV, getO, peek, putO, nxO, updO, setIxD, ixD, addD, subD, mulD2, mulD, fdivD, fdivW, modD, powD, lenD, absD, max2D, min2D, DL.intD, eqD, neD, ltD, leD, gtD, geD, intC, isD, nisD, isB, isNone, inD, ninD, chainM, boolOf, truD, negD, tupleD, listD, partOf, slD, DL.strOf, sidxD, revLD, range1, range2, lrgD, itemsOf, enumD, zipD, revSD, getS, peekS, callM, okM, toldR, frzs, frz, wipeE, lcM, resE, x, u])
  rw [rangeP, k, List.nil_append]
  unfold dueL
  rw [List.map_map]
  rfl
theorem best_facts {qs : List Qm} {best : Fr} (hq : ∀ q ∈ qs, QOk q) (hL : LmOk (lims qs)) (h : IsMx (lims qs) best) : 0 ≤ best.1 ∧ 0 < best.2 ∧ best.1 ≤ 2 ^ 27 ∧ best.2 ≤ 2 ^ 23 ∧ Int.gcd best.1 best.2 = 1 := by
  have h0 := h.2 (0, 1) List.mem_cons_self
  unfold lt at h0
  simp at h0
  have hb := hL _ h.1
  have h1 := h.1
  unfold lims at h1
  rcases List.mem_cons.mp h1 with rfl | h1
  · exact ⟨by decide, by decide, by decide, by decide, by decide⟩
  · obtain ⟨a, ha, h1⟩ := List.mem_flatMap.mp h1
    obtain ⟨b, hb2, rfl⟩ := List.mem_map.mp h1
    have f := lm_facts (hq a ha) (hq b hb2)
    have g1 := @fr_le1 (limT a.1 b.1 a.2 b.2) (limB a.2 b.2) f.1
    have g2 := @fr_le2 (limT a.1 b.1 a.2 b.2) (limB a.2 b.2) f.1
    have g3 := @fr_gcd (limT a.1 b.1 a.2 b.2) (limB a.2 b.2) f.1
    have e1 : Lm a b = fr (limT a.1 b.1 a.2 b.2) (limB a.2 b.2) := rfl
    rw [← e1] at g1 g2 g3
    exact ⟨h0, hb.2.2.1, by omega, by omega, g3⟩
theorem fr_eqB (p : Fr) : eqB (frD p) (frD p) = some true := by
  have s : SeqAt.shaped (.tuple [.int p.1, .int p.2]) = true := shaped_of (by simp [PyData.canLay0, PyData.canLayAll0]) (by simp [PyData.depth, PyData.depthAll])
  rw [eqB_tuples s s]
  simp [PyData.eqvAll, PyData.eqv]
theorem eqB_bool (a b : Bool) : eqB (.bool a) (.bool b) = some (decide (a = b)) := rfl
set_option maxHeartbeats 4000000 in
theorem law_body {n : Nat} {sc s : List D} {tn : Int} (hg : Good n s) (hn : n ≤ 40000) : ∃ (ρ' : DL.Env) (s' : List D), lb_law_3 (ρz sc s (iv tn)) = .nx ρ' ∧ wipeE [2, 3, 4, 5, 6, 7, 8, 9, 10] ρ' = ρz sc s' none ∧ Good (n + 200) s' := by
  obtain ⟨P, bars, s1, e1, h, hbars, hlen, g1⟩ := patterns_spec hg (by omega)
  obtain ⟨e, s2, e2, e0, el, e12, eg, g2⟩ := error_spec g1 (by omega)
  have n1 := h.n1
  obtain ⟨v, s3, e3, v0, v1, g3⟩ := next_spec (m := (P.length : Int)) g2 (by omega) (by omega)
  obtain ⟨pl, rfl⟩ : ∃ k : Nat, v = (k : Int) := ⟨v.toNat, by omega⟩
  have hpl : pl < P.length := by omega
  obtain ⟨p, hp⟩ : ∃ p, P[pl]? = some p := ⟨_, List.getElem?_eq_getElem hpl⟩
  have hpm : p ∈ P := List.mem_of_getElem? hp
  have hpb := h.len p hpm
  obtain ⟨ms, s4, e4, hm, g4⟩ := measures_spec (p := p) (e := e) g3 (by omega) ⟨e0, el, e12⟩ (h.wid p hpm) (by omega)
  rw [hpb] at hm
  have he : EOk e := ⟨e0, by omega, by omega, by omega⟩
  have z := zip_ok h hm hpm
  have hl : p.length = ms.length := by rw [hpb, hm.1]
  have x : L2.atI (P.map patD) (pl : Int) = some (patD p) := by rw [at_n, List.getElem?_map, hp]; rfl
  have e5 := due_comp h hm he (some (.seq sc)) (some (.own false (.list s4))) (iv tn) (iv pl)
  have e6 := readings_spec h hm he el eg
  have di := due_ints (P := P) (e := e) (ms := ms) (by omega)
  have e7 := same_of (ints_shows di.1 di.2) (by omega)
  obtain ⟨best, e8, hL, hM⟩ := least_spec h hm hp
  obtain ⟨b0, b1, b2, b3, bg⟩ := best_facts z.1 hL hM
  have e9 := lfr_spec best.1 best.2 b1 (by omega)
  rw [fr_self bg] at e9
  have e10 := unit_spec (e := best) ⟨b0, b1, by omega, by omega⟩ hl z.1 (by omega)
  rw [cb_best z.1 hL hM ⟨b0, b1⟩, show decide (lt best best) = false from decide_eq_false (lt_irrefl best)] at e10
  have e11 := lfr_spec (best.1 * 1000 - 1) (best.2 * 1000) (by omega) (by omega)
  have q1 := fr_le1 (t := best.1 * 1000 - 1) (b := best.2 * 1000) (by omega)
  have q2 := fr_le2 (t := best.1 * 1000 - 1) (b := best.2 * 1000) (by omega)
  have q3 := fr_pos (t := best.1 * 1000 - 1) (b := best.2 * 1000) (by omega)
  have q4 : 0 < best.1 → 0 ≤ (fr (best.1 * 1000 - 1) (best.2 * 1000)).1 := fun z => (fr_sign (by omega)).2 (by omega)
  have q5 : lt (fr (best.1 * 1000 - 1) (best.2 * 1000)) best := less_lt b1
  have q6 : 0 < best.1 → F_l_unit [patD p, frD (fr (best.1 * 1000 - 1) (best.2 * 1000)), msD ms] = .ok (.bool false) := fun hz => by
    have := unit_spec (e := fr (best.1 * 1000 - 1) (best.2 * 1000)) ⟨q4 hz, q3, by omega, by omega⟩ hl z.1 (by omega)
    rw [cb_best z.1 hL hM ⟨q4 hz, q3⟩, decide_eq_true q5] at this
    exact this
  generalize fr (best.1 * 1000 - 1) (best.2 * 1000) = lv at *
  have e12 := inB_ints (pl : Int) (dueL P e ms)
  rw [due_mem hp, cb_best z.1 hL hM ⟨e0, by omega⟩] at e12
  have e13 := below_spec e best (eok_bd he) ⟨by omega, by omega, by omega, by omega⟩
  -- the refused
  have lm : (ms.map frD).length = ms.length := List.length_map ..
  have ml := hm.1
  have hb1 := h.b1
  have c1 : DL.cutD (ms.map frD) (some 1) none = (ms.drop 1).map frD := by
    rw [cut1 (by rw [lm]; omega), List.map_drop]
  have r1 : F_readings [patsD P, frD e, .tuple ((ms.drop 1).map frD)] = .er "NotAllowed" := readings_er2 h he el eg fun q => by
    have := q.1
    rw [List.length_drop] at this
    omega
  have r2 : F_readings [patsD P, frD e, .tuple (.tuple [.int 0, .int 1] :: (ms.drop 1).map frD)] = .er "NotAllowed" := readings_er2 (ms := (0, 1) :: ms.drop 1) h he el eg fun q => by
    have := q.2
    rw [List.all_cons] at this
    simp [frOk] at this
  have r3 : F_readings [patsD P, frD e, .tuple (.tuple [.int 2, .int 4] :: (ms.drop 1).map frD)] = .er "NotAllowed" := readings_er2 (ms := (2, 4) :: ms.drop 1) h he el eg fun q => by
    have := q.2
    rw [List.all_cons] at this
    have d : frOk (2, 4) = false := by decide
    rw [d] at this
    cases this
  have r4 : F_readings [patsD P, .tuple [.int 1, .int 1], msD ms] = .er "NotAllowed" := readings_er1 (e := (1, 1)) (msD ms) h ⟨by decide, by decide, by decide, by decide⟩ fun q => by
    have := q.2.2.2
    revert this
    decide
  have r5 : F_least_error [patsD P, .int P.length, msD ms] = .er "NotAllowed" := least_er1 (msD ms) h
  have r6 : F_least_error [patsD P, .int pl, .tuple ((ms ++ [(1, 1)]).map frD)] = .er "NotAllowed" := least_er2 (ms := ms ++ [(1, 1)]) h hpl fun q => by
    have := q.1
    rw [List.length_append] at this
    simp at this
    omega
  have ad : addD (.tuple (ms.map frD)) (.tuple [.tuple [.int 1, .int 1]]) = some (.tuple ((ms ++ [(1, 1)]).map frD)) := by
    rw [List.map_append, List.map_singleton]
    cases ms with
    | nil => simp at ml; omega
    | cons m r =>
      show (if _ then _ else _) = _
      rw [if_pos]
      · rfl
      · show (r.map frD).length + 1 + 1 ≤ 1000000
        rw [List.length_map]
        rw [List.length_cons] at ml
        omega
  have hdl : ((ms.drop 1).map frD).length + 1 ≤ 1000000 := by rw [List.length_map, List.length_drop]; omega
  have ad2 : ∀ y : D, addD (.tuple [y]) (.tuple ((ms.drop 1).map frD)) = some (.tuple (y :: (ms.drop 1).map frD)) := fun y => by
    show (if _ then _ else _) = _
    rw [if_pos]
    · rfl
    · show 0 + 1 + ((ms.drop 1).map frD).length ≤ 1000000
      omega
  have hdl2 : 1 + ((ms.drop 1).map frD).length ≤ 1000000 := by omega
  have lp : (P.map patD).length = P.length := List.length_map ..
  have lp2 : (P.length : Int) ≤ 1000000 := by omega
  have q7 := fr_eqB best
  refine ⟨[some (.seq sc), some (.own false (.list s4)), iv tn, some (.val (patsD P)), some (.val (frD e)), iv pl, some (.val (msD ms)), some (.val (.list ((dueL P e ms).map .int))), some (.val (frD best)), some (.val (frD lv)),
    some (.val (.list [.tuple [.str "refused"], .tuple [.str "refused"], .tuple [.str "refused"], .tuple [.str "refused"], .tuple [.str "refused"], .tuple [.str "refused"]])), none], s4, ?_, rfl, g4.mono (by omega)⟩
  have f2 := eq6
  have f3 := ref6
  have f4 := mu1000
  unfold lb_law_3 ρz
  unfold patsD msD iv at *
  generalize (dueL P e ms).map PyData.int = due at *
  generalize P.map patD = pd at *
  generalize (ms.drop 1).map frD = md1 at *
  generalize (ms ++ [(1, 1)]).map frD = md2 at *
  generalize ms.map frD = md at *
  generalize patD p = ppd at *
  have b1' : ¬ best.2 < 1 := by omega
  have b0' : ¬ best.1 < 0 := by omega
  by_cases hz : 0 < best.1
  · have q4' := q4 hz
    have q6' := q6 hz
    simp [sqS, DL.sM, ifS, DL.M.bind_def, opt, getV, getO, peek, putO, nxO, updO, setIxD, ixD, subD, mulD, fdivD, fdivW, modD, powD, lenD, absD, max2D, min2D, DL.intD, eqD, neD, ltD, leD, gtD, geD, intC, isD, nisD, isB, isNone, inD, ninD, chainM, boolOf, truD, negD, tupleD, listD, partOf, slD, DL.strOf, sidxD, revLD, range1, range2, lrgD, itemsOf, enumD, zipD, revSD, getS, peekS, callM, okM, toldR, frzs, frz, wipeE, lcM, resE, e1, e2, e3, e4, e5, e6, e7, e8, e9, e10, e11, e12, e13, x, lp, lp2, at0, at1, q7, b1', b0', hz, q4', q6', f4, f3, f2, c1, r1, r2, r3, r4, r5, r6, ad, ad2, kn1, eqB_bool]
  · simp [sqS, DL.sM, ifS, DL.M.bind_def, opt, getV, getO, peek, putO, nxO, updO, setIxD, ixD, subD, mulD, fdivD, fdivW, modD, powD, lenD, absD, max2D, min2D, DL.intD, eqD, neD, ltD, leD, gtD, geD, intC, isD, nisD, isB, isNone, inD, ninD, chainM, boolOf, truD, negD, tupleD, listD, partOf, slD, DL.strOf, sidxD, revLD, range1, range2, lrgD, itemsOf, enumD, zipD, revSD, getS, peekS, callM, okM, toldR, frzs, frz, wipeE, lcM, resE, e1, e2, e3, e4, e5, e6, e7, e8, e9, e10, e11, e12, e13, x, lp, lp2, at0, at1, q7, b1', b0', hz, f4, f3, f2, c1, r1, r2, r3, r4, r5, r6, ad, ad2, kn1, eqB_bool]
end K34

namespace K34
open PySem PySem.Spec PyProof.Rows L2 DL
theorem law_loop {sc : List D} : ∀ (xs : List Int) (n : Nat) (s : List D), Good n s → n + 200 * xs.length ≤ 30000 →
    ∃ s', forS [2, 3, 4, 5, 6, 7, 8, 9, 10] (fun d ρ => some (ρ.set 2 (some (.val d)))) lb_law_3 (xs.map .int) (ρz sc s none) = .nx (ρz sc s' none)
  | [], n, s, _, _ => ⟨s, rfl⟩
  | x :: xs, n, s, hg, hn => by
    rw [List.length_cons] at hn
    obtain ⟨ρ', s1, e, e2, g⟩ := law_body (sc := sc) (tn := x) hg (by omega)
    obtain ⟨s2, e3⟩ := law_loop (sc := sc) xs (n + 200) s1 g (by omega)
    refine ⟨s2, ?_⟩
    rw [List.map_cons, forS_nx (ρ1 := ρz sc s (iv x)) rfl e, e2]
    exact e3
theorem hmath (ns : List Int) (hl : ns.length ≤ 63) (hb : ∀ z ∈ ns, PySem.Builtin.Int.intBits z ≤ 1048576) : ∃ ρ, g_law (DL.envS 12 (ns.map .int)) = .rt (.bool true) ρ := by
  obtain ⟨ms, e, h1, h2⟩ := stream_spec ns hl
  obtain ⟨s', e2⟩ := law_loop (sc := ns.map .int) ((List.range 5).map fun (i : Nat) => (i : Int)) 0 [.list (ms.map .int), .int 0] ⟨ms, 0, rfl, h1, h2, by omega, by omega⟩ (by simp)
  rw [← rangeL_int] at e2
  refine ⟨ρz (ns.map .int) s' none, ?_⟩
  unfold ρz at e2
  unfold g_law DL.envS ρz
  simp [sqS, DL.sM, ifS, DL.M.bind_def, opt, getV, getO, peek, putO, nxO, updO, setIxD, ixD, addD, subD, mulD2, mulD, fdivD, fdivW, modD, powD, lenD, absD, max2D, min2D, DL.intD, eqD, neD, ltD, leD, gtD, geD, intC, isD, nisD, isB, isNone, inD, ninD, chainM, boolOf, truD, negD, tupleD, listD, partOf, slD, DL.strOf, sidxD, revLD, range1, range2, lrgD, itemsOf, enumD, zipD, revSD, getS, peekS, callM, okM, toldR, frzs, frz, wipeE, lcM, resE, e, e2]
end K34

namespace K34
open PySem PySem.Spec PyProof.Rows L2 DL
set_option maxHeartbeats 4000000 in
theorem end_mk {w : World} {K : PySem.W.Frag} {h : Heap} {mg : Str → Option Value} {CS d0 d1 d2 d3 d4 d5 c P0 f_l_stream f_l_next f_l_patterns f_l_gcd f_l_fraction f_l_error f_l_measures f_check_patterns f_divisor f_is_fraction f_check_measures f_fraction f_less f_least_error f_l_same f_l_below f_l_unit f_l_told f_check_error f_unit_ends f_readings f_law fa : Addr} {oc_l_stream kV_l_stream dc_l_stream pm_l_stream ct_l_stream : Value} {od_l_stream an_l_stream : Option Addr} {sl_l_stream : Array (Option Value)} {oc_l_next kV_l_next dc_l_next pm_l_next ct_l_next : Value} {od_l_next an_l_next : Option Addr} {sl_l_next : Array (Option Value)} {oc_l_patterns kV_l_patterns dc_l_patterns pm_l_patterns ct_l_patterns : Value} {od_l_patterns an_l_patterns : Option Addr} {sl_l_patterns : Array (Option Value)} {oc_l_gcd kV_l_gcd dc_l_gcd pm_l_gcd ct_l_gcd : Value} {od_l_gcd an_l_gcd : Option Addr} {sl_l_gcd : Array (Option Value)} {oc_l_fraction kV_l_fraction dc_l_fraction pm_l_fraction ct_l_fraction : Value} {od_l_fraction an_l_fraction : Option Addr} {sl_l_fraction : Array (Option Value)} {oc_l_error kV_l_error dc_l_error pm_l_error ct_l_error : Value} {od_l_error an_l_error : Option Addr} {sl_l_error : Array (Option Value)} {oc_l_measures kV_l_measures dc_l_measures pm_l_measures ct_l_measures : Value} {od_l_measures an_l_measures : Option Addr} {sl_l_measures : Array (Option Value)} {oc_check_patterns kV_check_patterns dc_check_patterns pm_check_patterns ct_check_patterns : Value} {od_check_patterns an_check_patterns : Option Addr} {sl_check_patterns : Array (Option Value)} {oc_divisor kV_divisor dc_divisor pm_divisor ct_divisor : Value} {od_divisor an_divisor : Option Addr} {sl_divisor : Array (Option Value)} {oc_is_fraction kV_is_fraction dc_is_fraction pm_is_fraction ct_is_fraction : Value} {od_is_fraction an_is_fraction : Option Addr} {sl_is_fraction : Array (Option Value)} {oc_check_measures kV_check_measures dc_check_measures pm_check_measures ct_check_measures : Value} {od_check_measures an_check_measures : Option Addr} {sl_check_measures : Array (Option Value)} {oc_fraction kV_fraction dc_fraction pm_fraction ct_fraction : Value} {od_fraction an_fraction : Option Addr} {sl_fraction : Array (Option Value)} {oc_less kV_less dc_less pm_less ct_less : Value} {od_less an_less : Option Addr} {sl_less : Array (Option Value)} {oc_least_error kV_least_error dc_least_error pm_least_error ct_least_error : Value} {od_least_error an_least_error : Option Addr} {sl_least_error : Array (Option Value)} {oc_l_same kV_l_same dc_l_same pm_l_same ct_l_same : Value} {od_l_same an_l_same : Option Addr} {sl_l_same : Array (Option Value)} {oc_l_below kV_l_below dc_l_below pm_l_below ct_l_below : Value} {od_l_below an_l_below : Option Addr} {sl_l_below : Array (Option Value)} {oc_l_unit kV_l_unit dc_l_unit pm_l_unit ct_l_unit : Value} {od_l_unit an_l_unit : Option Addr} {sl_l_unit : Array (Option Value)} {oc_l_told kV_l_told dc_l_told pm_l_told ct_l_told : Value} {od_l_told an_l_told : Option Addr} {sl_l_told : Array (Option Value)} {oc_check_error kV_check_error dc_check_error pm_check_error ct_check_error : Value} {od_check_error an_check_error : Option Addr} {sl_check_error : Array (Option Value)} {oc_unit_ends kV_unit_ends dc_unit_ends pm_unit_ends ct_unit_ends : Value} {od_unit_ends an_unit_ends : Option Addr} {sl_unit_ends : Array (Option Value)} {oc_readings kV_readings dc_readings pm_readings ct_readings : Value} {od_readings an_readings : Option Addr} {sl_readings : Array (Option Value)} {oc_law kV_law dc_law pm_law ct_law : Value} {od_law an_law : Option Addr} {sl_law : Array (Option Value)} {cd_l_stream cd_l_next cd_l_patterns cd_l_gcd cd_l_fraction cd_l_error cd_l_measures cd_check_patterns cd_divisor cd_is_fraction cd_check_measures cd_fraction cd_less cd_least_error cd_l_same cd_l_below cd_l_unit cd_l_told cd_check_error cd_unit_ends cd_readings : Value} {t_MAX_BARS t_MAX_PATTERNS t_MAX_WIDTH : Tok} (X : K.In h) (G : h.Ns mainGlobals mg) (hfa : mg "law" = some (.ref fa)) (hT : h.get? P0 = some { cls := .none, data := .fields #[] })
  (z_abs : PySem.W.nsIn K mainGlobals "abs" = some none)
  (z_all : PySem.W.nsIn K mainGlobals "all" = some none)
  (z_enumerate : PySem.W.nsIn K mainGlobals "enumerate" = some none)
  (z_int : PySem.W.nsIn K mainGlobals "int" = some none)
  (z_isinstance : PySem.W.nsIn K mainGlobals "isinstance" = some none)
  (z_len : PySem.W.nsIn K mainGlobals "len" = some none)
  (z_max : PySem.W.nsIn K mainGlobals "max" = some none)
  (z_min : PySem.W.nsIn K mainGlobals "min" = some none)
  (z_range : PySem.W.nsIn K mainGlobals "range" = some none)
  (z_repr : PySem.W.nsIn K mainGlobals "repr" = some none)
  (z_set : PySem.W.nsIn K mainGlobals "set" = some none)
  (z_tuple : PySem.W.nsIn K mainGlobals "tuple" = some none)
  (z_zip : PySem.W.nsIn K mainGlobals "zip" = some none)
  (n_MAX_BARS : PySem.W.nsIn K mainGlobals "MAX_BARS" = some (some (.int 12 t_MAX_BARS)))
  (n_MAX_PATTERNS : PySem.W.nsIn K mainGlobals "MAX_PATTERNS" = some (some (.int 16 t_MAX_PATTERNS)))
  (n_MAX_WIDTH : PySem.W.nsIn K mainGlobals "MAX_WIDTH" = some (some (.int 30 t_MAX_WIDTH)))
  (a_l_stream : PySem.W.nsIn K mainGlobals "_law_stream" = some (some (.ref f_l_stream)))
  (l_l_stream : K.lookup f_l_stream = some ⟨oc_l_stream, od_l_stream, .func (PySem.W.fnOf "_law_stream" "_law_stream" (defArgs s_l_stream) (defBody s_l_stream) (defScope s_l_stream) .none kV_l_stream dc_l_stream pm_l_stream an_l_stream cd_l_stream ct_l_stream), sl_l_stream⟩)
  (e_l_stream : PySem.W.codeIn K cd_l_stream "_law_stream" = true)
  (k_l_stream : PySem.W.keepIn K (.ref f_l_stream) = true)
  (a_l_next : PySem.W.nsIn K mainGlobals "_law_next" = some (some (.ref f_l_next)))
  (l_l_next : K.lookup f_l_next = some ⟨oc_l_next, od_l_next, .func (PySem.W.fnOf "_law_next" "_law_next" (defArgs s_l_next) (defBody s_l_next) (defScope s_l_next) .none kV_l_next dc_l_next pm_l_next an_l_next cd_l_next ct_l_next), sl_l_next⟩)
  (e_l_next : PySem.W.codeIn K cd_l_next "_law_next" = true)
  (k_l_next : PySem.W.keepIn K (.ref f_l_next) = true)
  (a_l_patterns : PySem.W.nsIn K mainGlobals "_law_patterns" = some (some (.ref f_l_patterns)))
  (l_l_patterns : K.lookup f_l_patterns = some ⟨oc_l_patterns, od_l_patterns, .func (PySem.W.fnOf "_law_patterns" "_law_patterns" (defArgs s_l_patterns) (defBody s_l_patterns) (defScope s_l_patterns) .none kV_l_patterns dc_l_patterns pm_l_patterns an_l_patterns cd_l_patterns ct_l_patterns), sl_l_patterns⟩)
  (e_l_patterns : PySem.W.codeIn K cd_l_patterns "_law_patterns" = true)
  (k_l_patterns : PySem.W.keepIn K (.ref f_l_patterns) = true)
  (a_l_gcd : PySem.W.nsIn K mainGlobals "_law_gcd" = some (some (.ref f_l_gcd)))
  (l_l_gcd : K.lookup f_l_gcd = some ⟨oc_l_gcd, od_l_gcd, .func (PySem.W.fnOf "_law_gcd" "_law_gcd" (defArgs s_l_gcd) (defBody s_l_gcd) (defScope s_l_gcd) .none kV_l_gcd dc_l_gcd pm_l_gcd an_l_gcd cd_l_gcd ct_l_gcd), sl_l_gcd⟩)
  (e_l_gcd : PySem.W.codeIn K cd_l_gcd "_law_gcd" = true)
  (k_l_gcd : PySem.W.keepIn K (.ref f_l_gcd) = true)
  (a_l_fraction : PySem.W.nsIn K mainGlobals "_law_fraction" = some (some (.ref f_l_fraction)))
  (l_l_fraction : K.lookup f_l_fraction = some ⟨oc_l_fraction, od_l_fraction, .func (PySem.W.fnOf "_law_fraction" "_law_fraction" (defArgs s_l_fraction) (defBody s_l_fraction) (defScope s_l_fraction) .none kV_l_fraction dc_l_fraction pm_l_fraction an_l_fraction cd_l_fraction ct_l_fraction), sl_l_fraction⟩)
  (e_l_fraction : PySem.W.codeIn K cd_l_fraction "_law_fraction" = true)
  (k_l_fraction : PySem.W.keepIn K (.ref f_l_fraction) = true)
  (a_l_error : PySem.W.nsIn K mainGlobals "_law_error" = some (some (.ref f_l_error)))
  (l_l_error : K.lookup f_l_error = some ⟨oc_l_error, od_l_error, .func (PySem.W.fnOf "_law_error" "_law_error" (defArgs s_l_error) (defBody s_l_error) (defScope s_l_error) .none kV_l_error dc_l_error pm_l_error an_l_error cd_l_error ct_l_error), sl_l_error⟩)
  (e_l_error : PySem.W.codeIn K cd_l_error "_law_error" = true)
  (k_l_error : PySem.W.keepIn K (.ref f_l_error) = true)
  (a_l_measures : PySem.W.nsIn K mainGlobals "_law_measures" = some (some (.ref f_l_measures)))
  (l_l_measures : K.lookup f_l_measures = some ⟨oc_l_measures, od_l_measures, .func (PySem.W.fnOf "_law_measures" "_law_measures" (defArgs s_l_measures) (defBody s_l_measures) (defScope s_l_measures) .none kV_l_measures dc_l_measures pm_l_measures an_l_measures cd_l_measures ct_l_measures), sl_l_measures⟩)
  (e_l_measures : PySem.W.codeIn K cd_l_measures "_law_measures" = true)
  (k_l_measures : PySem.W.keepIn K (.ref f_l_measures) = true)
  (a_check_patterns : PySem.W.nsIn K mainGlobals "check_patterns" = some (some (.ref f_check_patterns)))
  (l_check_patterns : K.lookup f_check_patterns = some ⟨oc_check_patterns, od_check_patterns, .func (PySem.W.fnOf "check_patterns" "check_patterns" (defArgs s_check_patterns) (defBody s_check_patterns) (defScope s_check_patterns) .none kV_check_patterns dc_check_patterns pm_check_patterns an_check_patterns cd_check_patterns ct_check_patterns), sl_check_patterns⟩)
  (e_check_patterns : PySem.W.codeIn K cd_check_patterns "check_patterns" = true)
  (k_check_patterns : PySem.W.keepIn K (.ref f_check_patterns) = true)
  (a_divisor : PySem.W.nsIn K mainGlobals "divisor" = some (some (.ref f_divisor)))
  (l_divisor : K.lookup f_divisor = some ⟨oc_divisor, od_divisor, .func (PySem.W.fnOf "divisor" "divisor" (defArgs s_divisor) (defBody s_divisor) (defScope s_divisor) .none kV_divisor dc_divisor pm_divisor an_divisor cd_divisor ct_divisor), sl_divisor⟩)
  (e_divisor : PySem.W.codeIn K cd_divisor "divisor" = true)
  (k_divisor : PySem.W.keepIn K (.ref f_divisor) = true)
  (a_is_fraction : PySem.W.nsIn K mainGlobals "is_fraction" = some (some (.ref f_is_fraction)))
  (l_is_fraction : K.lookup f_is_fraction = some ⟨oc_is_fraction, od_is_fraction, .func (PySem.W.fnOf "is_fraction" "is_fraction" (defArgs s_is_fraction) (defBody s_is_fraction) (defScope s_is_fraction) .none kV_is_fraction dc_is_fraction pm_is_fraction an_is_fraction cd_is_fraction ct_is_fraction), sl_is_fraction⟩)
  (e_is_fraction : PySem.W.codeIn K cd_is_fraction "is_fraction" = true)
  (k_is_fraction : PySem.W.keepIn K (.ref f_is_fraction) = true)
  (a_check_measures : PySem.W.nsIn K mainGlobals "check_measures" = some (some (.ref f_check_measures)))
  (l_check_measures : K.lookup f_check_measures = some ⟨oc_check_measures, od_check_measures, .func (PySem.W.fnOf "check_measures" "check_measures" (defArgs s_check_measures) (defBody s_check_measures) (defScope s_check_measures) .none kV_check_measures dc_check_measures pm_check_measures an_check_measures cd_check_measures ct_check_measures), sl_check_measures⟩)
  (e_check_measures : PySem.W.codeIn K cd_check_measures "check_measures" = true)
  (k_check_measures : PySem.W.keepIn K (.ref f_check_measures) = true)
  (a_fraction : PySem.W.nsIn K mainGlobals "fraction" = some (some (.ref f_fraction)))
  (l_fraction : K.lookup f_fraction = some ⟨oc_fraction, od_fraction, .func (PySem.W.fnOf "fraction" "fraction" (defArgs s_fraction) (defBody s_fraction) (defScope s_fraction) .none kV_fraction dc_fraction pm_fraction an_fraction cd_fraction ct_fraction), sl_fraction⟩)
  (e_fraction : PySem.W.codeIn K cd_fraction "fraction" = true)
  (k_fraction : PySem.W.keepIn K (.ref f_fraction) = true)
  (a_less : PySem.W.nsIn K mainGlobals "less" = some (some (.ref f_less)))
  (l_less : K.lookup f_less = some ⟨oc_less, od_less, .func (PySem.W.fnOf "less" "less" (defArgs s_less) (defBody s_less) (defScope s_less) .none kV_less dc_less pm_less an_less cd_less ct_less), sl_less⟩)
  (e_less : PySem.W.codeIn K cd_less "less" = true)
  (k_less : PySem.W.keepIn K (.ref f_less) = true)
  (a_least_error : PySem.W.nsIn K mainGlobals "least_error" = some (some (.ref f_least_error)))
  (l_least_error : K.lookup f_least_error = some ⟨oc_least_error, od_least_error, .func (PySem.W.fnOf "least_error" "least_error" (defArgs s_least_error) (defBody s_least_error) (defScope s_least_error) .none kV_least_error dc_least_error pm_least_error an_least_error cd_least_error ct_least_error), sl_least_error⟩)
  (e_least_error : PySem.W.codeIn K cd_least_error "least_error" = true)
  (k_least_error : PySem.W.keepIn K (.ref f_least_error) = true)
  (a_l_same : PySem.W.nsIn K mainGlobals "_law_same" = some (some (.ref f_l_same)))
  (l_l_same : K.lookup f_l_same = some ⟨oc_l_same, od_l_same, .func (PySem.W.fnOf "_law_same" "_law_same" (defArgs s_l_same) (defBody s_l_same) (defScope s_l_same) .none kV_l_same dc_l_same pm_l_same an_l_same cd_l_same ct_l_same), sl_l_same⟩)
  (e_l_same : PySem.W.codeIn K cd_l_same "_law_same" = true)
  (k_l_same : PySem.W.keepIn K (.ref f_l_same) = true)
  (a_l_below : PySem.W.nsIn K mainGlobals "_law_below" = some (some (.ref f_l_below)))
  (l_l_below : K.lookup f_l_below = some ⟨oc_l_below, od_l_below, .func (PySem.W.fnOf "_law_below" "_law_below" (defArgs s_l_below) (defBody s_l_below) (defScope s_l_below) .none kV_l_below dc_l_below pm_l_below an_l_below cd_l_below ct_l_below), sl_l_below⟩)
  (e_l_below : PySem.W.codeIn K cd_l_below "_law_below" = true)
  (k_l_below : PySem.W.keepIn K (.ref f_l_below) = true)
  (a_l_unit : PySem.W.nsIn K mainGlobals "_law_unit" = some (some (.ref f_l_unit)))
  (l_l_unit : K.lookup f_l_unit = some ⟨oc_l_unit, od_l_unit, .func (PySem.W.fnOf "_law_unit" "_law_unit" (defArgs s_l_unit) (defBody s_l_unit) (defScope s_l_unit) .none kV_l_unit dc_l_unit pm_l_unit an_l_unit cd_l_unit ct_l_unit), sl_l_unit⟩)
  (e_l_unit : PySem.W.codeIn K cd_l_unit "_law_unit" = true)
  (k_l_unit : PySem.W.keepIn K (.ref f_l_unit) = true)
  (a_l_told : PySem.W.nsIn K mainGlobals "_law_told" = some (some (.ref f_l_told)))
  (l_l_told : K.lookup f_l_told = some ⟨oc_l_told, od_l_told, .func (PySem.W.fnOf "_law_told" "_law_told" (defArgs s_l_told) (defBody s_l_told) (defScope s_l_told) .none kV_l_told dc_l_told pm_l_told an_l_told cd_l_told ct_l_told), sl_l_told⟩)
  (e_l_told : PySem.W.codeIn K cd_l_told "_law_told" = true)
  (k_l_told : PySem.W.keepIn K (.ref f_l_told) = true)
  (a_check_error : PySem.W.nsIn K mainGlobals "check_error" = some (some (.ref f_check_error)))
  (l_check_error : K.lookup f_check_error = some ⟨oc_check_error, od_check_error, .func (PySem.W.fnOf "check_error" "check_error" (defArgs s_check_error) (defBody s_check_error) (defScope s_check_error) .none kV_check_error dc_check_error pm_check_error an_check_error cd_check_error ct_check_error), sl_check_error⟩)
  (e_check_error : PySem.W.codeIn K cd_check_error "check_error" = true)
  (k_check_error : PySem.W.keepIn K (.ref f_check_error) = true)
  (a_unit_ends : PySem.W.nsIn K mainGlobals "unit_ends" = some (some (.ref f_unit_ends)))
  (l_unit_ends : K.lookup f_unit_ends = some ⟨oc_unit_ends, od_unit_ends, .func (PySem.W.fnOf "unit_ends" "unit_ends" (defArgs s_unit_ends) (defBody s_unit_ends) (defScope s_unit_ends) .none kV_unit_ends dc_unit_ends pm_unit_ends an_unit_ends cd_unit_ends ct_unit_ends), sl_unit_ends⟩)
  (e_unit_ends : PySem.W.codeIn K cd_unit_ends "unit_ends" = true)
  (k_unit_ends : PySem.W.keepIn K (.ref f_unit_ends) = true)
  (a_readings : PySem.W.nsIn K mainGlobals "readings" = some (some (.ref f_readings)))
  (l_readings : K.lookup f_readings = some ⟨oc_readings, od_readings, .func (PySem.W.fnOf "readings" "readings" (defArgs s_readings) (defBody s_readings) (defScope s_readings) .none kV_readings dc_readings pm_readings an_readings cd_readings ct_readings), sl_readings⟩)
  (e_readings : PySem.W.codeIn K cd_readings "readings" = true)
  (k_readings : PySem.W.keepIn K (.ref f_readings) = true)
  (a_law : PySem.W.nsIn K mainGlobals "law" = some (some (.ref f_law)))
  (l_law : K.lookup f_law = some ⟨oc_law, od_law, .func (PySem.W.fnOf "law" "law" (defArgs s_law) (defBody s_law) (defScope s_law) .none kV_law dc_law pm_law an_law (.ref c) ct_law), sl_law⟩)
  (e_law : PySem.W.codeIn K (.ref c) "law" = true)
  (k_law : PySem.W.keepIn K (.ref f_law) = true)
  (cgS : PySem.W.nsIn K mainGlobals "SlipError" = some (some (.ref CS)))
  (cg0 : PySem.W.nsIn K mainGlobals "NotAllowed" = some (some (.ref d0)))
  (cg1 : PySem.W.nsIn K mainGlobals "TooLarge" = some (some (.ref d1)))
  (cg2 : PySem.W.nsIn K mainGlobals "Missing" = some (some (.ref d2)))
  (cg3 : PySem.W.nsIn K mainGlobals "BadPaper" = some (some (.ref d3)))
  (cg4 : PySem.W.nsIn K mainGlobals "BadForm" = some (some (.ref d4)))
  (cg5 : PySem.W.nsIn K mainGlobals "Broken" = some (some (.ref d5)))
  (x0g : PySem.W.findIn K (.ref d0) "__getattribute__" = some (some (.builtin "BaseException.__getattribute__")))
  (x0k : PySem.W.findIn K (.ref d0) "__getattr__" = some none)
  (x0s : PySem.W.subIn K (.ref d0) (.type "BaseException") = some true)
  (x0d : PySem.W.hasDictIn K d0 = true)
  (x0a : PySem.W.findIn K (.ref d0) "__class__" = some (some (.builtin "object.__class__")))
  (x0m : PySem.W.mroIn K d0 (.type "object") = some true)
  (x0t : PySem.W.typeIn K (.ref d0) = some (.type "type"))
  (x0k2 : PySem.W.keepIn K (.ref d0) = true)
  (x0q : PySem.W.excIn K d0 [.type "ValueError", .type "Exception", .type "BaseException", .type "object"] "ValueError.__new__" = true)
  (x0e : PySem.W.exmOne K (.ref d0) (.ref CS) = some true)
  (x00 : PySem.W.kitOne K (.ref d0) (.ref d0) = some true)
  (x01 : PySem.W.kitOne K (.ref d0) (.ref d1) = some false)
  (x02 : PySem.W.kitOne K (.ref d0) (.ref d2) = some false)
  (x03 : PySem.W.kitOne K (.ref d0) (.ref d3) = some false)
  (x04 : PySem.W.kitOne K (.ref d0) (.ref d4) = some false)
  (x05 : PySem.W.kitOne K (.ref d0) (.ref d5) = some false)
  (x1g : PySem.W.findIn K (.ref d1) "__getattribute__" = some (some (.builtin "BaseException.__getattribute__")))
  (x1k : PySem.W.findIn K (.ref d1) "__getattr__" = some none)
  (x1s : PySem.W.subIn K (.ref d1) (.type "BaseException") = some true)
  (x1d : PySem.W.hasDictIn K d1 = true)
  (x1a : PySem.W.findIn K (.ref d1) "__class__" = some (some (.builtin "object.__class__")))
  (x1m : PySem.W.mroIn K d1 (.type "object") = some true)
  (x1t : PySem.W.typeIn K (.ref d1) = some (.type "type"))
  (x1k2 : PySem.W.keepIn K (.ref d1) = true)
  (x1q : PySem.W.excIn K d1 [.type "ValueError", .type "Exception", .type "BaseException", .type "object"] "ValueError.__new__" = true)
  (x1e : PySem.W.exmOne K (.ref d1) (.ref CS) = some true)
  (x10 : PySem.W.kitOne K (.ref d1) (.ref d0) = some false)
  (x11 : PySem.W.kitOne K (.ref d1) (.ref d1) = some true)
  (x12 : PySem.W.kitOne K (.ref d1) (.ref d2) = some false)
  (x13 : PySem.W.kitOne K (.ref d1) (.ref d3) = some false)
  (x14 : PySem.W.kitOne K (.ref d1) (.ref d4) = some false)
  (x15 : PySem.W.kitOne K (.ref d1) (.ref d5) = some false)
  (x2g : PySem.W.findIn K (.ref d2) "__getattribute__" = some (some (.builtin "BaseException.__getattribute__")))
  (x2k : PySem.W.findIn K (.ref d2) "__getattr__" = some none)
  (x2s : PySem.W.subIn K (.ref d2) (.type "BaseException") = some true)
  (x2d : PySem.W.hasDictIn K d2 = true)
  (x2a : PySem.W.findIn K (.ref d2) "__class__" = some (some (.builtin "object.__class__")))
  (x2m : PySem.W.mroIn K d2 (.type "object") = some true)
  (x2t : PySem.W.typeIn K (.ref d2) = some (.type "type"))
  (x2k2 : PySem.W.keepIn K (.ref d2) = true)
  (x2q : PySem.W.excIn K d2 [.type "ValueError", .type "Exception", .type "BaseException", .type "object"] "ValueError.__new__" = true)
  (x2e : PySem.W.exmOne K (.ref d2) (.ref CS) = some true)
  (x20 : PySem.W.kitOne K (.ref d2) (.ref d0) = some false)
  (x21 : PySem.W.kitOne K (.ref d2) (.ref d1) = some false)
  (x22 : PySem.W.kitOne K (.ref d2) (.ref d2) = some true)
  (x23 : PySem.W.kitOne K (.ref d2) (.ref d3) = some false)
  (x24 : PySem.W.kitOne K (.ref d2) (.ref d4) = some false)
  (x25 : PySem.W.kitOne K (.ref d2) (.ref d5) = some false)
  (yn : PySem.W.specialIn K (.builtin "object.__class__") "__get__" = some (some (.builtin "getset_descriptor.__get__")))
  (yt : PySem.W.takesIn K (.builtin "object.__class__") = some true)
  (nT : K.lookup P0 = none)
  (hC0 : PySem.W.codeHdIn K c P0 = true) :
  DL.LawAtG PySem.Challenge.rw_slipguard_k34_whole_measures_read w K (L2N.CX (PySem.Challenge.rw_slipguard_k34_whole_measures_read).prog w) 8 63 "script" mg fa h := by
  have e := hfa.symm.trans (PySem.W.mg_of X G a_law)
  cases e
  have T : Txt K mg := { b_abs := PySem.W.mg_none_of X G z_abs, b_all := PySem.W.mg_none_of X G z_all, b_enumerate := PySem.W.mg_none_of X G z_enumerate, b_int := PySem.W.mg_none_of X G z_int, b_isinstance := PySem.W.mg_none_of X G z_isinstance, b_len := PySem.W.mg_none_of X G z_len, b_max := PySem.W.mg_none_of X G z_max, b_min := PySem.W.mg_none_of X G z_min, b_range := PySem.W.mg_none_of X G z_range, b_repr := PySem.W.mg_none_of X G z_repr, b_set := PySem.W.mg_none_of X G z_set, b_tuple := PySem.W.mg_none_of X G z_tuple, b_zip := PySem.W.mg_none_of X G z_zip, c_MAX_BARS := ⟨_, PySem.W.mg_of X G n_MAX_BARS⟩, c_MAX_PATTERNS := ⟨_, PySem.W.mg_of X G n_MAX_PATTERNS⟩, c_MAX_WIDTH := ⟨_, PySem.W.mg_of X G n_MAX_WIDTH⟩ }
  have k0 : IsK K CS [d0, d1, d2, d3, d4, d5] d0 0 := by
    refine ⟨⟨x0g, x0k, x0s, x0d, x0a, yn, yt, x0m⟩, x0e, fun j d hj => ?_⟩
    match j, hj with
    | 0, hj => cases hj; exact x00
    | 1, hj => cases hj; exact x01
    | 2, hj => cases hj; exact x02
    | 3, hj => cases hj; exact x03
    | 4, hj => cases hj; exact x04
    | 5, hj => cases hj; exact x05
    | j + 6, hj => cases hj
  have k1 : IsK K CS [d0, d1, d2, d3, d4, d5] d1 1 := by
    refine ⟨⟨x1g, x1k, x1s, x1d, x1a, yn, yt, x1m⟩, x1e, fun j d hj => ?_⟩
    match j, hj with
    | 0, hj => cases hj; exact x10
    | 1, hj => cases hj; exact x11
    | 2, hj => cases hj; exact x12
    | 3, hj => cases hj; exact x13
    | 4, hj => cases hj; exact x14
    | 5, hj => cases hj; exact x15
    | j + 6, hj => cases hj
  have k2 : IsK K CS [d0, d1, d2, d3, d4, d5] d2 2 := by
    refine ⟨⟨x2g, x2k, x2s, x2d, x2a, yn, yt, x2m⟩, x2e, fun j d hj => ?_⟩
    match j, hj with
    | 0, hj => cases hj; exact x20
    | 1, hj => cases hj; exact x21
    | 2, hj => cases hj; exact x22
    | 3, hj => cases hj; exact x23
    | 4, hj => cases hj; exact x24
    | 5, hj => cases hj; exact x25
    | j + 6, hj => cases hj
  have C : HasK K mg CS d0 d1 d2 d3 d4 d5 := ⟨PySem.W.mg_of X G cgS, PySem.W.mg_of X G cg0, PySem.W.mg_of X G cg1, PySem.W.mg_of X G cg2, PySem.W.mg_of X G cg3, PySem.W.mg_of X G cg4, PySem.W.mg_of X G cg5, k0, k1, k2⟩
  have c_NotAllowed : HasC K mg "NotAllowed" d0 := ⟨PySem.W.mg_of X G cg0, x0k2, x0q, x0s, x0t⟩
  have c_TooLarge : HasC K mg "TooLarge" d1 := ⟨PySem.W.mg_of X G cg1, x1k2, x1q, x1s, x1t⟩
  have c_Missing : HasC K mg "Missing" d2 := ⟨PySem.W.mg_of X G cg2, x2k2, x2q, x2s, x2t⟩
  have F_l_stream := fun_mk (st := s_l_stream) l_l_stream e_l_stream k_l_stream
  have h_l_stream : Has K mg "_law_stream" s_l_stream ["script"] f_l_stream _ := ⟨F_l_stream, PySem.W.mg_of X G a_l_stream, k_l_stream, F_l_stream.binds (ps := ["script"]) fun _ _ _ _ _ _ us hl => match us, hl with | [_], _ => rfl⟩
  have F_l_next := fun_mk (st := s_l_next) l_l_next e_l_next k_l_next
  have h_l_next : Has K mg "_law_next" s_l_next ["state", "many"] f_l_next _ := ⟨F_l_next, PySem.W.mg_of X G a_l_next, k_l_next, F_l_next.binds (ps := ["state", "many"]) fun _ _ _ _ _ _ us hl => match us, hl with | [_, _], _ => rfl⟩
  have F_l_patterns := fun_mk (st := s_l_patterns) l_l_patterns e_l_patterns k_l_patterns
  have h_l_patterns : Has K mg "_law_patterns" s_l_patterns ["state"] f_l_patterns _ := ⟨F_l_patterns, PySem.W.mg_of X G a_l_patterns, k_l_patterns, F_l_patterns.binds (ps := ["state"]) fun _ _ _ _ _ _ us hl => match us, hl with | [_], _ => rfl⟩
  have F_l_gcd := fun_mk (st := s_l_gcd) l_l_gcd e_l_gcd k_l_gcd
  have h_l_gcd : Has K mg "_law_gcd" s_l_gcd ["one", "other"] f_l_gcd _ := ⟨F_l_gcd, PySem.W.mg_of X G a_l_gcd, k_l_gcd, F_l_gcd.binds (ps := ["one", "other"]) fun _ _ _ _ _ _ us hl => match us, hl with | [_, _], _ => rfl⟩
  have F_l_fraction := fun_mk (st := s_l_fraction) l_l_fraction e_l_fraction k_l_fraction
  have h_l_fraction : Has K mg "_law_fraction" s_l_fraction ["top", "below"] f_l_fraction _ := ⟨F_l_fraction, PySem.W.mg_of X G a_l_fraction, k_l_fraction, F_l_fraction.binds (ps := ["top", "below"]) fun _ _ _ _ _ _ us hl => match us, hl with | [_, _], _ => rfl⟩
  have F_l_error := fun_mk (st := s_l_error) l_l_error e_l_error k_l_error
  have h_l_error : Has K mg "_law_error" s_l_error ["state"] f_l_error _ := ⟨F_l_error, PySem.W.mg_of X G a_l_error, k_l_error, F_l_error.binds (ps := ["state"]) fun _ _ _ _ _ _ us hl => match us, hl with | [_], _ => rfl⟩
  have F_l_measures := fun_mk (st := s_l_measures) l_l_measures e_l_measures k_l_measures
  have h_l_measures : Has K mg "_law_measures" s_l_measures ["state", "pattern", "error"] f_l_measures _ := ⟨F_l_measures, PySem.W.mg_of X G a_l_measures, k_l_measures, F_l_measures.binds (ps := ["state", "pattern", "error"]) fun _ _ _ _ _ _ us hl => match us, hl with | [_, _, _], _ => rfl⟩
  have F_check_patterns := fun_mk (st := s_check_patterns) l_check_patterns e_check_patterns k_check_patterns
  have h_check_patterns : Has K mg "check_patterns" s_check_patterns ["patterns"] f_check_patterns _ := ⟨F_check_patterns, PySem.W.mg_of X G a_check_patterns, k_check_patterns, F_check_patterns.binds (ps := ["patterns"]) fun _ _ _ _ _ _ us hl => match us, hl with | [_], _ => rfl⟩
  have F_divisor := fun_mk (st := s_divisor) l_divisor e_divisor k_divisor
  have h_divisor : Has K mg "divisor" s_divisor ["first", "second"] f_divisor _ := ⟨F_divisor, PySem.W.mg_of X G a_divisor, k_divisor, F_divisor.binds (ps := ["first", "second"]) fun _ _ _ _ _ _ us hl => match us, hl with | [_, _], _ => rfl⟩
  have F_is_fraction := fun_mk (st := s_is_fraction) l_is_fraction e_is_fraction k_is_fraction
  have h_is_fraction : Has K mg "is_fraction" s_is_fraction ["value"] f_is_fraction _ := ⟨F_is_fraction, PySem.W.mg_of X G a_is_fraction, k_is_fraction, F_is_fraction.binds (ps := ["value"]) fun _ _ _ _ _ _ us hl => match us, hl with | [_], _ => rfl⟩
  have F_check_measures := fun_mk (st := s_check_measures) l_check_measures e_check_measures k_check_measures
  have h_check_measures : Has K mg "check_measures" s_check_measures ["patterns", "measures"] f_check_measures _ := ⟨F_check_measures, PySem.W.mg_of X G a_check_measures, k_check_measures, F_check_measures.binds (ps := ["patterns", "measures"]) fun _ _ _ _ _ _ us hl => match us, hl with | [_, _], _ => rfl⟩
  have F_fraction := fun_mk (st := s_fraction) l_fraction e_fraction k_fraction
  have h_fraction : Has K mg "fraction" s_fraction ["top", "below"] f_fraction _ := ⟨F_fraction, PySem.W.mg_of X G a_fraction, k_fraction, F_fraction.binds (ps := ["top", "below"]) fun _ _ _ _ _ _ us hl => match us, hl with | [_, _], _ => rfl⟩
  have F_less := fun_mk (st := s_less) l_less e_less k_less
  have h_less : Has K mg "less" s_less ["first", "second"] f_less _ := ⟨F_less, PySem.W.mg_of X G a_less, k_less, F_less.binds (ps := ["first", "second"]) fun _ _ _ _ _ _ us hl => match us, hl with | [_, _], _ => rfl⟩
  have F_least_error := fun_mk (st := s_least_error) l_least_error e_least_error k_least_error
  have h_least_error : Has K mg "least_error" s_least_error ["patterns", "place", "measures"] f_least_error _ := ⟨F_least_error, PySem.W.mg_of X G a_least_error, k_least_error, F_least_error.binds (ps := ["patterns", "place", "measures"]) fun _ _ _ _ _ _ us hl => match us, hl with | [_, _, _], _ => rfl⟩
  have F_l_same := fun_mk (st := s_l_same) l_l_same e_l_same k_l_same
  have h_l_same : Has K mg "_law_same" s_l_same ["told", "due"] f_l_same _ := ⟨F_l_same, PySem.W.mg_of X G a_l_same, k_l_same, F_l_same.binds (ps := ["told", "due"]) fun _ _ _ _ _ _ us hl => match us, hl with | [_, _], _ => rfl⟩
  have F_l_below := fun_mk (st := s_l_below) l_l_below e_l_below k_l_below
  have h_l_below : Has K mg "_law_below" s_l_below ["one", "other"] f_l_below _ := ⟨F_l_below, PySem.W.mg_of X G a_l_below, k_l_below, F_l_below.binds (ps := ["one", "other"]) fun _ _ _ _ _ _ us hl => match us, hl with | [_, _], _ => rfl⟩
  have F_l_unit := fun_mk (st := s_l_unit) l_l_unit e_l_unit k_l_unit
  have h_l_unit : Has K mg "_law_unit" s_l_unit ["pattern", "error", "measures"] f_l_unit _ := ⟨F_l_unit, PySem.W.mg_of X G a_l_unit, k_l_unit, F_l_unit.binds (ps := ["pattern", "error", "measures"]) fun _ _ _ _ _ _ us hl => match us, hl with | [_, _, _], _ => rfl⟩
  have F_l_told := fun_mk (st := s_l_told) l_l_told e_l_told k_l_told
  have h_l_told : Has K mg "_law_told" s_l_told ["call"] f_l_told _ := ⟨F_l_told, PySem.W.mg_of X G a_l_told, k_l_told, F_l_told.binds (ps := ["call"]) fun _ _ _ _ _ _ us hl => match us, hl with | [_], _ => rfl⟩
  have F_check_error := fun_mk (st := s_check_error) l_check_error e_check_error k_check_error
  have h_check_error : Has K mg "check_error" s_check_error ["error"] f_check_error _ := ⟨F_check_error, PySem.W.mg_of X G a_check_error, k_check_error, F_check_error.binds (ps := ["error"]) fun _ _ _ _ _ _ us hl => match us, hl with | [_], _ => rfl⟩
  have F_unit_ends := fun_mk (st := s_unit_ends) l_unit_ends e_unit_ends k_unit_ends
  have h_unit_ends : Has K mg "unit_ends" s_unit_ends ["pattern", "error", "measures"] f_unit_ends _ := ⟨F_unit_ends, PySem.W.mg_of X G a_unit_ends, k_unit_ends, F_unit_ends.binds (ps := ["pattern", "error", "measures"]) fun _ _ _ _ _ _ us hl => match us, hl with | [_, _, _], _ => rfl⟩
  have F_readings := fun_mk (st := s_readings) l_readings e_readings k_readings
  have h_readings : Has K mg "readings" s_readings ["patterns", "error", "measures"] f_readings _ := ⟨F_readings, PySem.W.mg_of X G a_readings, k_readings, F_readings.binds (ps := ["patterns", "error", "measures"]) fun _ _ _ _ _ _ us hl => match us, hl with | [_, _, _], _ => rfl⟩
  have F_law := fun_mk (st := s_law) l_law e_law k_law
  refine ⟨PySem.W.fnOf "law" "law" (defArgs s_law) (defBody s_law) (defScope s_law) .none kV_law dc_law pm_law an_law (.ref c) ct_law, [(c, P0)], spLaw [(P0, lamQ)] K 63, fun p hp => by rw [List.mem_singleton.mp hp]; exact hT, fun p hp => by rw [List.mem_singleton.mp hp]; exact nT, fun p hp => by rw [List.mem_singleton.mp hp]; exact PySem.W.codeHd_of_K X hC0, fun s u => .of_eq rfl, fun H a ns hl hb hH hS => law_start nT H a ns hl hb hH hS, fun base X2 G2 hTB => ?_⟩
  have G_l_stream := ok_l_stream (Tl := [(P0, lamQ)]) (P := (PySem.Challenge.rw_slipguard_k34_whole_measures_read).prog) (w := w) (base := base) T F_l_stream
  have G_l_next := ok_l_next (Tl := [(P0, lamQ)]) (P := (PySem.Challenge.rw_slipguard_k34_whole_measures_read).prog) (w := w) (base := base) T F_l_next
  have G_l_patterns := ok_l_patterns (Tl := [(P0, lamQ)]) (P := (PySem.Challenge.rw_slipguard_k34_whole_measures_read).prog) (w := w) (base := base) T h_l_next G_l_next F_l_patterns
  have G_l_gcd := ok_l_gcd (Tl := [(P0, lamQ)]) (P := (PySem.Challenge.rw_slipguard_k34_whole_measures_read).prog) (w := w) (base := base) T F_l_gcd
  have G_l_fraction := ok_l_fraction (Tl := [(P0, lamQ)]) (P := (PySem.Challenge.rw_slipguard_k34_whole_measures_read).prog) (w := w) (base := base) T h_l_gcd G_l_gcd F_l_fraction
  have G_l_error := ok_l_error (Tl := [(P0, lamQ)]) (P := (PySem.Challenge.rw_slipguard_k34_whole_measures_read).prog) (w := w) (base := base) T h_l_fraction G_l_fraction h_l_next G_l_next F_l_error
  have G_l_measures := ok_l_measures (Tl := [(P0, lamQ)]) (P := (PySem.Challenge.rw_slipguard_k34_whole_measures_read).prog) (w := w) (base := base) T h_l_fraction G_l_fraction h_l_next G_l_next F_l_measures
  have G_check_patterns := ok_check_patterns (Tl := [(P0, lamQ)]) (P := (PySem.Challenge.rw_slipguard_k34_whole_measures_read).prog) (w := w) (base := base) T c_NotAllowed F_check_patterns
  have G_divisor := ok_divisor (Tl := [(P0, lamQ)]) (P := (PySem.Challenge.rw_slipguard_k34_whole_measures_read).prog) (w := w) (base := base) T F_divisor
  have G_is_fraction := ok_is_fraction (Tl := [(P0, lamQ)]) (P := (PySem.Challenge.rw_slipguard_k34_whole_measures_read).prog) (w := w) (base := base) T h_divisor G_divisor F_is_fraction
  have G_check_measures := ok_check_measures (Tl := [(P0, lamQ)]) (P := (PySem.Challenge.rw_slipguard_k34_whole_measures_read).prog) (w := w) (base := base) T c_NotAllowed h_is_fraction G_is_fraction F_check_measures
  have G_fraction := ok_fraction (Tl := [(P0, lamQ)]) (P := (PySem.Challenge.rw_slipguard_k34_whole_measures_read).prog) (w := w) (base := base) T c_NotAllowed h_divisor G_divisor F_fraction
  have G_less := ok_less (Tl := [(P0, lamQ)]) (P := (PySem.Challenge.rw_slipguard_k34_whole_measures_read).prog) (w := w) (base := base) T F_less
  have G_least_error := ok_least_error (Tl := [(P0, lamQ)]) (P := (PySem.Challenge.rw_slipguard_k34_whole_measures_read).prog) (w := w) (base := base) T c_NotAllowed h_check_patterns G_check_patterns h_check_measures G_check_measures h_fraction G_fraction h_less G_less F_least_error
  have G_l_same := ok_l_same (Tl := [(P0, lamQ)]) (P := (PySem.Challenge.rw_slipguard_k34_whole_measures_read).prog) (w := w) (base := base) T F_l_same
  have G_l_below := ok_l_below (Tl := [(P0, lamQ)]) (P := (PySem.Challenge.rw_slipguard_k34_whole_measures_read).prog) (w := w) (base := base) T F_l_below
  have G_l_unit := ok_l_unit (Tl := [(P0, lamQ)]) (P := (PySem.Challenge.rw_slipguard_k34_whole_measures_read).prog) (w := w) (base := base) T h_l_fraction G_l_fraction h_l_below G_l_below F_l_unit
  have G_check_error := ok_check_error (Tl := [(P0, lamQ)]) (P := (PySem.Challenge.rw_slipguard_k34_whole_measures_read).prog) (w := w) (base := base) T c_NotAllowed h_is_fraction G_is_fraction h_less G_less F_check_error
  have G_unit_ends := ok_unit_ends (Tl := [(P0, lamQ)]) (P := (PySem.Challenge.rw_slipguard_k34_whole_measures_read).prog) (w := w) (base := base) T h_fraction G_fraction h_less G_less F_unit_ends
  have G_readings := ok_readings (Tl := [(P0, lamQ)]) (P := (PySem.Challenge.rw_slipguard_k34_whole_measures_read).prog) (w := w) (base := base) T h_check_patterns G_check_patterns h_check_error G_check_error h_check_measures G_check_measures h_unit_ends G_unit_ends h_less G_less F_readings
  exact ok_law T C h_l_stream G_l_stream h_l_patterns G_l_patterns h_l_error G_l_error h_l_next G_l_next h_l_measures G_l_measures h_least_error G_least_error h_l_fraction G_l_fraction h_l_same G_l_same h_l_unit G_l_unit h_readings G_readings h_l_below G_l_below h_l_told rfl (hTB (c, P0) List.mem_cons_self) l_law F_law hmath
end K34
open PySem PySem.W PyProof.Rows
set_option maxHeartbeats 0 in
theorem PySem.Challenge.cw_slipguard_k34_whole_measures_read_holds : PySem.Challenge.rw_slipguard_k34_whole_measures_read.Holds := by
  w_on; o_law; k_head; (case hw => w_witness2)
  k_fill
  refine DL.walk_ofTG (l := PySem.Challenge.rw_slipguard_k34_whole_measures_read) (n := 63) (k := 8) (x := "script") (CX := fun w => L2N.CX (PySem.Challenge.rw_slipguard_k34_whole_measures_read).prog w) rfl (by decide) rfl ⟨rfl, by decide, by decide⟩ (fun w h Y => PySem.W.km_in_of Y) ?F (fun w H s e s' h => DL.hcx H s e s' h)
  case F =>
    intro w mg fa h Y KX G hmg
    km_tabs Y
    have hT9 := hT8 _ List.mem_cons_self
    refine' K34.end_mk KX G hmg hT9 ?z_abs ?z_all ?z_enumerate ?z_int ?z_isinstance ?z_len ?z_max ?z_min ?z_range ?z_repr ?z_set ?z_tuple ?z_zip ?n_MAX_BARS ?n_MAX_PATTERNS ?n_MAX_WIDTH ?a_l_stream ?l_l_stream ?e_l_stream ?k_l_stream ?a_l_next ?l_l_next ?e_l_next ?k_l_next ?a_l_patterns ?l_l_patterns ?e_l_patterns ?k_l_patterns ?a_l_gcd ?l_l_gcd ?e_l_gcd ?k_l_gcd ?a_l_fraction ?l_l_fraction ?e_l_fraction ?k_l_fraction ?a_l_error ?l_l_error ?e_l_error ?k_l_error ?a_l_measures ?l_l_measures ?e_l_measures ?k_l_measures ?a_check_patterns ?l_check_patterns ?e_check_patterns ?k_check_patterns ?a_divisor ?l_divisor ?e_divisor ?k_divisor ?a_is_fraction ?l_is_fraction ?e_is_fraction ?k_is_fraction ?a_check_measures ?l_check_measures ?e_check_measures ?k_check_measures ?a_fraction ?l_fraction ?e_fraction ?k_fraction ?a_less ?l_less ?e_less ?k_less ?a_least_error ?l_least_error ?e_least_error ?k_least_error ?a_l_same ?l_l_same ?e_l_same ?k_l_same ?a_l_below ?l_l_below ?e_l_below ?k_l_below ?a_l_unit ?l_l_unit ?e_l_unit ?k_l_unit ?a_l_told ?l_l_told ?e_l_told ?k_l_told ?a_check_error ?l_check_error ?e_check_error ?k_check_error ?a_unit_ends ?l_unit_ends ?e_unit_ends ?k_unit_ends ?a_readings ?l_readings ?e_readings ?k_readings ?a_law ?l_law ?e_law ?k_law ?cgS ?cg0 ?cg1 ?cg2 ?cg3 ?cg4 ?cg5 ?x0g ?x0k ?x0s ?x0d ?x0a ?x0m ?x0t ?x0k2 ?x0q ?x0e ?x00 ?x01 ?x02 ?x03 ?x04 ?x05 ?x1g ?x1k ?x1s ?x1d ?x1a ?x1m ?x1t ?x1k2 ?x1q ?x1e ?x10 ?x11 ?x12 ?x13 ?x14 ?x15 ?x2g ?x2k ?x2s ?x2d ?x2a ?x2m ?x2t ?x2k2 ?x2q ?x2e ?x20 ?x21 ?x22 ?x23 ?x24 ?x25 ?yn ?yt ?nT ?hC0
    (case z_abs => first | k_is | rfl | kernel_rfl); (case z_all => first | k_is | rfl | kernel_rfl); (case z_enumerate => first | k_is | rfl | kernel_rfl); (case z_int => first | k_is | rfl | kernel_rfl); (case z_isinstance => first | k_is | rfl | kernel_rfl); (case z_len => first | k_is | rfl | kernel_rfl); (case z_max => first | k_is | rfl | kernel_rfl); (case z_min => first | k_is | rfl | kernel_rfl); (case z_range => first | k_is | rfl | kernel_rfl); (case z_repr => first | k_is | rfl | kernel_rfl); (case z_set => first | k_is | rfl | kernel_rfl); (case z_tuple => first | k_is | rfl | kernel_rfl); (case z_zip => first | k_is | rfl | kernel_rfl); (case n_MAX_BARS => first | k_is | rfl | kernel_rfl); (case n_MAX_PATTERNS => first | k_is | rfl | kernel_rfl); (case n_MAX_WIDTH => first | k_is | rfl | kernel_rfl); (case a_l_stream => first | k_is | rfl | kernel_rfl); (case l_l_stream => first | k_is | rfl | kernel_rfl); (case e_l_stream => first | k_is | rfl | kernel_rfl); (case k_l_stream => first | k_is | rfl | kernel_rfl); (case a_l_next => first | k_is | rfl | kernel_rfl); (case l_l_next => first | k_is | rfl | kernel_rfl); (case e_l_next => first | k_is | rfl | kernel_rfl); (case k_l_next => first | k_is | rfl | kernel_rfl); (case a_l_patterns => first | k_is | rfl | kernel_rfl); (case l_l_patterns => first | k_is | rfl | kernel_rfl); (case e_l_patterns => first | k_is | rfl | kernel_rfl); (case k_l_patterns => first | k_is | rfl | kernel_rfl); (case a_l_gcd => first | k_is | rfl | kernel_rfl); (case l_l_gcd => first | k_is | rfl | kernel_rfl); (case e_l_gcd => first | k_is | rfl | kernel_rfl); (case k_l_gcd => first | k_is | rfl | kernel_rfl); (case a_l_fraction => first | k_is | rfl | kernel_rfl); (case l_l_fraction => first | k_is | rfl | kernel_rfl); (case e_l_fraction => first | k_is | rfl | kernel_rfl); (case k_l_fraction => first | k_is | rfl | kernel_rfl); (case a_l_error => first | k_is | rfl | kernel_rfl); (case l_l_error => first | k_is | rfl | kernel_rfl); (case e_l_error => first | k_is | rfl | kernel_rfl); (case k_l_error => first | k_is | rfl | kernel_rfl); (case a_l_measures => first | k_is | rfl | kernel_rfl); (case l_l_measures => first | k_is | rfl | kernel_rfl); (case e_l_measures => first | k_is | rfl | kernel_rfl); (case k_l_measures => first | k_is | rfl | kernel_rfl); (case a_check_patterns => first | k_is | rfl | kernel_rfl); (case l_check_patterns => first | k_is | rfl | kernel_rfl); (case e_check_patterns => first | k_is | rfl | kernel_rfl); (case k_check_patterns => first | k_is | rfl | kernel_rfl); (case a_divisor => first | k_is | rfl | kernel_rfl); (case l_divisor => first | k_is | rfl | kernel_rfl); (case e_divisor => first | k_is | rfl | kernel_rfl); (case k_divisor => first | k_is | rfl | kernel_rfl); (case a_is_fraction => first | k_is | rfl | kernel_rfl); (case l_is_fraction => first | k_is | rfl | kernel_rfl); (case e_is_fraction => first | k_is | rfl | kernel_rfl); (case k_is_fraction => first | k_is | rfl | kernel_rfl); (case a_check_measures => first | k_is | rfl | kernel_rfl); (case l_check_measures => first | k_is | rfl | kernel_rfl); (case e_check_measures => first | k_is | rfl | kernel_rfl); (case k_check_measures => first | k_is | rfl | kernel_rfl); (case a_fraction => first | k_is | rfl | kernel_rfl); (case l_fraction => first | k_is | rfl | kernel_rfl); (case e_fraction => first | k_is | rfl | kernel_rfl); (case k_fraction => first | k_is | rfl | kernel_rfl); (case a_less => first | k_is | rfl | kernel_rfl); (case l_less => first | k_is | rfl | kernel_rfl); (case e_less => first | k_is | rfl | kernel_rfl); (case k_less => first | k_is | rfl | kernel_rfl); (case a_least_error => first | k_is | rfl | kernel_rfl); (case l_least_error => first | k_is | rfl | kernel_rfl); (case e_least_error => first | k_is | rfl | kernel_rfl); (case k_least_error => first | k_is | rfl | kernel_rfl); (case a_l_same => first | k_is | rfl | kernel_rfl); (case l_l_same => first | k_is | rfl | kernel_rfl); (case e_l_same => first | k_is | rfl | kernel_rfl); (case k_l_same => first | k_is | rfl | kernel_rfl); (case a_l_below => first | k_is | rfl | kernel_rfl); (case l_l_below => first | k_is | rfl | kernel_rfl); (case e_l_below => first | k_is | rfl | kernel_rfl); (case k_l_below => first | k_is | rfl | kernel_rfl); (case a_l_unit => first | k_is | rfl | kernel_rfl); (case l_l_unit => first | k_is | rfl | kernel_rfl); (case e_l_unit => first | k_is | rfl | kernel_rfl); (case k_l_unit => first | k_is | rfl | kernel_rfl); (case a_l_told => first | k_is | rfl | kernel_rfl); (case l_l_told => first | k_is | rfl | kernel_rfl); (case e_l_told => first | k_is | rfl | kernel_rfl); (case k_l_told => first | k_is | rfl | kernel_rfl); (case a_check_error => first | k_is | rfl | kernel_rfl); (case l_check_error => first | k_is | rfl | kernel_rfl); (case e_check_error => first | k_is | rfl | kernel_rfl); (case k_check_error => first | k_is | rfl | kernel_rfl); (case a_unit_ends => first | k_is | rfl | kernel_rfl); (case l_unit_ends => first | k_is | rfl | kernel_rfl); (case e_unit_ends => first | k_is | rfl | kernel_rfl); (case k_unit_ends => first | k_is | rfl | kernel_rfl); (case a_readings => first | k_is | rfl | kernel_rfl); (case l_readings => first | k_is | rfl | kernel_rfl); (case e_readings => first | k_is | rfl | kernel_rfl); (case k_readings => first | k_is | rfl | kernel_rfl); (case a_law => first | k_is | rfl | kernel_rfl); (case l_law => first | k_is | rfl | kernel_rfl); (case e_law => first | k_is | rfl | kernel_rfl); (case k_law => first | k_is | rfl | kernel_rfl); (case cgS => first | k_is | rfl | kernel_rfl); (case cg0 => first | k_is | rfl | kernel_rfl); (case cg1 => first | k_is | rfl | kernel_rfl); (case cg2 => first | k_is | rfl | kernel_rfl); (case cg3 => first | k_is | rfl | kernel_rfl); (case cg4 => first | k_is | rfl | kernel_rfl); (case cg5 => first | k_is | rfl | kernel_rfl); (case x0g => first | k_is | rfl | kernel_rfl); (case x0k => first | k_is | rfl | kernel_rfl); (case x0s => first | k_is | rfl | kernel_rfl); (case x0d => first | k_is | rfl | kernel_rfl); (case x0a => first | k_is | rfl | kernel_rfl); (case x0m => first | k_is | rfl | kernel_rfl); (case x0t => first | k_is | rfl | kernel_rfl); (case x0k2 => first | k_is | rfl | kernel_rfl); (case x0q => first | k_is | rfl | kernel_rfl); (case x0e => first | k_is | rfl | kernel_rfl); (case x00 => first | k_is | rfl | kernel_rfl); (case x01 => first | k_is | rfl | kernel_rfl); (case x02 => first | k_is | rfl | kernel_rfl); (case x03 => first | k_is | rfl | kernel_rfl); (case x04 => first | k_is | rfl | kernel_rfl); (case x05 => first | k_is | rfl | kernel_rfl); (case x1g => first | k_is | rfl | kernel_rfl); (case x1k => first | k_is | rfl | kernel_rfl); (case x1s => first | k_is | rfl | kernel_rfl); (case x1d => first | k_is | rfl | kernel_rfl); (case x1a => first | k_is | rfl | kernel_rfl); (case x1m => first | k_is | rfl | kernel_rfl); (case x1t => first | k_is | rfl | kernel_rfl); (case x1k2 => first | k_is | rfl | kernel_rfl); (case x1q => first | k_is | rfl | kernel_rfl); (case x1e => first | k_is | rfl | kernel_rfl); (case x10 => first | k_is | rfl | kernel_rfl); (case x11 => first | k_is | rfl | kernel_rfl); (case x12 => first | k_is | rfl | kernel_rfl); (case x13 => first | k_is | rfl | kernel_rfl); (case x14 => first | k_is | rfl | kernel_rfl); (case x15 => first | k_is | rfl | kernel_rfl); (case x2g => first | k_is | rfl | kernel_rfl); (case x2k => first | k_is | rfl | kernel_rfl); (case x2s => first | k_is | rfl | kernel_rfl); (case x2d => first | k_is | rfl | kernel_rfl); (case x2a => first | k_is | rfl | kernel_rfl); (case x2m => first | k_is | rfl | kernel_rfl); (case x2t => first | k_is | rfl | kernel_rfl); (case x2k2 => first | k_is | rfl | kernel_rfl); (case x2q => first | k_is | rfl | kernel_rfl); (case x2e => first | k_is | rfl | kernel_rfl); (case x20 => first | k_is | rfl | kernel_rfl); (case x21 => first | k_is | rfl | kernel_rfl); (case x22 => first | k_is | rfl | kernel_rfl); (case x23 => first | k_is | rfl | kernel_rfl); (case x24 => first | k_is | rfl | kernel_rfl); (case x25 => first | k_is | rfl | kernel_rfl); (case yn => first | k_is | rfl | kernel_rfl); (case yt => first | k_is | rfl | kernel_rfl); (case nT => first | k_is | rfl | kernel_rfl); (case hC0 => first | k_is | rfl | kernel_rfl)

