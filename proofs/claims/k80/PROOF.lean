import PyProof.Rows.All
import Wide.All
import OpenK.AllK
import Wide.FinOn
import HandS.ForMost
import HandS.ForExc
import HandS.Evl
import HandS.TupAny
import HandS.TupMul
import HandS.TupLe
import HandS.Deep
import HandS.Text
import HandS.StrMore
import HandS.Wide
import KE.SortData
import PyProof.Rows.SeqMore
import PyProof.Rows.ListMulArg
import HandS.Rev
import HandS.RaiseMore
import HandS.CallSlots
import HandS.Defaults
import HandS.IsInst
import HandS.More
import HandS.SetFor
import HandS.SortKw
import HandS.ExcIs
import HandS.TryOnly
import HandS.TryMany
import HandS.WordsExc
import HandS.Ends
import PySem.Challenge.RW_watchhire_k80_rows_one_sign_apart
set_option Elab.async false
set_option linter.all false
set_option maxRecDepth 100000
set_option maxHeartbeats 2000000
/-! A layer over the hand layer: a def is mirrored by a function over plain data. Data, results, shapes, ownership, the state's invariant. -/
namespace DL
open PySem L2
open Evl (Ex ex_l ex_t ex_rd)

abbrev Frag := PySem.W.Frag
abbrev MG := Str → Option Value
abbrev D := PyData
abbrev Env := List (Option D)
/-- an own exception: its class's name, its one field (name, value) where it has one -/
structure Exc where
  cls : Str
  fld : Option (Str × V)
inductive R (α : Type) where
  | ok (a : α) (e : Env)
  | ex (x : Exc) (e : Env)
  | st
def R.bind {α β : Type} (r : R α) (f : α → Env → R β) : R β := match r with
  | .ok a e => f a e
  | .ex x e => .ex x e
  | .st => .st
/-- a value, or the thing that an own slot holds -/
inductive Lv where
  | val (d : D)
  | plc (i : Nat)
  | own (i : Nat)
def Lv.get (l : Lv) (e : Env) : Option D := match l with
  | .val d => some d
  | .plc i => e.getD i none
  | .own _ => none
/-- what a built-in operation gives: a known or plain value; a new list; a new tuple -/
inductive NV where
  | sc (d : D)
  | nl (ds : List D)
  | nt (ds : List D)
inductive Fl where
  | nx
  | bk
  | ct
  | rt (d : D)
inductive FR where
  | ok (r : D) (outs : List D)
  | ex (x : Exc) (outs : List D)
  | st

/-- shapes of what a slot owns: fz is frozen (nobody changes it any more) -/
inductive Sh where
  | fz
  | lst (s : Sh)
  | dct (s : Sh)
  | tup (ss : List Sh)
  | ins (cn : Str) (fs : List (Str × Sh))
  | exc (a D : Addr)

def keyD : Key → D
  | .inl i => .int i
  | .inr x => .str x
abbrev ASet := Addr → Prop

inductive Own (K : Frag) (mg : MG) (G H : Hp) : Sh → V → D → ASet → Prop
  | exc {a D : Addr} {cn : Str} {S : ASet} : mg cn = some (.ref D) → Own K mg G H (.exc a D) (.ref a) (.str cn) S
  | fz {v : V} {d : D} {S : ASet} : Dp K G v d → Own K mg G H .fz v d S
  | lst {s : Sh} {p : Addr} {vs : List V} {ds : List D} {S : ASet} (Sk : Nat → ASet) : H p = some (.lst vs) → S p → vs.length = ds.length →
      (∀ k a, Sk k a → S a) → (∀ k, ¬ Sk k p) → (∀ j k a, Sk j a → Sk k a → j = k) →
      (∀ (k : Nat) v d, vs[k]? = some v → ds[k]? = some d → Own K mg G H s v d (Sk k)) → Own K mg G H (.lst s) (.ref p) (.list ds) S
  | dct {s : Sh} {p : Addr} {kvs : List (Key × V)} {kds : List (D × D)} {S : ASet} (Sk : Nat → ASet) : H p = some (.dK kvs) → S p → kvs.length = kds.length → (kvs.map (·.1)).Nodup →
      (∀ k a, Sk k a → S a) → (∀ k, ¬ Sk k p) → (∀ j k a, Sk j a → Sk k a → j = k) →
      (∀ (k : Nat) kv kd, kvs[k]? = some kv → kds[k]? = some kd → kd.1 = keyD kv.1) →
      (∀ (k : Nat) kv kd, kvs[k]? = some kv → kds[k]? = some kd → Own K mg G H s kv.2 kd.2 (Sk k)) → Own K mg G H (.dct s) (.ref p) (.dict kds) S
  | tup {ss : List Sh} {p : Addr} {vs : List V} {ds : List D} {S : ASet} (Sk : Nat → ASet) : SqT K G p vs → vs.length = ds.length → vs.length = ss.length →
      (∀ k a, Sk k a → S a) → (∀ j k a, Sk j a → Sk k a → j = k) →
      (∀ (k : Nat) s v d, ss[k]? = some s → vs[k]? = some v → ds[k]? = some d → Own K mg G H s v d (Sk k)) → Own K mg G H (.tup ss) (.ref p) (.tuple ds) S
  | ins {cn : Str} {fs : List (Str × Sh)} {C p dx : Addr} {fvs : List (Str × V)} {fds : List (D × D)} {S : ASet} (Sk : Nat → ASet) : mg cn = some (.ref C) → H p = some (.ins C dx fvs) → H dx = some (.own p) → S p → S dx →
      fvs.length = fds.length → fvs.length = fs.length →
      (∀ k a, Sk k a → S a) → (∀ k, ¬ Sk k p ∧ ¬ Sk k dx) → (∀ j k a, Sk j a → Sk k a → j = k) →
      (∀ (k : Nat) f fv fd, fs[k]? = some f → fvs[k]? = some fv → fds[k]? = some fd → f.1 = fv.1 ∧ fd.1 = .str fv.1) →
      (∀ (k : Nat) f fv fd, fs[k]? = some f → fvs[k]? = some fv → fds[k]? = some fd → Own K mg G H f.2 fv.2 fd.2 (Sk k)) → Own K mg G H (.ins cn fs) (.ref p) (.dict fds) S

section
variable {K : Frag} {mg : MG} {G G' H H' : Hp} {sh : Sh} {v : V} {d : D} {S S' : ASet}

theorem dp_ex (e : Ex G G') : ∀ (d : D) (v : V), Dp K G v d → Dp K G' v d := by
  have go : ∀ n : Nat, ∀ (d : D) (v : V), sizeOf d < n → Dp K G v d → Dp K G' v d := by
    intro n
    induction n with
    | zero => intro d v h; exact absurd h (Nat.not_lt_zero _)
    | succ n ih =>
      have all : ∀ (ds : List D) (vs : List V), sizeOf ds < n + 1 → DpAll K G vs ds → DpAll K G' vs ds := by
        intro ds
        induction ds with
        | nil =>
          intro vs _ h
          cases h
          exact .nil
        | cons d ds ih2 =>
          intro vs hz h
          have hz' : 1 + sizeOf d + sizeOf ds < n + 1 := by simpa using hz
          cases h with
          | cons h1 h2 => exact .cons (ih d _ (by omega) h1) (ih2 _ (by omega) h2)
      intro d v hz h
      cases h with
      | non => exact .non
      | bl b => exact .bl b
      | int i => exact .int i
      | str x => exact .str x
      | lst h1 h2 => exact .lst (ex_l e h1) (all _ _ (by simp at hz; omega) h2)
      | tup h1 h2 => exact .tup (ex_t e h1) (all _ _ (by simp at hz; omega) h2)
  intro d v h
  exact go (sizeOf d + 1) d v (Nat.lt_succ_self _) h
theorem dps_ex (e : Ex G G') : ∀ (ds : List D) (vs : List V), DpAll K G vs ds → DpAll K G' vs ds := by
  intro ds
  induction ds with
  | nil =>
    intro vs h
    cases h
    exact .nil
  | cons d ds ih =>
    intro vs h
    cases h with
    | cons h1 h2 => exact .cons (dp_ex e _ _ h1) (ih _ h2)
theorem dps_len : ∀ (ds : List D) (vs : List V), DpAll K G vs ds → vs.length = ds.length := by
  intro ds
  induction ds with
  | nil =>
    intro vs h
    cases h
    rfl
  | cons d ds ih =>
    intro vs h
    cases h with
    | cons h1 h2 => simp [ih _ h2]
theorem dps_at : ∀ (ds : List D) (vs : List V), DpAll K G vs ds → ∀ (k : Nat) v d, vs[k]? = some v → ds[k]? = some d → Dp K G v d := by
  intro ds
  induction ds with
  | nil =>
    intro vs h k v d h1 h2
    simp at h2
  | cons d ds ih =>
    intro vs h k v d' h1 h2
    cases h with
    | cons ha hb =>
      cases k with
      | zero =>
        simp at h1 h2
        subst h1 h2
        exact ha
      | succ k => exact ih _ hb k v d' (by simpa using h1) (by simpa using h2)
theorem dps_of : ∀ (ds : List D) (vs : List V), vs.length = ds.length → (∀ (k : Nat) v d, vs[k]? = some v → ds[k]? = some d → Dp K G v d) → DpAll K G vs ds := by
  intro ds
  induction ds with
  | nil =>
    intro vs hl _
    cases vs with
    | nil => exact .nil
    | cons => simp at hl
  | cons d ds ih =>
    intro vs hl h
    cases vs with
    | nil => simp at hl
    | cons v vs => exact .cons (h 0 v d rfl rfl) (ih vs (by simpa using hl) fun k v' d' h1 h2 => h (k + 1) v' d' (by simpa using h1) (by simpa using h2))
theorem dps_append {ds es : List D} {vs ws : List V} (h1 : DpAll K G vs ds) (h2 : DpAll K G ws es) : DpAll K G (vs ++ ws) (ds ++ es) := by
  induction ds generalizing vs with
  | nil =>
    cases h1
    exact h2
  | cons d ds ih =>
    cases h1 with
    | cons ha hb => exact .cons ha (ih hb)

theorem Own.mono (e : Ex G G') (h : Own K mg G H sh v d S) (k : ∀ a, S a → H' a = H a) : Own K mg G' H' sh v d S := by
  induction h with
  | exc h => exact .exc h
  | fz h => exact .fz (dp_ex e _ _ h)
  | lst Sk hp sp hl hs hn hd hc ih => exact .lst Sk ((k _ sp).trans hp) sp hl hs hn hd fun j v d h1 h2 => ih j v d h1 h2 fun a ha => k a (hs j a ha)
  | dct Sk hp sp hl nd hs hn hd hk hc ih => exact .dct Sk ((k _ sp).trans hp) sp hl nd hs hn hd hk fun j v d h1 h2 => ih j v d h1 h2 fun a ha => k a (hs j a ha)
  | tup Sk hp hl hl2 hs hd hc ih => exact .tup Sk (ex_t e hp) hl hl2 hs hd fun j s v d h0 h1 h2 => ih j s v d h0 h1 h2 fun a ha => k a (hs j a ha)
  | ins Sk hm hp hx sp sx hl hl2 hs hn hd hk hc ih => exact .ins Sk hm ((k _ sp).trans hp) ((k _ sx).trans hx) sp sx hl hl2 hs hn hd hk fun j f v d h0 h1 h2 => ih j f v d h0 h1 h2 fun a ha => k a (hs j a ha)

/-- an own list of frozen items -/
theorem own_lst {p : Addr} {vs : List V} {ds : List D} (hp : H p = some (.lst vs)) (sp : S p) (h : DpAll K G vs ds) : Own K mg G H (.lst .fz) (.ref p) (.list ds) S :=
  .lst (fun _ _ => False) hp sp (dps_len _ _ h) (fun _ _ z => z.elim) (fun _ z => z) (fun _ _ _ z => z.elim) fun k v d h1 h2 => .fz (dps_at _ _ h k v d h1 h2)
theorem own_lst_inv (h : Own K mg G H (.lst .fz) v d S) : ∃ p vs ds, v = .ref p ∧ d = .list ds ∧ H p = some (.lst vs) ∧ S p ∧ DpAll K G vs ds := by
  cases h with
  | lst Sk hp sp hl hs hn hd hc =>
    refine ⟨_, _, _, rfl, rfl, hp, sp, dps_of _ _ hl fun k v d h1 h2 => ?_⟩
    cases hc k v d h1 h2 with
    | fz h => exact h
theorem own_fz_inv (h : Own K mg G H .fz v d S) : Dp K G v d := by
  cases h with
  | fz h => exact h
end

/-- what is fixed through a def's body: the slots' shapes, the parameters' number and values, the heaps at the entry (frozen part, whole), what the parameters own -/
structure Ct where
  Tg : List Sh
  np : Nat
  vs0 : List V
  G0 : Hp
  H0 : Hp
  S0 : ASet

structure Good (K : Frag) (mg : MG) (C : Ct) (G H : Hp) (σ : L2.St) (e : Env) (Sg : Nat → ASet) : Prop where
  ls : σ.length = C.Tg.length
  le : e.length = C.Tg.length
  slot : ∀ (i : Nat) sh d, C.Tg[i]? = some sh → e[i]? = some (some d) → ∃ v, σ[i]? = some (some v) ∧ Own K mg G H sh v d (Sg i)
  dis : ∀ i j a, Sg i a → Sg j a → i = j
  gs : ∀ i a, Sg i a → G a = none ∧ H a ≠ none ∧ (C.H0 a = none ∨ C.S0 a)
  gh : Ex G H
  g0 : Ex C.G0 G
  fr : ∀ a o, C.H0 a = some o → ¬ C.S0 a → H a = some o
  al : ∀ a, C.H0 a ≠ none → H a ≠ none
  gn : ∀ a, G a ≠ none → C.G0 a ≠ none ∨ C.H0 a = none ∨ C.S0 a
  pin : ∀ (i : Nat) sh, i < C.np → C.Tg[i]? = some sh → sh ≠ .fz → σ[i]? = (C.vs0[i]?).map some
  par : ∀ (i : Nat) sh, i < C.np → C.Tg[i]? = some sh → sh ≠ .fz → ∃ d, e[i]? = some (some d)

/-- an owned thing on the way: nobody else's -/
structure Lone (C : Ct) (G H : Hp) (Sg : Nat → ASet) (S : ASet) : Prop where
  own : ∀ a, S a → G a = none ∧ H a ≠ none ∧ (C.H0 a = none ∨ C.S0 a)
  apart : ∀ i a, S a → ¬ Sg i a
theorem Lone.no {C : Ct} {G H : Hp} {Sg : Nat → ASet} : Lone C G H Sg (fun _ => False) := ⟨fun _ z => z.elim, fun _ _ z => z.elim⟩

theorem ex_upd {H : Hp} {p : Addr} {o : HO} (h : H p = none) : Ex H (upd H p o) := Ex.new h
theorem get_set {α : Type} {l : List α} {i j : Nat} {x y : α} (h : (l.set i x)[j]? = some y) : (j = i ∧ y = x ∧ i < l.length) ∨ (j ≠ i ∧ l[j]? = some y) := by
  by_cases hj : j = i
  · subst hj
    by_cases hi : j < l.length
    · rw [List.getElem?_set_self hi] at h
      cases h
      exact .inl ⟨rfl, rfl, hi⟩
    · rw [List.getElem?_eq_none (by simpa using hi)] at h
      cases h
  · rw [List.getElem?_set_ne (Ne.symm hj)] at h
    exact .inr ⟨hj, h⟩

section
variable {K : Frag} {mg : MG} {C : Ct} {G G' H H' : Hp} {σ : L2.St} {e : Env} {Sg : Nat → ASet} {S : ASet} {sh : Sh} {v : V} {d : D} {p : Addr} {i : Nat}

/-- a new object, not frozen, nobody's -/
theorem Good.new (g : Good K mg C G H σ e Sg) {o : HO} (hp : H p = none) : Good K mg C G (upd H p o) σ e Sg := by
  have np : ∀ a, H a ≠ none → a ≠ p := fun a h z => h (by rw [z]; exact hp)
  refine ⟨g.ls, g.le, fun i sh d h1 h2 => ?_, g.dis, fun i a h => ?_, g.gh.trans (ex_upd hp), g.g0, fun a o h1 h2 => ?_, fun a h => ?_, g.gn, g.pin, g.par⟩
  · obtain ⟨v, h3, h4⟩ := g.slot i sh d h1 h2
    exact ⟨v, h3, h4.mono (Ex.refl _) fun a ha => upd_ne (np a (g.gs i a ha).2.1)⟩
  · obtain ⟨h1, h2, h3⟩ := g.gs i a h
    exact ⟨h1, by rw [upd_ne (np a h2)]; exact h2, h3⟩
  · have := g.fr a o h1 h2
    rw [upd_ne (np a (by rw [this]; simp))]
    exact this
  · have := g.al a h
    rw [upd_ne (np a this)]
    exact this
/-- a new object, frozen at once -/
theorem Good.newf (g : Good K mg C G H σ e Sg) {o : HO} (hp : H p = none) : Good K mg C (upd G p o) (upd H p o) σ e Sg := by
  have gp : G p = none := by
    cases q : G p with
    | none => rfl
    | some u =>
      have := g.gh p u q
      rw [hp] at this
      cases this
  have g1 := g.new (o := o) hp
  refine ⟨g.ls, g.le, fun i sh d h1 h2 => ?_, g.dis, fun i a h => ?_, fun a u q => ?_, g.g0.trans (ex_upd gp), g1.fr, g1.al, fun a h => ?_, g.pin, g.par⟩
  · obtain ⟨v, h3, h4⟩ := g1.slot i sh d h1 h2
    exact ⟨v, h3, h4.mono (ex_upd gp) fun _ _ => rfl⟩
  · obtain ⟨h1, h2, h3⟩ := g1.gs i a h
    refine ⟨?_, h2, h3⟩
    have : a ≠ p := fun z => (g.gs i a h).2.1 (by rw [z]; exact hp)
    rw [upd_ne this]
    exact h1
  · by_cases ha : a = p
    · subst ha
      rw [upd_same] at q ⊢
      exact q
    · rw [upd_ne ha] at q ⊢
      exact g.gh a u q
  · by_cases ha : a = p
    · subst ha
      right
      left
      cases q : C.H0 a with
      | none => rfl
      | some u => exact absurd hp (g.al a (by rw [q]; simp))
    · rw [upd_ne ha] at h
      exact g.gn a h
/-- the object of a lone thing is written -/
theorem Good.free (g : Good K mg C G H σ e Sg) (hf : C.H0 p = none ∨ C.S0 p) (hG : G p = none) (hH : H p ≠ none) (ha : ∀ i, ¬ Sg i p) {o : HO} : Good K mg C G (upd H p o) σ e Sg := by
  refine ⟨g.ls, g.le, fun i sh d h1 h2 => ?_, g.dis, fun i a h => ?_, fun a u q => ?_, g.g0, fun a u h1 h2 => ?_, fun a h => ?_, g.gn, g.pin, g.par⟩
  · obtain ⟨v, h3, h4⟩ := g.slot i sh d h1 h2
    refine ⟨v, h3, h4.mono (Ex.refl _) fun a hh => upd_ne fun z => ?_⟩
    subst z
    exact ha i hh
  · obtain ⟨h1, h2, h3⟩ := g.gs i a h
    have z : a ≠ p := fun z => ha i (by rw [← z]; exact h)
    refine ⟨h1, ?_, h3⟩
    rw [upd_ne z]
    exact h2
  · have z : a ≠ p := fun z => by rw [z, hG] at q; cases q
    rw [upd_ne z]
    exact g.gh a u q
  · by_cases hap : a = p
    · subst hap
      rcases hf with z | z
      · rw [z] at h1; cases h1
      · exact absurd z h2
    · rw [upd_ne hap]
      exact g.fr a u h1 h2
  · by_cases hap : a = p
    · subst hap
      rw [upd_same]
      simp
    · rw [upd_ne hap]
      exact g.al a h
/-- a slot gets a value -/
theorem Good.set (g : Good K mg C G H σ e Sg) (ht : C.Tg[i]? = some sh) (hpn : C.np ≤ i ∨ sh = .fz) (hv : Own K mg G H sh v d S) (l : Lone C G H Sg S) :
    Good K mg C G H (σ.set i (some v)) (e.set i (some d)) (fun j => if j = i then S else Sg j) := by
  refine ⟨by rw [List.length_set]; exact g.ls, by rw [List.length_set]; exact g.le, fun j sh' d' h1 h2 => ?_, fun j k a h1 h2 => ?_, fun j a h => ?_, g.gh, g.g0, g.fr, g.al, g.gn, fun j sh' h1 h2 h3 => ?_, fun j sh' h1 h2 h3 => ?_⟩
  · by_cases hj : j = i
    · subst hj
      rw [ht] at h1
      cases h1
      have hlt : j < e.length := by rw [g.le]; exact (List.getElem?_eq_some_iff.mp ht).1
      rw [List.getElem?_set_self hlt] at h2
      cases h2
      exact ⟨v, by rw [List.getElem?_set_self (by rw [g.ls, ← g.le]; exact hlt)], by simpa using hv⟩
    · rw [List.getElem?_set_ne (Ne.symm hj)] at h2
      obtain ⟨w, h3, h4⟩ := g.slot j sh' d' h1 h2
      exact ⟨w, by rw [List.getElem?_set_ne (Ne.symm hj)]; exact h3, by simpa [hj] using h4⟩
  · by_cases hj : j = i
    · by_cases hk : k = i
      · rw [hj, hk]
      · simp only [hj, hk, if_true, if_false] at h1 h2
        exact absurd h2 (l.apart k a h1)
    · by_cases hk : k = i
      · simp only [hj, hk, if_true, if_false] at h1 h2
        exact absurd h1 (l.apart j a h2)
      · simp only [hj, hk, if_false] at h1 h2
        exact g.dis j k a h1 h2
  · by_cases hj : j = i
    · simp only [hj, if_true] at h
      exact l.own a h
    · simp only [hj, if_false] at h
      exact g.gs j a h
  · by_cases hj : j = i
    · subst hj
      rw [ht] at h2
      cases h2
      rcases hpn with z | z
      · omega
      · exact absurd z h3
    · rw [List.getElem?_set_ne (Ne.symm hj)]
      exact g.pin j sh' h1 h2 h3
  · by_cases hj : j = i
    · subst hj
      have hlt : j < e.length := by rw [g.le]; exact (List.getElem?_eq_some_iff.mp ht).1
      exact ⟨d, by rw [List.getElem?_set_self hlt]⟩
    · rw [List.getElem?_set_ne (Ne.symm hj)]
      exact g.par j sh' h1 h2 h3
/-- a slot is emptied -/
theorem Good.clear (g : Good K mg C G H σ e Sg) (i : Nat) (hi : C.np ≤ i ∨ C.Tg[i]? = some .fz) : Good K mg C G H σ (e.set i none) (fun j => if j = i then (fun _ => False) else Sg j) := by
  refine ⟨g.ls, by rw [List.length_set]; exact g.le, fun j sh' d' h1 h2 => ?_, fun j k a h1 h2 => ?_, fun j a h => ?_, g.gh, g.g0, g.fr, g.al, g.gn, g.pin, fun j sh' h1 h2 h3 => ?_⟩
  · rcases get_set h2 with ⟨_, z, _⟩ | ⟨hj, h2⟩
    · cases z
    · obtain ⟨w, h3, h4⟩ := g.slot j sh' d' h1 h2
      exact ⟨w, h3, by simpa [hj] using h4⟩
  · by_cases hj : j = i
    · simp only [hj, if_true] at h1
    · by_cases hk : k = i
      · simp only [hk, if_true] at h2
      · simp only [hj, hk, if_false] at h1 h2
        exact g.dis j k a h1 h2
  · by_cases hj : j = i
    · simp only [hj, if_true] at h
    · simp only [hj, if_false] at h
      exact g.gs j a h
  · have hj : j ≠ i := by
      rintro rfl
      rcases hi with z | z
      · omega
      · rw [z] at h2
        cases h2
        exact h3 rfl
    rw [List.getElem?_set_ne (Ne.symm hj)]
    exact g.par j sh' h1 h2 h3
/-- the slots' values may be forgotten where the data are -/
theorem Good.slots (g : Good K mg C G H σ e Sg) {σ' : L2.St} (hl : σ'.length = σ.length) (h : ∀ (i : Nat) sh d, C.Tg[i]? = some sh → e[i]? = some (some d) → σ'[i]? = σ[i]?) (hp : ∀ (i : Nat) sh, i < C.np → C.Tg[i]? = some sh → sh ≠ .fz → σ'[i]? = σ[i]?) : Good K mg C G H σ' e Sg :=
  ⟨hl.trans g.ls, g.le, fun i sh d h1 h2 => let ⟨v, h3, h4⟩ := g.slot i sh d h1 h2; ⟨v, (h i sh d h1 h2).trans h3, h4⟩, g.dis, g.gs, g.gh, g.g0, g.fr, g.al, g.gn, fun i sh h1 h2 h3 => (hp i sh h1 h2 h3).trans (g.pin i sh h1 h2 h3), g.par⟩
/-- a lone thing over a new object -/
theorem Good.lone (g : Good K mg C G H σ e Sg) {o : HO} (hp : H p = none) : Lone C G (upd H p o) Sg (fun a => a = p) := by
  refine ⟨fun a z => ?_, fun i a z h => ?_⟩
  · subst z
    refine ⟨?_, by rw [upd_same]; simp, .inl ?_⟩
    · cases q : G a with
      | none => rfl
      | some u =>
        have := g.gh a u q
        rw [hp] at this
        cases this
    · cases q : C.H0 a with
      | none => rfl
      | some u => exact absurd hp (g.al a (by rw [q]; simp))
  · subst z
    exact (g.gs i a h).2.1 hp
end

/-! ### wishes about exceptions -/
def XE (mg : MG) (E : XK) (x : Exc) (H : Hp) : Prop := ∀ C, mg x.cls = some (.ref C) → match x.fld with
  | none => E (.ref C) none H
  | some (f, v) => ∀ p, H p = some (.xd [(f, v)]) → E (.ref C) (some p) H
abbrev XW (mg : MG) (W : WX) (x : Exc) (σ : L2.St) (H : Hp) : Prop := XE mg (fun c d H => W c d σ H) x H

/-! ### canonical readings -/
def Post {α : Type} (K : Frag) (mg : MG) (C : Ct) (W : WX) (G : Hp) (σ : L2.St) (r : R α) (k : α → Env → Hp → Hp → (Nat → ASet) → Prop) : Prop := match r with
  | .ok a e' => ∀ G' H' Sg', Good K mg C G' H' σ e' Sg' → Ex G G' → k a e' G' H' Sg'
  | .ex x e' => ∀ G' H' Sg', Good K mg C G' H' σ e' Sg' → Ex G G' → XW mg W x σ H'
  | .st => False
section
variable {α β : Type} {K : Frag} {mg : MG} {C : Ct} {W : WX} {G G' H : Hp} {σ : L2.St} {r : R α} {f : α → Env → R β} {k k' : α → Env → Hp → Hp → (Nat → ASet) → Prop} {q : β → Env → Hp → Hp → (Nat → ASet) → Prop}
theorem Post.mono (x : Ex G G') (h : Post K mg C W G σ r k) : Post K mg C W G' σ r k := by
  cases r with
  | ok a e => exact fun G2 H2 S2 g y => h G2 H2 S2 g (x.trans y)
  | ex a e => exact fun G2 H2 S2 g y => h G2 H2 S2 g (x.trans y)
  | st => exact h
theorem Post.imp (h : Post K mg C W G σ r k) (i : ∀ a e' G' H' Sg', r = .ok a e' → Good K mg C G' H' σ e' Sg' → Ex G G' → k a e' G' H' Sg' → k' a e' G' H' Sg') : Post K mg C W G σ r k' := by
  cases r with
  | ok a e => exact fun G2 H2 S2 g y => i a e G2 H2 S2 rfl g y (h G2 H2 S2 g y)
  | ex a e => exact h
  | st => exact h
theorem Post.bind (h : Post K mg C W G σ (r.bind f) q) : Post K mg C W G σ r fun a e' G' H' Sg' => Post K mg C W G' σ (f a e') q := by
  cases r with
  | ok a e => exact fun G2 H2 S2 g y => Post.mono y h
  | ex a e => exact h
  | st => exact h
theorem Post.out {a : α} {e' : Env} (h : Post K mg C W G σ (.ok a e') k) : ∀ G' H' Sg', Good K mg C G' H' σ e' Sg' → Ex G G' → k a e' G' H' Sg' := h
end
/-- a value's denotation -/
def RL (K : Frag) (C : Ct) (G : Hp) (σ : L2.St) (v : V) : Lv → Prop
  | .val d => Dp K G v d
  | .plc i => σ[i]? = some (some v) ∧ C.Tg[i]? = some (.lst .fz)
  | .own i => σ[i]? = some (some v) ∧ ∃ sh, C.Tg[i]? = some sh ∧ sh ≠ .fz
theorem RL.mono {K : Frag} {C : Ct} {G G' : Hp} {σ : L2.St} {v : V} {l : Lv} (x : Ex G G') (h : RL K C G σ v l) : RL K C G' σ v l := by
  cases l with
  | val d => exact dp_ex x _ _ h
  | plc i => exact h
  | own i => exact h
inductive RLs (K : Frag) (C : Ct) (G : Hp) (σ : L2.St) : List V → List Lv → Prop
  | nil : RLs K C G σ [] []
  | cons {v vs l ls} : RL K C G σ v l → RLs K C G σ vs ls → RLs K C G σ (v :: vs) (l :: ls)
theorem RLs.mono {K : Frag} {C : Ct} {G G' : Hp} {σ : L2.St} (x : Ex G G') : ∀ {vs : List V} {ls : List Lv}, RLs K C G σ vs ls → RLs K C G' σ vs ls
  | _, _, .nil => .nil
  | _, _, .cons a b => .cons (a.mono x) (b.mono x)

/-- a view of a value: frozen data, or an own list of frozen items -/
inductive Vw (K : Frag) (G H : Hp) : V → D → Prop
  | fz {v d} : Dp K G v d → Vw K G H v d
  | lst {p vs ds} : H p = some (.lst vs) → DpAll K G vs ds → Vw K G H (.ref p) (.list ds)
section
variable {K : Frag} {mg : MG} {C : Ct} {G H : Hp} {σ : L2.St} {e : Env} {Sg : Nat → ASet} {v : V} {d : D} {l : Lv}
theorem RL.view (g : Good K mg C G H σ e Sg) (h : RL K C G σ v l) (hd : l.get e = some d) : Vw K G H v d := by
  cases l with
  | val d' =>
    have z : d' = d := Option.some.inj hd
    subst z
    exact .fz h
  | plc i =>
    have hd : e.getD i none = some d := hd
    have he : e[i]? = some (some d) := by
      rw [List.getD_eq_getElem?_getD] at hd
      cases q : e[i]? with
      | none => rw [q] at hd; cases hd
      | some z => rw [q] at hd; exact congrArg some hd
    obtain ⟨w, h3, h4⟩ := g.slot i _ d h.2 he
    rw [h.1] at h3
    cases h3
    obtain ⟨p, vs, ds, rfl, rfl, hp, _, ha⟩ := own_lst_inv h4
    exact .lst hp ha
  | own i => cases hd
theorem Vw.dp (x : Ex G H) (h : Vw K G H v d) : Dp K H v d := by
  cases h with
  | fz h => exact dp_ex x _ _ h
  | lst hp ha => exact .lst (.inl (.inl hp)) (dps_ex x _ _ ha)
/-- a list or tuple, its items frozen -/
theorem Vw.lst_inv {ds : List D} (x : Ex G H) (h : Vw K G H v (.list ds)) : ∃ a vs, v = .ref a ∧ SqL K H a vs ∧ DpAll K G vs ds := by
  cases h with
  | fz h =>
    cases h with
    | lst h1 h2 => exact ⟨_, _, rfl, ex_l x h1, h2⟩
  | lst hp ha => exact ⟨_, _, rfl, .inl (.inl hp), ha⟩
theorem Vw.tup_inv {ds : List D} (x : Ex G H) (h : Vw K G H v (.tuple ds)) : ∃ a vs, v = .ref a ∧ SqT K H a vs ∧ DpAll K G vs ds := by
  cases h with
  | fz h =>
    cases h with
    | tup h1 h2 => exact ⟨_, _, rfl, ex_t x h1, h2⟩
theorem Vw.int_inv {i : Int} (h : Vw K G H v (.int i)) : v = .int i := by
  cases h with
  | fz h => cases h; rfl
theorem Vw.str_inv {x : Str} (h : Vw K G H v (.str x)) : v = .str x := by
  cases h with
  | fz h => cases h; rfl
theorem Vw.bl_inv {b : Bool} (h : Vw K G H v (.bool b)) : v = .bl b := by
  cases h with
  | fz h => cases h; rfl
theorem Vw.non_inv (h : Vw K G H v .none) : v = .non := by
  cases h with
  | fz h => cases h; rfl
end

def NVp (K : Frag) (G H : Hp) (Q : VK) : NV → Prop
  | .sc d => ∀ v, Dp K G v d → Q v H
  | .nl ds => ∀ p vs, H p = none → DpAll K G vs ds → Q (.ref p) (upd H p (.lst vs))
  | .nt ds => ∀ p vs, H p = none → DpAll K G vs ds → Q (.ref p) (upd H p (.tup vs))
def NV.d : NV → D
  | .sc d => d
  | .nl ds => .list ds
  | .nt ds => .tuple ds

/-- the canonical readings: a value; what an operation gives; a thing of one's own; a test; arguments -/
def tE (K : Frag) (mg : MG) (C : Ct) (W : WX) (c : Env → R Lv) : TE := fun σ H Q => ∃ G e Sg, Good K mg C G H σ e Sg ∧ Post K mg C W G σ (c e) fun l _ G' H' _ => ∀ v, RL K C G' σ v l → Q v H'
def tN (K : Frag) (mg : MG) (C : Ct) (W : WX) (c : Env → R NV) : TE := fun σ H Q => ∃ G e Sg, Good K mg C G H σ e Sg ∧ Post K mg C W G σ (c e) fun n _ G' H' _ => NVp K G' H' Q n
def tO (K : Frag) (mg : MG) (C : Ct) (W : WX) (sh : Sh) (c : Env → R D) : TE := fun σ H Q => ∃ G e Sg, Good K mg C G H σ e Sg ∧ Post K mg C W G σ (c e) fun d _ G' H' Sg' => ∀ v S, Own K mg G' H' sh v d S → Lone C G' H' Sg' S → Q v H'
def tT (K : Frag) (mg : MG) (C : Ct) (W : WX) (c : Env → R Bool) : TT := fun σ H Q => ∃ G e Sg, Good K mg C G H σ e Sg ∧ Post K mg C W G σ (c e) fun b _ _ H' _ => Q b H'
def tAs (K : Frag) (mg : MG) (C : Ct) (W : WX) (c : Env → R (List Lv)) : TA := fun σ H Q => ∃ G e Sg, Good K mg C G H σ e Sg ∧ Post K mg C W G σ (c e) fun ls _ G' H' _ => ∀ vs, RLs K C G' σ vs ls → Q vs H'
/-- behind a statement -/
def PostS (K : Frag) (mg : MG) (C : Ct) (W : WX) (rsh : Sh) (G : Hp) (r : R Fl) (Dn : Ends) : Prop := match r with
  | .ok fl e' => ∀ G' H' σ' Sg', Good K mg C G' H' σ' e' Sg' → Ex G G' → (match fl with
    | .nx => Dn.nx σ' H'
    | .bk => Dn.bk σ' H'
    | .ct => Dn.ct σ' H'
    | .rt d => ∀ v S, Own K mg G' H' rsh v d S → Lone C G' H' Sg' S → Dn.rt v H')
  | .ex x e' => ∀ G' H' σ' Sg', Good K mg C G' H' σ' e' Sg' → Ex G G' → XW mg W x σ' H'
  | .st => False
def tS (K : Frag) (mg : MG) (C : Ct) (W : WX) (rsh : Sh) (c : Env → R Fl) : TS := fun Dn σ H => ∃ G e Sg, Good K mg C G H σ e Sg ∧ PostS K mg C W rsh G (c e) Dn
end DL

/-! Operators over data. -/
namespace DL
open PySem PySem.Spec PyProof.Rows L2
open Evl (Ex ex_l ex_t ex_rd)

/-! ### lists that are only known to be readable -/
section
variable {X : Cx}
def rCatS (K : Frag) : R2 := fun x y H Q => ∃ l b xs zs, x = .ref l ∧ y = .ref b ∧ SqL K H l xs ∧ SqL K H b zs ∧ xs.length + zs.length ≤ sizeLine ∧ ∀ p, H p = none → Q (.ref p) (upd H p (.lst (xs ++ zs)))
theorem op_catS : OpR X (binaryOp .Add) (rCatS X.K) := by
  intro pins s σ H x y v u Q I rx ry h
  obtain ⟨l, b, xs, zs, rfl, rfl, hH, hB, hz, q⟩ := h
  cases rx
  cases ry
  obtain ⟨its, r, p1, _⟩ := I.list hH
  obtain ⟨its2, r2, p2, _⟩ := I.list hB
  have hl := r.length
  have hl2 := r2.length
  obtain ⟨⟨cls, dd, data, sl⟩, ho, hc, n, hd⟩ := p1.isList
  obtain ⟨⟨cls2, dd2, data2, sl2⟩, ho2, hc2, n2, hd2⟩ := p2.isList
  simp only at hc hd hc2 hd2
  subst hc hd hc2 hd2
  have e : its.toArray ++ its2.toArray = (its ++ its2).toArray := by simp
  refine concat_meets ⟨_, ho, rfl⟩ ⟨_, ho2, rfl⟩ noFill_list_add seq_list_add PySem.F.slot_list_add PySem.F.entry_list_add (PySem.F.args_list_add_2 _ _) (list_addW l b its.toArray its2.toArray n n2 dd dd2 sl sl2 (by simp; omega)) ⟨ho, ho2, ?_⟩
  rw [e]
  exact ⟨.ref _, _, I.lnew (t' := s.toks) (r.append r2) (by rw [List.length_append]; omega), rfl, q _ I.fresh⟩
def rRepS (K : Frag) : R2 := fun x y H Q => ∃ l k xs, x = .ref l ∧ y = .int k ∧ SqL K H l xs ∧ -(2 ^ 63) ≤ k ∧ k < 2 ^ 63 ∧ xs.length * k.toNat ≤ sizeLine ∧
  ∀ p, H p = none → Q (.ref p) (upd H p (.lst (List.replicate k.toNat xs).flatten))
theorem op_repS : OpR X (binaryOp .Mult) (rRepS X.K) := by
  intro pins s σ H x y v u Q I rx ry h
  obtain ⟨l, k, xs, rfl, rfl, hH, h1, h2, hz, q⟩ := h
  cases rx
  obtain ⟨t, rfl⟩ := ry
  obtain ⟨its, r, p1, _⟩ := I.list hH
  have hl := r.length
  obtain ⟨⟨cls, dd, data, sl⟩, ho, hc, n, hd⟩ := p1.isList
  simp only at hc hd
  subst hc hd
  have hsz' : its.toArray.size * k.toNat ≤ 2 ^ 24 := by
    have : sizeLine = 2 ^ 24 := sizeLine_eq
    rw [List.size_toArray, ← hl, ← this]
    exact hz
  refine wpAny_binaryOp_repeat_ref (T := "list") (U := "int") (by decide) ⟨_, ho, rfl⟩ (fun s' => typeIs_int s' k t) noFill_list_mul F.fills_int_mul F.slot_int_rmul repeat_list F.slot_int_index.lookup
    (call_meets F.slot_int_rmul (typeIs_int s k t) F.entry_int_rmul (F.args_int_rmul_2 _ _) (lm_int_rmul_list_any k t l its.toArray n dd sl)
      ⟨ho, rfl, ⟨_, ho, rfl⟩, call_meets F.slot_list_mul ⟨_, ho, rfl⟩ F.entry_list_mul (F.args_list_mul_2 _ _)
        (lm_list_mul_any l its.toArray n dd sl k t (by simp [Builtin.List.listFitsIndex]; omega) (by omega) (by simp [Builtin.List.listTooLong, sizeLine]; omega))
        ⟨ho, ?_⟩⟩)
  rw [listMul_foldl_if]
  exact ⟨.ref _, _, I.lnew (t' := s.toks) (r.rep k.toNat) (by rw [PyProof.Rows.lm_len_rep_flat, Nat.mul_comm]; exact hz), rfl, q _ I.fresh⟩
end

/-! ### an operation, by data -/
structure Op2 (X : Cx) (K : Frag) (fop : Value → Value → Sem Value) (f : D → D → Option NV) : Prop where
  run : ∃ r : R2, OpR X fop r ∧ ∀ (G H : Hp) (x y : V) (dx dy : D) (nv : NV) (Q : VK), Ex G H → Vw K G H x dx → Vw K G H y dy → f dx dy = some nv → NVp K G H Q nv → r x y H Q
theorem dp_nv {K : Frag} {G H : Hp} {Q : VK} {d : D} {v : V} (h : NVp K G H Q (.sc d)) (hd : Dp K G v d) : Q v H := h v hd

def small (i : Int) : Bool := decide (-(2 ^ 64) < i) && decide (i < 2 ^ 64)
theorem small_iff {i : Int} : small i = true ↔ (-(2 ^ 64) < i ∧ i < 2 ^ 64) := by
  unfold small
  simp [Bool.and_eq_true]
def fits (n : Nat) : Bool := decide (n ≤ sizeLine)
theorem fits_iff {n : Nat} : fits n = true ↔ n ≤ sizeLine := by
  unfold fits
  simp

def dAdd : D → D → Option NV
  | .int i, .int j => some (.sc (.int (i + j)))
  | .str a, .str b => if fits (a.length + b.length) = true then some (.sc (.str (a ++ b))) else none
  | .list a, .list b => if fits (a.length + b.length) = true then some (.nl (a ++ b)) else none
  | .tuple a, .tuple b => if fits (a.length + b.length) = true then (if a = [] then some (.sc (.tuple b)) else if b = [] then some (.sc (.tuple a)) else some (.nt (a ++ b))) else none
  | _, _ => none
def dSub : D → D → Option NV
  | .int i, .int j => some (.sc (.int (i - j)))
  | _, _ => none
def dMul : D → D → Option NV
  | .int i, .int j => if (small i || small j) = true then some (.sc (.int (i * j))) else none
  | .list a, .int k => if (decide (-(2 ^ 63) ≤ k) && decide (k < 2 ^ 63) && fits (a.length * k.toNat)) = true then some (.nl (List.replicate k.toNat a).flatten) else none
  | _, _ => none
def dDiv : D → D → Option NV
  | .int i, .int j => if (decide (0 < j) && decide (j < 1073741824)) = true then some (.sc (.int (i / j))) else none
  | _, _ => none
def dMod : D → D → Option NV
  | .int i, .int j => if decide (0 < j) = true then some (.sc (.int (i % j))) else none
  | _, _ => none
def dPow : D → D → Option NV
  | .int i, .int j => if (decide (0 ≤ j) && decide (j ≤ 1000) && decide (i.natAbs < 2 ^ 64)) = true then some (.sc (.int (i ^ j.toNat))) else none
  | _, _ => none
def dXor : D → D → Option NV
  | .int i, .int j => some (.sc (.int (Builtin.bitXor i j)))
  | _, _ => none
def dShaped (d : D) : Bool := SeqAt.shaped d
def dEq : D → D → Option NV
  | .int i, .int j => some (.sc (.bool (decide (i = j))))
  | .str i, .str j => some (.sc (.bool (decide (i = j))))
  | x, y => if (dShaped x && dShaped y) = true then some (.sc (.bool (PyData.eqv x y))) else none
def dNe : D → D → Option NV
  | .int i, .int j => some (.sc (.bool (!decide (i = j))))
  | .str i, .str j => some (.sc (.bool (!decide (i = j))))
  | x, y => if (dShaped x && dShaped y) = true then some (.sc (.bool (!PyData.eqv x y))) else none
def dLt : D → D → Option NV
  | .int i, .int j => some (.sc (.bool (decide (i < j))))
  | .str i, .str j => some (.sc (.bool (decide (i.cps.toList < j.cps.toList))))
  | _, _ => none
def dLe : D → D → Option NV
  | .int i, .int j => some (.sc (.bool (decide (i ≤ j))))
  | _, _ => none
def dGt : D → D → Option NV
  | .int i, .int j => some (.sc (.bool (decide (j < i))))
  | _, _ => none
def dGe : D → D → Option NV
  | .int i, .int j => some (.sc (.bool (decide (j ≤ i))))
  | _, _ => none
def isNone : D → Bool
  | .none => true
  | _ => false
def dIs : D → D → Option NV
  | x, .none => some (.sc (.bool (isNone x)))
  | .bool a, .bool b => some (.sc (.bool (a == b)))
  | _, _ => none
def dIsNot : D → D → Option NV
  | x, .none => some (.sc (.bool (!isNone x)))
  | .bool a, .bool b => some (.sc (.bool (!(a == b))))
  | _, _ => none
/-- x in a list (any data), in a tuple of scalars, a sign or text in a text -/
def inL (x : D) (ds : List D) : Bool := ds.any fun z => PyData.eqv z x
def inS (x z : Str) : Bool := !(Builtin.Str.occurrences z x 0 z.length 1).isEmpty
def dIn : D → D → Option NV
  | .str x, .str z => some (.sc (.bool (inS x z)))
  | x, .list ds => if (dShaped x && dShaped (.list ds)) = true then some (.sc (.bool (inL x ds))) else none
  | _, _ => none
def dNotIn : D → D → Option NV
  | .str x, .str z => some (.sc (.bool (!inS x z)))
  | x, .list ds => if (dShaped x && dShaped (.list ds)) = true then some (.sc (.bool (!inL x ds))) else none
  | _, _ => none

section
variable {X : Cx}
theorem vals_nil_iff {K : Frag} {G : Hp} {vs : List V} {ds : List D} (h : DpAll K G vs ds) : vs = [] ↔ ds = [] := by
  have := dps_len _ _ h
  constructor
  · rintro rfl
    exact List.length_eq_zero_iff.mp this.symm
  · rintro rfl
    exact List.length_eq_zero_iff.mp this
theorem op2_add : Op2 X X.K (binaryOp .Add) dAdd := by
  refine ⟨_, ((op_add.or op_add_str).or op_catS).or op_catA, ?_⟩
  intro G H x y dx dy nv Q xg hx hy hf hq
  unfold dAdd at hf
  split at hf
  · cases hf
    rw [hx.int_inv, hy.int_inv]
    exact .inl (.inl (.inl ⟨_, _, rfl, rfl, hq _ (.int _)⟩))
  · split at hf
    · rename_i hz
      cases hf
      rw [hx.str_inv, hy.str_inv]
      exact .inl (.inl (.inr ⟨_, _, rfl, rfl, fits_iff.mp hz, hq _ (.str _)⟩))
    · cases hf
  · split at hf
    · rename_i hz
      cases hf
      obtain ⟨a, vs, rfl, h1, h2⟩ := hx.lst_inv xg
      obtain ⟨b, ws, rfl, h3, h4⟩ := hy.lst_inv xg
      have e1 := dps_len _ _ h2
      have e2 := dps_len _ _ h4
      exact .inl (.inr ⟨a, b, vs, ws, rfl, rfl, h1, h3, by rw [e1, e2]; exact fits_iff.mp hz, fun p hp => hq p _ hp (dps_append h2 h4)⟩)
    · cases hf
  · split at hf
    · rename_i hz
      obtain ⟨a, vs, rfl, h1, h2⟩ := hx.tup_inv xg
      obtain ⟨b, ws, rfl, h3, h4⟩ := hy.tup_inv xg
      have e1 := dps_len _ _ h2
      have e2 := dps_len _ _ h4
      refine .inr ⟨a, b, vs, ws, rfl, rfl, h1, h3, by rw [e1, e2]; exact fits_iff.mp hz, fun z => ?_, fun z z2 => ?_, fun z z2 p hp => ?_⟩
      · rw [if_pos ((vals_nil_iff h2).mp z)] at hf
        cases hf
        cases hy with
        | fz hd => exact hq _ hd
      · rw [if_neg fun q => z ((vals_nil_iff h2).mpr q), if_pos ((vals_nil_iff h4).mp z2)] at hf
        cases hf
        cases hx with
        | fz hd => exact hq _ hd
      · rw [if_neg fun q => z ((vals_nil_iff h2).mpr q), if_neg fun q => z2 ((vals_nil_iff h4).mpr q)] at hf
        cases hf
        exact hq p _ hp (dps_append h2 h4)
    · cases hf
  · cases hf
theorem op2_sub : Op2 X X.K (binaryOp .Sub) dSub := by
  refine ⟨_, op_sub, ?_⟩
  intro G H x y dx dy nv Q xg hx hy hf hq
  unfold dSub at hf
  split at hf
  · cases hf
    rw [hx.int_inv, hy.int_inv]
    exact ⟨_, _, rfl, rfl, hq _ (.int _)⟩
  · cases hf
theorem dps_rep {K : Frag} {G : Hp} {vs : List V} {ds : List D} (h : DpAll K G vs ds) : ∀ k : Nat, DpAll K G (List.replicate k vs).flatten (List.replicate k ds).flatten
  | 0 => .nil
  | k + 1 => by
    rw [List.replicate_succ, List.replicate_succ, List.flatten_cons, List.flatten_cons]
    exact dps_append h (dps_rep h k)
theorem op2_mul : Op2 X X.K (binaryOp .Mult) dMul := by
  refine ⟨_, op_mul.or op_repS, ?_⟩
  intro G H x y dx dy nv Q xg hx hy hf hq
  unfold dMul at hf
  split at hf
  · split at hf
    · rename_i hz
      cases hf
      rw [hx.int_inv, hy.int_inv]
      refine .inl ⟨_, _, rfl, rfl, ?_, hq _ (.int _)⟩
      rw [Bool.or_eq_true] at hz
      exact hz.imp small_iff.mp small_iff.mp
    · cases hf
  · split at hf
    · rename_i hz
      cases hf
      simp only [Bool.and_eq_true, decide_eq_true_eq] at hz
      obtain ⟨a, vs, rfl, h1, h2⟩ := hx.lst_inv xg
      rw [hy.int_inv]
      exact .inr ⟨a, _, vs, rfl, rfl, h1, hz.1.1, hz.1.2, by rw [dps_len _ _ h2]; exact fits_iff.mp hz.2, fun p hp => hq p _ hp (dps_rep h2 _)⟩
    · cases hf
  · cases hf
theorem op2_div : Op2 X X.K (binaryOp .FloorDiv) dDiv := by
  refine ⟨_, op_fdiv, ?_⟩
  intro G H x y dx dy nv Q xg hx hy hf hq
  unfold dDiv at hf
  split at hf
  · split at hf
    · rename_i hz
      cases hf
      simp only [Bool.and_eq_true, decide_eq_true_eq] at hz
      rw [hx.int_inv, hy.int_inv]
      exact ⟨_, _, rfl, rfl, hz, hq _ (.int _)⟩
    · cases hf
  · cases hf
theorem op2_mod : Op2 X X.K (binaryOp .Mod) dMod := by
  refine ⟨_, op_mod, ?_⟩
  intro G H x y dx dy nv Q xg hx hy hf hq
  unfold dMod at hf
  split at hf
  · split at hf
    · rename_i hz
      cases hf
      simp only [decide_eq_true_eq] at hz
      rw [hx.int_inv, hy.int_inv]
      exact ⟨_, _, rfl, rfl, hz, hq _ (.int _)⟩
    · cases hf
  · cases hf
theorem op2_pow : Op2 X X.K (binaryOp .Pow) dPow := by
  refine ⟨_, op_pow, ?_⟩
  intro G H x y dx dy nv Q xg hx hy hf hq
  unfold dPow at hf
  split at hf
  · split at hf
    · rename_i hz
      cases hf
      simp only [Bool.and_eq_true, decide_eq_true_eq] at hz
      rw [hx.int_inv, hy.int_inv]
      exact ⟨_, _, rfl, rfl, ⟨hz.1.1, by omega, hz.2⟩, hq _ (.int _)⟩
    · cases hf
  · cases hf
theorem op2_xor : Op2 X X.K (binaryOp .BitXor) dXor := by
  refine ⟨_, op_xor, ?_⟩
  intro G H x y dx dy nv Q xg hx hy hf hq
  unfold dXor at hf
  split at hf
  · cases hf
    rw [hx.int_inv, hy.int_inv]
    exact ⟨_, _, rfl, rfl, hq _ (.int _)⟩
  · cases hf
theorem beq_int {i j : Int} : (i == j) = decide (i = j) := by
  rw [Bool.eq_iff_iff]
  simp
theorem beq_str {i j : Str} : (i == j) = decide (i = j) := by
  rw [Bool.eq_iff_iff]
  simp
theorem shaped_int (i : Int) : SeqAt.shaped (.int i) = true := by simp [SeqAt.shaped, PyData.canLay0, PyData.depth]
theorem shaped_bool (x : Bool) : SeqAt.shaped (.bool x) = true := by simp [SeqAt.shaped, PyData.canLay0, PyData.depth]
theorem shaped_none : SeqAt.shaped .none = true := by simp [SeqAt.shaped, PyData.canLay0, PyData.depth]
theorem op2_eq (hu : X.A.units + 64 < cLine) : Op2 X X.K (compareOp .Eq) dEq := by
  refine ⟨_, op_eq.or (op_eqD hu), ?_⟩
  intro G H x y dx dy nv Q xg hx hy hf hq
  have gen : ∀ {dx dy : D}, Vw X.K G H x dx → Vw X.K G H y dy → SeqAt.shaped dx = true → SeqAt.shaped dy = true → Q (.bl (PyData.eqv dx dy)) H → rEqD X.K x y H Q :=
    fun h1 h2 h3 h4 h5 => ⟨_, _, h1.dp xg, h2.dp xg, h3, h4, h5⟩
  unfold dEq at hf
  split at hf
  · cases hf
    rw [hx.int_inv, hy.int_inv]
    refine .inl ⟨rfl, ?_⟩
    rw [dec_int, beq_int]
    exact hq _ (.bl _)
  · cases hf
    rw [hx.str_inv, hy.str_inv]
    refine .inl ⟨rfl, ?_⟩
    rw [dec_str, beq_str]
    exact hq _ (.bl _)
  · split at hf
    · rename_i hz
      cases hf
      rw [Bool.and_eq_true] at hz
      exact .inr (gen hx hy hz.1 hz.2 (hq _ (.bl _)))
    · cases hf
theorem op2_ne (hu : X.A.units + 64 < cLine) : Op2 X X.K (compareOp .NotEq) dNe := by
  refine ⟨_, op_ne.or (op_neD hu), ?_⟩
  intro G H x y dx dy nv Q xg hx hy hf hq
  have gen : ∀ {dx dy : D}, Vw X.K G H x dx → Vw X.K G H y dy → SeqAt.shaped dx = true → SeqAt.shaped dy = true → Q (.bl (!PyData.eqv dx dy)) H → rNeD X.K x y H Q :=
    fun h1 h2 h3 h4 h5 => ⟨_, _, h1.dp xg, h2.dp xg, h3, h4, h5⟩
  unfold dNe at hf
  split at hf
  · cases hf
    rw [hx.int_inv, hy.int_inv]
    refine .inl ⟨rfl, ?_⟩
    rw [dec_int, beq_int]
    exact hq _ (.bl _)
  · cases hf
    rw [hx.str_inv, hy.str_inv]
    refine .inl ⟨rfl, ?_⟩
    rw [dec_str, beq_str]
    exact hq _ (.bl _)
  · split at hf
    · rename_i hz
      cases hf
      rw [Bool.and_eq_true] at hz
      exact .inr (gen hx hy hz.1 hz.2 (hq _ (.bl _)))
    · cases hf
theorem op2_lt : Op2 X X.K (compareOp .Lt) dLt := by
  refine ⟨_, op_lt.or op_lt_str, ?_⟩
  intro G H x y dx dy nv Q xg hx hy hf hq
  unfold dLt at hf
  split at hf
  · cases hf
    rw [hx.int_inv, hy.int_inv]
    exact .inl ⟨_, _, rfl, rfl, hq _ (.bl _)⟩
  · cases hf
    rw [hx.str_inv, hy.str_inv]
    exact .inr ⟨_, _, rfl, rfl, hq _ (.bl _)⟩
  · cases hf
theorem op2_le : Op2 X X.K (compareOp .LtE) dLe := by
  refine ⟨_, op_le, ?_⟩
  intro G H x y dx dy nv Q xg hx hy hf hq
  unfold dLe at hf
  split at hf
  · cases hf
    rw [hx.int_inv, hy.int_inv]
    exact ⟨_, _, rfl, rfl, hq _ (.bl _)⟩
  · cases hf
theorem op2_gt : Op2 X X.K (compareOp .Gt) dGt := by
  refine ⟨_, op_gt, ?_⟩
  intro G H x y dx dy nv Q xg hx hy hf hq
  unfold dGt at hf
  split at hf
  · cases hf
    rw [hx.int_inv, hy.int_inv]
    exact ⟨_, _, rfl, rfl, hq _ (.bl _)⟩
  · cases hf
theorem op2_ge : Op2 X X.K (compareOp .GtE) dGe := by
  refine ⟨_, op_ge, ?_⟩
  intro G H x y dx dy nv Q xg hx hy hf hq
  unfold dGe at hf
  split at hf
  · cases hf
    rw [hx.int_inv, hy.int_inv]
    exact ⟨_, _, rfl, rfl, hq _ (.bl _)⟩
  · cases hf
theorem isNone_dec {K : Frag} {G H : Hp} {v : V} {d : D} (h : Vw K G H v d) : decide (v = .non) = isNone d := by
  cases h with
  | fz h => cases h <;> simp [isNone]
  | lst hp ha => simp [isNone]
theorem op2_is : Op2 X X.K (compareOp .Is) dIs := by
  refine ⟨_, op_isN.or op_is_bl, ?_⟩
  intro G H x y dx dy nv Q xg hx hy hf hq
  unfold dIs at hf
  split at hf
  · cases hf
    refine .inl ⟨hy.non_inv, ?_⟩
    rw [isNone_dec hx]
    exact hq _ (.bl _)
  · cases hf
    rw [hx.bl_inv, hy.bl_inv]
    refine .inr ⟨_, _, rfl, rfl, ?_⟩
    have e : ∀ a b : Bool, decide (a = b) = (a == b) := by decide
    rw [e]
    exact hq _ (.bl _)
  · cases hf
theorem op2_isNot : Op2 X X.K (compareOp .IsNot) dIsNot := by
  refine ⟨_, op_notN.or op_isnot_bl, ?_⟩
  intro G H x y dx dy nv Q xg hx hy hf hq
  unfold dIsNot at hf
  split at hf
  · cases hf
    refine .inl ⟨hy.non_inv, ?_⟩
    rw [isNone_dec hx]
    exact hq _ (.bl _)
  · cases hf
    rw [hx.bl_inv, hy.bl_inv]
    refine .inr ⟨_, _, rfl, rfl, ?_⟩
    have e : ∀ a b : Bool, (!decide (a = b)) = (!(a == b)) := by decide
    rw [e]
    exact hq _ (.bl _)
  · cases hf
theorem op2_in (hu : X.A.units + 65 < cLine) : Op2 X X.K (compareOp .In) dIn := by
  refine ⟨_, op_in_str.or (op_inD hu), ?_⟩
  intro G H x y dx dy nv Q xg hx hy hf hq
  unfold dIn at hf
  split at hf
  · cases hf
    rw [hx.str_inv, hy.str_inv]
    exact .inl ⟨_, _, rfl, rfl, hq _ (.bl _)⟩
  · split at hf
    · rename_i hz
      cases hf
      rw [Bool.and_eq_true] at hz
      exact .inr ⟨_, _, hx.dp xg, hy.dp xg, hz.1, hz.2, hq _ (.bl _)⟩
    · cases hf
  · cases hf
theorem op2_notIn (hu : X.A.units + 65 < cLine) : Op2 X X.K (compareOp .NotIn) dNotIn := by
  refine ⟨_, op_notin_str.or (op_notInD hu), ?_⟩
  intro G H x y dx dy nv Q xg hx hy hf hq
  unfold dNotIn at hf
  split at hf
  · cases hf
    rw [hx.str_inv, hy.str_inv]
    exact .inl ⟨_, _, rfl, rfl, hq _ (.bl _)⟩
  · split at hf
    · rename_i hz
      cases hf
      rw [Bool.and_eq_true] at hz
      exact .inr ⟨_, _, hx.dp xg, hy.dp xg, hz.1, hz.2, hq _ (.bl _)⟩
    · cases hf
  · cases hf
end
end DL

/-! Expressions, tests, displays, built-in calls over data. -/
namespace DL
open PySem PySem.Spec PyProof.Rows L2
open Evl (Ex ex_l ex_t ex_rd)

section
variable {X : Cx}
theorem PE.to {e : Expr} {t t' : TE} (h : PE X e t) (i : ∀ σ H Q, t' σ H Q → t σ H Q) : PE X e t' := ⟨fun pins s σ H Q I q => h.run pins s σ H Q I (i σ H Q q)⟩
theorem PT.to {e : Expr} {t t' : TT} (h : PT X e t) (i : ∀ σ H Q, t' σ H Q → t σ H Q) : PT X e t' := ⟨fun pins s σ H Q I q => h.run pins s σ H Q I (i σ H Q q)⟩
theorem PW.to {e : Expr} {t t' : TT} (h : PW X e t) (i : ∀ σ H Q, t' σ H Q → t σ H Q) : PW X e t' := ⟨fun w pins s σ H Q I q => h.run w pins s σ H Q I (i σ H Q q)⟩
theorem PA.to {e : List Expr} {t t' : TA} (h : PA X e t) (i : ∀ σ H Q, t' σ H Q → t σ H Q) : PA X e t' := ⟨fun pos pins s σ H Q I q => h.run pos pins s σ H Q I (i σ H Q q)⟩
theorem PS.to {e : Stmt} {t t' : TS} (h : PS X e t) (i : ∀ Dn σ H, t' Dn σ H → t Dn σ H) : PS X e t' := ⟨fun pins s σ H D I q => h.run pins s σ H D I (i D σ H q)⟩
theorem PSs.to {e : List Stmt} {t t' : TS} (h : PSs X e t) (i : ∀ Dn σ H, t' Dn σ H → t Dn σ H) : PSs X e t' := ⟨fun pins s σ H D I q => h.run pins s σ H D I (i D σ H q)⟩
end

/-! ### combinators -/
def ofO {α : Type} (o : Option α) (e : Env) : R α := match o with
  | some a => .ok a e
  | none => .st
def cK (d : D) : Env → R Lv := fun e => .ok (.val d) e
def cVar (i : Nat) : Env → R Lv := fun e => match e.getD i none with
  | some d => .ok (.val d) e
  | none => .st
def cPlc (i : Nat) : Env → R Lv := fun e => match e.getD i none with
  | some _ => .ok (.plc i) e
  | none => .st
def c2 (f : D → D → Option NV) (a b : Env → R Lv) : Env → R NV := fun e => (a e).bind fun l e1 => (b e1).bind fun m e2 => ofO ((l.get e2).bind fun x => (m.get e2).bind fun y => f x y) e2
/-- what an operation gave, frozen; kept as one's own -/
def cFrz (c : Env → R NV) : Env → R Lv := fun e => (c e).bind fun n e1 => .ok (.val n.d) e1
def cOwn (c : Env → R NV) : Env → R D := fun e => (c e).bind fun n e1 => match n with
  | .nl ds => .ok (.list ds) e1
  | _ => .st
/-- one's own list, frozen -/
def cMelt (c : Env → R D) : Env → R Lv := fun e => (c e).bind fun d e1 => .ok (.val d) e1
def dTru : D → Option Bool
  | .none => some false
  | .bool b => some b
  | .int i => some (i != 0)
  | .str x => if fits x.length = true then some ((x.length : Int) != 0) else none
  | .list ds => some (!ds.isEmpty)
  | .tuple ds => some (!ds.isEmpty)
  | .dict _ => none
def dBool : D → Option Bool
  | .bool b => some b
  | _ => none
def cTru (c : Env → R Lv) : Env → R Bool := fun e => (c e).bind fun l e1 => ofO ((l.get e1).bind dTru) e1
def cTst (c : Env → R NV) : Env → R Bool := fun e => (c e).bind fun n e1 => ofO (dBool n.d) e1
def cAnd (a b : Env → R Bool) : Env → R Bool := fun e => (a e).bind fun t e1 => match t with
  | true => b e1
  | false => .ok false e1
def cOr (a b : Env → R Bool) : Env → R Bool := fun e => (a e).bind fun t e1 => match t with
  | true => .ok true e1
  | false => b e1
def cNot (a : Env → R Bool) : Env → R Bool := fun e => (a e).bind fun t e1 => .ok (!t) e1
def cIf {α : Type} (t : Env → R Bool) (a b : Env → R α) : Env → R α := fun e => (t e).bind fun k e1 => match k with
  | true => a e1
  | false => b e1
def cAndV (a b : Env → R Lv) : Env → R Lv := fun e => (a e).bind fun l e1 => match l with
  | .val (.bool true) => b e1
  | .val (.bool false) => .ok (.val (.bool false)) e1
  | _ => .st
def cOrV (a b : Env → R Lv) : Env → R Lv := fun e => (a e).bind fun l e1 => match l with
  | .val (.bool true) => .ok (.val (.bool true)) e1
  | .val (.bool false) => b e1
  | _ => .st
def cNotV (a : Env → R Lv) : Env → R Lv := fun e => (a e).bind fun l e1 => match l with
  | .val (.bool t) => .ok (.val (.bool (!t))) e1
  | _ => .st
def vals : List Lv → Option (List D)
  | [] => some []
  | .val d :: r => (vals r).map (d :: ·)
  | .plc _ :: _ => none
  | .own _ :: _ => none
def gets : List Lv → Env → Option (List D)
  | [], _ => some []
  | l :: r, e => (l.get e).bind fun d => (gets r e).map (d :: ·)
def cNil : Env → R (List Lv) := fun e => .ok [] e
def cCons (a : Env → R Lv) (r : Env → R (List Lv)) : Env → R (List Lv) := fun e => (a e).bind fun l e1 => (r e1).bind fun ls e2 => .ok (l :: ls) e2
def cLst (a : Env → R (List Lv)) : Env → R NV := fun e => (a e).bind fun ls e1 => ofO ((vals ls).bind fun ds => if fits ds.length = true then some (.nl ds) else none) e1
def cTup (a : Env → R (List Lv)) : Env → R NV := fun e => (a e).bind fun ls e1 => ofO ((vals ls).bind fun ds => if fits ds.length = true then some (.nt ds) else none) e1
/-- a built-in's call -/
def cB (g : List D → Option NV) (a : Env → R (List Lv)) : Env → R NV := fun e => (a e).bind fun ls e1 => ofO ((gets ls e1).bind g) e1
/-- a built-in's method -/
def cM (g : D → List D → Option NV) (o : Env → R Lv) (a : Env → R (List Lv)) : Env → R NV := fun e => (o e).bind fun l e1 => (a e1).bind fun ls e2 => ofO ((l.get e2).bind fun x => (gets ls e2).bind fun ds => g x ds) e2
def dIx : D → D → Option NV
  | .list ds, .int i => (atI ds i).map .sc
  | .tuple ds, .int i => (atI ds i).map .sc
  | .str z, .int i => if fits z.length = true then (atI z.cps.toList i).map fun c => .sc (.str ⟨#[c]⟩) else none
  | _, _ => none
def dCut {α : Type} (xs : List α) (lo hi : Option Int) : List α := (xs.drop (HT.sIx xs.length 0 lo)).take (HT.sIx xs.length xs.length hi - HT.sIx xs.length 0 lo)
def dSl : D → Option Int → Option Int → Option NV
  | .list ds, lo, hi => some (.nl (dCut ds lo hi))
  | .tuple ds, lo, hi => if (decide (HT.sIx ds.length 0 lo = 0) && decide (HT.sIx ds.length ds.length hi = ds.length)) = true then none else some (.nt (dCut ds lo hi))
  | .str z, lo, hi => if fits z.length = true then some (.sc (.str (cutS z lo hi))) else none
  | _, _, _ => none
def dInt : D → Option Int
  | .int i => some i
  | _ => none
def cPartN : Env → R (Option Int) := fun e => .ok none e
def cPart (c : Env → R Lv) : Env → R (Option Int) := fun e => (c e).bind fun l e1 => ofO ((l.get e1).bind fun d => (dInt d).map some) e1
def cSl (o : Env → R Lv) (lo hi : Env → R (Option Int)) : Env → R NV := fun e => (o e).bind fun l e1 => (lo e1).bind fun x e2 => (hi e2).bind fun y e3 => ofO ((l.get e3).bind fun d => dSl d x y) e3

/-! ### soundness -/
section
variable {X : Cx} {K : Frag} {mg : MG} {C : Ct} {W : WX}
theorem Post.ofO {α : Type} {G : Hp} {σ : L2.St} {o : Option α} {e : Env} {k : α → Env → Hp → Hp → (Nat → ASet) → Prop} (h : Post K mg C W G σ (ofO o e) k) : ∃ a, o = some a ∧ Post K mg C W G σ (.ok a e) k := by
  cases o with
  | none => exact False.elim h
  | some a => exact ⟨a, rfl, h⟩
theorem Good.getD {G H : Hp} {σ : L2.St} {e : Env} {Sg : Nat → ASet} {i : Nat} {d : D} (h : e.getD i none = some d) : e[i]? = some (some d) := by
  rw [List.getD_eq_getElem?_getD] at h
  cases q : e[i]? with
  | none => rw [q] at h; cases h
  | some z => rw [q] at h; exact congrArg some h
theorem de_k {e : Expr} {v : V} {d : D} (h : PE X e (tC v)) (hd : ∀ G, Dp K G v d) : PE X e (tE K mg C W (cK d)) :=
  PE.to h fun σ H Q ⟨G, e, Sg, g, p⟩ => p G H Sg g (Ex.refl G) v (hd G)
theorem de_int {i j pos} : PE X (.Constant (.int i) j pos) (tE K mg C W (cK (.int i))) := de_k pe_int fun _ => .int i
theorem de_bl {i j pos} : PE X (.Constant (.bool i) j pos) (tE K mg C W (cK (.bool i))) := de_k pe_bl fun _ => .bl i
theorem de_str {i j pos} : PE X (.Constant (.str i) j pos) (tE K mg C W (cK (.str i))) := de_k pe_str fun _ => .str i
theorem de_non {j pos} : PE X (.Constant .none j pos) (tE K mg C W (cK .none)) := de_k pe_non fun _ => .non
/-- a module's constant -/
theorem de_globI {x : Str} {i : Int} {u : Tok} {pos : Pos} (hg : Gl X x) (hm : X.mg x = some (.int i u)) (hd : (x == ("__debug__" : Str)) = false := by decide) : PE X (.Name x pos) (tE K mg C W (cK (.int i))) := de_k (pe_glob (v := .int i) hg hm ⟨u, rfl⟩ hd) fun _ => .int i
theorem de_globS {x z : Str} {u : Tok} {pos : Pos} (hg : Gl X x) (hm : X.mg x = some (.str z u)) (hd : (x == ("__debug__" : Str)) = false := by decide) : PE X (.Name x pos) (tE K mg C W (cK (.str z))) := de_k (pe_glob (v := .str z) hg hm ⟨u, rfl⟩ hd) fun _ => .str z
theorem de_var (i : Nat) {x : Str} {pos : Pos} (ht : C.Tg[i]? = some .fz := by rfl) (hN : X.N[i]? = some x := by rfl) (hv : Vis X.env.scope x := by first | exact Or.inl rfl | exact Or.inr (Or.inl rfl) | exact Or.inr (Or.inr rfl)) (hd : (x == ("__debug__" : Str)) = false := by decide)
    (hcd : (x == ("__classdict__" : Str)) = false := by decide) : PE X (.Name x pos) (tE K mg C W (cVar i)) :=
  PE.to (pe_var hN hv hd hcd) fun σ H Q ⟨G, e, Sg, g, p⟩ => by
    unfold cVar at p
    split at p
    · rename_i d he
      obtain ⟨v, h1, h2⟩ := g.slot i _ d ht (Good.getD (G := G) (H := H) (σ := σ) (Sg := Sg) he)
      exact ⟨v, h1, p G H Sg g (Ex.refl G) v (own_fz_inv h2)⟩
    · exact False.elim p
theorem de_plc (i : Nat) {x : Str} {pos : Pos} (ht : C.Tg[i]? = some (.lst .fz) := by rfl) (hN : X.N[i]? = some x := by rfl) (hv : Vis X.env.scope x := by first | exact Or.inl rfl | exact Or.inr (Or.inl rfl) | exact Or.inr (Or.inr rfl)) (hd : (x == ("__debug__" : Str)) = false := by decide)
    (hcd : (x == ("__classdict__" : Str)) = false := by decide) : PE X (.Name x pos) (tE K mg C W (cPlc i)) :=
  PE.to (pe_var hN hv hd hcd) fun σ H Q ⟨G, e, Sg, g, p⟩ => by
    unfold cPlc at p
    split at p
    · rename_i d he
      obtain ⟨v, h1, h2⟩ := g.slot i _ d ht (Good.getD (G := G) (H := H) (σ := σ) (Sg := Sg) he)
      exact ⟨v, h1, p G H Sg g (Ex.refl G) v ⟨h1, ht⟩⟩
    · exact False.elim p

/-- two operands, then what is made of both -/
theorem two {ca cb : Env → R Lv} {f : D → D → Option NV} {σ : L2.St} {H : Hp} {Q : VK} (h : tN K mg C W (c2 f ca cb) σ H Q) :
    tE K mg C W ca σ H fun x H1 => tE K mg C W cb σ H1 fun y H2 => ∃ G dx dy nv, Ex G H2 ∧ Vw K G H2 x dx ∧ Vw K G H2 y dy ∧ f dx dy = some nv ∧ NVp K G H2 Q nv := by
  obtain ⟨G, e, Sg, g, p⟩ := h
  refine ⟨G, e, Sg, g, (Post.bind p).imp fun l e1 G1 H1 S1 _ g1 _ p1 x hx => ?_⟩
  refine ⟨G1, e1, S1, g1, (Post.bind p1).imp fun m e2 G2 H2 S2 _ g2 x2 p2 y hy => ?_⟩
  obtain ⟨nv, h1, h2⟩ := Post.ofO p2
  cases hl : l.get e2 with
  | none => rw [hl] at h1; cases h1
  | some dx =>
    cases hm : m.get e2 with
    | none => rw [hl, hm] at h1; cases h1
    | some dy =>
      rw [hl, hm] at h1
      exact ⟨G2, dx, dy, nv, g2.gh, (hx.mono x2).view g2 hl, hy.view g2 hm, h1, h2 G2 H2 S2 g2 (Ex.refl G2)⟩
theorem dn_op {a b : Expr} {op : Operator} {pos : Pos} {f : D → D → Option NV} {ca cb : Env → R Lv} (h : Op2 X K (binaryOp op) f) (ha : PE X a (tE K mg C W ca)) (hb : PE X b (tE K mg C W cb)) : PE X (.BinOp a op b pos) (tN K mg C W (c2 f ca cb)) := by
  obtain ⟨r, hr, hs⟩ := h.run
  refine PE.to (pe_op hr ha hb) fun σ H Q q => ?_
  obtain ⟨G, e, Sg, g, p⟩ := two q
  refine ⟨G, e, Sg, g, p.imp fun l e1 G1 H1 S1 _ g1 _ p1 x hx => ?_⟩
  obtain ⟨G', e', Sg', g', p'⟩ := p1 x hx
  refine ⟨G', e', Sg', g', p'.imp fun m e2 G2 H2 S2 _ g2 _ p2 y hy => ?_⟩
  obtain ⟨G3, dx, dy, nv, h1, h2, h3, h4, h5⟩ := p2 y hy
  exact hs G3 H2 x y dx dy nv Q h1 h2 h3 h4 h5
theorem dn_cmp {a b : Expr} {op : CmpOp} {pos : Pos} {f : D → D → Option NV} {ca cb : Env → R Lv} (h : Op2 X K (compareOp op) f) (ha : PE X a (tE K mg C W ca)) (hb : PE X b (tE K mg C W cb)) (hm : behindInMarks op b = false) : PE X (.Compare a [op] [b] pos) (tN K mg C W (c2 f ca cb)) := by
  obtain ⟨r, hr, hs⟩ := h.run
  refine PE.to (pe_cmpR hr ha hb hm) fun σ H Q q => ?_
  obtain ⟨G, e, Sg, g, p⟩ := two q
  refine ⟨G, e, Sg, g, p.imp fun l e1 G1 H1 S1 _ g1 _ p1 x hx => ?_⟩
  obtain ⟨G', e', Sg', g', p'⟩ := p1 x hx
  refine ⟨G', e', Sg', g', p'.imp fun m e2 G2 H2 S2 _ g2 _ p2 y hy => ?_⟩
  obtain ⟨G3, dx, dy, nv, h1, h2, h3, h4, h5⟩ := p2 y hy
  exact hs G3 H2 x y dx dy nv Q h1 h2 h3 h4 h5

/-! from what an operation gives to a value -/
theorem de_n {e : Expr} {c : Env → R NV} (h : PE X e (tN K mg C W c)) : PE X e (tE K mg C W (cFrz c)) :=
  PE.to h fun σ H Q ⟨G, e, Sg, g, p⟩ => ⟨G, e, Sg, g, (Post.bind p).imp fun n e1 G1 H1 S1 _ g1 x1 p1 => by
    cases n with
    | sc d => exact fun v hv => p1 G1 H1 S1 g1 (Ex.refl G1) v hv
    | nl ds =>
      refine fun a vs ha hd => p1 (upd G1 a (.lst vs)) (upd H1 a (.lst vs)) S1 (g1.newf ha) (ex_upd ?_) (.ref a) ?_
      · cases q : G1 a with
        | none => rfl
        | some u => have := g1.gh a u q; rw [ha] at this; cases this
      · exact .lst (.inl (.inl upd_same)) (dps_ex (ex_upd (by
          cases q : G1 a with
          | none => rfl
          | some u => have := g1.gh a u q; rw [ha] at this; cases this)) _ _ hd)
    | nt ds =>
      refine fun a vs ha hd => p1 (upd G1 a (.tup vs)) (upd H1 a (.tup vs)) S1 (g1.newf ha) (ex_upd ?_) (.ref a) ?_
      · cases q : G1 a with
        | none => rfl
        | some u => have := g1.gh a u q; rw [ha] at this; cases this
      · exact .tup (.inl (.inl upd_same)) (dps_ex (ex_upd (by
          cases q : G1 a with
          | none => rfl
          | some u => have := g1.gh a u q; rw [ha] at this; cases this)) _ _ hd)⟩
theorem dO_n {e : Expr} {c : Env → R NV} (h : PE X e (tN K mg C W c)) : PE X e (tO K mg C W (.lst .fz) (cOwn c)) :=
  PE.to h fun σ H Q ⟨G, e, Sg, g, p⟩ => ⟨G, e, Sg, g, (Post.bind p).imp fun n e1 G1 H1 S1 _ g1 x1 p1 => by
    cases n with
    | sc d => exact False.elim p1
    | nl ds => exact fun a vs ha hd => p1 G1 (upd H1 a (.lst vs)) S1 (g1.new ha) (Ex.refl G1) (.ref a) (fun b => b = a) (own_lst upd_same rfl hd) (g1.lone ha)
    | nt ds => exact False.elim p1⟩
/-- an own list of frozen items, frozen -/
theorem de_o {e : Expr} {c : Env → R D} (h : PE X e (tO K mg C W (.lst .fz) c)) : PE X e (tE K mg C W (cMelt c)) :=
  PE.to h fun σ H Q ⟨G, e, Sg, g, p⟩ => ⟨G, e, Sg, g, (Post.bind p).imp fun d e1 G1 H1 S1 _ g1 x1 p1 v S ho hl => by
    obtain ⟨a, vs, ds, rfl, rfl, hp, sp, hd⟩ := own_lst_inv ho
    obtain ⟨h1, h2, h3⟩ := hl.own a sp
    have xg : Ex G1 (upd G1 a (.lst vs)) := ex_upd h1
    have g2 : Good K mg C (upd G1 a (.lst vs)) H1 σ e1 S1 := by
      refine ⟨g1.ls, g1.le, fun i sh d q1 q2 => ?_, g1.dis, fun i b q => ?_, fun b u q => ?_, g1.g0.trans xg, g1.fr, g1.al, fun b q => ?_, g1.pin, g1.par⟩
      · obtain ⟨w, q3, q4⟩ := g1.slot i sh d q1 q2
        exact ⟨w, q3, q4.mono xg fun _ _ => rfl⟩
      · obtain ⟨q1, q2, q3⟩ := g1.gs i b q
        refine ⟨?_, q2, q3⟩
        have z : b ≠ a := fun z => hl.apart i a sp (by rw [← z]; exact q)
        rw [upd_ne z]
        exact q1
      · by_cases hb : b = a
        · subst hb
          rw [upd_same] at q
          cases q
          exact hp
        · rw [upd_ne hb] at q
          exact g1.gh b u q
      · by_cases hb : b = a
        · subst hb
          rcases h3 with z | z
          · exact .inr (.inl z)
          · exact .inr (.inr z)
        · rw [upd_ne hb] at q
          exact g1.gn b q
    exact p1 (upd G1 a (.lst vs)) H1 S1 g2 xg (.ref a) (.lst (.inl (.inl upd_same)) (dps_ex xg _ _ hd))⟩

/-! tests -/
theorem dTru_ok {G H : Hp} {x : V} {d : D} {k : Bool} (xg : Ex G H) (h : Vw K G H x d) (hd : dTru d = some k) : TruV K x H k := by
  cases d with
  | none => rw [h.non_inv]; cases hd; rfl
  | bool b => rw [h.bl_inv]; cases hd; rfl
  | int i => rw [h.int_inv]; cases hd; rfl
  | str z =>
    rw [h.str_inv]
    unfold dTru at hd
    dsimp only at hd
    split at hd
    · rename_i hz
      cases hd
      exact ⟨fits_iff.mp hz, rfl⟩
    · cases hd
  | list ds =>
    obtain ⟨a, vs, rfl, h1, h2⟩ := h.lst_inv xg
    cases hd
    refine .inl ⟨vs, h1, ?_⟩
    have := dps_len _ _ h2
    cases vs <;> cases ds <;> simp_all
  | tuple ds =>
    obtain ⟨a, vs, rfl, h1, h2⟩ := h.tup_inv xg
    cases hd
    refine .inr (.inl ⟨vs, h1, ?_⟩)
    have := dps_len _ _ h2
    cases vs <;> cases ds <;> simp_all
  | dict kvs => cases hd
theorem dt_tru {e : Expr} {c : Env → R Lv} (h : PE X e (tE X.K mg C W c)) (he : ∀ whole, isTrue e X.env whole = (do let v ← whole; standAt e.pos; holding [v] (truthy v)) := by intro _; rfl) : PT X e (tT X.K mg C W (cTru c)) :=
  PT.to (pt_truth h he) fun σ H Q ⟨G, e, Sg, g, p⟩ => ⟨G, e, Sg, g, (Post.bind p).imp fun l e1 G1 H1 S1 _ g1 x1 p1 x hx => by
    obtain ⟨k, h1, h2⟩ := Post.ofO p1
    cases hl : l.get e1 with
    | none => rw [hl] at h1; cases h1
    | some d =>
      rw [hl] at h1
      exact ⟨k, dTru_ok g1.gh (hx.view g1 hl) h1, h2 G1 H1 S1 g1 (Ex.refl G1)⟩⟩
/-- an operation that gives True or False, as a test -/
theorem dt_n {e : Expr} {c : Env → R NV} (h : PE X e (tN K mg C W c)) (he : ∀ whole, isTrue e X.env whole = (do let v ← whole; standAt e.pos; holding [v] (truthy v)) := by intro _; rfl) : PT X e (tT K mg C W (cTst c)) :=
  PT.to (pt_val h he) fun σ H Q ⟨G, e, Sg, g, p⟩ => ⟨G, e, Sg, g, (Post.bind p).imp fun n e1 G1 H1 S1 _ g1 x1 p1 => by
    obtain ⟨k, h1, h2⟩ := Post.ofO p1
    cases n with
    | sc d =>
      have h1 : dBool d = some k := h1
      cases d with
      | bool b =>
        cases h1
        intro v hv
        cases hv
        exact ⟨_, rfl, h2 G1 H1 S1 g1 (Ex.refl G1)⟩
      | _ => cases h1
    | nl ds => cases h1
    | nt ds => cases h1⟩
theorem pt_cmp1 {a b : Expr} {op : CmpOp} {pos : Pos} {f : D → D → Option NV} {ca cb : Env → R Lv} (h : Op2 X K (compareOp op) f) (ha : PE X a (tE K mg C W ca)) (hb : PE X b (tE K mg C W cb)) (hm : behindInMarks op b = false) : PT X (.Compare a [op] [b] pos) (tT K mg C W (cTst (c2 f ca cb))) := by
  obtain ⟨r, hr, hs⟩ := h.run
  refine PT.to (pt_cmpR hr ha hb hm) fun σ H Q ⟨G, e, Sg, g, p⟩ => ?_
  have q : tN K mg C W (c2 f ca cb) σ H fun v H1 => ∃ k, v = .bl k ∧ Q k H1 := ⟨G, e, Sg, g, (Post.bind p).imp fun n e1 G1 H1 S1 _ g1 x1 p1 => by
    obtain ⟨k, h1, h2⟩ := Post.ofO p1
    cases n with
    | sc d =>
      have h1 : dBool d = some k := h1
      cases d with
      | bool b =>
        cases h1
        intro v hv
        cases hv
        exact ⟨_, rfl, h2 G1 H1 S1 g1 (Ex.refl G1)⟩
      | _ => cases h1
    | nl ds => cases h1
    | nt ds => cases h1⟩
  obtain ⟨G, e, Sg, g, p⟩ := two q
  refine ⟨G, e, Sg, g, p.imp fun l e1 G1 H1 S1 _ g1 _ p1 x hx => ?_⟩
  obtain ⟨G', e', Sg', g', p'⟩ := p1 x hx
  refine ⟨G', e', Sg', g', p'.imp fun m e2 G2 H2 S2 _ g2 _ p2 y hy => ?_⟩
  obtain ⟨G3, dx, dy, nv, h1, h2, h3, h4, h5⟩ := p2 y hy
  exact hs G3 H2 x y dx dy nv _ h1 h2 h3 h4 h5
theorem dw_and1 {a : Expr} {pos : Pos} {c : Env → R Bool} (ha : PT X a (tT K mg C W c)) : PW X (.BoolOp .And [a] pos) (tT K mg C W c) := pw_and1 ha
theorem dw_or1 {a : Expr} {pos : Pos} {c : Env → R Bool} (ha : PT X a (tT K mg C W c)) : PW X (.BoolOp .Or [a] pos) (tT K mg C W c) := pw_or1 ha
theorem dw_and {a b : Expr} {rest : List Expr} {pos : Pos} {c d : Env → R Bool} (ha : PT X a (tT K mg C W c)) (hb : PW X (.BoolOp .And (b :: rest) pos) (tT K mg C W d)) : PW X (.BoolOp .And (a :: b :: rest) pos) (tT K mg C W (cAnd c d)) :=
  PW.to (pw_and ha hb) fun σ H Q ⟨G, e, Sg, g, p⟩ => ⟨G, e, Sg, g, (Post.bind p).imp fun t e1 G1 H1 S1 _ g1 x1 p1 => by
    cases t with
    | true =>
      rw [if_pos rfl]
      exact ⟨G1, e1, S1, g1, p1⟩
    | false =>
      rw [if_neg Bool.false_ne_true]
      exact p1 G1 H1 S1 g1 (Ex.refl G1)⟩
theorem dw_or {a b : Expr} {rest : List Expr} {pos : Pos} {c d : Env → R Bool} (ha : PT X a (tT K mg C W c)) (hb : PW X (.BoolOp .Or (b :: rest) pos) (tT K mg C W d)) : PW X (.BoolOp .Or (a :: b :: rest) pos) (tT K mg C W (cOr c d)) :=
  PW.to (pw_or ha hb) fun σ H Q ⟨G, e, Sg, g, p⟩ => ⟨G, e, Sg, g, (Post.bind p).imp fun t e1 G1 H1 S1 _ g1 x1 p1 => by
    cases t with
    | true =>
      rw [if_pos rfl]
      exact p1 G1 H1 S1 g1 (Ex.refl G1)
    | false =>
      rw [if_neg Bool.false_ne_true]
      exact ⟨G1, e1, S1, g1, p1⟩⟩
theorem dt_w {e : Expr} {c : Env → R Bool} (h : PW X e (tT K mg C W c)) : PT X e (tT K mg C W c) := h.pt
theorem dt_not {a : Expr} {pos : Pos} {c : Env → R Bool} (ha : PT X a (tT K mg C W c)) : PT X (.UnaryOp .Not a pos) (tT K mg C W (cNot c)) :=
  PT.to (pt_not ha) fun σ H Q ⟨G, e, Sg, g, p⟩ => ⟨G, e, Sg, g, (Post.bind p).imp fun t e1 G1 H1 S1 _ g1 x1 p1 => p1 G1 H1 S1 g1 (Ex.refl G1)⟩
theorem de_if {c a b : Expr} {pos : Pos} {cc : Env → R Bool} {ca cb : Env → R Lv} (hc : PT X c (tT K mg C W cc)) (ha : PE X a (tE K mg C W ca)) (hb : PE X b (tE K mg C W cb)) : PE X (.IfExp c a b pos) (tE K mg C W (cIf cc ca cb)) :=
  PE.to (pe_ifExp hc ha hb) fun σ H Q ⟨G, e, Sg, g, p⟩ => ⟨G, e, Sg, g, (Post.bind p).imp fun t e1 G1 H1 S1 _ g1 x1 p1 => by
    cases t with
    | true =>
      rw [if_pos rfl]
      exact ⟨G1, e1, S1, g1, p1⟩
    | false =>
      rw [if_neg Bool.false_ne_true]
      exact ⟨G1, e1, S1, g1, p1⟩⟩
theorem dO_if {c a b : Expr} {pos : Pos} {sh : Sh} {cc : Env → R Bool} {ca cb : Env → R D} (hc : PT X c (tT K mg C W cc)) (ha : PE X a (tO K mg C W sh ca)) (hb : PE X b (tO K mg C W sh cb)) : PE X (.IfExp c a b pos) (tO K mg C W sh (cIf cc ca cb)) :=
  PE.to (pe_ifExp hc ha hb) fun σ H Q ⟨G, e, Sg, g, p⟩ => ⟨G, e, Sg, g, (Post.bind p).imp fun t e1 G1 H1 S1 _ g1 x1 p1 => by
    cases t with
    | true =>
      rw [if_pos rfl]
      exact ⟨G1, e1, S1, g1, p1⟩
    | false =>
      rw [if_neg Bool.false_ne_true]
      exact ⟨G1, e1, S1, g1, p1⟩⟩
theorem bl_of {G : Hp} {σ : L2.St} {v : V} {b : Bool} (h : RL K C G σ v (.val (.bool b))) : v = .bl b := by
  have h : Dp K G v (.bool b) := h
  cases h
  rfl
theorem de_one {op : PySem.BoolOp} {a : Expr} {pos : Pos} {c : Env → R Lv} (ha : PE X a (tE K mg C W c)) : PE X (.BoolOp op [a] pos) (tE K mg C W c) := pe_one ha
theorem de_and {a b : Expr} {rest : List Expr} {pos : Pos} {c d : Env → R Lv} (ha : PE X a (tE K mg C W c)) (hb : PE X (.BoolOp .And (b :: rest) pos) (tE K mg C W d)) : PE X (.BoolOp .And (a :: b :: rest) pos) (tE K mg C W (cAndV c d)) :=
  PE.to (pe_and ha hb) fun σ H Q ⟨G, e, Sg, g, p⟩ => ⟨G, e, Sg, g, (Post.bind p).imp fun l e1 G1 H1 S1 _ g1 x1 p1 v hv => by
    split at p1
    · obtain rfl := bl_of hv
      refine ⟨true, rfl, ?_⟩
      rw [if_pos rfl]
      exact ⟨G1, e1, S1, g1, p1⟩
    · obtain rfl := bl_of hv
      refine ⟨false, rfl, ?_⟩
      rw [if_neg Bool.false_ne_true]
      exact p1 G1 H1 S1 g1 (Ex.refl G1) _ hv
    · exact False.elim p1⟩
theorem de_or {a b : Expr} {rest : List Expr} {pos : Pos} {c d : Env → R Lv} (ha : PE X a (tE K mg C W c)) (hb : PE X (.BoolOp .Or (b :: rest) pos) (tE K mg C W d)) : PE X (.BoolOp .Or (a :: b :: rest) pos) (tE K mg C W (cOrV c d)) :=
  PE.to (pe_or ha hb) fun σ H Q ⟨G, e, Sg, g, p⟩ => ⟨G, e, Sg, g, (Post.bind p).imp fun l e1 G1 H1 S1 _ g1 x1 p1 v hv => by
    split at p1
    · obtain rfl := bl_of hv
      refine ⟨true, rfl, ?_⟩
      rw [if_pos rfl]
      exact p1 G1 H1 S1 g1 (Ex.refl G1) _ hv
    · obtain rfl := bl_of hv
      refine ⟨false, rfl, ?_⟩
      rw [if_neg Bool.false_ne_true]
      exact ⟨G1, e1, S1, g1, p1⟩
    · exact False.elim p1⟩
theorem de_not {a : Expr} {pos : Pos} {c : Env → R Lv} (ha : PE X a (tE K mg C W c)) : PE X (.UnaryOp .Not a pos) (tE K mg C W (cNotV c)) :=
  PE.to (pe_not ha) fun σ H Q ⟨G, e, Sg, g, p⟩ => ⟨G, e, Sg, g, (Post.bind p).imp fun l e1 G1 H1 S1 _ g1 x1 p1 v hv => by
    split at p1
    · obtain rfl := bl_of hv
      exact ⟨_, rfl, p1 G1 H1 S1 g1 (Ex.refl G1) _ (.bl _)⟩
    · exact False.elim p1⟩

/-! arguments, displays -/
theorem da_nil : PA X [] (tAs K mg C W cNil) := PA.to pa_nil fun σ H Q ⟨G, e, Sg, g, p⟩ => p G H Sg g (Ex.refl G) [] .nil
theorem da_cons {a : Expr} {es : List Expr} {c : Env → R Lv} {d : Env → R (List Lv)} (ha : PE X a (tE K mg C W c)) (hr : PA X es (tAs K mg C W d)) (hs : starEach (a :: es) X.env = (false, eval a X.env) :: starEach es X.env := by rfl) : PA X (a :: es) (tAs K mg C W (cCons c d)) :=
  PA.to (pa_cons ha hr hs) fun σ H Q ⟨G, e, Sg, g, p⟩ => ⟨G, e, Sg, g, (Post.bind p).imp fun l e1 G1 H1 S1 _ g1 x1 p1 v hv =>
    ⟨G1, e1, S1, g1, (Post.bind p1).imp fun ls e2 G2 H2 S2 _ g2 x2 p2 vs hvs => p2 G2 H2 S2 g2 (Ex.refl G2) (v :: vs) (.cons (hv.mono x2) hvs)⟩⟩
theorem RLs.vals {G : Hp} {σ : L2.St} : ∀ {vs : List V} {ls : List Lv} {ds : List D}, RLs K C G σ vs ls → DL.vals ls = some ds → DpAll K G vs ds
  | _, _, _, .nil, h => by
    cases h
    exact .nil
  | _, _, _, .cons (l := l) (ls := ls) a b, h => by
    cases l with
    | plc i => cases h
    | own i => cases h
    | val d =>
      have h : (DL.vals ls).map (d :: ·) = some _ := h
      cases q : DL.vals ls with
      | none => rw [q] at h; cases h
      | some es =>
        rw [q] at h
        cases h
        exact .cons a (RLs.vals b q)
inductive Vws (K : Frag) (G H : Hp) : List V → List D → Prop
  | nil : Vws K G H [] []
  | cons {v d vs ds} : Vw K G H v d → Vws K G H vs ds → Vws K G H (v :: vs) (d :: ds)
theorem RLs.views {G H : Hp} {σ : L2.St} {e : Env} {Sg : Nat → ASet} (g : Good K mg C G H σ e Sg) : ∀ {vs : List V} {ls : List Lv} {ds : List D}, RLs K C G σ vs ls → gets ls e = some ds → Vws K G H vs ds
  | _, _, _, .nil, h => by
    cases h
    exact .nil
  | _, _, _, .cons (l := l) (ls := ls) a b, h => by
    have h : (l.get e).bind (fun d => (gets ls e).map (d :: ·)) = some _ := h
    cases q : l.get e with
    | none => rw [q] at h; cases h
    | some d =>
      cases q2 : gets ls e with
      | none => rw [q, q2] at h; cases h
      | some ds =>
        rw [q, q2] at h
        cases h
        exact .cons (a.view g q) (RLs.views g b q2)
theorem dn_lst {es : List Expr} {pos : Pos} {c : Env → R (List Lv)} (h : PA X es (tAs K mg C W c)) : PE X (.List es pos) (tN K mg C W (cLst c)) :=
  PE.to (pe_lst h) fun σ H Q ⟨G, e, Sg, g, p⟩ => ⟨G, e, Sg, g, (Post.bind p).imp fun ls e1 G1 H1 S1 _ g1 x1 p1 vs hv => by
    obtain ⟨nv, h1, h2⟩ := Post.ofO p1
    cases q : DL.vals ls with
    | none => rw [q] at h1; cases h1
    | some ds =>
      rw [q] at h1
      have h1 : (if fits ds.length = true then some (NV.nl ds) else none) = some nv := h1
      split at h1
      · rename_i hz
        cases h1
        have hd := hv.vals q
        exact ⟨by rw [dps_len _ _ hd]; exact fits_iff.mp hz, fun a ha => h2 G1 H1 S1 g1 (Ex.refl G1) a vs ha hd⟩
      · cases h1⟩
theorem dn_tup {es : List Expr} {k : Nat} {pos : Pos} {c : Env → R (List Lv)} (h : PA X es (tAs K mg C W c)) : PE X (.Tuple es k pos) (tN K mg C W (cTup c)) :=
  PE.to (pe_tup h) fun σ H Q ⟨G, e, Sg, g, p⟩ => ⟨G, e, Sg, g, (Post.bind p).imp fun ls e1 G1 H1 S1 _ g1 x1 p1 vs hv => by
    obtain ⟨nv, h1, h2⟩ := Post.ofO p1
    cases q : DL.vals ls with
    | none => rw [q] at h1; cases h1
    | some ds =>
      rw [q] at h1
      have h1 : (if fits ds.length = true then some (NV.nt ds) else none) = some nv := h1
      split at h1
      · rename_i hz
        cases h1
        have hd := hv.vals q
        exact ⟨by rw [dps_len _ _ hd]; exact fits_iff.mp hz, fun a ha => h2 G1 H1 S1 g1 (Ex.refl G1) a vs ha hd⟩
      · cases h1⟩

/-! built-in calls and methods -/
structure CalN (X : Cx) (K : Frag) (f : Value) (g : List D → Option NV) : Prop where
  run : ∃ r : List V → Hp → VK → Prop, CallR X f r ∧ ∀ (G H : Hp) (xs : List V) (ds : List D) (nv : NV) (Q : VK), Ex G H → Vws K G H xs ds → g ds = some nv → NVp K G H Q nv → r xs H Q
structure MetN (X : Cx) (K : Frag) (id T : String) (g : D → List D → Option NV) : Prop where
  run : ∃ r : V → List V → Hp → VK → Prop, MtR X id r ∧ ∀ (G H : Hp) (x : V) (xs : List V) (dx : D) (ds : List D) (nv : NV) (Q : VK), Ex G H → Vw K G H x dx → Vws K G H xs ds → g dx ds = some nv → NVp K G H Q nv → r x xs H Q
theorem dn_callB {x : Str} {p pos : Pos} {a : Expr} {es : List Expr} {id : String} {g : List D → Option NV} {c : Env → R (List Lv)} (hc : CalN X K (.builtin id) g) (hg : Gl X x) (hm : X.mg x = none) (hv : bootBuiltins x = some (.builtin id)) (ha : PA X (a :: es) (tAs K mg C W c)) (hn : x ≠ "__name__" := by decide) (hdb : (x == ("__debug__" : Str)) = false := by decide)
    (he : starEach (a :: es) X.env = (false, eval a X.env) :: starEach es X.env := by rfl) (hpl : (backTo pos (starEach es X.env)).any (·.1) = false := by rfl) : PE X (.Call (.Name x p) (a :: es) [] pos) (tN K mg C W (cB g c)) := by
  obtain ⟨r, hr, hs⟩ := hc.run
  refine PE.to (pe_callB hr hg hm hv ha hn hdb he hpl) fun σ H Q ⟨G, e, Sg, g, p⟩ => ⟨G, e, Sg, g, (Post.bind p).imp fun ls e1 G1 H1 S1 _ g1 x1 p1 vs hvs => ?_⟩
  obtain ⟨nv, h1, h2⟩ := Post.ofO p1
  cases q : gets ls e1 with
  | none => rw [q] at h1; cases h1
  | some ds =>
    rw [q] at h1
    exact hs G1 H1 vs ds nv Q g1.gh (hvs.views g1 q) h1 (h2 G1 H1 S1 g1 (Ex.refl G1))
theorem dn_callTy {x : Str} {p pos : Pos} {a : Expr} {es : List Expr} {T : String} {g : List D → Option NV} {c : Env → R (List Lv)} (hc : CalN X K (.type T) g) (hg : Gl X x) (hm : X.mg x = none) (hv : bootBuiltins x = some (.type T)) (ha : PA X (a :: es) (tAs K mg C W c)) (hn : x ≠ "__name__" := by decide) (hdb : (x == ("__debug__" : Str)) = false := by decide)
    (he : starEach (a :: es) X.env = (false, eval a X.env) :: starEach es X.env := by rfl) (hpl : (backTo pos (starEach es X.env)).any (·.1) = false := by rfl) : PE X (.Call (.Name x p) (a :: es) [] pos) (tN K mg C W (cB g c)) := by
  obtain ⟨r, hr, hs⟩ := hc.run
  refine PE.to (pe_callTy hr hg hm hv ha hn hdb he hpl) fun σ H Q ⟨G, e, Sg, g, p⟩ => ⟨G, e, Sg, g, (Post.bind p).imp fun ls e1 G1 H1 S1 _ g1 x1 p1 vs hvs => ?_⟩
  obtain ⟨nv, h1, h2⟩ := Post.ofO p1
  cases q : gets ls e1 with
  | none => rw [q] at h1; cases h1
  | some ds =>
    rw [q] at h1
    exact hs G1 H1 vs ds nv Q g1.gh (hvs.views g1 q) h1 (h2 G1 H1 S1 g1 (Ex.refl G1))
/-- which built-in type a datum is of -/
def dTy : D → String
  | .str _ => "str"
  | .int _ => "int"
  | .list _ => "list"
  | _ => ""
theorem dTy_ok {G H : Hp} {x : V} {d : D} {T : String} (xg : Ex G H) (h : Vw K G H x d) (hT : dTy d = T) (ht : T ≠ "") : tyV K T x H := by
  subst hT
  cases d with
  | str z => rw [h.str_inv]; rfl
  | int i => rw [h.int_inv]; rfl
  | list ds =>
    obtain ⟨a, vs, rfl, h1, _⟩ := h.lst_inv xg
    exact .inl ⟨rfl, vs, h1⟩
  | _ => exact absurd rfl ht
/-- o.name(..): the receiver's type is asked ahead of the arguments -/
def cMt (T : String) (g : D → List D → Option NV) (o : Env → R Lv) (a : Env → R (List Lv)) : Env → R NV := fun e => (o e).bind fun l e1 =>
  (ofO ((l.get e1).bind fun x => if dTy x = T then some () else none) e1).bind fun _ e2 => (a e2).bind fun ls e3 => ofO ((l.get e3).bind fun x => (gets ls e3).bind fun ds => g x ds) e3
section
variable {o a : Expr} {es : List Expr} {name : Str} {apos cpos : Pos} {T id : String} {g : D → List D → Option NV} {co : Env → R Lv} {c : Env → R (List Lv)}
theorem dn_met (pa : PlainAttrs T) (slot : Slot T name id) (hty : typeOf (.builtin id) = pure (.type "method_descriptor")) (hm : MetN X X.K id T g) (hT : T ≠ "") (ho : PE X o (tE X.K mg C W co)) (ha : PA X (a :: es) (tAs X.K mg C W c))
    (hbase : attributeBase o name X.env (eval o X.env) = eval o X.env := by rfl)
    (hfew : ((backTo cpos (starEach (a :: es) X.env)).all (fun x => !x.1) && (backToKw cpos (keywordEach [] X.env)).all (fun x => x.1.isSome)
      && decide ((a :: es).length + ([] : List Keyword).length + (if ([] : List Keyword).isEmpty then 0 else 1) < 30)) = true := by rfl)
    (hline : (apos.endLine == cpos.line) = true := by rfl) (hs : starEach (a :: es) X.env = (false, eval a X.env) :: starEach es X.env := by rfl) (hplain : (backTo cpos (starEach es X.env)).any (·.1) = false := by rfl) :
    PE X (.Call (.Attribute o name apos) (a :: es) [] cpos) (tN X.K mg C W (cMt T g co c)) := by
  obtain ⟨r, hr, hs'⟩ := hm.run
  refine PE.to (pe_bm pa slot hty hr ho ha hbase hfew hline hs hplain) fun σ H Q ⟨G, e, Sg, g, p⟩ => ⟨G, e, Sg, g, (Post.bind p).imp fun l e1 G1 H1 S1 _ g1 x1 p1 x hx => ?_⟩
  have p1 := Post.bind p1
  obtain ⟨_, h1, p1⟩ := Post.ofO p1
  have p1 := p1 G1 H1 S1 g1 (Ex.refl G1)
  cases q : l.get e1 with
  | none => rw [q] at h1; cases h1
  | some d =>
    rw [q] at h1
    have h1 : (if dTy d = T then some () else none) = some _ := h1
    split at h1
    · rename_i hd
      refine ⟨dTy_ok g1.gh (hx.view g1 q) hd hT, G1, e1, S1, g1, (Post.bind p1).imp fun ls e3 G3 H3 S3 _ g3 x3 p3 vs hvs => ?_⟩
      obtain ⟨nv, h5, h6⟩ := Post.ofO p3
      cases q3 : l.get e3 with
      | none => rw [q3] at h5; cases h5
      | some d3 =>
        cases q4 : gets ls e3 with
        | none => rw [q3, q4] at h5; cases h5
        | some ds =>
          rw [q3, q4] at h5
          exact hs' G3 H3 x vs d3 ds nv Q g3.gh ((hx.mono x3).view g3 q3) (hvs.views g3 q4) h5 (h6 G3 H3 S3 g3 (Ex.refl G3))
    · cases h1
theorem dn_met0 (pa : PlainAttrs T) (slot : Slot T name id) (hty : typeOf (.builtin id) = pure (.type "method_descriptor")) (hm : MetN X X.K id T g) (hT : T ≠ "") (ho : PE X o (tE X.K mg C W co))
    (hbase : attributeBase o name X.env (eval o X.env) = eval o X.env := by rfl) (hline : (apos.endLine == cpos.line) = true := by rfl) : PE X (.Call (.Attribute o name apos) [] [] cpos) (tN X.K mg C W (cMt T g co cNil)) := by
  obtain ⟨r, hr, hs'⟩ := hm.run
  refine PE.to (pe_bm0 pa slot hty hr ho hbase hline) fun σ H Q ⟨G, e, Sg, g, p⟩ => ⟨G, e, Sg, g, (Post.bind p).imp fun l e1 G1 H1 S1 _ g1 x1 p1 x hx => ?_⟩
  have p1 := Post.bind p1
  obtain ⟨_, h1, p1⟩ := Post.ofO p1
  have p1 := p1 G1 H1 S1 g1 (Ex.refl G1)
  cases q : l.get e1 with
  | none => rw [q] at h1; cases h1
  | some d =>
    rw [q] at h1
    have h1 : (if dTy d = T then some () else none) = some _ := h1
    split at h1
    · rename_i hd
      refine ⟨dTy_ok g1.gh (hx.view g1 q) hd hT, ?_⟩
      obtain ⟨nv, h5, h6⟩ := Post.ofO (Post.bind p1 G1 H1 S1 g1 (Ex.refl G1))
      rw [q] at h5
      exact hs' G1 H1 x [] d [] nv Q g1.gh (hx.view g1 q) .nil h5 (h6 G1 H1 S1 g1 (Ex.refl G1))
    · cases h1
end

/-! subscripts, slices -/
theorem atI_dp {G : Hp} {vs : List V} {ds : List D} {i : Int} {d : D} (h : DpAll K G vs ds) (hd : atI ds i = some d) : ∃ v, atI vs i = some v ∧ Dp K G v d := by
  have hl := dps_len _ _ h
  unfold atI at hd ⊢
  rw [hl]
  cases q : ixN ds.length i with
  | none => rw [q] at hd; cases hd
  | some j =>
    rw [q] at hd
    have hd : ds[j]? = some d := hd
    have hj := (List.getElem?_eq_some_iff.mp hd).1
    have hv : vs[j]? = some vs[j] := List.getElem?_eq_getElem (by omega)
    exact ⟨vs[j], hv, dps_at _ _ h j _ _ hv hd⟩
theorem dn_ix {a b : Expr} {pos : Pos} {ca cb : Env → R Lv} (ha : PE X a (tE X.K mg C W ca)) (hb : PE X b (tE X.K mg C W cb)) (hs : PlainIx b := by exact fun _ _ => rfl) : PE X (.Subscript a b pos) (tN X.K mg C W (c2 dIx ca cb)) := by
  refine PE.to (pe_ix ix_seq ha hb hs) fun σ H Q q => ?_
  obtain ⟨G, e, Sg, g, p⟩ := two q
  refine ⟨G, e, Sg, g, p.imp fun l e1 G1 H1 S1 _ g1 _ p1 x hx => ?_⟩
  obtain ⟨G', e', Sg', g', p'⟩ := p1 x hx
  refine ⟨G', e', Sg', g', p'.imp fun m e2 G2 H2 S2 _ g2 _ p2 y hy => ?_⟩
  obtain ⟨G3, dx, dy, nv, xg, hx, hy, hf, hq⟩ := p2 y hy
  unfold dIx at hf
  split at hf
  · rename_i ds i
    cases q : atI ds i with
    | none => rw [q] at hf; cases hf
    | some d =>
      rw [q] at hf
      cases hf
      obtain ⟨a, vs, rfl, h1, h2⟩ := hx.lst_inv xg
      obtain ⟨v, h3, h4⟩ := atI_dp h2 q
      rw [hy.int_inv]
      exact .inl ⟨a, vs, i, v, rfl, rfl, h1, h3, hq v h4⟩
  · rename_i ds i
    cases q : atI ds i with
    | none => rw [q] at hf; cases hf
    | some d =>
      rw [q] at hf
      cases hf
      obtain ⟨a, vs, rfl, h1, h2⟩ := hx.tup_inv xg
      obtain ⟨v, h3, h4⟩ := atI_dp h2 q
      rw [hy.int_inv]
      exact .inr (.inl ⟨a, vs, i, v, rfl, rfl, h1, h3, hq v h4⟩)
  · rename_i z i
    split at hf
    · rename_i hz
      cases q : atI z.cps.toList i with
      | none => rw [q] at hf; cases hf
      | some ch =>
        rw [q] at hf
        cases hf
        rw [hx.str_inv, hy.int_inv]
        exact .inr (.inr ⟨z, i, ch, rfl, rfl, fits_iff.mp hz, q, hq _ (.str _)⟩)
    · cases hf
  · cases hf
theorem dps_drop {G : Hp} : ∀ {vs : List V} {ds : List D} (n : Nat), DpAll K G vs ds → DpAll K G (vs.drop n) (ds.drop n)
  | _, _, 0, h => h
  | _, _, n + 1, .nil => .nil
  | _, _, n + 1, .cons _ t => dps_drop n t
theorem dps_take {G : Hp} : ∀ {vs : List V} {ds : List D} (n : Nat), DpAll K G vs ds → DpAll K G (vs.take n) (ds.take n)
  | _, _, 0, _ => .nil
  | _, _, n + 1, .nil => .nil
  | _, _, n + 1, .cons h t => .cons h (dps_take n t)
theorem do_none : PO X none tNoPart := po_none
/-- a part of a slice -/
def tP (K : Frag) (mg : MG) (C : Ct) (W : WX) (c : Env → R (Option Int)) : TO := fun σ H Q => ∃ G e Sg, Good K mg C G H σ e Sg ∧ Post K mg C W G σ (c e) fun o _ _ H' _ => Q o H'
theorem PO.to {e : Option Expr} {t t' : TO} (h : PO X e t) (i : ∀ σ H Q, t' σ H Q → t σ H Q) : PO X e t' := ⟨fun pins s σ H Q I q => h.run pins s σ H Q I (i σ H Q q)⟩
theorem dp_none : PO X none (tP K mg C W cPartN) := PO.to po_none fun σ H Q ⟨G, e, Sg, g, p⟩ => p G H Sg g (Ex.refl G)
theorem dp_some {a : Expr} {c : Env → R Lv} (h : PE X a (tE K mg C W c)) : PO X (some a) (tP K mg C W (cPart c)) :=
  PO.to (po_some h) fun σ H Q ⟨G, e, Sg, g, p⟩ => ⟨G, e, Sg, g, (Post.bind p).imp fun l e1 G1 H1 S1 _ g1 x1 p1 v hv => by
    obtain ⟨k, h1, h2⟩ := Post.ofO p1
    cases q : l.get e1 with
    | none => rw [q] at h1; cases h1
    | some d =>
      rw [q] at h1
      have h1 : (dInt d).map some = some k := h1
      cases d with
      | int i =>
        cases h1
        exact ⟨i, (hv.view g1 q).int_inv, h2 G1 H1 S1 g1 (Ex.refl G1)⟩
      | _ => cases h1⟩
theorem dn_sl {a : Expr} {lo hi : Option Expr} {p2 pos : Pos} {ca : Env → R Lv} {cl ch : Env → R (Option Int)} (ha : PE X a (tE X.K mg C W ca)) (hl : PO X lo (tP X.K mg C W cl)) (hh : PO X hi (tP X.K mg C W ch)) :
    PE X (.Subscript a (.Slice lo hi none p2) pos) (tN X.K mg C W (cSl ca cl ch)) := by
  refine PE.to (pe_slice ((sl_list.or sl_tup).or sl_str) ha hl hh) fun σ H Q ⟨G, e, Sg, g, p⟩ => ⟨G, e, Sg, g, (Post.bind p).imp fun l e1 G1 H1 S1 _ g1 x1 p1 x hx => ?_⟩
  refine ⟨G1, e1, S1, g1, (Post.bind p1).imp fun o1 e2 G2 H2 S2 _ g2 x2 p2 => ⟨G2, e2, S2, g2, (Post.bind p2).imp fun o2 e3 G3 H3 S3 _ g3 x3 p3 => ?_⟩⟩
  obtain ⟨nv, h1, h2⟩ := Post.ofO p3
  cases q : l.get e3 with
  | none => rw [q] at h1; cases h1
  | some d =>
    rw [q] at h1
    have h1 : dSl d o1 o2 = some nv := h1
    have hx := ((hx.mono x2).mono x3).view g3 q
    have h2 := h2 G3 H3 S3 g3 (Ex.refl G3)
    unfold dSl at h1
    split at h1
    · rename_i ds _ _
      cases h1
      obtain ⟨b, vs, rfl, q1, q2⟩ := hx.lst_inv g3.gh
      refine .inl (.inl ⟨b, vs, rfl, q1, fun p hp => h2 p _ hp ?_⟩)
      unfold cutV dCut
      rw [dps_len _ _ q2]
      exact dps_take _ (dps_drop _ q2)
    · rename_i ds _ _
      split at h1
      · cases h1
      · rename_i hn
        cases h1
        obtain ⟨b, vs, rfl, q1, q2⟩ := hx.tup_inv g3.gh
        refine .inl (.inr ⟨b, vs, rfl, q1, fun z => hn ?_, fun p hp => h2 p _ hp ?_⟩)
        · rw [dps_len _ _ q2] at z
          simp [z.1, z.2]
        · unfold cutV dCut
          rw [dps_len _ _ q2]
          exact dps_take _ (dps_drop _ q2)
    · split at h1
      · rename_i hz
        cases h1
        rw [hx.str_inv]
        exact .inr ⟨_, rfl, fits_iff.mp hz, h2 _ (.str _)⟩
      · cases h1
    · cases h1
end
end DL

/-! Statements, targets, loops. -/
namespace DL
open PySem PySem.Spec PyProof.Rows L2
open Evl (Ex ex_l ex_t ex_rd)

/-! ### combinators -/
def cNx : Env → R Fl := fun e => .ok .nx e
def cBk : Env → R Fl := fun e => .ok .bk e
def cCt : Env → R Fl := fun e => .ok .ct e
def cSeq (a b : Env → R Fl) : Env → R Fl := fun e => match a e with
  | .ok .nx e1 => b e1
  | .ok .bk e1 => .ok .bk e1
  | .ok .ct e1 => .ok .ct e1
  | .ok (.rt d) e1 => .ok (.rt d) e1
  | .ex x e1 => .ex x e1
  | .st => .st
def cRet (c : Env → R Lv) : Env → R Fl := fun e => (c e).bind fun l e1 => match l with
  | .val d => .ok (.rt d) e1
  | _ => .st
def cRetO (c : Env → R D) : Env → R Fl := fun e => (c e).bind fun d e1 => .ok (.rt d) e1
def cRetN : Env → R Fl := fun e => .ok (.rt .none) e
def cAsg (c : Env → R Lv) (f : D → Env → Option Env) : Env → R Fl := fun e => (c e).bind fun l e1 => match l with
  | .val d => (match f d e1 with
    | some e2 => .ok .nx e2
    | none => .st)
  | _ => .st
def cSetO (i : Nat) (c : Env → R D) : Env → R Fl := fun e => (c e).bind fun d e1 => .ok .nx (e1.set i (some d))
def cDrop (c : Env → R Lv) : Env → R Fl := fun e => (c e).bind fun _ e1 => .ok .nx e1
def cRaise (cn : Str) (c : Env → R Lv) : Env → R Fl := fun e => (c e).bind fun _ e1 => .ex ⟨cn, none⟩ e1
def fSet (i : Nat) : D → Env → Option Env := fun d e => some (e.set i (some d))
def fNil : List D → Env → Option Env := fun ds e => match ds with
  | [] => some e
  | _ => none
def fCons (f : D → Env → Option Env) (g : List D → Env → Option Env) : List D → Env → Option Env := fun ds e => match ds with
  | d :: r => (f d e).bind fun e1 => g r e1
  | [] => none
def fTup (n : Nat) (g : List D → Env → Option Env) : D → Env → Option Env := fun d e => match d with
  | .tuple ds => if ds.length = n then g ds e else none
  | .list ds => if ds.length = n then g ds e else none
  | _ => none
def forL (f : D → Env → Option Env) (b : Env → R Fl) : List D → Env → R Fl
  | [], e => .ok .nx e
  | d :: r, e => match f d e with
    | none => .st
    | some e1 => match b e1 with
      | .ok .nx e2 => forL f b r e2
      | .ok .ct e2 => forL f b r e2
      | .ok .bk e2 => .ok .nx e2
      | .ok (.rt v) e2 => .ok (.rt v) e2
      | .ex x e2 => .ex x e2
      | .st => .st
def cFor (c : Env → R (List D)) (f : D → Env → Option Env) (b : Env → R Fl) : Env → R Fl := fun e => (c e).bind fun ds e1 => forL f b ds e1
def whileL (t : Env → R Bool) (b : Env → R Fl) : Nat → Env → R Fl
  | 0, _ => .st
  | n + 1, e => (t e).bind fun k e1 => match k with
    | false => .ok .nx e1
    | true => match b e1 with
      | .ok .nx e2 => whileL t b n e2
      | .ok .ct e2 => whileL t b n e2
      | .ok .bk e2 => .ok .nx e2
      | .ok (.rt v) e2 => .ok (.rt v) e2
      | .ex x e2 => .ex x e2
      | .st => .st
/-- what is walked -/
def seqOf : D → Option (List D)
  | .list ds => some ds
  | .tuple ds => some ds
  | .str z => some (z.cps.toList.map fun c => .str ⟨#[c]⟩)
  | _ => none
def cItS (c : Env → R Lv) : Env → R (List D) := fun e => (c e).bind fun l e1 => match l with
  | .val d => ofO (seqOf d) e1
  | _ => .st
def intsFrom (lo : Int) (n : Nat) : List D := (List.range n).map fun i => .int (lo + (i : Nat))
def inR (i : Int) : Bool := decide (-(2 ^ 62) ≤ i) && decide (i < 2 ^ 62)
def cItR1 (c : Env → R (List Lv)) : Env → R (List D) := fun e => (c e).bind fun ls e1 => match gets ls e1 with
  | some [.int j] => if inR j = true then .ok (intsFrom 0 j.toNat) e1 else .st
  | _ => .st
def cItR2 (c : Env → R (List Lv)) : Env → R (List D) := fun e => (c e).bind fun ls e1 => match gets ls e1 with
  | some [.int i, .int j] => if (inR i && inR j) = true then .ok (intsFrom i (j - i).toNat) e1 else .st
  | _ => .st
def cItRev (c : Env → R Lv) : Env → R (List D) := fun e => (c e).bind fun l e1 => match l with
  | .val (.list ds) => .ok ds.reverse e1
  | _ => .st

/-! ### soundness -/
section
variable {X : Cx} {K : Frag} {mg : MG} {C : Ct} {W : WX} {rsh : Sh}

/-! statements -/
theorem PostS.mono {G G' : Hp} {r : R Fl} {Dn : Ends} (x : Ex G G') (h : PostS K mg C W rsh G r Dn) : PostS K mg C W rsh G' r Dn := by
  cases r with
  | ok a e => exact fun G2 H2 σ2 S2 g y => h G2 H2 σ2 S2 g (x.trans y)
  | ex a e => exact fun G2 H2 σ2 S2 g y => h G2 H2 σ2 S2 g (x.trans y)
  | st => exact h
theorem PostS.bind {α : Type} {G : Hp} {σ : L2.St} {r : R α} {f : α → Env → R Fl} {Dn : Ends} (h : PostS K mg C W rsh G (r.bind f) Dn) : Post K mg C W G σ r fun a e' G' H' Sg' => PostS K mg C W rsh G' (f a e') Dn := by
  cases r with
  | ok a e => exact fun G2 H2 S2 g y => PostS.mono y h
  | ex x e => exact fun G2 H2 S2 g y => h G2 H2 σ S2 g y
  | st => exact h
theorem dss_nil : PSs X [] (tS K mg C W rsh cNx) := PSs.to pss_nil fun Dn σ H ⟨G, e, Sg, g, p⟩ => p G H σ Sg g (Ex.refl G)
theorem dss_cons {st : Stmt} {rest : List Stmt} {a b : Env → R Fl} (h1 : PS X st (tS K mg C W rsh a)) (h2 : PSs X rest (tS K mg C W rsh b)) : PSs X (st :: rest) (tS K mg C W rsh (cSeq a b)) :=
  PSs.to (pss_cons h1 h2) fun Dn σ H ⟨G, e, Sg, g, p⟩ => ⟨G, e, Sg, g, by
    unfold cSeq at p
    cases q : a e with
    | ok fl e1 =>
      rw [q] at p
      cases fl with
      | nx => exact fun G' H' σ' Sg' g' x => ⟨G', e1, Sg', g', PostS.mono x p⟩
      | bk => exact p
      | ct => exact p
      | rt d => exact p
    | ex x e1 => rw [q] at p; exact p
    | st => rw [q] at p; exact p⟩
theorem dss_one {st : Stmt} {a : Env → R Fl} (h1 : PS X st (tS K mg C W rsh a)) : PSs X [st] (tS K mg C W rsh a) := pss_one h1
theorem ds_pass {pos : Pos} : PS X (.Pass pos) (tS K mg C W rsh cNx) := PS.to ps_pass fun Dn σ H ⟨G, e, Sg, g, p⟩ => p G H σ Sg g (Ex.refl G)
theorem ds_break {pos : Pos} : PS X (.Break pos) (tS K mg C W rsh cBk) := PS.to ps_break fun Dn σ H ⟨G, e, Sg, g, p⟩ => p G H σ Sg g (Ex.refl G)
theorem ds_continue {pos : Pos} : PS X (.Continue pos) (tS K mg C W rsh cCt) := PS.to ps_continue fun Dn σ H ⟨G, e, Sg, g, p⟩ => p G H σ Sg g (Ex.refl G)
theorem ds_if {c : Expr} {a b : List Stmt} {pos : Pos} {cc : Env → R Bool} {ca cb : Env → R Fl} (hc : PT X c (tT K mg C W cc)) (ha : PSs X a (tS K mg C W rsh ca)) (hb : PSs X b (tS K mg C W rsh cb)) : PS X (.If c a b pos) (tS K mg C W rsh (cIf cc ca cb)) :=
  PS.to (ps_if hc ha hb) fun Dn σ H ⟨G, e, Sg, g, p⟩ => ⟨G, e, Sg, g, (PostS.bind p).imp fun t e1 G1 H1 S1 _ g1 x1 p1 => by
    cases t with
    | true =>
      rw [if_pos rfl]
      exact ⟨G1, e1, S1, g1, p1⟩
    | false =>
      rw [if_neg Bool.false_ne_true]
      exact ⟨G1, e1, S1, g1, p1⟩⟩
theorem ds_ret {e : Expr} {pos : Pos} {c : Env → R Lv} (h : PE X e (tE K mg C W c)) : PS X (.Return (some e) pos) (tS K mg C W .fz (cRet c)) :=
  PS.to (ps_ret h) fun Dn σ H ⟨G, e, Sg, g, p⟩ => ⟨G, e, Sg, g, (PostS.bind p).imp fun l e1 G1 H1 S1 _ g1 x1 p1 v hv => by
    cases l with
    | val d => exact p1 G1 H1 σ S1 g1 (Ex.refl G1) v (fun _ => False) (.fz hv) .no
    | plc i => exact False.elim p1
    | own i => exact False.elim p1⟩
theorem ds_retO {e : Expr} {pos : Pos} {c : Env → R D} (h : PE X e (tO K mg C W rsh c)) : PS X (.Return (some e) pos) (tS K mg C W rsh (cRetO c)) :=
  PS.to (ps_ret h) fun Dn σ H ⟨G, e, Sg, g, p⟩ => ⟨G, e, Sg, g, (PostS.bind p).imp fun d e1 G1 H1 S1 _ g1 x1 p1 v S ho hl => p1 G1 H1 σ S1 g1 (Ex.refl G1) v S ho hl⟩
theorem ds_retN {pos : Pos} : PS X (.Return none pos) (tS K mg C W .fz cRetN) :=
  PS.to ps_retN fun Dn σ H ⟨G, e, Sg, g, p⟩ => p G H σ Sg g (Ex.refl G) .non (fun _ => False) (.fz .non) .no
theorem ds_expr {e : Expr} {pos : Pos} {c : Env → R Lv} (h : PE X e (tE K mg C W c)) (hs : swapsWith e none pos.line X.env = pure false := by rfl) : PS X (.Expr e pos) (tS K mg C W rsh (cDrop c)) :=
  PS.to (ps_expr h hs) fun Dn σ H ⟨G, e, Sg, g, p⟩ => ⟨G, e, Sg, g, (PostS.bind p).imp fun l e1 G1 H1 S1 _ g1 x1 p1 v hv => p1 G1 H1 σ S1 g1 (Ex.refl G1)⟩

/-! targets -/
/-- but for the slots ws the slots' values stay -/
def SameBut (ws : List Nat) (σ σ' : L2.St) : Prop := σ'.length = σ.length ∧ ∀ i, i ∉ ws → σ'[i]? = σ[i]?
theorem SameBut.refl {ws : List Nat} {σ : L2.St} : SameBut ws σ σ := ⟨rfl, fun _ _ => rfl⟩
theorem SameBut.trans {ws ws' : List Nat} {σ σ' σ2 : L2.St} (a : SameBut ws σ σ') (b : SameBut ws' σ' σ2) : SameBut (ws ++ ws') σ σ2 :=
  ⟨b.1.trans a.1, fun i h => by rw [List.mem_append, not_or] at h; exact (b.2 i h.2).trans (a.2 i h.1)⟩
def tG (K : Frag) (mg : MG) (C : Ct) (ws : List Nat) (f : D → Env → Option Env) : TG := fun v σ H Q => ∃ G e Sg d e', Good K mg C G H σ e Sg ∧ Dp K G v d ∧ f d e = some e' ∧ ∀ σ' Sg', Good K mg C G H σ' e' Sg' → SameBut ws σ σ' → Q σ' H
def tGs (K : Frag) (mg : MG) (C : Ct) (ws : List Nat) (f : List D → Env → Option Env) : TGs := fun vs σ H Q => ∃ G e Sg ds e', Good K mg C G H σ e Sg ∧ DpAll K G vs ds ∧ f ds e = some e' ∧ ∀ σ' Sg', Good K mg C G H σ' e' Sg' → SameBut ws σ σ' → Q σ' H
theorem PG.to {e : Expr} {t t' : TG} (h : PG X e t) (i : ∀ v σ H Q, t' v σ H Q → t v σ H Q) : PG X e t' := ⟨fun pins s σ H v u Q I r q => h.run pins s σ H v u Q I r (i v σ H Q q)⟩
theorem PGs.to {e : List Expr} {t t' : TGs} (h : PGs X e t) (i : ∀ v σ H Q, t' v σ H Q → t v σ H Q) : PGs X e t' := ⟨fun pins s σ H v u Q I r q => h.run pins s σ H v u Q I r (i v σ H Q q)⟩
theorem PG.or {e : Expr} {t t' : TG} (h : PG X e t) (h' : PG X e t') : PG X e (fun v σ H Q => t v σ H Q ∨ t' v σ H Q) := ⟨fun pins s σ H v u Q I r q => q.elim (h.run pins s σ H v u Q I r) (h'.run pins s σ H v u Q I r)⟩
theorem dg_name (i : Nat) {x : Str} {pos : Pos} (nd : X.N.Nodup) (ht : C.Tg[i]? = some .fz := by rfl) (hi : X.N[i]? = some x := by rfl) (hx : Loc X.env.scope x := by first | exact Or.inl rfl | exact Or.inr rfl) (hf : X.fn x = true ∨ X.env.scope.names.lookup x = some .local := by first | exact .inl rfl | exact .inr rfl) :
    PG X (.Name x pos) (tG K mg C [i] (fSet i)) :=
  PG.to (pg_name nd hi hx hf) fun v σ H Q ⟨G, e, Sg, d, e', g, hd, hf, k⟩ => by
    have hf : some (e.set i (some d)) = some e' := hf
    cases hf
    exact k _ _ (g.set ht (.inr rfl) (.fz hd) .no) ⟨by simp, fun j hj => List.getElem?_set_ne (fun z => hj (by simp [z]))⟩
theorem dgs_nil : PGs X [] (tGs K mg C [] fNil) := PGs.to pgs_nil fun vs σ H Q ⟨G, e, Sg, ds, e', g, hd, hf, k⟩ => by
  cases hd with
  | nil =>
    have hf : some e = some e' := hf
    cases hf
    exact ⟨rfl, k _ _ g .refl⟩
  | cons => cases hf
theorem dgs_cons {a : Expr} {es : List Expr} {w1 w2 : List Nat} {f : D → Env → Option Env} {fs : List D → Env → Option Env} (h1 : PG X a (tG K mg C w1 f)) (h2 : PGs X es (tGs K mg C w2 fs))
    (hs : (assignEach (a :: es) X.env).map (·.2) = assign a X.env :: (assignEach es X.env).map (·.2) := by rfl) : PGs X (a :: es) (tGs K mg C (w1 ++ w2) (fCons f fs)) :=
  PGs.to (pgs_cons h1 h2 hs) fun vs σ H Q ⟨G, e, Sg, ds, e', g, hd, hf, k⟩ => by
    cases hd with
    | nil => cases hf
    | @cons v vs d ds h1 h2 =>
      have hf : (f d e).bind (fun e1 => fs ds e1) = some e' := hf
      cases q : f d e with
      | none => rw [q] at hf; cases hf
      | some e1 =>
        rw [q] at hf
        exact ⟨v, vs, rfl, G, e, Sg, d, e1, g, h1, q, fun σ' Sg' g' s1 => ⟨G, e1, Sg', ds, e', g', h2, hf, fun σ2 Sg2 g2 s2 => k σ2 Sg2 g2 (s1.trans s2)⟩⟩
theorem dg_tup {es : List Expr} {j : Nat} {pos : Pos} {n : Nat} {ws : List Nat} {fs : List D → Env → Option Env} (hc : X.calm = true) (h : PGs X es (tGs X.K mg C ws fs)) (hn : (assignEach es X.env).length = n := by rfl) (hst : (assignEach es X.env).findIdx? (·.1) = none := by rfl) :
    PG X (.Tuple es j pos) (tG X.K mg C ws (fTup n fs)) :=
  PG.to (PG.or (pg_tup hc h hn hst) (pg_lst hc h hn hst)) fun v σ H Q ⟨G, e, Sg, d, e', g, hd, hf, k⟩ => by
    unfold fTup at hf
    cases d with
    | tuple ds =>
      dsimp only at hf
      split at hf
      · rename_i hl
        cases hd with
        | tup h1 h2 => exact Or.inl ⟨_, _, rfl, ex_t g.gh h1, by rw [dps_len _ _ h2]; exact hl, G, e, Sg, ds, e', g, h2, hf, k⟩
      · cases hf
    | list ds =>
      dsimp only at hf
      split at hf
      · rename_i hl
        cases hd with
        | lst h1 h2 => exact Or.inr ⟨_, _, rfl, ex_l g.gh h1, by rw [dps_len _ _ h2]; exact hl, G, e, Sg, ds, e', g, h2, hf, k⟩
      · cases hf
    | _ => cases hf
theorem ds_asg {tg e : Expr} {pos : Pos} {ws : List Nat} {c : Env → R Lv} {f : D → Env → Option Env} (he : PE X e (tE K mg C W c)) (hg : PG X tg (tG K mg C ws f)) (hs : swapsWithSole [tg] e pos.line X.env = pure false := by rfl) (hw : swappedStores [tg] e X.env = pure none := by rfl)
    (h1 : (assignEach [tg] X.env).map (·.2) = [assign tg X.env] := by rfl) : PS X (.Assign [tg] e pos) (tS K mg C W rsh (cAsg c f)) :=
  PS.to (ps_asg he hg hs hw h1) fun Dn σ H ⟨G, e, Sg, g, p⟩ => ⟨G, e, Sg, g, (PostS.bind p).imp fun l e1 G1 H1 S1 _ g1 x1 p1 v hv => by
    cases l with
    | val d =>
      dsimp only at p1
      cases q : f d e1 with
      | none => rw [q] at p1; exact False.elim p1
      | some e2 =>
        rw [q] at p1
        exact ⟨G1, e1, S1, d, e2, g1, hv, q, fun σ' Sg' g' _ => p1 G1 H1 σ' Sg' g' (Ex.refl G1)⟩
    | plc i => exact False.elim p1
    | own i => exact False.elim p1⟩
theorem ds_setO (i : Nat) {x : Str} {e : Expr} {p pos : Pos} {sh : Sh} {c : Env → R D} (nd : X.N.Nodup) (he : PE X e (tO K mg C W sh c)) (ht : C.Tg[i]? = some sh := by rfl) (hpn : C.np ≤ i := by exact Nat.le_of_ble_eq_true rfl) (hi : X.N[i]? = some x := by rfl) (hx : Loc X.env.scope x := by first | exact Or.inl rfl | exact Or.inr rfl) (hf : X.fn x = true ∨ X.env.scope.names.lookup x = some .local := by first | exact .inl rfl | exact .inr rfl)
    (hs : swapsWithSole [.Name x p] e pos.line X.env = pure false := by rfl) (hw : swappedStores [.Name x p] e X.env = pure none := by rfl)
    (h1 : (assignEach [.Name x p] X.env).map (·.2) = [assign (.Name x p) X.env] := by rfl) : PS X (.Assign [.Name x p] e pos) (tS K mg C W rsh (cSetO i c)) :=
  PS.to (ps_asg he (pg_name nd hi hx hf) hs hw h1) fun Dn σ H ⟨G, e, Sg, g, p⟩ => ⟨G, e, Sg, g, (PostS.bind p).imp fun d e1 G1 H1 S1 _ g1 x1 p1 v S ho hl => p1 G1 H1 _ _ (g1.set ht (.inl hpn) ho hl) (Ex.refl G1)⟩
/-- a name's own thing handed on -/
def cMove (i : Nat) : Env → R D := fun e => match e.getD i none with
  | some d => .ok d (e.set i none)
  | none => .st
theorem dO_move (i : Nat) {x : Str} {pos : Pos} {sh : Sh} (ht : C.Tg[i]? = some sh := by rfl) (hpn : C.np ≤ i := by exact Nat.le_of_ble_eq_true rfl) (hN : X.N[i]? = some x := by rfl) (hv : Vis X.env.scope x := by first | exact Or.inl rfl | exact Or.inr (Or.inl rfl) | exact Or.inr (Or.inr rfl)) (hd : (x == ("__debug__" : Str)) = false := by decide)
    (hcd : (x == ("__classdict__" : Str)) = false := by decide) : PE X (.Name x pos) (tO K mg C W sh (cMove i)) :=
  PE.to (pe_var hN hv hd hcd) fun σ H Q ⟨G, e, Sg, g, p⟩ => by
    unfold cMove at p
    split at p
    · rename_i d he
      obtain ⟨v, h1, h2⟩ := g.slot i _ d ht (Good.getD (G := G) (H := H) (σ := σ) (Sg := Sg) he)
      refine ⟨v, h1, p G H _ (g.clear i (.inl hpn)) (Ex.refl G) v (Sg i) h2 ⟨fun a ha => g.gs i a ha, fun j a h3 h4 => ?_⟩⟩
      by_cases hj : j = i
      · simp only [hj, if_true] at h4
      · simp only [hj, if_false] at h4
        exact hj (g.dis j i a h4 h3)
    · exact False.elim p

/-! what a loop walks -/
structure ItD (K : Frag) (G : Hp) (J : It) (ds : List D) : Prop where
  go : ∀ (i : Nat) H, i < ds.length → Ex G H → J.go i H
  yld : ∀ (i : Nat) x H H', i < ds.length → Ex G H → J.yld i H x H' → H' = H ∧ ∃ d, ds[i]? = some d ∧ Dp K G x d
  stop : ∀ (i : Nat) H, ds.length ≤ i → Ex G H → J.stop i H
theorem ItD.mono {G G' : Hp} {J : It} {ds : List D} (x : Ex G G') (h : ItD K G J ds) : ItD K G' J ds :=
  ⟨fun i H l y => h.go i H l (x.trans y), fun i v H H' l y q => let ⟨h1, d, h2, h3⟩ := h.yld i v H H' l (x.trans y) q; ⟨h1, d, h2, dp_ex x _ _ h3⟩, fun i H l y => h.stop i H l (x.trans y)⟩
theorem itd_list {G : Hp} {a : Addr} {vs : List V} {ds : List D} (h1 : SqL K G a vs) (h2 : DpAll K G vs ds) : ItD K G (Itl K a) ds := by
  have hl := dps_len _ _ h2
  refine ⟨fun i H l x => ⟨vs, vs[i], ex_l x h1, by simp⟩, fun i x H H' l y q => ?_, fun i H l x => ⟨vs, ex_l x h1, by omega⟩⟩
  obtain ⟨rfl, q⟩ := q
  have hx := q vs (ex_l y h1)
  exact ⟨rfl, ds[i], List.getElem?_eq_getElem l, dps_at _ _ h2 i _ _ hx (List.getElem?_eq_getElem l)⟩
theorem itd_tup {G : Hp} {a : Addr} {vs : List V} {ds : List D} (h1 : SqT K G a vs) (h2 : DpAll K G vs ds) : ItD K G (Itt K a) ds := by
  have hl := dps_len _ _ h2
  refine ⟨fun i H l x => ⟨vs, vs[i], ex_t x h1, by simp⟩, fun i x H H' l y q => ?_, fun i H l x => ⟨vs, ex_t x h1, by omega⟩⟩
  obtain ⟨rfl, q⟩ := q
  have hx := q vs (ex_t y h1)
  exact ⟨rfl, ds[i], List.getElem?_eq_getElem l, dps_at _ _ h2 i _ _ hx (List.getElem?_eq_getElem l)⟩
theorem itd_rev {G : Hp} {a : Addr} {vs : List V} {ds : List D} (h1 : SqL K G a vs) (h2 : DpAll K G vs ds) : ItD K G (Itv K a vs.length) ds.reverse := by
  have hl := dps_len _ _ h2
  refine ⟨fun i H l x => ?_, fun i x H H' l y q => ?_, fun i H l x => ?_⟩
  · have l : i < ds.length := by simpa using l
    exact ⟨by omega, vs, vs[vs.length - 1 - i], ex_l x h1, by simp⟩
  · have l : i < ds.length := by simpa using l
    obtain ⟨rfl, q⟩ := q
    have hx := q vs (ex_l y h1)
    refine ⟨rfl, ds[ds.length - 1 - i], ?_, ?_⟩
    · rw [List.getElem?_reverse l]
      simp
    · rw [hl] at hx
      exact dps_at _ _ h2 _ _ _ hx (by simp)
  · have l : ds.length ≤ i := by simpa using l
    show vs.length ≤ i
    omega
theorem itd_range {G : Hp} {lo : Int} {n : Nat} : ItD K G (Itr lo n) (intsFrom lo n) := by
  have hl : (intsFrom lo n).length = n := by simp [intsFrom]
  refine ⟨fun i H l x => by rw [hl] at l; exact l, fun i x H H' l y q => ?_, fun i H l x => by rw [hl] at l; exact l⟩
  obtain ⟨rfl, rfl⟩ := q
  rw [hl] at l
  exact ⟨rfl, .int (lo + (i : Nat)), by simp [intsFrom, l], .int _⟩
theorem itd_str {G : Hp} {z : Str} : ItD K G (Its z) (z.cps.toList.map fun c => .str ⟨#[c]⟩) := by
  refine ⟨fun i H l x => ?_, fun i x H H' l y q => ?_, fun i H l x => ?_⟩
  · show i < z.cps.size
    simpa using l
  · obtain ⟨rfl, c, hc, rfl⟩ := q
    exact ⟨rfl, .str ⟨#[c]⟩, by simp [hc], .str _⟩
  · show z.cps.size ≤ i
    simpa using l
def tI (K : Frag) (mg : MG) (C : Ct) (W : WX) (c : Env → R (List D)) : TI := fun σ H Rr => ∃ G e Sg, Good K mg C G H σ e Sg ∧ Post K mg C W G σ (c e) fun ds _ G' H' _ => ∀ J, ItD K G' J ds → Rr J H'
theorem PI.to {tg e : Expr} {t t' : TI} (h : PI X tg e t) (i : ∀ σ H Q, t' σ H Q → t σ H Q) : PI X tg e t' := ⟨fun pins s σ H Q I q => h.run pins s σ H Q I (i σ H Q q)⟩
def iSeq (K : Frag) (tl : TE) : TI := fun σ H Rr => tl σ H fun x H1 => (∃ a xs, x = .ref a ∧ SqL K H1 a xs ∧ Rr (Itl K a) H1) ∨ (∃ a xs, x = .ref a ∧ SqT K H1 a xs ∧ Rr (Itt K a) H1) ∨ ∃ z, x = .str z ∧ Rr (Its z) H1
theorem pi_seq {tg l : Expr} {tl : TE} (hl : PE X l tl) : PI X tg l (iSeq X.K tl) := by
  refine ⟨fun pins s σ H Rr I h => ?_⟩
  refine thn (hl.run pins s σ H _ I h) fun v s1 ⟨x, H1, I1, r1, q1⟩ => ?_
  rcases q1 with ⟨a, xs, rfl, hq, q⟩ | ⟨a, xs, rfl, hq, q⟩ | ⟨z, rfl, q⟩
  · cases r1
    obtain ⟨its, rv, p, hz⟩ := I1.list hq
    refine wpAny_pyIter_list p.isList ?_
    refine ⟨s1.heap.objs.size, [s1.heap.objs.size], _, _, H1, rfl, I1.kept (t' := s1.toks) fun b o e => Heap.get?_push_of_some _ e, turn_list a _, ⟨_, Heap.get?_push_size _ rfl, rfl, rfl⟩, fun b hb => ?_, q⟩
    have e : b = s1.heap.objs.size := by simpa using hb
    subst e
    exact I1.fpOk (Nat.le_refl _) (I1.hok.fresh (Nat.le_refl _))
  · cases r1
    obtain ⟨its, rv, p, hz⟩ := I1.tuple hq
    refine wpAny_pyIter_tuple (show s1.heap.IsTuple a its.toArray from p) ?_
    refine ⟨s1.heap.objs.size, [s1.heap.objs.size], _, _, H1, rfl, I1.kept (t' := s1.toks) fun b o e => Heap.get?_push_of_some _ e, turn_tuple a _, ⟨_, Heap.get?_push_size _ rfl, rfl, rfl⟩, fun b hb => ?_, q⟩
    have e : b = s1.heap.objs.size := by simpa using hb
    subst e
    exact I1.fpOk (Nat.le_refl _) (I1.hok.fresh (Nat.le_refl _))
  · obtain ⟨t, rfl⟩ := r1
    cases ha : z.cps.all (· < 128)
    · exact wpAny_pyIter_wide ha (pi_one (tk := s1.toks) I1 _ (turn_str _ z t "str_iterator" (.inr rfl)) ⟨_, Heap.get?_push_size _ rfl, rfl, rfl⟩ q)
    · exact wpAny_pyIter_ascii ha (pi_one (tk := s1.toks) I1 _ (turn_str _ z t "str_ascii_iterator" (.inl rfl)) ⟨_, Heap.get?_push_size _ rfl, rfl, rfl⟩ q)
theorem di_seq {tg l : Expr} {c : Env → R Lv} (h : PE X l (tE X.K mg C W c)) : PI X tg l (tI X.K mg C W (cItS c)) :=
  PI.to (pi_seq h) fun σ H Rr ⟨G, e, Sg, g, p⟩ => ⟨G, e, Sg, g, (Post.bind p).imp fun l e1 G1 H1 S1 _ g1 x1 p1 v hv => by
    cases l with
    | val d =>
      obtain ⟨ds, h1, h2⟩ := Post.ofO p1
      have h2 := h2 G1 H1 S1 g1 (Ex.refl G1)
      have hv : Dp X.K G1 v d := hv
      cases hv with
      | lst q1 q2 =>
        cases h1
        exact .inl ⟨_, _, rfl, ex_l g1.gh q1, h2 _ (itd_list q1 q2)⟩
      | tup q1 q2 =>
        cases h1
        exact .inr (.inl ⟨_, _, rfl, ex_t g1.gh q1, h2 _ (itd_tup q1 q2)⟩)
      | str z =>
        cases h1
        exact .inr (.inr ⟨z, rfl, h2 _ itd_str⟩)
      | _ => cases h1
    | plc i => exact False.elim p1
    | own i => exact False.elim p1⟩
theorem inR_iff {i : Int} : inR i = true ↔ (-(2 ^ 62) ≤ i ∧ i < 2 ^ 62) := by
  unfold inR
  simp [Bool.and_eq_true]
theorem di_range1 {tg a : Expr} {p pos : Pos} {c : Env → R (List Lv)} (hm : X.mg "range" = none) (h : PA X [a] (tAs K mg C W c)) (hg : Gl X "range" := by rfl) (hs : starEach [a] X.env = [(false, eval a X.env)] := by rfl) : PI X tg (.Call (.Name "range" p) [a] [] pos) (tI K mg C W (cItR1 c)) :=
  PI.to (pi_range1 hg hm h hs) fun σ H Rr ⟨G, e, Sg, g, p⟩ => ⟨G, e, Sg, g, (Post.bind p).imp fun ls e1 G1 H1 S1 _ g1 x1 p1 vs hv => by
    split at p1
    · rename_i j q
      have hv := hv.views g1 q
      split at p1
      · rename_i hz
        have p1 := p1 G1 H1 S1 g1 (Ex.refl G1)
        cases hv with
        | cons a b =>
          cases b
          have := inR_iff.mp hz
          rw [a.int_inv]
          exact ⟨j, rfl, this.1, this.2, p1 _ itd_range⟩
      · exact False.elim p1
    · exact False.elim p1⟩
theorem di_range2 {tg a b : Expr} {p pos : Pos} {c : Env → R (List Lv)} (hm : X.mg "range" = none) (h : PA X [a, b] (tAs K mg C W c)) (hg : Gl X "range" := by rfl) (hs : starEach [a, b] X.env = [(false, eval a X.env), (false, eval b X.env)] := by rfl) (hs2 : starEach [b] X.env = [(false, eval b X.env)] := by rfl) : PI X tg (.Call (.Name "range" p) [a, b] [] pos) (tI K mg C W (cItR2 c)) :=
  PI.to (pi_range2 hg hm h hs hs2) fun σ H Rr ⟨G, e, Sg, g, p⟩ => ⟨G, e, Sg, g, (Post.bind p).imp fun ls e1 G1 H1 S1 _ g1 x1 p1 vs hv => by
    split at p1
    · rename_i i j q
      have hv := hv.views g1 q
      split at p1
      · rename_i hz
        have p1 := p1 G1 H1 S1 g1 (Ex.refl G1)
        rw [Bool.and_eq_true] at hz
        cases hv with
        | cons a b =>
          cases b with
          | cons b c =>
            cases c
            have h1 := inR_iff.mp hz.1
            have h2 := inR_iff.mp hz.2
            rw [a.int_inv, b.int_inv]
            exact ⟨i, j, rfl, ⟨h1.1, h1.2, h2.1, h2.2⟩, p1 _ itd_range⟩
      · exact False.elim p1
    · exact False.elim p1⟩
def iRev1 (K : Frag) (te : TE) : TI := iRev K (tCons te tNil)
theorem di_rev {tg a : Expr} {p pos : Pos} {c : Env → R Lv} (hm : X.mg "reversed" = none) (h : PE X a (tE X.K mg C W c)) (hg : Gl X "reversed" := by rfl) (hs : starEach [a] X.env = [(false, eval a X.env)] := by rfl) : PI X tg (.Call (.Name "reversed" p) [a] [] pos) (tI X.K mg C W (cItRev c)) :=
  PI.to (pi_reversed hg hm (pa_cons h pa_nil hs) hs) fun σ H Rr ⟨G, e, Sg, g, p⟩ => ⟨G, e, Sg, g, (Post.bind p).imp fun l e1 G1 H1 S1 _ g1 x1 p1 v hv => by
    cases l with
    | val d =>
      cases d with
      | list ds =>
        have p1 := p1 G1 H1 S1 g1 (Ex.refl G1)
        have hv : Dp X.K G1 v (.list ds) := hv
        cases hv with
        | lst q1 q2 => exact ⟨_, _, rfl, ex_l g1.gh q1, p1 _ (itd_rev q1 q2)⟩
      | _ => exact False.elim p1
    | plc i => exact False.elim p1
    | own i => exact False.elim p1⟩

/-! for -/
theorem ds_for {tg iter : Expr} {body : List Stmt} {pos : Pos} {ws : List Nat} {c : Env → R (List D)} {f : D → Env → Option Env} {b : Env → R Fl} (hp : PassesOwn (model X.prog X.w) X.A X.env X.xe) (hc : X.calm = true) (hi : PI X tg iter (tI K mg C W c)) (hg : PG X tg (tG K mg C ws f)) (hb : PSs X body (tS K mg C W rsh b))
    (hs : ∀ x, foldedSetIterable iter X.env x = pure x := by intro _; rfl) : PS X (.For tg iter body [] pos) (tS K mg C W rsh (cFor c f b)) :=
  PS.to (ps_for hp hc hi hg hb hs) fun Dn σ H ⟨G, e, Sg, g, p⟩ => ⟨G, e, Sg, g, (PostS.bind p).imp fun ds e1 G1 H1 S1 _ g1 x1 p1 J hJ => by
    refine ⟨fun i m σ' H' => m = ds.length - i ∧ i ≤ ds.length ∧ ∃ G' e' Sg', Good K mg C G' H' σ' e' Sg' ∧ Ex G1 G' ∧ PostS K mg C W rsh G' (forL f b (ds.drop i) e') Dn, ⟨ds.length, by simp, Nat.zero_le _, G1, e1, S1, g1, Ex.refl G1, by simpa using p1⟩, ?_⟩
    rintro i m σ' H' ⟨rfl, hi, G', e', Sg', g', x', q⟩
    by_cases hlt : i < ds.length
    · refine .inr ⟨(hJ.mono x').go i H' hlt g'.gh, fun σ2 H2 => ∃ G2 e2 Sg2, Good K mg C G2 H2 σ2 e2 Sg2 ∧ Ex G1 G2 ∧ PostS K mg C W rsh G2 (forL f b (ds.drop (i + 1)) e2) Dn,
        fun σ2 H2 ⟨G2, e2, Sg2, g2, x2, q2⟩ => ⟨ds.length - (i + 1), by omega, rfl, hlt, G2, e2, Sg2, g2, x2, q2⟩, fun x H2 y => ?_⟩
      obtain ⟨rfl, d, hd, hv⟩ := (hJ.mono x').yld i x H' H2 hlt g'.gh y
      have hdr : ds.drop i = d :: ds.drop (i + 1) := by
        rw [List.drop_eq_getElem_cons hlt]
        rw [List.getElem?_eq_getElem hlt] at hd
        rw [Option.some.inj hd]
      rw [hdr] at q
      unfold forL at q
      cases qf : f d e' with
      | none => rw [qf] at q; exact False.elim q
      | some e2 =>
        rw [qf] at q
        dsimp only at q
        refine ⟨G', e', Sg', d, e2, g', hv, qf, fun σ2 Sg2 g2 _ => ⟨G', e2, Sg2, g2, ?_⟩⟩
        cases qb : b e2 with
        | ok fl e3 =>
          rw [qb] at q
          cases fl with
          | nx => exact fun G3 H3 σ3 S3 g3 x3 => ⟨G3, e3, S3, g3, x'.trans x3, PostS.mono x3 q⟩
          | ct => exact fun G3 H3 σ3 S3 g3 x3 => ⟨G3, e3, S3, g3, x'.trans x3, PostS.mono x3 q⟩
          | bk => exact q
          | rt v => exact q
        | ex x e3 => rw [qb] at q; exact q
        | st => rw [qb] at q; exact q
    · have e0 : i = ds.length := by omega
      subst e0
      rw [List.drop_length] at q
      exact .inl ⟨(hJ.mono x').stop _ H' (Nat.le_refl _) g'.gh, q G' H' σ' Sg' g' (Ex.refl G')⟩⟩
theorem ds_while {c : Expr} {body : List Stmt} {pos : Pos} {t : Env → R Bool} {b : Env → R Fl} (n : Nat) (hp : PassesOwn (model X.prog X.w) X.A X.env X.xe) (hc : PT X c (tT K mg C W t)) (hb : PSs X body (tS K mg C W rsh b)) : PS X (.While c body [] pos) (tS K mg C W rsh (whileL t b n)) :=
  PS.to (ps_while hp hc hb) fun Dn σ H ⟨G, e, Sg, g, p⟩ => by
    refine ⟨fun m σ' H' => ∃ G' e' Sg', Good K mg C G' H' σ' e' Sg' ∧ PostS K mg C W rsh G' (whileL t b m e') Dn, ⟨n, G, e, Sg, g, p⟩, ?_⟩
    rintro m σ' H' ⟨G', e', Sg', g', q⟩
    cases m with
    | zero => exact False.elim q
    | succ m =>
      unfold whileL at q
      refine ⟨G', e', Sg', g', (PostS.bind q).imp fun k e1 G1 H1 S1 _ g1 x1 p1 => ?_⟩
      cases k with
      | false =>
        rw [if_neg Bool.false_ne_true]
        exact p1 G1 H1 σ' S1 g1 (Ex.refl G1)
      | true =>
        rw [if_pos rfl]
        dsimp only at p1
        refine ⟨fun σ2 H2 => ∃ G2 e2 Sg2, Good K mg C G2 H2 σ2 e2 Sg2 ∧ PostS K mg C W rsh G2 (whileL t b m e2) Dn, fun σ2 H2 h => ⟨m, Nat.lt_succ_self m, h⟩, G1, e1, S1, g1, ?_⟩
        cases qb : b e1 with
        | ok fl e3 =>
          rw [qb] at p1
          cases fl with
          | nx => exact fun G3 H3 σ3 S3 g3 x3 => ⟨G3, e3, S3, g3, PostS.mono x3 p1⟩
          | ct => exact fun G3 H3 σ3 S3 g3 x3 => ⟨G3, e3, S3, g3, PostS.mono x3 p1⟩
          | bk => exact p1
          | rt v => exact p1
        | ex x e3 => rw [qb] at p1; exact p1
        | st => rw [qb] at p1; exact p1

/-! raise -/
structure ExcK (K : Frag) (mg : MG) (cn : Str) (Cc : Addr) : Prop where
  gP : mg cn = some (.ref Cc)
  xP : PySem.W.excIn K Cc [.type "ValueError", .type "Exception", .type "BaseException", .type "object"] "ValueError.__new__" = true
  kP : PySem.W.keepIn K (.ref Cc) = true
  bP : PySem.W.subIn K (.ref Cc) (.type "BaseException") = some true
  tP : PySem.W.typeIn K (.ref Cc) = some (.type "type")
theorem ds_raise {cn : Str} {Cc : Addr} {a : Expr} {p pos pos' : Pos} {c : Env → R Lv} (hc : X.calm = true) (tk : Takes X W) (T : ExcK X.K X.mg cn Cc) (ha : PE X a (tE X.K X.mg C W c)) (hg : Gl X cn := by rfl) (hdb : (cn == ("__debug__" : Str)) = false := by decide)
    (he : starEach [a] X.env = [(false, eval a X.env)] := by rfl) : PS X (.Raise (some (.Call (.Name cn p) [a] [] pos)) none pos') (tS X.K X.mg C W rsh (cRaise cn c)) :=
  PS.to (ps_raise hc tk (SkE.pmk_own1 PySem.F.excBase_ValueError T.xP T.gP T.kP (raises_own T.bP T.tP) hg ha he hdb)) fun Dn σ H ⟨G, e, Sg, g, p⟩ => ⟨G, e, Sg, g, (PostS.bind p).imp fun l e1 G1 H1 S1 _ g1 x1 p1 v hv => p1 G1 H1 σ S1 g1 (Ex.refl G1) Cc T.gP⟩
end
end DL

/-! Defs and calls. -/
namespace DL
open PySem PySem.Spec PyProof.Rows L2
open Evl (Ex ex_l ex_t ex_rd)

/-! ### what a def promises -/
structure Back (K : Frag) (mg : MG) (modes : List Sh) (vs : List V) (G H : Hp) (S0 : ASet) (outs : List D) (G' H' : Hp) (Sa : Nat → ASet) : Prop where
  own : ∀ (i : Nat) sh v d, modes[i]? = some sh → sh ≠ .fz → vs[i]? = some v → outs[i]? = some d → Own K mg G' H' sh v d (Sa i)
  len : outs.length = modes.length
  dis : ∀ i j a, Sa i a → Sa j a → i = j
  gs : ∀ i a, Sa i a → G' a = none ∧ H' a ≠ none ∧ (H a = none ∨ S0 a)
  gg : Ex G G'
  gh : Ex G' H'
  fr : ∀ a o, H a = some o → ¬ S0 a → H' a = some o
  al : ∀ a, H a ≠ none → H' a ≠ none
  gn : ∀ a, G' a ≠ none → G a ≠ none ∨ H a = none ∨ S0 a
def spF (K : Frag) (mg : MG) (modes : List Sh) (rsh : Sh) (m : List D → FR) : Sp := fun vs H Q E => ∃ (G : Hp) (ds : List D) (Sa : Nat → ASet), vs.length = modes.length ∧ ds.length = modes.length ∧
  (∀ (i : Nat) sh v d, modes[i]? = some sh → vs[i]? = some v → ds[i]? = some d → Own K mg G H sh v d (Sa i)) ∧ (∀ i j a, Sa i a → Sa j a → i = j) ∧ (∀ i a, Sa i a → G a = none ∧ H a ≠ none) ∧
  (∀ i a, Sa i a → i < modes.length) ∧ Ex G H ∧ match m ds with
    | .ok r outs => ∀ G' H' Sa' v S, Back K mg modes vs G H (fun a => ∃ i, Sa i a) outs G' H' Sa' → Own K mg G' H' rsh v r S → (∀ a, S a → G' a = none ∧ H' a ≠ none ∧ (H a = none ∨ ∃ i, Sa i a)) → (∀ i a, S a → ¬ Sa' i a) → Q v H'
    | .ex x outs => ∀ G' H' Sa', Back K mg modes vs G H (fun a => ∃ i, Sa i a) outs G' H' Sa' → XE mg E x H'
    | .st => False
def outsOf (np : Nat) (e : Env) : List D := (e.take np).map fun o => o.getD .none
def runF (rz : Bool) (b : Env → R Fl) (np n : Nat) : List D → FR := fun ds => match b (ds.map some ++ List.replicate (n - np) none) with
  | .ok (.rt d) e => .ok d (outsOf np e)
  | .ok .nx e => if rz = true then .ok .none (outsOf np e) else .st
  | .ok .bk _ => .st
  | .ok .ct _ => .st
  | .ex x e => .ex x (outsOf np e)
  | .st => .st

section
variable {K : Frag} {mg : MG}
theorem Good.back {C : Ct} {G H : Hp} {σ : L2.St} {e : Env} {Sg : Nat → ASet} (g : Good K mg C G H σ e Sg) {modes locs : List Sh} (hT : C.Tg = modes ++ locs) (hn : C.np = modes.length) (hv : C.vs0.length = modes.length) :
    Back K mg modes C.vs0 C.G0 C.H0 C.S0 (outsOf C.np e) G H (fun i a => i < C.np ∧ Sg i a) := by
  have hlen : (outsOf C.np e).length = modes.length := by
    unfold outsOf
    rw [List.length_map, List.length_take, g.le, hT, List.length_append]
    omega
  refine ⟨fun i sh v d h1 h2 h3 h4 => ?_, hlen, fun i j a h1 h2 => g.dis i j a h1.2 h2.2, fun i a h => g.gs i a h.2, g.g0, g.gh, g.fr, g.al, g.gn⟩
  have hi : i < modes.length := (List.getElem?_eq_some_iff.mp h1).1
  have hTi : C.Tg[i]? = some sh := by
    rw [hT, List.getElem?_append_left hi]
    exact h1
  obtain ⟨d', hd'⟩ := g.par i sh (by omega) hTi h2
  obtain ⟨w, h5, h6⟩ := g.slot i sh d' hTi hd'
  have h7 := g.pin i sh (by omega) hTi h2
  rw [h3, h5] at h7
  have h7 : w = v := by simpa using h7
  subst h7
  have h8 : (outsOf C.np e)[i]? = some d' := by
    unfold outsOf
    rw [List.getElem?_map, List.getElem?_take_of_lt (by omega), hd']
    rfl
  rw [h8] at h4
  cases h4
  have eq : (fun a => i < C.np ∧ Sg i a) = Sg i := by
    funext a
    simp only [eq_iff_iff, and_iff_right_iff_imp]
    intro _
    omega
  rw [eq]
  exact h6
end

section
variable {P : Program} {w : World} {K : Frag} {mg : MG} {base : Heap}
theorem start_get {N : List Str} {vs : List V} {i : Nat} (h : i < vs.length) : (L2.start N vs)[i]? = (vs[i]?).map some := by
  unfold L2.start
  rw [List.getElem?_append_left (by simpa using h), List.getElem?_map]
theorem env_get {ds : List D} {n i : Nat} {d : D} (h : (ds.map some ++ List.replicate n none)[i]? = some (some d)) : ds[i]? = some d := by
  by_cases hi : i < ds.length
  · rw [List.getElem?_append_left (by simpa using hi), List.getElem?_map] at h
    cases q : ds[i]? with
    | none => rw [q] at h; cases h
    | some z => rw [q] at h; cases h; rfl
  · rw [List.getElem?_append_right (by simpa using hi), List.getElem?_replicate] at h
    split at h <;> cases h
/-- THE RULE for a def -/
theorem fnD {x qual : Str} {params : Arguments} {body : List Stmt} {scope : Scope} {dvs : List V} {kws : List (Str × V)} {f : Addr} {fd : FuncData} {N ps : List Str} {k : Nat} {modes locs : List Sh} {rsh : Sh} {rz : Bool} {b : Env → R Fl}
    (F : FunD K x qual params body scope dvs kws f fd) (S : FnScope N ps scope) (hps : ps.length = modes.length) (hN : N.length = (modes ++ locs).length) (hz : rz = true → rsh = .fz)
    (hb : ∀ (cdv : Value) (A : Around) (outer : List PySem.Env) (s : Shared) (G0 H0 : Hp) (vs : List V) (S0 : ASet) (E : XK), Room k (A.deeper (envOfC qual scope s.heap.objs.size f cdv)) →
      PSs (cxOf (L2.CX P w) P w K mg base N qual scope f cdv A outer s H0 E) body (tS K mg ⟨modes ++ locs, modes.length, vs, G0, H0, S0⟩ (fun c d _ H => E c d H) rsh b)) :
    FnOk P w K mg base (L2.CX P w) (k + 1) f fd ps (spF K mg modes rsh (runF rz b modes.length N.length)) := by
  refine F.ok S (fun vs H Q E ⟨_, _, _, h, _⟩ => by rw [h, hps]) fun cdv A outer s H vs Q E hr h => ?_
  obtain ⟨G, ds, Sa, hv, hd, ho, hdis, hgs, hlt, xg, hm⟩ := h
  refine ⟨_, hb cdv A outer s G H vs (fun a => ∃ i, Sa i a) E hr, ?_⟩
  have hNl : N.length = modes.length + locs.length := by rw [hN, List.length_append]
  have g0 : Good K mg ⟨modes ++ locs, modes.length, vs, G, H, fun a => ∃ i, Sa i a⟩ G H (L2.start N vs) (ds.map some ++ List.replicate (N.length - modes.length) none) Sa := by
    refine ⟨?_, ?_, fun i sh d h1 h2 => ?_, hdis, fun i a h => ⟨(hgs i a h).1, (hgs i a h).2, .inr ⟨i, h⟩⟩, xg, Ex.refl _, fun a o h _ => h, fun a h => h, fun a h => .inl h, fun i sh h1 h2 h3 => ?_, fun i sh h1 h2 h3 => ?_⟩
    · unfold L2.start
      simp only [List.length_append, List.length_map, List.length_replicate]
      omega
    · simp only [List.length_append, List.length_map, List.length_replicate]
      omega
    · have hd' := env_get h2
      have hi : i < ds.length := (List.getElem?_eq_some_iff.mp hd').1
      have h1 : modes[i]? = some sh := by
        rw [List.getElem?_append_left (by omega)] at h1
        exact h1
      have hvi : vs[i]? = some vs[i] := List.getElem?_eq_getElem (by omega)
      exact ⟨vs[i], by rw [start_get (by omega), hvi]; rfl, ho i sh _ d h1 hvi hd'⟩
    · exact start_get (by rw [hv]; exact h1)
    · have hi : i < ds.length := by rw [hd]; exact h1
      refine ⟨ds[i], ?_⟩
      rw [List.getElem?_append_left (by simpa using hi), List.getElem?_map, List.getElem?_eq_getElem hi]
      rfl
  refine ⟨G, _, Sa, g0, ?_⟩
  unfold runF at hm
  have bk : ∀ {G' H' : Hp} {σ' : L2.St} {e : Env} {Sg' : Nat → ASet}, Good K mg ⟨modes ++ locs, modes.length, vs, G, H, fun a => ∃ i, Sa i a⟩ G' H' σ' e Sg' → Back K mg modes vs G H (fun a => ∃ i, Sa i a) (outsOf modes.length e) G' H' (fun i a => i < modes.length ∧ Sg' i a) :=
    fun g => g.back rfl rfl hv
  cases q : b (ds.map some ++ List.replicate (N.length - modes.length) none) with
  | ok fl e =>
    rw [q] at hm
    cases fl with
    | nx =>
      intro G' H' σ' Sg' g' _
      cases rz with
      | true =>
        have := hz rfl
        subst this
        exact hm G' H' _ .non (fun _ => False) (bk g') (.fz .non) (fun _ z => z.elim) (fun _ _ z => z.elim)
      | false => exact False.elim hm
    | bk => exact False.elim hm
    | ct => exact False.elim hm
    | rt d =>
      intro G' H' σ' Sg' g' _ v S hvo hl
      exact hm G' H' _ v S (bk g') hvo (fun a ha => let ⟨h1, h2, h3⟩ := hl.own a ha; ⟨h1, h2, h3⟩) (fun i a ha hb => hl.apart i a ha hb.2)
  | ex x e =>
    rw [q] at hm
    exact fun G' H' σ' Sg' g' _ => hm G' H' _ (bk g')
  | st =>
    rw [q] at hm
    exact False.elim hm
end

/-! ### calls -/
/-! data without lists or dicts within -/
mutual
def noL : D → Bool
  | .list _ => false
  | .dict _ => false
  | .tuple ds => noLs ds
  | _ => true
def noLs : List D → Bool
  | [] => true
  | d :: r => noL d && noLs r
end
def indep : Sh → D → Bool
  | .fz, d => noL d
  | .lst .fz, .list ds => noLs ds
  | _, _ => false
/-- a heap without what is borrowed -/
noncomputable def cut (G : Hp) (B : ASet) : Hp := fun a => @ite _ (B a) (Classical.propDecidable _) none (G a)
theorem cut_no {G : Hp} {B : ASet} {a : Addr} (h : ¬ B a) : cut G B a = G a := by
  unfold cut
  rw [if_neg h]
theorem cut_yes {G : Hp} {B : ASet} {a : Addr} (h : B a) : cut G B a = none := by
  unfold cut
  rw [if_pos h]
section
variable {K : Frag} {mg : MG}
theorem sqT_cut {G : Hp} {B : ASet} {a : Addr} {vs : List V} (hB : ∀ a, B a → ∃ vs, G a = some (.lst vs)) (h : SqT K G a vs) : SqT K (cut G B) a vs := by
  rcases h with (h | ⟨o, h⟩) | h
  · refine .inl (.inl ?_)
    rw [cut_no fun z => ?_]
    · exact h
    · obtain ⟨ws, e⟩ := hB a z
      rw [h] at e
      cases e
  · refine .inl (.inr ⟨o, ?_⟩)
    rw [cut_no fun z => ?_]
    · exact h
    · obtain ⟨ws, e⟩ := hB a z
      rw [h] at e
      cases e
  · exact .inr h
mutual
theorem dp_cut {G : Hp} {B : ASet} (hB : ∀ a, B a → ∃ vs, G a = some (.lst vs)) : ∀ (d : D) (v : V), noL d = true → Dp K G v d → Dp K (cut G B) v d
  | .none, _, _, h => by cases h; exact .non
  | .bool b, _, _, h => by cases h; exact .bl b
  | .int i, _, _, h => by cases h; exact .int i
  | .str x, _, _, h => by cases h; exact .str x
  | .list ds, _, n, _ => by cases n
  | .dict ds, _, n, _ => by cases n
  | .tuple ds, _, n, h => by
    cases h with
    | tup h1 h2 => exact .tup (sqT_cut hB h1) (dps_cut hB ds _ (by rw [noL] at n; exact n) h2)
theorem dps_cut {G : Hp} {B : ASet} (hB : ∀ a, B a → ∃ vs, G a = some (.lst vs)) : ∀ (ds : List D) (vs : List V), noLs ds = true → DpAll K G vs ds → DpAll K (cut G B) vs ds
  | [], _, _, h => by cases h; exact .nil
  | d :: ds, _, n, h => by
    rw [noLs, Bool.and_eq_true] at n
    cases h with
    | cons h1 h2 => exact .cons (dp_cut hB d _ n.1 h1) (dps_cut hB ds _ n.2 h2)
end
end
def Lv.getA (l : Lv) (e : Env) : Option D := match l with
  | .val d => some d
  | .plc i => e.getD i none
  | .own i => e.getD i none
def getsA : List Lv → Env → Option (List D)
  | [], _ => some []
  | l :: r, e => (l.getA e).bind fun d => (getsA r e).map (d :: ·)
/-- the slot that an argument hands over -/
def Lv.slot : Lv → Option Nat
  | .val _ => none
  | .plc i => some i
  | .own i => some i
def isFz : Sh → Bool
  | .fz => true
  | _ => false
/-- the slots handed over (ks: which argument is which slot's thing), against the parameters' shapes -/
inductive OkS (Tg : List Sh) : List Sh → List (Option Nat) → Nat → Prop
  | nil : OkS Tg [] [] 0
  | dfl {ms n} : OkS Tg ms [] n → OkS Tg (.fz :: ms) [] (n + 1)
  | val {ms ks n} : OkS Tg ms ks n → OkS Tg (.fz :: ms) (none :: ks) n
  | brw {ms ks n i} : Tg[i]? = some (.lst .fz) → some i ∉ ks → OkS Tg ms ks n → OkS Tg (.fz :: ms) (some i :: ks) n
  | own {m ms ks n i} : Tg[i]? = some m → m ≠ .fz → some i ∉ ks → OkS Tg ms ks n → OkS Tg (m :: ms) (some i :: ks) n
def borrows : List Sh → List (Option Nat) → Bool
  | m :: ms, k :: ks => (isFz m && k.isSome) || borrows ms ks
  | _, _ => false
def putB : List Sh → List (Option Nat) → List D → Env → Env
  | m :: ms, k :: ks, d :: ds, e => putB ms ks ds (match isFz m, k with
    | false, some i => e.set i (some d)
    | _, _ => e)
  | _, _, _, e => e
def indeps : List Sh → List D → Bool
  | m :: ms, d :: ds => (isFz m || indep m d) && indeps ms ds
  | _, _ => true
/-- f(..): the parameters' shapes, the slots handed over, the def's mirror, its defaults, the arguments -/
def cCall (modes : List Sh) (ks : List (Option Nat)) (rsh : Sh) (m : List D → FR) (dd : List D) (ca : Env → R (List Lv)) : Env → R D := fun e => (ca e).bind fun ls e1 =>
  if ls.map Lv.slot = ks then
    match getsA ls e1 with
    | none => .st
    | some ds => match m (ds ++ dd) with
      | .ok r outs => if (!borrows modes ks || (indep rsh r && indeps modes outs)) = true then .ok r (putB modes ks outs e1) else .st
      | .ex x outs => if (!borrows modes ks || indeps modes outs) = true then .ex x (putB modes ks outs e1) else .st
      | .st => .st
  else .st
theorem indeps_at : ∀ {ms : List Sh} {ds : List D}, indeps ms ds = true → ∀ (k : Nat) m d, ms[k]? = some m → ds[k]? = some d → m ≠ .fz → indep m d = true
  | [], _, _, k, m, d, h1, _, _ => by simp at h1
  | _ :: _, [], _, k, m, d, _, h2, _ => by simp at h2
  | m0 :: ms, d0 :: ds, h, k, m, d, h1, h2, h3 => by
    unfold indeps at h
    rw [Bool.and_eq_true, Bool.or_eq_true] at h
    cases k with
    | zero =>
      simp at h1 h2
      subst h1 h2
      rcases h.1 with z | z
      · cases m0 <;> simp [isFz] at z h3
      · exact z
    | succ k => exact indeps_at h.2 k m d (by simpa using h1) (by simpa using h2) h3
theorem isFz_iff {m : Sh} : isFz m = true ↔ m = .fz := by cases m <;> simp [isFz]
theorem isFz_not {m : Sh} : isFz m = false ↔ m ≠ .fz := by cases m <;> simp [isFz]

section
variable {Tg : List Sh}
theorem OkS.len : ∀ {ms : List Sh} {ks : List (Option Nat)} {n : Nat}, OkS Tg ms ks n → ks.length + n = ms.length
  | _, _, _, .nil => rfl
  | _, _, _, .dfl h => by have := h.len; simp only [List.length_nil, List.length_cons] at this ⊢; omega
  | _, _, _, .val h => by have := h.len; simp only [List.length_cons] at this ⊢; omega
  | _, _, _, .brw _ _ h => by have := h.len; simp only [List.length_cons] at this ⊢; omega
  | _, _, _, .own _ _ _ h => by have := h.len; simp only [List.length_cons] at this ⊢; omega
theorem OkS.arg : ∀ {ms : List Sh} {ks : List (Option Nat)} {n : Nat}, OkS Tg ms ks n → ∀ (k : Nat) m o, ms[k]? = some m → ks[k]? = some o →
    (o = none ∧ m = .fz) ∨ (∃ i, o = some i ∧ m = .fz ∧ Tg[i]? = some (.lst .fz)) ∨ ∃ i, o = some i ∧ m ≠ .fz ∧ Tg[i]? = some m
  | _, _, _, .nil, k, m, o, h1, _ => by simp at h1
  | _, _, _, .dfl _, k, m, o, _, h2 => by simp at h2
  | _, _, _, .val h, k, m, o, h1, h2 => by
    cases k with
    | zero => simp at h1 h2; exact .inl ⟨h2.symm, h1.symm⟩
    | succ k => exact h.arg k m o (by simpa using h1) (by simpa using h2)
  | _, _, _, .brw (i := i) ht _ h, k, m, o, h1, h2 => by
    cases k with
    | zero => simp at h1 h2; exact .inr (.inl ⟨i, h2.symm, h1.symm, ht⟩)
    | succ k => exact h.arg k m o (by simpa using h1) (by simpa using h2)
  | _, _, _, .own (i := i) ht hn _ h, k, m, o, h1, h2 => by
    cases k with
    | zero => simp at h1 h2; subst h1; exact .inr (.inr ⟨i, h2.symm, hn, ht⟩)
    | succ k => exact h.arg k m o (by simpa using h1) (by simpa using h2)
theorem OkS.dflt : ∀ {ms : List Sh} {ks : List (Option Nat)} {n : Nat}, OkS Tg ms ks n → ∀ (k : Nat) m, ks.length ≤ k → ms[k]? = some m → m = .fz
  | _, _, _, .nil, k, m, _, h1 => by simp at h1
  | _, _, _, .dfl h, k, m, h0, h1 => by
    cases k with
    | zero => simp at h1; exact h1.symm
    | succ k => exact h.dflt k m (Nat.zero_le _) (by simpa using h1)
  | _, _, _, .val h, k, m, h0, h1 => by
    cases k with
    | zero => simp at h0
    | succ k => exact h.dflt k m (by simpa using h0) (by simpa using h1)
  | _, _, _, .brw _ _ h, k, m, h0, h1 => by
    cases k with
    | zero => simp at h0
    | succ k => exact h.dflt k m (by simpa using h0) (by simpa using h1)
  | _, _, _, .own _ _ _ h, k, m, h0, h1 => by
    cases k with
    | zero => simp at h0
    | succ k => exact h.dflt k m (by simpa using h0) (by simpa using h1)
theorem OkS.dis : ∀ {ms : List Sh} {ks : List (Option Nat)} {n : Nat}, OkS Tg ms ks n → ∀ (j k : Nat) i, ks[j]? = some (some i) → ks[k]? = some (some i) → j = k
  | _, _, _, .nil, j, k, i, h1, _ => by simp at h1
  | _, _, _, .dfl _, j, k, i, h1, _ => by simp at h1
  | _, _, _, .val h, j, k, i, h1, h2 => by
    cases j with
    | zero => simp at h1
    | succ j =>
      cases k with
      | zero => simp at h2
      | succ k => rw [h.dis j k i (by simpa using h1) (by simpa using h2)]
  | _, _, _, .brw _ hn h, j, k, i, h1, h2 => by
    cases j with
    | zero =>
      cases k with
      | zero => rfl
      | succ k =>
        simp at h1 h2
        subst h1
        exact absurd (List.mem_of_getElem? h2) hn
    | succ j =>
      cases k with
      | zero =>
        simp at h1 h2
        subst h2
        exact absurd (List.mem_of_getElem? h1) hn
      | succ k => rw [h.dis j k i (by simpa using h1) (by simpa using h2)]
  | _, _, _, .own _ _ hn h, j, k, i, h1, h2 => by
    cases j with
    | zero =>
      cases k with
      | zero => rfl
      | succ k =>
        simp at h1 h2
        subst h1
        exact absurd (List.mem_of_getElem? h2) hn
    | succ j =>
      cases k with
      | zero =>
        simp at h1 h2
        subst h2
        exact absurd (List.mem_of_getElem? h1) hn
      | succ k => rw [h.dis j k i (by simpa using h1) (by simpa using h2)]
end
theorem borrows_no : ∀ {ms : List Sh} {ks : List (Option Nat)}, borrows ms ks = false → ∀ (k : Nat) i, ms[k]? = some .fz → ks[k]? = some (some i) → False
  | [], _, _, k, i, h1, _ => by simp at h1
  | _ :: _, [], _, k, i, _, h2 => by simp at h2
  | m :: ms, o :: ks, h, k, i, h1, h2 => by
    unfold borrows at h
    rw [Bool.or_eq_false_iff] at h
    cases k with
    | zero =>
      simp at h1 h2
      subst h1 h2
      simp [isFz] at h
    | succ k => exact borrows_no h.2 k i (by simpa using h1) (by simpa using h2)
theorem putB_len : ∀ {ms : List Sh} {ks : List (Option Nat)} {ds : List D} {e : Env}, (putB ms ks ds e).length = e.length
  | [], _, _, _ => by simp [putB]
  | _ :: _, [], _, _ => by simp [putB]
  | _ :: _, _ :: _, [], _ => by simp [putB]
  | m :: ms, o :: ks, d :: ds, e => by
    unfold putB
    rw [putB_len]
    split <;> simp
/-- a slot that is no own argument stays -/
theorem putB_out : ∀ {ms : List Sh} {ks : List (Option Nat)} {ds : List D} {e : Env} {i : Nat}, (∀ (k : Nat) m, ms[k]? = some m → ks[k]? = some (some i) → m = .fz) → (putB ms ks ds e)[i]? = e[i]?
  | [], _, _, _, _, _ => by simp [putB]
  | _ :: _, [], _, _, _, _ => by simp [putB]
  | _ :: _, _ :: _, [], _, _, _ => by simp [putB]
  | m :: ms, o :: ks, d :: ds, e, i, h => by
    unfold putB
    rw [putB_out fun k m' h1 h2 => h (k + 1) m' (by simpa using h1) (by simpa using h2)]
    split
    · rename_i j hm
      have hj : j ≠ i := by
        rintro rfl
        exact isFz_not.mp hm (h 0 m rfl rfl)
      rw [List.getElem?_set_ne hj]
    · rfl
theorem putB_in {Tg : List Sh} : ∀ {ms : List Sh} {ks : List (Option Nat)} {n : Nat} {ds : List D} {e : Env} {i k : Nat} {m : Sh} {d : D}, OkS Tg ms ks n → ms[k]? = some m → m ≠ .fz → ks[k]? = some (some i) → ds[k]? = some d → i < e.length → (putB ms ks ds e)[i]? = some (some d)
  | [], _, _, _, _, _, k, _, _, _, h1, _, _, _, _ => by simp at h1
  | _ :: _, [], _, _, _, _, k, _, _, _, _, _, h2, _, _ => by simp at h2
  | _ :: _, _ :: _, _, [], _, _, k, _, _, _, _, _, _, h3, _ => by simp at h3
  | m0 :: ms, o :: ks, n, d0 :: ds, e, i, k, m, d, ok, h1, hm, h2, h3, hi => by
    unfold putB
    cases k with
    | zero =>
      simp at h1 h2 h3
      subst h1 h2 h3
      have hz : isFz m0 = false := isFz_not.mpr hm
      rw [hz]
      dsimp only
      have hn : ∀ (k : Nat), ks[k]? ≠ some (some i) := fun k hk => by
        have := ok.dis 0 (k + 1) i rfl (by simpa using hk)
        omega
      rw [putB_out fun k m' _ h => absurd h (hn k), List.getElem?_set_self hi]
    | succ k =>
      have ok' : OkS Tg ms ks n := by
        cases ok with
        | val h => exact h
        | brw _ _ h => exact h
        | own _ _ _ h => exact h
      refine putB_in ok' (by simpa using h1) hm (by simpa using h2) (by simpa using h3) ?_
      split <;> simpa using hi
end DL

/-! Calls are sound. -/
namespace DL
open PySem PySem.Spec PyProof.Rows L2
open Evl (Ex ex_l ex_t ex_rd)

section
variable {X : Cx} {C : Ct} {W : WX}
theorem RLs.len {K : Frag} {G : Hp} {σ : L2.St} : ∀ {vs : List V} {ls : List Lv}, RLs K C G σ vs ls → vs.length = ls.length
  | _, _, .nil => rfl
  | _, _, .cons _ b => by simp [b.len]
theorem RLs.at {K : Frag} {G : Hp} {σ : L2.St} : ∀ {vs : List V} {ls : List Lv}, RLs K C G σ vs ls → ∀ (k : Nat) v l, vs[k]? = some v → ls[k]? = some l → RL K C G σ v l
  | _, _, .nil, k, v, l, h1, _ => by simp at h1
  | _, _, .cons a b, k, v, l, h1, h2 => by
    cases k with
    | zero => simp at h1 h2; subst h1 h2; exact a
    | succ k => exact b.at k v l (by simpa using h1) (by simpa using h2)
theorem getsA_len : ∀ {ls : List Lv} {e : Env} {ds : List D}, getsA ls e = some ds → ds.length = ls.length
  | [], _, _, h => by cases h; rfl
  | l :: ls, e, ds, h => by
    have h : (l.getA e).bind (fun d => (getsA ls e).map (d :: ·)) = some ds := h
    cases q : l.getA e with
    | none => rw [q] at h; cases h
    | some d =>
      cases q2 : getsA ls e with
      | none => rw [q, q2] at h; cases h
      | some es =>
        rw [q, q2] at h
        cases h
        simp [getsA_len q2]
theorem getsA_at : ∀ {ls : List Lv} {e : Env} {ds : List D}, getsA ls e = some ds → ∀ (k : Nat) l d, ls[k]? = some l → ds[k]? = some d → l.getA e = some d
  | [], _, _, h, k, l, d, h1, _ => by simp at h1
  | l0 :: ls, e, ds, h, k, l, d, h1, h2 => by
    have h : (l0.getA e).bind (fun d => (getsA ls e).map (d :: ·)) = some ds := h
    cases q : l0.getA e with
    | none => rw [q] at h; cases h
    | some d0 =>
      cases q2 : getsA ls e with
      | none => rw [q, q2] at h; cases h
      | some es =>
        rw [q, q2] at h
        cases h
        cases k with
        | zero => simp at h1 h2; subst h1 h2; exact q
        | succ k => exact getsA_at q2 k l d (by simpa using h1) (by simpa using h2)

/-- what stands around a call -/
structure CallAt (K : Frag) (mg : MG) (C : Ct) (G H : Hp) (σ : L2.St) (e : Env) (Sg : Nat → ASet) (modes : List Sh) (ks : List (Option Nat)) (n : Nat) : Prop where
  g : Good K mg C G H σ e Sg
  ok : OkS C.Tg modes ks n
section
variable {K : Frag} {mg : MG} {G H : Hp} {σ : L2.St} {e : Env} {Sg : Nat → ASet} {modes : List Sh} {ks : List (Option Nat)} {n : Nat}
/-- slot i is an own argument; a borrowed one -/
def OwnA (modes : List Sh) (ks : List (Option Nat)) (i : Nat) : Prop := ∃ (k : Nat) (m : Sh), ks[k]? = some (some i) ∧ modes[k]? = some m ∧ m ≠ .fz
def BrwA (modes : List Sh) (ks : List (Option Nat)) (i : Nat) : Prop := ∃ (k : Nat), ks[k]? = some (some i) ∧ modes[k]? = some .fz
theorem CallAt.apart (c : CallAt K mg C G H σ e Sg modes ks n) {i : Nat} (h1 : OwnA modes ks i) (h2 : BrwA modes ks i) : False := by
  obtain ⟨k, m, a1, a2, a3⟩ := h1
  obtain ⟨j, b1, b2⟩ := h2
  have := c.ok.dis k j i a1 b1
  subst this
  rw [a2] at b2
  cases b2
  exact a3 rfl
abbrev Bset (modes : List Sh) (ks : List (Option Nat)) (Sg : Nat → ASet) (H : Hp) : ASet := fun a => ∃ i, BrwA modes ks i ∧ Sg i a ∧ ∃ vs, H a = some (.lst vs)
noncomputable def gIn (G H : Hp) (B : ASet) : Hp := fun a => @ite _ (B a) (Classical.propDecidable _) (H a) (G a)
theorem gIn_yes {B : ASet} {a : Addr} (h : B a) : gIn G H B a = H a := by
  unfold gIn
  rw [if_pos h]
theorem gIn_no {B : ASet} {a : Addr} (h : ¬ B a) : gIn G H B a = G a := by
  unfold gIn
  rw [if_neg h]
theorem CallAt.exIn (c : CallAt K mg C G H σ e Sg modes ks n) : Ex G (gIn G H (Bset modes ks Sg H)) := fun a o h => by
  have nb : ¬ Bset modes ks Sg H a := fun ⟨i, _, z, _⟩ => by
    have := (c.g.gs i a z).1
    rw [h] at this
    cases this
  rw [gIn_no nb]
  exact h
theorem CallAt.inH (c : CallAt K mg C G H σ e Sg modes ks n) : Ex (gIn G H (Bset modes ks Sg H)) H := fun a o h => by
  by_cases hb : Bset modes ks Sg H a
  · rw [gIn_yes hb] at h
    exact h
  · rw [gIn_no hb] at h
    exact c.g.gh a o h
abbrev Sa (modes : List Sh) (ks : List (Option Nat)) (Sg : Nat → ASet) : Nat → ASet := fun k a => ∃ i m, ks[k]? = some (some i) ∧ modes[k]? = some m ∧ m ≠ .fz ∧ Sg i a
theorem CallAt.sa_own (c : CallAt K mg C G H σ e Sg modes ks n) {k : Nat} {a : Addr} (h : Sa modes ks Sg k a) : ∃ i, OwnA modes ks i ∧ Sg i a := by
  obtain ⟨i, m, h1, h2, h3, h4⟩ := h
  exact ⟨i, ⟨k, m, h1, h2, h3⟩, h4⟩
theorem CallAt.notB (c : CallAt K mg C G H σ e Sg modes ks n) {i : Nat} {a : Addr} (h : Sg i a) (hi : ¬ BrwA modes ks i) : ¬ Bset modes ks Sg H a := fun ⟨j, hj, z, _⟩ => by
  have := c.g.dis i j a h z
  subst this
  exact hi hj
/-- the callee's arguments -/
theorem CallAt.args (c : CallAt K mg C G H σ e Sg modes ks n) {vs : List V} {ls : List Lv} {ds : List D} {dvs : List V} {dd : List D} (hr : RLs K C G σ vs ls) (hls : ls.map Lv.slot = ks) (hd : getsA ls e = some ds) (hv : DpAll K (gIn G H (Bset modes ks Sg H)) dvs dd) :
    ∀ (k : Nat) sh v d, modes[k]? = some sh → (vs ++ dvs)[k]? = some v → (ds ++ dd)[k]? = some d → Own K mg (gIn G H (Bset modes ks Sg H)) H sh v d (Sa modes ks Sg k) := by
  intro k sh v d h1 h2 h3
  have l1 := hr.len
  have l2 := getsA_len hd
  have l3 : ks.length = ls.length := by rw [← hls]; simp
  by_cases hk : k < ls.length
  · rw [List.getElem?_append_left (by omega)] at h2 h3
    have hl : ls[k]? = some ls[k] := List.getElem?_eq_getElem hk
    have hrl := hr.at k v _ h2 hl
    have hga := getsA_at hd k _ d hl h3
    have hks : ks[k]? = some (ls[k]).slot := by
      rw [← hls, List.getElem?_map, hl]
      rfl
    have eqS : ∀ {i : Nat}, ks[k]? = some (some i) → sh ≠ .fz → Sa modes ks Sg k = Sg i := fun {i} q1 q2 => by
      funext a
      refine propext ⟨fun ⟨j, m, a1, a2, a3, a4⟩ => ?_, fun z => ⟨i, sh, q1, h1, q2, z⟩⟩
      rw [q1] at a1
      cases a1
      exact a4
    -- a slot's thing
    have slotCase : ∀ i, (ls[k]).slot = some i → σ[i]? = some (some v) → e.getD i none = some d → Own K mg (gIn G H (Bset modes ks Sg H)) H sh v d (Sa modes ks Sg k) := fun i q1 q2 q3 => by
      have q4 : e[i]? = some (some d) := Good.getD (G := G) (H := H) (σ := σ) (Sg := Sg) q3
      rw [q1] at hks
      rcases c.ok.arg k sh _ h1 hks with ⟨z, _⟩ | ⟨j, z, rfl, ht⟩ | ⟨j, z, hn, ht⟩
      · cases z
      · cases z
        obtain ⟨w, q5, q6⟩ := c.g.slot i _ d ht q4
        rw [q2] at q5
        cases q5
        obtain ⟨p, ws, es, rfl, rfl, hp, sp, ha⟩ := own_lst_inv q6
        refine .fz (.lst (.inl (.inl ?_)) (dps_ex c.exIn _ _ ha))
        rw [gIn_yes ⟨i, ⟨k, hks, h1⟩, sp, _, hp⟩]
        exact hp
      · cases z
        obtain ⟨w, q5, q6⟩ := c.g.slot i _ d ht q4
        rw [q2] at q5
        cases q5
        rw [eqS hks hn]
        exact q6.mono c.exIn fun _ _ => rfl
    cases q : ls[k] with
    | val d' =>
      rw [q] at hrl hga hks
      cases hga
      rcases c.ok.arg k sh _ h1 hks with ⟨_, rfl⟩ | ⟨j, z, _⟩ | ⟨j, z, _⟩
      · exact .fz (dp_ex c.exIn _ _ hrl)
      · cases z
      · cases z
    | plc i =>
      rw [q] at hrl hga
      exact slotCase i (by rw [q]; rfl) hrl.1 hga
    | own i =>
      rw [q] at hrl hga
      exact slotCase i (by rw [q]; rfl) hrl.1 hga
  · rw [List.getElem?_append_right (by omega)] at h2 h3
    have := c.ok.dflt k sh (by omega) h1
    subst this
    rw [l1] at h2
    rw [l2] at h3
    exact .fz (dps_at _ _ hv _ _ _ h2 h3)
theorem own_cut {G H : Hp} {B : ASet} {sh : Sh} {v : V} {d : D} {S : ASet} (hB : ∀ a, B a → ∃ vs, G a = some (.lst vs)) (h : Own K mg G H sh v d S) (hi : (∀ a, ¬ B a) ∨ indep sh d = true) : Own K mg (cut G B) H sh v d S := by
  rcases hi with hi | hi
  · have : cut G B = G := by
      funext a
      exact cut_no (hi a)
    rw [this]
    exact h
  · unfold indep at hi
    split at hi
    · exact .fz (dp_cut hB _ _ hi (own_fz_inv h))
    · obtain ⟨p, vs, es, rfl, e2, hp, sp, ha⟩ := own_lst_inv h
      cases e2
      exact own_lst hp sp (dps_cut hB _ _ hi ha)
    · cases hi
/-- behind the call -/
theorem CallAt.back (c : CallAt K mg C G H σ e Sg modes ks n) {vs : List V} {ls : List Lv} {dvs : List V} {outs : List D} {G' H' : Hp} {Sb : Nat → ASet} (hr : RLs K C G σ vs ls) (hls : ls.map Lv.slot = ks) (hn : ls.length + dvs.length = modes.length) (hin : borrows modes ks = false ∨ indeps modes outs = true)
    (b : Back K mg modes (vs ++ dvs) (gIn G H (Bset modes ks Sg H)) H (fun a => ∃ k, Sa modes ks Sg k a) outs G' H' Sb) :
    ∃ Sg', Good K mg C (cut G' (Bset modes ks Sg H)) H' σ (putB modes ks outs e) Sg' ∧ Ex G (cut G' (Bset modes ks Sg H)) ∧
      (∀ S : ASet, (∀ a, S a → G' a = none ∧ H' a ≠ none ∧ (H a = none ∨ ∃ k, Sa modes ks Sg k a)) → (∀ k a, S a → ¬ Sb k a) → Lone C (cut G' (Bset modes ks Sg H)) H' Sg' S) ∧
      (∀ (rsh : Sh) v r S, Own K mg G' H' rsh v r S → borrows modes ks = false ∨ indep rsh r = true → Own K mg (cut G' (Bset modes ks Sg H)) H' rsh v r S) := by
  have hB : ∀ a, Bset modes ks Sg H a → ∃ vs, G' a = some (.lst vs) := fun a hb => by
    obtain ⟨_, _, _, vs, hv⟩ := id hb
    refine ⟨vs, b.gg a _ ?_⟩
    rw [gIn_yes hb]
    exact hv
  have noB : borrows modes ks = false → ∀ a, ¬ Bset modes ks Sg H a := fun hbr a ⟨i, ⟨k, q1, q2⟩, _⟩ => borrows_no hbr k i q2 q1
  have l1 := hr.len
  have l3 : ks.length = ls.length := by rw [← hls]; simp
  have exg : Ex G (cut G' (Bset modes ks Sg H)) := fun a o h => by
    have nb : ¬ Bset modes ks Sg H a := fun ⟨i, _, z, _⟩ => by
      have := (c.g.gs i a z).1
      rw [h] at this
      cases this
    rw [cut_no nb]
    refine b.gg a o ?_
    rw [gIn_no nb]
    exact h
  have outG : ∀ {i : Nat} {a : Addr}, Sg i a → ¬ OwnA modes ks i → cut G' (Bset modes ks Sg H) a = none := fun {i a} h hno => by
    by_cases hb : Bset modes ks Sg H a
    · exact cut_yes hb
    · rw [cut_no hb]
      cases q : G' a with
      | none => rfl
      | some o =>
        rcases b.gn a (by rw [q]; simp) with z | z | ⟨k, z⟩
        · rw [gIn_no hb] at z
          exact absurd (c.g.gs i a h).1 z
        · exact absurd z (c.g.gs i a h).2.1
        · obtain ⟨j, hj, z⟩ := c.sa_own z
          have := c.g.dis i j a h z
          subst this
          exact absurd hj hno
  have keepH : ∀ {i : Nat} {a : Addr}, Sg i a → ¬ OwnA modes ks i → H' a = H a := fun {i a} h hno => by
    cases q : H a with
    | none => exact absurd q (c.g.gs i a h).2.1
    | some o =>
      refine b.fr a o q fun ⟨k, z⟩ => ?_
      obtain ⟨j, hj, z⟩ := c.sa_own z
      have := c.g.dis i j a h z
      subst this
      exact hno hj
  have fromS : ∀ {k : Nat} {a : Addr}, Sa modes ks Sg k a → C.H0 a = none ∨ C.S0 a := fun {k a} h => by
    obtain ⟨i, _, z⟩ := c.sa_own h
    exact (c.g.gs i a z).2.2
  have noneC : ∀ {a : Addr}, H a = none → C.H0 a = none := fun {a} h => by
    cases q : C.H0 a with
    | none => rfl
    | some o => exact absurd h (c.g.al a (by rw [q]; simp))
  let Sg' : Nat → ASet := fun i a => (∃ (k : Nat) (m : Sh), ks[k]? = some (some i) ∧ modes[k]? = some m ∧ m ≠ .fz ∧ Sb k a) ∨ (¬ OwnA modes ks i ∧ Sg i a)
  have sgOwn : ∀ {i k : Nat} {m : Sh}, ks[k]? = some (some i) → modes[k]? = some m → m ≠ .fz → Sg' i = Sb k := fun {i k m} h1 h2 h3 => by
    funext a
    refine propext ⟨fun z => ?_, fun z => .inl ⟨k, m, h1, h2, h3, z⟩⟩
    rcases z with ⟨j, m', a1, a2, a3, a4⟩ | ⟨z, _⟩
    · have := c.ok.dis j k i a1 h1
      subst this
      exact a4
    · exact absurd ⟨k, m, h1, h2, h3⟩ z
  have sgOut : ∀ {i : Nat}, ¬ OwnA modes ks i → Sg' i = Sg i := fun {i} hno => by
    funext a
    refine propext ⟨fun z => ?_, fun z => .inr ⟨hno, z⟩⟩
    rcases z with ⟨j, m', a1, a2, a3, a4⟩ | ⟨_, z⟩
    · exact absurd ⟨j, m', a1, a2, a3⟩ hno
    · exact z
  have outE : ∀ {i : Nat}, ¬ OwnA modes ks i → (putB modes ks outs e)[i]? = e[i]? := fun {i} hno => putB_out fun k m h1 h2 => by
    cases m with
    | fz => rfl
    | _ => exact absurd ⟨k, _, h2, h1, by simp⟩ hno
  have inE : ∀ {i k : Nat} {m : Sh} {d : D}, ks[k]? = some (some i) → modes[k]? = some m → m ≠ .fz → outs[k]? = some d → (putB modes ks outs e)[i]? = some (some d) := fun {i k m d} h1 h2 h3 h4 => by
    refine putB_in c.ok h2 h3 h1 h4 ?_
    rcases c.ok.arg k m _ h2 h1 with ⟨z, _⟩ | ⟨j, z, ht⟩ | ⟨j, z, _, ht⟩
    · cases z
    · exact absurd ht.1 h3
    · cases z
      rw [c.g.le]
      exact (List.getElem?_eq_some_iff.mp ht).1
  refine ⟨Sg', ⟨c.g.ls, by rw [putB_len]; exact c.g.le, fun i sh d h1 h2 => ?_, fun i j a h1 h2 => ?_, fun i a h => ?_, fun a o h => ?_, c.g.g0.trans exg, fun a o h1 h2 => ?_, fun a h => b.al a (c.g.al a h), fun a h => ?_, c.g.pin, fun i sh h1 h2 h3 => ?_⟩, exg, fun S hS hb => ⟨fun a ha => ?_, fun i a ha hs => ?_⟩, fun rsh v r S hS hb => own_cut hB hS (hb.imp noB id)⟩
  · by_cases ho : OwnA modes ks i
    · obtain ⟨k, m, a1, a2, a3⟩ := ho
      have hk : k < outs.length := by
        rw [b.len]
        exact (List.getElem?_eq_some_iff.mp a2).1
      have hok : outs[k]? = some outs[k] := List.getElem?_eq_getElem hk
      rw [inE a1 a2 a3 hok] at h2
      cases h2
      rcases c.ok.arg k m _ a2 a1 with ⟨z, _⟩ | ⟨j, z, ht⟩ | ⟨j, z, _, ht⟩
      · cases z
      · exact absurd ht.1 a3
      · cases z
        rw [h1] at ht
        cases ht
        have hkl : k < ls.length := by
          rw [← l3]
          exact (List.getElem?_eq_some_iff.mp a1).1
        have hl : ls[k]? = some ls[k] := List.getElem?_eq_getElem hkl
        have hv : vs[k]? = some vs[k] := List.getElem?_eq_getElem (by omega)
        have hsl : (ls[k]).slot = some i := by
          rw [← hls, List.getElem?_map, hl] at a1
          simpa using a1
        have hrl := hr.at k _ _ hv hl
        have hσ : σ[i]? = some (some vs[k]) := by
          cases q : ls[k] with
          | val d => rw [q] at hsl; cases hsl
          | plc j => rw [q] at hsl hrl; cases hsl; exact hrl.1
          | own j => rw [q] at hsl hrl; cases hsl; exact hrl.1
        refine ⟨vs[k], hσ, ?_⟩
        rw [sgOwn a1 a2 a3]
        have q := b.own k sh (vs[k]) (outs[k]) a2 a3 (by rw [List.getElem?_append_left (by omega)]; exact hv) hok
        exact own_cut hB q (hin.imp noB fun z => indeps_at z k sh _ a2 hok a3)
    · rw [outE ho] at h2
      obtain ⟨v, h3, h4⟩ := c.g.slot i sh d h1 h2
      refine ⟨v, h3, ?_⟩
      rw [sgOut ho]
      exact h4.mono exg fun a ha => keepH ha ho
  · rcases h1 with ⟨k, m, a1, a2, a3, a4⟩ | ⟨hno, h1⟩
    · rcases h2 with ⟨k', m', b1, b2, b3, b4⟩ | ⟨hno', h2⟩
      · have := b.dis k k' a a4 b4
        subst this
        rw [a1] at b1
        exact Option.some.inj (Option.some.inj b1)
      · exfalso
        obtain ⟨q1, q2, q3⟩ := b.gs k a a4
        rcases q3 with z | ⟨k2, z⟩
        · exact (c.g.gs j a h2).2.1 z
        · obtain ⟨i2, hi2, z⟩ := c.sa_own z
          have := c.g.dis j i2 a h2 z
          subst this
          exact hno' hi2
    · rcases h2 with ⟨k', m', b1, b2, b3, b4⟩ | ⟨hno', h2⟩
      · exfalso
        obtain ⟨q1, q2, q3⟩ := b.gs k' a b4
        rcases q3 with z | ⟨k2, z⟩
        · exact (c.g.gs i a h1).2.1 z
        · obtain ⟨i2, hi2, z⟩ := c.sa_own z
          have := c.g.dis i i2 a h1 z
          subst this
          exact hno hi2
      · exact c.g.dis i j a h1 h2
  · rcases h with ⟨k, m, a1, a2, a3, a4⟩ | ⟨hno, h⟩
    · obtain ⟨q1, q2, q3⟩ := b.gs k a a4
      refine ⟨?_, q2, q3.elim (fun z => .inl (noneC z)) fun ⟨k2, z⟩ => fromS z⟩
      by_cases hb : Bset modes ks Sg H a
      · exact cut_yes hb
      · rw [cut_no hb]
        exact q1
    · refine ⟨outG h hno, ?_, (c.g.gs i a h).2.2⟩
      rw [keepH h hno]
      exact (c.g.gs i a h).2.1
  · by_cases hb : Bset modes ks Sg H a
    · rw [cut_yes hb] at h
      cases h
    · rw [cut_no hb] at h
      exact b.gh a o h
  · refine b.fr a o (c.g.fr a o h1 h2) fun ⟨k, z⟩ => ?_
    rcases fromS z with q | q
    · rw [h1] at q
      cases q
    · exact h2 q
  · by_cases hb : Bset modes ks Sg H a
    · rw [cut_yes hb] at h
      exact absurd rfl h
    · rw [cut_no hb] at h
      rcases b.gn a h with z | z | ⟨k, z⟩
      · rw [gIn_no hb] at z
        exact c.g.gn a z
      · exact .inr (.inl (noneC z))
      · rcases fromS z with q | q
        · exact .inr (.inl q)
        · exact .inr (.inr q)
  · by_cases ho : OwnA modes ks i
    · obtain ⟨k, m, a1, a2, a3⟩ := ho
      have hk : k < outs.length := by
        rw [b.len]
        exact (List.getElem?_eq_some_iff.mp a2).1
      exact ⟨outs[k], inE a1 a2 a3 (List.getElem?_eq_getElem hk)⟩
    · rw [outE ho]
      exact c.g.par i sh h1 h2 h3
  · obtain ⟨q1, q2, q3⟩ := hS a ha
    refine ⟨?_, q2, q3.elim (fun z => .inl (noneC z)) fun ⟨k2, z⟩ => fromS z⟩
    by_cases hbb : Bset modes ks Sg H a
    · exact cut_yes hbb
    · rw [cut_no hbb]
      exact q1
  · rcases hs with ⟨k, m, a1, a2, a3, a4⟩ | ⟨hno, h⟩
    · exact hb k a ha a4
    · obtain ⟨q1, q2, q3⟩ := hS a ha
      rcases q3 with z | ⟨k2, z⟩
      · exact (c.g.gs i a h).2.1 z
      · obtain ⟨i2, hi2, z⟩ := c.sa_own z
        have := c.g.dis i i2 a h z
        subst this
        exact hno hi2
end
/-- f(e, ..) -/
theorem dO_call {x : Str} {f : Addr} {fd : FuncData} {ps : List Str} {dvs : List V} {ds' : List Value} {k : Nat} {modes : List Sh} {rsh : Sh} {m : List D → FR} {dd : List D} {ks : List (Option Nat)} {a : Expr} {es : List Expr} {p pos : Pos} {ca : Env → R (List Lv)}
    (F : FnOk X.prog X.w X.K X.mg X.base (L2.CX X.prog X.w) k f fd ps (spF X.K X.mg modes rsh m)) (hr : Room k X.A) (hm : X.mg x = some (.ref f)) (hk : PySem.W.keepIn X.K (.ref f) = true) (hb : Binds X.K fd ps ds') (hd : Vals dvs ds') (hdd : ∀ G, DpAll X.K G dvs dd)
    (ok : OkS C.Tg modes ks dd.length) (tk : Takes X W) (ha : PA X (a :: es) (tAs X.K X.mg C W ca)) (hg : Gl X x := by rfl) (hdb : (x == ("__debug__" : Str)) = false := by decide)
    (he : starEach (a :: es) X.env = (false, eval a X.env) :: starEach es X.env := by rfl) (hpl : (backTo pos (starEach es X.env)).any (·.1) = false := by rfl) :
    PE X (.Call (.Name x p) (a :: es) [] pos) (tO X.K X.mg C W rsh (cCall modes ks rsh m dd ca)) := by
  refine PE.to (pe_callSD (E := WE W) F hr hg hm hk hb hd (fun σ => passAt tk σ) ha hdb he hpl) fun σ H Q ⟨G, e, Sg, g, q⟩ => ⟨G, e, Sg, g, (Post.bind q).imp fun ls e1 G1 H1 S1 _ g1 _ p1 vs hvs => ?_⟩
  split at p1
  · rename_i hls
    split at p1
    · exact False.elim p1
    · rename_i ds hga
      have c : CallAt X.K X.mg C G1 H1 σ e1 S1 modes ks dd.length := ⟨g1, ok⟩
      have l1 := hvs.len
      have l2 := getsA_len hga
      have l3 : ks.length = ls.length := by rw [← hls]; simp
      have l4 := ok.len
      have l5 : dvs.length = dd.length := dps_len _ _ (hdd G1)
      have base : ∀ R : Prop, R → R := fun _ h => h
      refine ⟨gIn G1 H1 (Bset modes ks S1 H1), ds ++ dd, Sa modes ks S1, by simp; omega, by simp; omega, c.args hvs hls hga (hdd _), fun i j b h1 h2 => ?_, fun i b h => ?_, fun i b h => ?_, c.inH, ?_⟩
      · obtain ⟨i1, m1, a1, a2, a3, a4⟩ := h1
        obtain ⟨i2, m2, b1, b2, b3, b4⟩ := h2
        have := g1.dis i1 i2 b a4 b4
        subst this
        exact ok.dis i j i1 a1 b1
      · obtain ⟨i1, ho, z⟩ := c.sa_own h
        refine ⟨?_, (g1.gs i1 b z).2.1⟩
        rw [gIn_no (c.notB z fun hbr => c.apart ho hbr)]
        exact (g1.gs i1 b z).1
      · obtain ⟨i1, m1, a1, a2, a3, a4⟩ := h
        exact (List.getElem?_eq_some_iff.mp a2).1
      · cases qm : m (ds ++ dd) with
        | ok r outs =>
          rw [qm] at p1
          dsimp only at p1
          split at p1
          · rename_i hin
            have hin : borrows modes ks = false ∨ (indep rsh r = true ∧ indeps modes outs = true) := by simpa using hin
            intro G' H' Sb v S bk ho hS hSb
            obtain ⟨Sg', g', x', lone, cutr⟩ := c.back hvs hls (by omega) (hin.imp id And.right) bk
            exact p1 _ H' Sg' g' x' v S (cutr rsh v r S ho (hin.imp id And.left)) (lone S hS hSb)
          · exact False.elim p1
        | ex xx outs =>
          rw [qm] at p1
          dsimp only at p1
          split at p1
          · rename_i hin
            have hin : borrows modes ks = false ∨ indeps modes outs = true := by simpa using hin
            intro G' H' Sb bk
            obtain ⟨Sg', g', x', _, _⟩ := c.back hvs hls (by omega) hin bk
            exact p1 _ H' Sg' g' x'
          · exact False.elim p1
        | st =>
          rw [qm] at p1
          exact False.elim p1
  · exact False.elim p1
/-- a frozen result as a value -/
theorem de_oz {K : Frag} {mg : MG} {e : Expr} {c : Env → R D} (h : PE X e (tO K mg C W .fz c)) : PE X e (tE K mg C W (cMelt c)) :=
  PE.to h fun σ H Q ⟨G, e, Sg, g, p⟩ => ⟨G, e, Sg, g, (Post.bind p).imp fun d e1 G1 H1 S1 _ g1 x1 p1 v S ho hl => p1 G1 H1 S1 g1 (Ex.refl G1) v (own_fz_inv ho)⟩
/-- a name of a thing that one's own def changes, as an argument -/
def cOwnV (i : Nat) : Env → R Lv := fun e => match e.getD i none with
  | some _ => .ok (.own i) e
  | none => .st
theorem de_own (i : Nat) {K : Frag} {mg : MG} {x : Str} {pos : Pos} {sh : Sh} (ht : C.Tg[i]? = some sh := by rfl) (hs : sh ≠ .fz := by intro z; cases z) (hN : X.N[i]? = some x := by rfl) (hv : Vis X.env.scope x := by first | exact Or.inl rfl | exact Or.inr (Or.inl rfl) | exact Or.inr (Or.inr rfl)) (hd : (x == ("__debug__" : Str)) = false := by decide)
    (hcd : (x == ("__classdict__" : Str)) = false := by decide) : PE X (.Name x pos) (tE K mg C W (cOwnV i)) :=
  PE.to (pe_var hN hv hd hcd) fun σ H Q ⟨G, e, Sg, g, p⟩ => by
    unfold cOwnV at p
    split at p
    · rename_i d he
      obtain ⟨v, h1, h2⟩ := g.slot i _ d ht (Good.getD (G := G) (H := H) (σ := σ) (Sg := Sg) he)
      exact ⟨v, h1, p G H Sg g (Ex.refl G) v ⟨h1, sh, ht, hs⟩⟩
    · exact False.elim p
end
end DL

/-! Comprehensions. -/
namespace DL
open PySem PySem.Spec PyProof.Rows L2
open Evl (Ex ex_l ex_t ex_rd)

def clearE (vs : List Nat) (e : Env) : Env := vs.foldl (fun e j => e.set j none) e
def restoreE (vs : List Nat) (e0 e : Env) : Env := vs.foldl (fun e j => e.set j (e0.getD j none)) e
def compL (vs : List Nat) (f : D → Env → Option Env) (t : Env → R Bool) (c : Env → R Lv) : List D → Env → R (List D)
  | [], e => .ok [] e
  | d :: r, e => match f d (clearE vs e) with
    | none => .st
    | some e1 => match t e1 with
      | .ok false e2 => compL vs f t c r e2
      | .ok true e2 => (match c e2 with
        | .ok (.val x) e3 => (match compL vs f t c r e3 with
          | .ok xs e4 => .ok (x :: xs) e4
          | _ => .st)
        | _ => .st)
      | _ => .st
def cYes : Env → R Bool := fun e => .ok true e
def cComp (vs : List Nat) (ci : Env → R (List D)) (f : D → Env → Option Env) (t : Env → R Bool) (c : Env → R Lv) : Env → R NV := fun e => (ci e).bind fun ds e1 =>
  if fits ds.length = true then
    match compL vs f t c ds e1 with
    | .ok xs e2 => .ok (.nl xs) (restoreE vs e1 e2)
    | _ => .st
  else .st

theorem clearE_len : ∀ {vs : List Nat} {e : Env}, (clearE vs e).length = e.length
  | [], _ => rfl
  | j :: vs, e => by
    show (clearE vs (e.set j none)).length = _
    rw [clearE_len, List.length_set]
theorem clearE_out : ∀ {vs : List Nat} {e : Env} {i : Nat}, i ∉ vs → (clearE vs e)[i]? = e[i]?
  | [], _, _, _ => rfl
  | j :: vs, e, i, h => by
    rw [List.mem_cons, not_or] at h
    show (clearE vs (e.set j none))[i]? = _
    rw [clearE_out h.2, List.getElem?_set_ne (fun z => h.1 z.symm)]
theorem clearE_none {vs : List Nat} {e : Env} {i : Nat} : ∀ {d : D}, i ∈ vs → (clearE vs e)[i]? ≠ some (some d) := by
  induction vs generalizing e with
  | nil => intro d h; simp at h
  | cons j vs ih =>
    intro d h
    show (clearE vs (e.set j none))[i]? ≠ _
    by_cases hv : i ∈ vs
    · exact ih hv
    · have : i = j := by
        rcases List.mem_cons.mp h with z | z
        · exact z
        · exact absurd z hv
      subst this
      rw [clearE_out hv]
      intro z
      rcases get_set z with ⟨_, z, _⟩ | ⟨z, _⟩
      · cases z
      · exact z rfl
theorem restoreE_len : ∀ {vs : List Nat} {e0 e : Env}, (restoreE vs e0 e).length = e.length
  | [], _, _ => rfl
  | j :: vs, e0, e => by
    show (restoreE vs e0 (e.set j (e0.getD j none))).length = _
    rw [restoreE_len, List.length_set]
theorem restoreE_out : ∀ {vs : List Nat} {e0 e : Env} {i : Nat}, i ∉ vs → (restoreE vs e0 e)[i]? = e[i]?
  | [], _, _, _, _ => rfl
  | j :: vs, e0, e, i, h => by
    rw [List.mem_cons, not_or] at h
    show (restoreE vs e0 (e.set j _))[i]? = _
    rw [restoreE_out h.2, List.getElem?_set_ne (fun z => h.1 z.symm)]
theorem restoreE_in : ∀ {vs : List Nat} {e0 e : Env} {i : Nat} {d : D}, i ∈ vs → (restoreE vs e0 e)[i]? = some (some d) → e0.getD i none = some d
  | [], _, _, _, _, h, _ => by simp at h
  | j :: vs, e0, e, i, d, h, q => by
    have q : (restoreE vs e0 (e.set j (e0.getD j none)))[i]? = some (some d) := q
    by_cases hv : i ∈ vs
    · exact restoreE_in hv q
    · have : i = j := by
        rcases List.mem_cons.mp h with z | z
        · exact z
        · exact absurd z hv
      subst this
      rw [restoreE_out hv] at q
      rcases get_set q with ⟨_, z, _⟩ | ⟨z, _⟩
      · exact z.symm
      · exact absurd rfl z

section
variable {K : Frag} {mg : MG} {C : Ct} {G G' H H' : Hp} {σ σ' : L2.St} {e e' : Env} {Sg Sg' : Nat → ASet}
theorem wipe_in : ∀ {vs : List Nat} {σ : L2.St} {i : Nat}, i ∈ vs → i < σ.length → (wipe σ vs)[i]? = some none
  | [], _, _, h, _ => by simp at h
  | j :: vs, σ, i, h, l => by
    unfold wipe
    by_cases hj : i = j
    · subst hj
      rw [List.getElem?_set_self (by rw [wipe_length]; exact l)]
    · rw [List.getElem?_set_ne (fun z => hj z.symm)]
      exact wipe_in ((List.mem_cons.mp h).resolve_left hj) l
theorem wipe_same {vs ws : List Nat} (hw : ∀ i ∈ ws, i ∈ vs) (s : SameBut ws (wipe σ vs) σ') : wipe σ' vs = wipe σ vs := by
  have l1 : σ'.length = σ.length := by rw [s.1, wipe_length]
  apply List.ext_getElem?
  intro i
  by_cases hi : i ∈ vs
  · by_cases hl : i < σ.length
    · rw [wipe_in hi (by omega), wipe_in hi hl]
    · rw [List.getElem?_eq_none (by rw [wipe_length]; omega), List.getElem?_eq_none (by rw [wipe_length]; omega)]
  · rw [wipe_out hi, s.2 i fun z => hi (hw i z)]
/-- the same place, the context newly begun -/
theorem Good.renew (g : Good K mg C G H σ e Sg) : Good K mg ⟨C.Tg, C.np, C.vs0, G, H, fun a => ∃ i, Sg i a⟩ G H σ e Sg :=
  ⟨g.ls, g.le, g.slot, g.dis, fun i a h => ⟨(g.gs i a h).1, (g.gs i a h).2.1, .inr ⟨i, h⟩⟩, g.gh, Ex.refl _, fun _ _ h _ => h, fun _ h => h, fun _ h => .inl h, g.pin, g.par⟩
theorem Good.trans (g : Good K mg C G H σ e Sg) (g' : Good K mg ⟨C.Tg, C.np, C.vs0, G, H, fun a => ∃ i, Sg i a⟩ G' H' σ' e' Sg') : Good K mg C G' H' σ' e' Sg' := by
  have noneC : ∀ {a : Addr}, H a = none → C.H0 a = none := fun {a} h => by
    cases q : C.H0 a with
    | none => rfl
    | some o => exact absurd h (g.al a (by rw [q]; simp))
  refine ⟨g'.ls, g'.le, g'.slot, g'.dis, fun i a h => ?_, g'.gh, g.g0.trans g'.g0, fun a o h1 h2 => ?_, fun a h => g'.al a (g.al a h), fun a h => ?_, g'.pin, g'.par⟩
  · obtain ⟨h1, h2, h3⟩ := g'.gs i a h
    refine ⟨h1, h2, ?_⟩
    rcases h3 with z | ⟨j, z⟩
    · exact .inl (noneC z)
    · exact (g.gs j a z).2.2
  · refine g'.fr a o (g.fr a o h1 h2) fun ⟨j, z⟩ => ?_
    rcases (g.gs j a z).2.2 with q | q
    · rw [h1] at q
      cases q
    · exact h2 q
  · rcases g'.gn a h with z | z | ⟨j, z⟩
    · exact g.gn a z
    · exact .inr (.inl (noneC z))
    · rcases (g.gs j a z).2.2 with q | q
      · exact .inr (.inl q)
      · exact .inr (.inr q)
/-- an object that is nobody's stands through -/
theorem Good.stays (g : Good K mg C G H σ e Sg) (g' : Good K mg ⟨C.Tg, C.np, C.vs0, G, H, fun a => ∃ i, Sg i a⟩ G' H' σ' e' Sg') {p : Addr} {o : HO} (hp : H p = some o) (hG : G p = none) (hs : ∀ i, ¬ Sg i p) : H' p = some o ∧ G' p = none ∧ ∀ i, ¬ Sg' i p := by
  refine ⟨g'.fr p o hp fun ⟨j, z⟩ => hs j z, ?_, fun i h => ?_⟩
  · cases q : G' p with
    | none => rfl
    | some u =>
      rcases g'.gn p (by rw [q]; simp) with z | z | ⟨j, z⟩
      · exact absurd hG z
      · have z : H p = none := z
        rw [hp] at z
        cases z
      · exact absurd z (hs j)
  · rcases (g'.gs i p h).2.2 with z | ⟨j, z⟩
    · have z : H p = none := z
      rw [hp] at z
      cases z
    · exact hs j z
/-- an object that is nobody's, dropped from the view -/
theorem Good.drop (g : Good K mg C G H σ e Sg) {p : Addr} (hG : G p = none) (hs : ∀ i, ¬ Sg i p) (h0 : C.H0 p = none) : Good K mg C G (fun a => if a = p then none else H a) σ e Sg := by
  have at' : ∀ {a : Addr}, a ≠ p → (fun a => if a = p then none else H a) a = H a := fun {a} h => by simp [h]
  refine ⟨g.ls, g.le, fun i sh d h1 h2 => ?_, g.dis, fun i a h => ?_, fun a o h => ?_, g.g0, fun a o h1 h2 => ?_, fun a h => ?_, g.gn, g.pin, g.par⟩
  · obtain ⟨v, h3, h4⟩ := g.slot i sh d h1 h2
    exact ⟨v, h3, h4.mono (Ex.refl _) fun a ha => at' fun z => hs i (by rw [← z]; exact ha)⟩
  · obtain ⟨h1, h2, h3⟩ := g.gs i a h
    have z : a ≠ p := fun z => hs i (by rw [← z]; exact h)
    exact ⟨h1, by rw [if_neg z]; exact h2, h3⟩
  · have : a ≠ p := fun z => by rw [z, hG] at h; cases h
    rw [if_neg this]
    exact g.gh a o h
  · have : a ≠ p := fun z => by rw [z, h0] at h1; cases h1
    rw [if_neg this]
    exact g.fr a o h1 h2
  · have : a ≠ p := fun z => h (by rw [z, h0])
    rw [if_neg this]
    exact g.al a h
/-- into a block: its own slots forgotten -/
theorem Good.wiped (g : Good K mg C G H σ e Sg) {vs : List Nat} (hv : ∀ i ∈ vs, C.Tg[i]? = some .fz) {σ' : L2.St} (hw : wipe σ' vs = wipe σ vs) (hl : σ'.length = σ.length) : ∃ Sg', Good K mg C G H (wipe σ' vs) (clearE vs e) Sg' ∧ ∀ i a, Sg' i a → Sg i a := by
  rw [hw]
  refine ⟨fun i a => i ∉ vs ∧ Sg i a, ⟨by rw [wipe_length]; exact g.ls, by rw [clearE_len]; exact g.le, fun i sh d h1 h2 => ?_, fun i j a h1 h2 => g.dis i j a h1.2 h2.2, fun i a h => g.gs i a h.2, g.gh, g.g0, g.fr, g.al, g.gn, fun i sh h1 h2 h3 => ?_, fun i sh h1 h2 h3 => ?_⟩, fun i a h => h.2⟩
  · by_cases hi : i ∈ vs
    · exact absurd h2 (clearE_none hi)
    · rw [clearE_out hi] at h2
      obtain ⟨v, h3, h4⟩ := g.slot i sh d h1 h2
      refine ⟨v, by rw [wipe_out hi]; exact h3, ?_⟩
      have : (fun a => i ∉ vs ∧ Sg i a) = Sg i := by
        funext a
        simp [hi]
      rw [this]
      exact h4
  · have hi : i ∉ vs := fun z => by
      rw [hv i z] at h2
      cases h2
      exact h3 rfl
    rw [wipe_out hi]
    exact g.pin i sh h1 h2 h3
  · have hi : i ∉ vs := fun z => by
      rw [hv i z] at h2
      cases h2
      exact h3 rfl
    rw [clearE_out hi]
    exact g.par i sh h1 h2 h3
/-- out of the block -/
theorem Good.unwiped {vs : List Nat} {e0 : Env} {G0 H0 : Hp} {Sg0 : Nat → ASet} (g0 : Good K mg C G0 H0 σ e0 Sg0) (x : Ex G0 G) (g : Good K mg C G H (wipe σ vs) (clearE vs e) Sg) (hv : ∀ i ∈ vs, C.Tg[i]? = some .fz) : Good K mg C G H σ (restoreE vs e0 e) Sg := by
  refine ⟨g0.ls, by rw [restoreE_len, ← clearE_len (vs := vs)]; exact g.le, fun i sh d h1 h2 => ?_, g.dis, g.gs, g.gh, g.g0, g.fr, g.al, g.gn, g0.pin, fun i sh h1 h2 h3 => ?_⟩
  · by_cases hi : i ∈ vs
    · have h3 := restoreE_in hi h2
      obtain ⟨v, h4, h5⟩ := g0.slot i sh d h1 (Good.getD (G := G0) (H := H0) (σ := σ) (Sg := Sg0) h3)
      rw [hv i hi] at h1
      cases h1
      exact ⟨v, h4, .fz (dp_ex x _ _ (own_fz_inv h5))⟩
    · rw [restoreE_out hi, ← clearE_out (vs := vs) hi] at h2
      obtain ⟨v, h3, h4⟩ := g.slot i sh d h1 h2
      rw [wipe_out hi] at h3
      exact ⟨v, h3, h4⟩
  · have hi : i ∉ vs := fun z => by
      rw [hv i z] at h2
      cases h2
      exact h3 rfl
    rw [restoreE_out hi, ← clearE_out (vs := vs) hi]
    exact g.par i sh h1 h2 h3
end

/-- no exception leaves a block -/
abbrev W0 : WX := fun _ _ _ _ => False
section
variable {X : Cx} {K : Frag} {mg : MG} {C : Ct} {W : WX} {rsh : Sh}
theorem PE.ex {ι : Type} {e : Expr} {t : ι → TE} (h : ∀ c, PE X e (t c)) : PE X e (fun σ H Q => ∃ c, t c σ H Q) := ⟨fun pins s σ H Q I ⟨c, q⟩ => (h c).run pins s σ H Q I q⟩
theorem PTs.ex {ι : Type} {e : List Expr} {t : ι → TT} (h : ∀ c, PTs X e (t c)) : PTs X e (fun σ H Q => ∃ c, t c σ H Q) := ⟨fun pins s σ H Q I ⟨c, q⟩ => (h c).run pins s σ H Q I q⟩
theorem PG.ex {ι : Type} {e : Expr} {t : ι → TG} (h : ∀ c, PG X e (t c)) : PG X e (fun v σ H Q => ∃ c, t c v σ H Q) := ⟨fun pins s σ H v u Q I r ⟨c, q⟩ => (h c).run pins s σ H v u Q I r q⟩
/-- the block's readings, whatever the context -/
def bE (K : Frag) (mg : MG) (Tg : List Sh) (np : Nat) (c : Env → R Lv) : TE := fun σ H Q => ∃ p : List V × Hp × Hp × ASet, tE K mg ⟨Tg, np, p.1, p.2.1, p.2.2.1, p.2.2.2⟩ W0 c σ H Q
def bT (K : Frag) (mg : MG) (Tg : List Sh) (np : Nat) (c : Env → R Bool) : TT := fun σ H Q => ∃ p : List V × Hp × Hp × ASet, tT K mg ⟨Tg, np, p.1, p.2.1, p.2.2.1, p.2.2.2⟩ W0 c σ H Q
def bG (K : Frag) (mg : MG) (Tg : List Sh) (np : Nat) (ws : List Nat) (f : D → Env → Option Env) : TG := fun v σ H Q => ∃ p : List V × Hp × Hp × ASet, tG K mg ⟨Tg, np, p.1, p.2.1, p.2.2.1, p.2.2.2⟩ ws f v σ H Q
theorem fits_lt {n m : Nat} (h : fits n = true) (l : m < n) : m < sizeLine := Nat.lt_of_lt_of_le l (fits_iff.mp h)
theorem lc_sound {vs ws : List Nat} {ci : Env → R (List D)} {f : D → Env → Option Env} {t : Env → R Bool} {c : Env → R Lv} (hv : ∀ i ∈ vs, C.Tg[i]? = some .fz) (hw : ∀ i ∈ ws, i ∈ vs) {σ : L2.St} {H : Hp} {Q : VK} (h : tN K mg C W (cComp vs ci f t c) σ H Q) :
    tLc (tI K mg C W ci) (bG K mg C.Tg C.np ws f) (bT K mg C.Tg C.np t) (bE K mg C.Tg C.np c) vs σ H Q := by
  obtain ⟨G, e, Sg, g, p⟩ := h
  refine ⟨G, e, Sg, g, (Post.bind p).imp fun ds e1 G1 H1 S1 _ g1 x1 p1 J hJ Da hD => ?_⟩
  split at p1
  · rename_i hfit
    -- the rest of the loop, from an env and what is made so far
    let Rest : Nat → List D → Env → Hp → Prop := fun i acc e' G' => match compL vs f t c (ds.drop i) e' with
      | .ok xs e2 => ∀ G2 H2 S2, Good K mg C G2 H2 σ (restoreE vs e1 e2) S2 → Ex G' G2 → NVp K G2 H2 Q (.nl (acc ++ xs))
      | _ => False
    have noD : ∀ {u : HO}, G1 Da ≠ some u := fun {u} z => by
      have := g1.gh Da u z
      rw [hD] at this
      cases this
    have gD : G1 Da = none := by
      cases q : G1 Da with
      | none => rfl
      | some u => exact absurd q noD
    have sD : ∀ i, ¬ S1 i Da := fun i z => (g1.gs i Da z).2.1 hD
    have hD0 : C.H0 Da = none := by
      cases q : C.H0 Da with
      | none => rfl
      | some o => exact absurd hD (g1.al Da (by rw [q]; simp))
    have g2 := g1.new (p := Da) (o := .lst []) hD
    obtain ⟨Sw, gw, subw⟩ := g2.wiped hv (σ' := σ) rfl rfl
    have rest0 : Rest 0 [] e1 G1 := by
      show match compL vs f t c (ds.drop 0) e1 with | .ok xs e2 => _ | _ => False
      rw [List.drop_zero]
      cases q : compL vs f t c ds e1 with
      | ok xs e2 =>
        rw [q] at p1
        exact fun G2 H2 S2 g' x' => p1 G2 H2 S2 g' x'
      | ex x e2 => rw [q] at p1; exact False.elim p1
      | st => rw [q] at p1; exact False.elim p1
    refine ⟨fun i m H' => m = ds.length - i ∧ i ≤ ds.length ∧ ∃ G' e' Sg' acc vacc, Good K mg C G' H' (wipe σ vs) (clearE vs e') Sg' ∧ Ex G1 G' ∧ H' Da = some (.lst vacc) ∧ DpAll K G' vacc acc ∧ acc.length ≤ i ∧ G' Da = none ∧ (∀ i, ¬ Sg' i Da) ∧ Rest i acc e' G',
      ⟨ds.length, by simp, Nat.zero_le _, G1, e1, Sw, [], [], gw, Ex.refl _, upd_same, .nil, Nat.zero_le _, gD, fun i z => sD i (subw i Da z), rest0⟩, ?_⟩
    rintro i m H' ⟨rfl, hi, G', e', Sg', acc, vacc, g', x', hDa, hacc, hal, gD', sD', rest⟩
    by_cases hlt : i < ds.length
    · refine .inr ⟨(hJ.mono x').go i H' hlt g'.gh, fun H2 => ∃ G2 e2 Sg2 acc2 vacc2, Good K mg C G2 H2 (wipe σ vs) (clearE vs e2) Sg2 ∧ Ex G1 G2 ∧ H2 Da = some (.lst vacc2) ∧ DpAll K G2 vacc2 acc2 ∧ acc2.length ≤ i + 1 ∧ G2 Da = none ∧ (∀ i, ¬ Sg2 i Da) ∧ Rest (i + 1) acc2 e2 G2,
        fun H2 h2 => ⟨ds.length - (i + 1), by omega, rfl, hlt, h2⟩, fun x H2 y => ?_⟩
      obtain ⟨rfl, d, hd, hdp⟩ := (hJ.mono x').yld i x H' H2 hlt g'.gh y
      have hdr : ds.drop i = d :: ds.drop (i + 1) := by
        rw [List.drop_eq_getElem_cons hlt]
        rw [List.getElem?_eq_getElem hlt] at hd
        rw [Option.some.inj hd]
      have rest : (match compL vs f t c (ds.drop i) e' with | .ok xs e2 => ∀ G2 H2 S2, Good K mg C G2 H2 σ (restoreE vs e1 e2) S2 → Ex G' G2 → NVp K G2 H2 Q (.nl (acc ++ xs)) | _ => False) := rest
      rw [hdr] at rest
      unfold compL at rest
      cases qf : f d (clearE vs e') with
      | none => rw [qf] at rest; exact False.elim rest
      | some e2 =>
        rw [qf] at rest
        dsimp only at rest
        -- the turn in a context of its own
        have gr := g'.renew
        refine ⟨(C.vs0, G', H2, fun a => ∃ i, Sg' i a), G', clearE vs e', Sg', d, e2, gr, hdp, qf, fun σ2 Sg2 g2 sb => ⟨wipe_same hw sb, ?_⟩⟩
        have l2 : σ2.length = σ.length := by rw [sb.1, wipe_length]
        have wsame := wipe_same hw sb
        refine ⟨(C.vs0, G', H2, fun a => ∃ i, Sg' i a), G', e2, Sg2, g2, ?_⟩
        cases qt : t e2 with
        | ex xx e3 => rw [qt] at rest; exact False.elim rest
        | st => rw [qt] at rest; exact False.elim rest
        | ok b e3 =>
          rw [qt] at rest
          intro G3 H3 S3 g3 x3
          obtain ⟨st1, st2, st3⟩ := g'.stays g3 hDa gD' sD'
          have g3C := g'.trans g3
          cases b with
          | false =>
            rw [if_neg Bool.false_ne_true]
            obtain ⟨S4, g4, sub4⟩ := g3C.wiped hv (σ' := σ2) rfl rfl
            rw [wsame] at g4
            refine ⟨G3, e3, S4, acc, vacc, g4, x'.trans x3, st1, dps_ex x3 _ _ hacc, by omega, st2, fun i z => st3 i (sub4 i Da z), ?_⟩
            show match compL vs f t c (ds.drop (i + 1)) e3 with | .ok xs e2 => _ | _ => False
            dsimp only at rest
            cases q : compL vs f t c (ds.drop (i + 1)) e3 with
            | ok xs e4 =>
              rw [q] at rest
              exact fun G5 H5 S5 g5 x5 => rest G5 H5 S5 g5 (x3.trans x5)
            | ex xx e4 => rw [q] at rest; exact False.elim rest
            | st => rw [q] at rest; exact False.elim rest
          | true =>
            rw [if_pos rfl]
            dsimp only at rest
            have gr3 := g3C.renew
            refine ⟨(C.vs0, G3, H3, fun a => ∃ i, S3 i a), G3, e3, S3, gr3, ?_⟩
            cases qc : c e3 with
            | ex xx e4 => rw [qc] at rest; exact False.elim rest
            | st => rw [qc] at rest; exact False.elim rest
            | ok l e4 =>
              rw [qc] at rest
              cases l with
              | plc i => exact False.elim rest
              | own i => exact False.elim rest
              | val x =>
                dsimp only at rest
                intro G4 H4 S4 g4 x4 v hv4
                obtain ⟨t1, t2, t3⟩ := g3C.stays g4 st1 st2 st3
                have g4C := g3C.trans g4
                have lacc : vacc.length = acc.length := dps_len _ _ hacc
                refine ⟨vacc, t1, fits_lt hfit (by omega), ?_⟩
                have g5 := g4C.free (p := Da) (o := .lst (vacc ++ [v])) (.inl hD0) t2 (by rw [t1]; simp) t3
                obtain ⟨S6, g6, sub6⟩ := g5.wiped hv (σ' := σ2) rfl rfl
                rw [wsame] at g6
                have hv4 : Dp K G4 v x := hv4
                refine ⟨G4, e4, S6, acc ++ [x], vacc ++ [v], g6, (x'.trans x3).trans x4, upd_same, dps_append (dps_ex x4 _ _ (dps_ex x3 _ _ hacc)) (.cons hv4 .nil), by simp; omega, t2, fun i z => t3 i (sub6 i Da z), ?_⟩
                show match compL vs f t c (ds.drop (i + 1)) e4 with | .ok xs e2 => _ | _ => False
                cases q : compL vs f t c (ds.drop (i + 1)) e4 with
                | ok xs e5 =>
                  rw [q] at rest
                  dsimp only at rest
                  refine fun G5 H5 S5 g5 x5 => ?_
                  have := rest G5 H5 S5 g5 ((x3.trans x4).trans x5)
                  rw [List.append_assoc]
                  exact this
                | ex xx e5 => rw [q] at rest; exact False.elim rest
                | st => rw [q] at rest; exact False.elim rest
    · have e0 : i = ds.length := by omega
      subst e0
      refine .inl ⟨(hJ.mono x').stop _ H' (Nat.le_refl _) g'.gh, ?_⟩
      have rest : (match compL vs f t c (ds.drop ds.length) e' with | .ok xs e2 => ∀ G2 H2 S2, Good K mg C G2 H2 σ (restoreE vs e1 e2) S2 → Ex G' G2 → NVp K G2 H2 Q (.nl (acc ++ xs)) | _ => False) := rest
      rw [List.drop_length] at rest
      have rest : ∀ G2 H2 S2, Good K mg C G2 H2 σ (restoreE vs e1 e') S2 → Ex G' G2 → NVp K G2 H2 Q (.nl (acc ++ [])) := rest
      have gu := Good.unwiped g1 x' g' hv
      have gd := gu.drop gD' sD' hD0
      have q := rest G' _ Sg' gd (Ex.refl _) Da vacc (by simp) (by rw [List.append_nil]; exact hacc)
      have eq : upd (fun a => if a = Da then none else H' a) Da (.lst vacc) = H' := by
        funext a
        unfold upd
        by_cases ha : a = Da
        · subst ha
          simp [hDa]
        · simp [ha]
      rw [eq] at q
      exact q
  · exact False.elim p1

theorem bE_of {Xb : Cx} {e : Expr} {Tg : List Sh} {np : Nat} {c : Env → R Lv} (h : ∀ vs0 G0 H0 S0, PE Xb e (tE K mg ⟨Tg, np, vs0, G0, H0, S0⟩ W0 c)) : PE Xb e (bE K mg Tg np c) := PE.ex fun p => h p.1 p.2.1 p.2.2.1 p.2.2.2
theorem bT_of {Xb : Cx} {e : Expr} {Tg : List Sh} {np : Nat} {c : Env → R Bool} (h : ∀ vs0 G0 H0 S0, PT Xb e (tT K mg ⟨Tg, np, vs0, G0, H0, S0⟩ W0 c)) : PTs Xb [e] (bT K mg Tg np c) := PTs.ex fun p => pts_one (h p.1 p.2.1 p.2.2.1 p.2.2.2)
theorem bT_nil {Xb : Cx} {Tg : List Sh} {np : Nat} : PTs Xb [] (bT K mg Tg np cYes) := PTs.ex fun p => ⟨fun pins s σ H Q I ⟨G, e, Sg, g, q⟩ => pts_nil.run pins s σ H Q I (q G H Sg g (Ex.refl G))⟩
theorem bG_of {Xb : Cx} {e : Expr} {Tg : List Sh} {np : Nat} {ws : List Nat} {f : D → Env → Option Env} (h : ∀ vs0 G0 H0 S0, PG Xb e (tG K mg ⟨Tg, np, vs0, G0, H0, S0⟩ ws f)) : PG Xb e (bG K mg Tg np ws f) := PG.ex fun p => h p.1 p.2.1 p.2.2.1 p.2.2.2
/-- [elt for tg in iter if ..] -/
theorem dn_lc {elt tg iter : Expr} {ifs : List Expr} {scope : Scope} (own : List (Str × Nat)) {pos : Pos} {ws : List Nat} {ci : Env → R (List D)} {f : D → Env → Option Env} {t : Env → R Bool} {c : Env → R Lv} (hc : X.calm = true) (hN : X.N.Nodup) (hi : PI X tg iter (tI K mg C W ci)) (ok : BlkOk X.N X.env.scope scope own)
    (hv : ∀ i ∈ own.map (·.2), C.Tg[i]? = some .fz) (hw : ∀ i ∈ ws, i ∈ own.map (·.2))
    (hg : ∀ (s : Shared) (H : Hp) (Cc : Addr) (cl : List (Str × Addr)) (fp : List Addr), PG (X.blk s H scope (compEnvC scope cl Cc X.env) fp) tg (bG K mg C.Tg C.np ws f)) (ht : ∀ (s : Shared) (H : Hp) (Cc : Addr) (cl : List (Str × Addr)) (fp : List Addr), PTs (X.blk s H scope (compEnvC scope cl Cc X.env) fp) ifs (bT K mg C.Tg C.np t))
    (he : ∀ (s : Shared) (H : Hp) (Cc : Addr) (cl : List (Str × Addr)) (fp : List Addr), PE (X.blk s H scope (compEnvC scope cl Cc X.env) fp) elt (bE K mg C.Tg C.np c)) (hs : ∀ x, foldedSetIterable iter X.env x = pure x := by intro _; rfl) :
    PE X (.ListComp elt [⟨tg, iter, ifs, 0⟩] scope pos) (tN K mg C W (cComp (own.map (·.2)) ci f t c)) :=
  PE.to (pe_lc hc hN hi ok hg ht he hs) fun σ H Q q => lc_sound hv hw q
/-- x = [..], kept as one's own; frozen -/
theorem ds_setLcO (i : Nat) {y : Str} {py : Pos} {elt tg iter : Expr} {ifs : List Expr} {scope : Scope} (own : List (Str × Nat)) {pos spos : Pos} {ws : List Nat} {ci : Env → R (List D)} {f : D → Env → Option Env} {t : Env → R Bool} {c : Env → R Lv} (hc : X.calm = true) (hN : X.N.Nodup) (hyl : X.env.scope.names.lookup y = some .local)
    (hsw : swapsWith (.ListComp elt [⟨tg, iter, ifs, 0⟩] scope pos) (some (.Name y py)) spos.line X.env = pure true) (hi : PI X tg iter (tI K mg C W ci)) (ok : BlkOk X.N X.env.scope scope own)
    (hv : ∀ i ∈ own.map (·.2), C.Tg[i]? = some .fz) (hw : ∀ i ∈ ws, i ∈ own.map (·.2))
    (hg : ∀ (s : Shared) (H : Hp) (Cc : Addr) (cl : List (Str × Addr)) (fp : List Addr), PG (X.blk s H scope (compEnvC scope cl Cc X.env) fp) tg (bG K mg C.Tg C.np ws f)) (ht : ∀ (s : Shared) (H : Hp) (Cc : Addr) (cl : List (Str × Addr)) (fp : List Addr), PTs (X.blk s H scope (compEnvC scope cl Cc X.env) fp) ifs (bT K mg C.Tg C.np t))
    (he : ∀ (s : Shared) (H : Hp) (Cc : Addr) (cl : List (Str × Addr)) (fp : List Addr), PE (X.blk s H scope (compEnvC scope cl Cc X.env) fp) elt (bE K mg C.Tg C.np c)) (hT : C.Tg[i]? = some (.lst .fz) := by rfl) (hpn : C.np ≤ i := by exact Nat.le_of_ble_eq_true rfl) (hy : X.N[i]? = some y := by rfl) (hs : ∀ x, foldedSetIterable iter X.env x = pure x := by intro _; rfl) :
    PS X (.Assign [.Name y py] (.ListComp elt [⟨tg, iter, ifs, 0⟩] scope pos) spos) (tS K mg C W rsh (cSetO i (cOwn (cComp (own.map (·.2)) ci f t c)))) :=
  PS.to (ps_setLc hc hN hy hyl hsw hi ok hg ht he hs) fun Dn σ H ⟨G, e, Sg, g, p⟩ => by
    refine lc_sound hv hw (Q := fun x H1 => gName i x σ H1 Dn.nx) ⟨G, e, Sg, g, (Post.bind (PostS.bind p)).imp fun n e1 G1 H1 S1 _ g1 x1 p1 => ?_⟩
    cases n with
    | sc d => exact False.elim p1
    | nl ds => exact fun a vs ha hd => p1 G1 (upd H1 a (.lst vs)) S1 (g1.new ha) (Ex.refl G1) G1 (upd H1 a (.lst vs)) _ _ ((g1.new ha).set (S := fun b => b = a) hT (.inl hpn) (own_lst upd_same rfl hd) (g1.lone ha)) (Ex.refl G1)
    | nt ds => exact False.elim p1
theorem ds_setLc (i : Nat) {y : Str} {py : Pos} {elt tg iter : Expr} {ifs : List Expr} {scope : Scope} (own : List (Str × Nat)) {pos spos : Pos} {ws : List Nat} {ci : Env → R (List D)} {f : D → Env → Option Env} {t : Env → R Bool} {c : Env → R Lv} (hc : X.calm = true) (hN : X.N.Nodup) (hyl : X.env.scope.names.lookup y = some .local)
    (hsw : swapsWith (.ListComp elt [⟨tg, iter, ifs, 0⟩] scope pos) (some (.Name y py)) spos.line X.env = pure true) (hi : PI X tg iter (tI K mg C W ci)) (ok : BlkOk X.N X.env.scope scope own)
    (hv : ∀ i ∈ own.map (·.2), C.Tg[i]? = some .fz) (hw : ∀ i ∈ ws, i ∈ own.map (·.2))
    (hg : ∀ (s : Shared) (H : Hp) (Cc : Addr) (cl : List (Str × Addr)) (fp : List Addr), PG (X.blk s H scope (compEnvC scope cl Cc X.env) fp) tg (bG K mg C.Tg C.np ws f)) (ht : ∀ (s : Shared) (H : Hp) (Cc : Addr) (cl : List (Str × Addr)) (fp : List Addr), PTs (X.blk s H scope (compEnvC scope cl Cc X.env) fp) ifs (bT K mg C.Tg C.np t))
    (he : ∀ (s : Shared) (H : Hp) (Cc : Addr) (cl : List (Str × Addr)) (fp : List Addr), PE (X.blk s H scope (compEnvC scope cl Cc X.env) fp) elt (bE K mg C.Tg C.np c)) (hT : C.Tg[i]? = some .fz := by rfl) (hy : X.N[i]? = some y := by rfl) (hs : ∀ x, foldedSetIterable iter X.env x = pure x := by intro _; rfl) :
    PS X (.Assign [.Name y py] (.ListComp elt [⟨tg, iter, ifs, 0⟩] scope pos) spos) (tS K mg C W rsh (cAsg (cFrz (cComp (own.map (·.2)) ci f t c)) (fSet i))) :=
  PS.to (ps_setLc hc hN hy hyl hsw hi ok hg ht he hs) fun Dn σ H ⟨G, e, Sg, g, p⟩ => by
    refine lc_sound hv hw (Q := fun x H1 => gName i x σ H1 Dn.nx) ⟨G, e, Sg, g, (Post.bind (PostS.bind p)).imp fun n e1 G1 H1 S1 _ g1 x1 p1 => ?_⟩
    have newf : ∀ {a : Addr} {o : HO} {d : D}, H1 a = none → Dp K (upd G1 a o) (.ref a) d → n.d = d → gName i (.ref a) σ (upd H1 a o) Dn.nx := fun {a o d} ha hd hn => by
      have xg : Ex G1 (upd G1 a o) := ex_upd (by
        cases q : G1 a with
        | none => rfl
        | some u => have := g1.gh a u q; rw [ha] at this; cases this)
      subst hn
      exact p1 (upd G1 a o) (upd H1 a o) S1 (g1.newf ha) xg (upd G1 a o) (upd H1 a o) _ _ ((g1.newf ha).set hT (.inr rfl) (.fz hd) .no) (Ex.refl _)
    have xg : ∀ {a : Addr} {o : HO}, H1 a = none → Ex G1 (upd G1 a o) := fun {a o} ha => ex_upd (by
        cases q : G1 a with
        | none => rfl
        | some u => have := g1.gh a u q; rw [ha] at this; cases this)
    cases n with
    | sc d => exact fun v hv => p1 G1 H1 S1 g1 (Ex.refl G1) G1 H1 _ _ (g1.set hT (.inr rfl) (.fz hv) .no) (Ex.refl G1)
    | nl ds => exact fun a vs ha hd => newf ha (.lst (.inl (.inl upd_same)) (dps_ex (xg ha) _ _ hd)) rfl
    | nt ds => exact fun a vs ha hd => newf ha (.tup (.inl (.inl upd_same)) (dps_ex (xg ha) _ _ hd)) rfl
end
end DL

/-! Built-in functions, types of data, methods that write an own list. -/
namespace DL
open PySem PySem.Spec PyProof.Rows L2
open Evl (Ex ex_l ex_t ex_rd)

/-! ### mirrors of built-ins -/
def asI : List D → Option (List Int)
  | [] => some []
  | .int i :: r => (asI r).map (i :: ·)
  | _ :: _ => none
def asS : List D → Option (List Str)
  | [] => some []
  | .str i :: r => (asS r).map (i :: ·)
  | _ :: _ => none
def asB : List D → Option (List Bool)
  | [] => some []
  | .bool i :: r => (asB r).map (i :: ·)
  | _ :: _ => none
def maxI : List Int → Option Int
  | [] => none
  | a :: r => some (r.foldl (fun x y => if y > x then y else x) a)
def minI : List Int → Option Int
  | [] => none
  | a :: r => some (r.foldl (fun x y => if y < x then y else x) a)
def dLen : List D → Option NV
  | [.list ds] => some (.sc (.int ds.length))
  | [.tuple ds] => some (.sc (.int ds.length))
  | [.str z] => if fits z.length = true then some (.sc (.int z.length)) else none
  | _ => none
def dAbs : List D → Option NV
  | [.int i] => some (.sc (.int (if i < 0 then -i else i)))
  | _ => none
def dIntOf : List D → Option NV
  | [.int i] => some (.sc (.int i))
  | [.bool k] => some (.sc (.int (if k then 1 else 0)))
  | _ => none
def dBoolOf : List D → Option NV
  | [.int i] => some (.sc (.bool (i != 0)))
  | [.bool k] => some (.sc (.bool k))
  | _ => none
def dStrOf : List D → Option NV
  | [.int i] => if i.natAbs.log2 < 1920 then some (.sc (.str (toString i))) else none
  | [.str z] => some (.sc (.str z))
  | _ => none
def dRepr : List D → Option NV
  | [.int i] => if i.natAbs.log2 < 1920 then some (.sc (.str (toString i))) else none
  | _ => none
def dSum : List D → Option NV
  | [.list ds] => (asI ds).map fun ns => .sc (.int ns.sum)
  | _ => none
def dMax : List D → Option NV
  | [.list ds] => ((asI ds).bind maxI).map fun m => .sc (.int m)
  | [.int i, .int j] => some (.sc (.int (if j > i then j else i)))
  | _ => none
def dMin : List D → Option NV
  | [.list ds] => ((asI ds).bind minI).map fun m => .sc (.int m)
  | [.int i, .int j] => some (.sc (.int (if j < i then j else i)))
  | _ => none
def dList : List D → Option NV
  | [.list ds] => some (.nl ds)
  | [.tuple ds] => some (.nl ds)
  | _ => none
def dTuple : List D → Option NV
  | [.list ds] => some (.nt ds)
  | [.tuple ds] => some (.sc (.tuple ds))
  | _ => none
def dAny : List D → Option NV
  | [.list ds] => (asB ds).map fun bs => .sc (.bool (bs.any id))
  | _ => none
def dAll : List D → Option NV
  | [.list ds] => (asB ds).map fun bs => .sc (.bool (bs.all id))
  | _ => none
def likes (ds : List D) : Bool := ds.all fun d => ds.all fun d' => PySem.W.alike d d'
def isTupC : D → Bool
  | .tuple (_ :: _) => true
  | _ => false
def isOthC : D → Bool
  | .none => false
  | .tuple _ => false
  | _ => true
def sortable (ds : List D) : Bool := ds.all isTupC || ds.all isOthC
def okSort (ds : List D) : Bool := likes ds && sortable ds && fits ds.length && ds.all fun d => decide (d.depth < 60)
def sortD (rev : Bool) (ds : List D) : List D := ds.mergeSort (PySem.W.dataLe rev id)
def dSorted : List D → Option NV
  | [.list ds] => if okSort ds = true then some (.nl (sortD false ds)) else none
  | _ => none

section
variable {X : Cx} {K : Frag} {mg : MG} {C : Ct} {W : WX}
theorem Vws.one {G H : Hp} {xs : List V} {d : D} (h : Vws K G H xs [d]) : ∃ x, xs = [x] ∧ Vw K G H x d := by
  cases h with
  | cons h t =>
    cases t
    exact ⟨_, rfl, h⟩
theorem Vws.two {G H : Hp} {xs : List V} {d e : D} (h : Vws K G H xs [d, e]) : ∃ x y, xs = [x, y] ∧ Vw K G H x d ∧ Vw K G H y e := by
  cases h with
  | cons h t =>
    obtain ⟨y, rfl, h2⟩ := t.one
    exact ⟨_, _, rfl, h, h2⟩
theorem asI_vs {G : Hp} : ∀ {ds : List D} {vs : List V} {ns : List Int}, DpAll K G vs ds → asI ds = some ns → vs = ns.map V.int
  | [], _, ns, h, e => by
    cases h
    cases e
    rfl
  | d :: ds, _, ns, h, e => by
    cases h with
    | cons h1 h2 =>
      cases d with
      | int i =>
        have e : (asI ds).map (i :: ·) = some ns := e
        cases q : asI ds with
        | none => rw [q] at e; cases e
        | some ms =>
          rw [q] at e
          cases e
          cases h1
          rw [asI_vs h2 q]
          rfl
      | _ => cases e
theorem asS_vs {G : Hp} : ∀ {ds : List D} {vs : List V} {ns : List Str}, DpAll K G vs ds → asS ds = some ns → vs = ns.map V.str
  | [], _, ns, h, e => by
    cases h
    cases e
    rfl
  | d :: ds, _, ns, h, e => by
    cases h with
    | cons h1 h2 =>
      cases d with
      | str i =>
        have e : (asS ds).map (i :: ·) = some ns := e
        cases q : asS ds with
        | none => rw [q] at e; cases e
        | some ms =>
          rw [q] at e
          cases e
          cases h1
          rw [asS_vs h2 q]
          rfl
      | _ => cases e
theorem asB_vs {G : Hp} : ∀ {ds : List D} {vs : List V} {ns : List Bool}, DpAll K G vs ds → asB ds = some ns → vs = ns.map V.bl
  | [], _, ns, h, e => by
    cases h
    cases e
    rfl
  | d :: ds, _, ns, h, e => by
    cases h with
    | cons h1 h2 =>
      cases d with
      | bool i =>
        have e : (asB ds).map (i :: ·) = some ns := e
        cases q : asB ds with
        | none => rw [q] at e; cases e
        | some ms =>
          rw [q] at e
          cases e
          cases h1
          rw [asB_vs h2 q]
          rfl
      | _ => cases e
theorem maxI_is : ∀ {ns : List Int} {m : Int}, maxI ns = some m → m ∈ ns ∧ ∀ y, y ∈ ns → y ≤ m := by
  have go : ∀ (r : List Int) (a : Int), (r.foldl (fun x y => if y > x then y else x) a = a ∨ r.foldl (fun x y => if y > x then y else x) a ∈ r) ∧ a ≤ r.foldl (fun x y => if y > x then y else x) a ∧ ∀ y, y ∈ r → y ≤ r.foldl (fun x y => if y > x then y else x) a := by
    intro r
    induction r with
    | nil => intro a; exact ⟨.inl rfl, Int.le_refl _, fun y h => by cases h⟩
    | cons b r ih =>
      intro a
      rw [List.foldl_cons]
      obtain ⟨h1, h2, h3⟩ := ih (if b > a then b else a)
      refine ⟨?_, ?_, fun y hy => ?_⟩
      · rcases h1 with h1 | h1
        · by_cases hb : b > a
          · rw [if_pos hb] at h1 ⊢
            right
            rw [h1]
            exact List.mem_cons_self
          · rw [if_neg hb] at h1 ⊢
            exact .inl h1
        · exact .inr (List.mem_cons_of_mem _ h1)
      · refine Int.le_trans ?_ h2
        split <;> omega
      · rcases List.mem_cons.mp hy with rfl | hy
        · refine Int.le_trans ?_ h2
          split <;> omega
        · exact h3 y hy
  intro ns m h
  cases ns with
  | nil => cases h
  | cons a r =>
    cases h
    obtain ⟨h1, h2, h3⟩ := go r a
    refine ⟨?_, fun y hy => ?_⟩
    · rcases h1 with h1 | h1
      · rw [h1]; exact List.mem_cons_self
      · exact List.mem_cons_of_mem _ h1
    · rcases List.mem_cons.mp hy with rfl | hy
      · exact h2
      · exact h3 y hy
theorem minI_is : ∀ {ns : List Int} {m : Int}, minI ns = some m → m ∈ ns ∧ ∀ y, y ∈ ns → m ≤ y := by
  have go : ∀ (r : List Int) (a : Int), (r.foldl (fun x y => if y < x then y else x) a = a ∨ r.foldl (fun x y => if y < x then y else x) a ∈ r) ∧ r.foldl (fun x y => if y < x then y else x) a ≤ a ∧ ∀ y, y ∈ r → r.foldl (fun x y => if y < x then y else x) a ≤ y := by
    intro r
    induction r with
    | nil => intro a; exact ⟨.inl rfl, Int.le_refl _, fun y h => by cases h⟩
    | cons b r ih =>
      intro a
      rw [List.foldl_cons]
      obtain ⟨h1, h2, h3⟩ := ih (if b < a then b else a)
      refine ⟨?_, ?_, fun y hy => ?_⟩
      · rcases h1 with h1 | h1
        · by_cases hb : b < a
          · rw [if_pos hb] at h1 ⊢
            right
            rw [h1]
            exact List.mem_cons_self
          · rw [if_neg hb] at h1 ⊢
            exact .inl h1
        · exact .inr (List.mem_cons_of_mem _ h1)
      · refine Int.le_trans h2 ?_
        split <;> omega
      · rcases List.mem_cons.mp hy with rfl | hy
        · refine Int.le_trans h2 ?_
          split <;> omega
        · exact h3 y hy
  intro ns m h
  cases ns with
  | nil => cases h
  | cons a r =>
    cases h
    obtain ⟨h1, h2, h3⟩ := go r a
    refine ⟨?_, fun y hy => ?_⟩
    · rcases h1 with h1 | h1
      · rw [h1]; exact List.mem_cons_self
      · exact List.mem_cons_of_mem _ h1
    · rcases List.mem_cons.mp hy with rfl | hy
      · exact h2
      · exact h3 y hy
theorem lmem_max {ns : List Int} {m k : Int} (h : maxI ns = some m) (hk : k ∈ ns) (hm : ∀ y, y ∈ ns → y ≤ k) : k = m := by
  obtain ⟨h1, h2⟩ := maxI_is h
  have := h2 k hk
  have := hm m h1
  omega
theorem lmem_min {ns : List Int} {m k : Int} (h : minI ns = some m) (hk : k ∈ ns) (hm : ∀ y, y ∈ ns → k ≤ y) : k = m := by
  obtain ⟨h1, h2⟩ := minI_is h
  have := h2 k hk
  have := hm m h1
  omega
theorem maxI_ne {ns : List Int} {m : Int} (h : maxI ns = some m) : 0 < ns.length := by
  cases ns with
  | nil => cases h
  | cons => simp
theorem minI_ne {ns : List Int} {m : Int} (h : minI ns = some m) : 0 < ns.length := by
  cases ns with
  | nil => cases h
  | cons => simp

/-! ### the calls -/
theorem cn_len : CalN X X.K (.builtin "len") dLen := ⟨⟨_, CallR.or call_len_seq call_len_str, fun G H xs ds nv Q xg hv hg hq => by
  unfold dLen at hg
  split at hg
  · cases hg
    obtain ⟨x, rfl, hx⟩ := hv.one
    obtain ⟨a, vs, rfl, h1, h2⟩ := hx.lst_inv xg
    refine .inl ⟨a, vs, rfl, .inl h1, ?_⟩
    rw [dps_len _ _ h2]
    exact hq _ (.int _)
  · cases hg
    obtain ⟨x, rfl, hx⟩ := hv.one
    obtain ⟨a, vs, rfl, h1, h2⟩ := hx.tup_inv xg
    refine .inl ⟨a, vs, rfl, .inr h1, ?_⟩
    rw [dps_len _ _ h2]
    exact hq _ (.int _)
  · split at hg
    · rename_i hz
      cases hg
      obtain ⟨x, rfl, hx⟩ := hv.one
      rw [hx.str_inv]
      exact .inr ⟨_, rfl, fits_iff.mp hz, hq _ (.int _)⟩
    · cases hg
  · cases hg⟩⟩
theorem cn_abs : CalN X X.K (.builtin "abs") dAbs := ⟨⟨_, call_abs, fun G H xs ds nv Q xg hv hg hq => by
  unfold dAbs at hg
  split at hg
  · cases hg
    obtain ⟨x, rfl, hx⟩ := hv.one
    rw [hx.int_inv]
    exact ⟨_, rfl, hq _ (.int _)⟩
  · cases hg⟩⟩
theorem cn_int : CalN X X.K (.type "int") dIntOf := ⟨⟨_, call_int1, fun G H xs ds nv Q xg hv hg hq => by
  unfold dIntOf at hg
  split at hg
  · cases hg
    obtain ⟨x, rfl, hx⟩ := hv.one
    rw [hx.int_inv]
    exact .inl ⟨_, rfl, hq _ (.int _)⟩
  · cases hg
    obtain ⟨x, rfl, hx⟩ := hv.one
    rw [hx.bl_inv]
    exact .inr ⟨_, rfl, hq _ (.int _)⟩
  · cases hg⟩⟩
theorem cn_bool : CalN X X.K (.type "bool") dBoolOf := ⟨⟨_, call_bool1, fun G H xs ds nv Q xg hv hg hq => by
  unfold dBoolOf at hg
  split at hg
  · cases hg
    obtain ⟨x, rfl, hx⟩ := hv.one
    rw [hx.int_inv]
    exact .inl ⟨_, rfl, hq _ (.bl _)⟩
  · cases hg
    obtain ⟨x, rfl, hx⟩ := hv.one
    rw [hx.bl_inv]
    exact .inr ⟨_, rfl, hq _ (.bl _)⟩
  · cases hg⟩⟩
theorem cn_str : CalN X X.K (.type "str") dStrOf := ⟨⟨_, CallR.or call_str_int SkE.call_str_str, fun G H xs ds nv Q xg hv hg hq => by
  unfold dStrOf at hg
  split at hg
  · split at hg
    · rename_i hz
      cases hg
      obtain ⟨x, rfl, hx⟩ := hv.one
      rw [hx.int_inv]
      exact .inl ⟨_, rfl, hz, hq _ (.str _)⟩
    · cases hg
  · cases hg
    obtain ⟨x, rfl, hx⟩ := hv.one
    rw [hx.str_inv]
    exact .inr ⟨_, rfl, hq _ (.str _)⟩
  · cases hg⟩⟩
theorem cn_repr : CalN X X.K (.builtin "repr") dRepr := ⟨⟨_, SkE.call_repr_int, fun G H xs ds nv Q xg hv hg hq => by
  unfold dRepr at hg
  split at hg
  · split at hg
    · rename_i hz
      cases hg
      obtain ⟨x, rfl, hx⟩ := hv.one
      rw [hx.int_inv]
      exact ⟨_, rfl, hz, hq _ (.str _)⟩
    · cases hg
  · cases hg⟩⟩
theorem cn_sum (hc : X.calm = true) : CalN X X.K (.builtin "sum") dSum := ⟨⟨_, cr_sum hc, fun G H xs ds nv Q xg hv hg hq => by
  unfold dSum at hg
  split at hg
  · rename_i es
    cases q : asI es with
    | none => rw [q] at hg; cases hg
    | some ns =>
      rw [q] at hg
      cases hg
      obtain ⟨x, rfl, hx⟩ := hv.one
      obtain ⟨a, vs, rfl, h1, h2⟩ := hx.lst_inv xg
      have := asI_vs h2 q
      subst this
      exact ⟨a, ns, rfl, h1, hq _ (.int _)⟩
  · cases hg⟩⟩
theorem cn_max (hc : X.calm = true) : CalN X X.K (.builtin "max") dMax := ⟨⟨_, CallR.or (cr_max hc) (call_max2 hc), fun G H xs ds nv Q xg hv hg hq => by
  unfold dMax at hg
  split at hg
  · rename_i es
    cases q : asI es with
    | none => rw [q] at hg; cases hg
    | some ns =>
      cases q2 : maxI ns with
      | none => rw [q] at hg; simp [q2] at hg
      | some m =>
        rw [q] at hg
        simp [q2] at hg
        subst hg
        obtain ⟨x, rfl, hx⟩ := hv.one
        obtain ⟨a, vs, rfl, h1, h2⟩ := hx.lst_inv xg
        have := asI_vs h2 q
        subst this
        refine .inl ⟨a, ns, rfl, h1, maxI_ne q2, fun k hk hm => ?_⟩
        rw [lmem_max q2 hk hm]
        exact hq _ (.int _)
  · cases hg
    obtain ⟨x, y, rfl, hx, hy⟩ := hv.two
    rw [hx.int_inv, hy.int_inv]
    exact .inr ⟨_, _, rfl, hq _ (.int _)⟩
  · cases hg⟩⟩
theorem cn_min (hc : X.calm = true) : CalN X X.K (.builtin "min") dMin := ⟨⟨_, CallR.or (cr_min hc) (call_min2 hc), fun G H xs ds nv Q xg hv hg hq => by
  unfold dMin at hg
  split at hg
  · rename_i es
    cases q : asI es with
    | none => rw [q] at hg; cases hg
    | some ns =>
      cases q2 : minI ns with
      | none => rw [q] at hg; simp [q2] at hg
      | some m =>
        rw [q] at hg
        simp [q2] at hg
        subst hg
        obtain ⟨x, rfl, hx⟩ := hv.one
        obtain ⟨a, vs, rfl, h1, h2⟩ := hx.lst_inv xg
        have := asI_vs h2 q
        subst this
        refine .inl ⟨a, ns, rfl, h1, minI_ne q2, fun k hk hm => ?_⟩
        rw [lmem_min q2 hk hm]
        exact hq _ (.int _)
  · cases hg
    obtain ⟨x, y, rfl, hx, hy⟩ := hv.two
    rw [hx.int_inv, hy.int_inv]
    exact .inr ⟨_, _, rfl, hq _ (.int _)⟩
  · cases hg⟩⟩
theorem cn_list : CalN X X.K (.type "list") dList := ⟨⟨_, call_list_of, fun G H xs ds nv Q xg hv hg hq => by
  unfold dList at hg
  split at hg
  · cases hg
    obtain ⟨x, rfl, hx⟩ := hv.one
    obtain ⟨a, vs, rfl, h1, h2⟩ := hx.lst_inv xg
    exact ⟨a, vs, rfl, .inl h1, fun l hl => hq l vs hl h2⟩
  · cases hg
    obtain ⟨x, rfl, hx⟩ := hv.one
    obtain ⟨a, vs, rfl, h1, h2⟩ := hx.tup_inv xg
    exact ⟨a, vs, rfl, .inr h1, fun l hl => hq l vs hl h2⟩
  · cases hg⟩⟩
theorem cn_tuple : CalN X X.K (.type "tuple") dTuple := ⟨⟨_, call_tuple_of, fun G H xs ds nv Q xg hv hg hq => by
  unfold dTuple at hg
  split at hg
  · cases hg
    obtain ⟨x, rfl, hx⟩ := hv.one
    obtain ⟨a, vs, rfl, h1, h2⟩ := hx.lst_inv xg
    exact ⟨a, vs, rfl, .inl ⟨h1, fun l hl => hq l vs hl h2⟩⟩
  · cases hg
    obtain ⟨x, rfl, hx⟩ := hv.one
    cases hx with
    | fz hx =>
      cases hx with
      | tup h1 h2 => exact ⟨_, _, rfl, .inr ⟨ex_t xg h1, hq _ (.tup h1 h2)⟩⟩
  · cases hg⟩⟩
theorem cn_any (hc : X.calm = true) : CalN X X.K (.builtin "any") dAny := ⟨⟨_, cr_any hc, fun G H xs ds nv Q xg hv hg hq => by
  unfold dAny at hg
  split at hg
  · rename_i es
    cases q : asB es with
    | none => rw [q] at hg; cases hg
    | some ns =>
      rw [q] at hg
      cases hg
      obtain ⟨x, rfl, hx⟩ := hv.one
      obtain ⟨a, vs, rfl, h1, h2⟩ := hx.lst_inv xg
      have := asB_vs h2 q
      subst this
      exact ⟨a, ns, rfl, h1, hq _ (.bl _)⟩
  · cases hg⟩⟩
theorem cn_all (hc : X.calm = true) : CalN X X.K (.builtin "all") dAll := ⟨⟨_, cr_all hc, fun G H xs ds nv Q xg hv hg hq => by
  unfold dAll at hg
  split at hg
  · rename_i es
    cases q : asB es with
    | none => rw [q] at hg; cases hg
    | some ns =>
      rw [q] at hg
      cases hg
      obtain ⟨x, rfl, hx⟩ := hv.one
      obtain ⟨a, vs, rfl, h1, h2⟩ := hx.lst_inv xg
      have := asB_vs h2 q
      subst this
      exact ⟨a, ns, rfl, h1, hq _ (.bl _)⟩
  · cases hg⟩⟩

/-! ### sorted -/
theorem likes_of {ds : List D} (h : likes ds = true) : PySem.W.AllAlike (ds.map id) := by
  rw [List.map_id]
  intro d hd d' hd'
  unfold likes at h
  rw [List.all_eq_true] at h
  have := h d hd
  rw [List.all_eq_true] at this
  exact this d' hd'
theorem sortable_of {ds : List D} (h : sortable ds = true) : PySem.W.Sortable (ds.map id) := by
  rw [List.map_id]
  unfold sortable at h
  rw [Bool.or_eq_true, List.all_eq_true, List.all_eq_true] at h
  rcases h with h | h
  · left
    intro d hd
    have := h d hd
    unfold isTupC at this
    split at this
    · exact ⟨_, _, rfl⟩
    · cases this
  · right
    intro d hd
    have := h d hd
    unfold isOthC at this
    split at this
    · cases this
    · cases this
    · rename_i h1 h2
      exact ⟨h1, h2⟩
/-- values that stand for data, both in the two heaps -/
theorem each_of_dps {pins : List (Addr × Obj)} {σ : L2.St} {G H : Hp} {s : Shared} (I : Inv X pins σ H s) (xg : Ex G H) : ∀ {vs : List V} {us : List Value} {ds : List D}, Vals vs us → DpAll X.K G vs ds →
    PySem.W.EachIs (fun u d => ∃ v, RelV v u ∧ Dp X.K G v d) us ds ∧ PySem.W.EachIs (fun u d => ∃ as, Reads s.heap u (id d) as) us ds
  | _, _, _, .nil, h => by
    cases h
    exact ⟨.nil, .nil⟩
  | _, _, _, .cons r t, h => by
    cases h with
    | cons h1 h2 =>
      obtain ⟨a, b⟩ := each_of_dps I xg t h2
      exact ⟨.cons ⟨_, r, h1⟩ a, .cons (Dp.reads I _ _ _ (dp_ex xg _ _ h1) r) b⟩
theorem dps_of_each {G : Hp} : ∀ {us : List Value} {ds : List D}, PySem.W.EachIs (fun u d => ∃ v, RelV v u ∧ Dp K G v d) us ds → ∃ vs, Vals vs us ∧ DpAll K G vs ds
  | _, _, .nil => ⟨[], .nil, .nil⟩
  | _, _, .cons ⟨v, h1, h2⟩ t => by
    obtain ⟨vs, a, b⟩ := dps_of_each t
    exact ⟨v :: vs, .cons h1 a, .cons h2 b⟩
def rSortedD (K : Frag) : List V → Hp → VK → Prop := fun xs H Q => ∃ G a vs ds, xs = [V.ref a] ∧ Ex G H ∧ SqL K H a vs ∧ DpAll K G vs ds ∧ okSort ds = true ∧ ∀ p vs', H p = none → DpAll K G vs' (sortD false ds) → Q (.ref p) (upd H p (.lst vs'))
theorem cr_sortedD (hu : X.A.units + 64 < cLine) : CallR X (.builtin "sorted") (rSortedD X.K) := by
  intro pins s σ H xs us Q I r h
  obtain ⟨G, a, vs, ds, rfl, xg, hs, hd, ok, q⟩ := h
  unfold okSort at ok
  rw [Bool.and_eq_true, Bool.and_eq_true, Bool.and_eq_true] at ok
  obtain ⟨⟨⟨o1, o2⟩, o3⟩, o4⟩ := ok
  obtain ⟨its, rv, hl, hz⟩ := I.list hs
  rw [Vals.ref1 r]
  obtain ⟨e1, e2⟩ := each_of_dps I xg rv hd
  refine PySem.W.sorted_data (enc := id) hl.isList e1 e2 (likes_of o1) (sortable_of o2) (fits_iff.mp o3) (fun b hb => ?_) fun out ho eo => ?_
  · rw [List.all_eq_true] at o4
    have := of_decide_eq_true (o4 b hb)
    show X.A.units + 2 + b.depth < cLine
    omega
  · obtain ⟨vs', r', d'⟩ := dps_of_each eo
    obtain ⟨ep, he'⟩ := PyProof.Rows.sortedAll_at s.heap its out.toArray
    have hlen : vs'.length ≤ sizeLine := by
      rw [r'.length, ho]
      exact fits_iff.mp o3
    exact ⟨.ref _, upd H (s.heap.objs.size + 1) (.lst vs'), I.laid (t' := s.toks) (fun _ _ => PyProof.Rows.sortedAll_old) (Nat.le_succ _) ⟨hlen, out, ep, r', he'⟩, rfl, q _ _ (I.hok.fresh (Nat.le_succ _)) d'⟩
theorem cn_sorted (hu : X.A.units + 64 < cLine) : CalN X X.K (.builtin "sorted") dSorted := ⟨⟨_, cr_sortedD hu, fun G H xs ds nv Q xg hv hg hq => by
  unfold dSorted at hg
  split at hg
  · split at hg
    · rename_i ok
      cases hg
      obtain ⟨x, rfl, hx⟩ := hv.one
      obtain ⟨a, vs, rfl, h1, h2⟩ := hx.lst_inv xg
      exact ⟨G, a, vs, _, rfl, xg, h1, h2, ok, fun p vs' hp hd => hq p vs' hp hd⟩
    · cases hg
  · cases hg⟩⟩

/-! ### isinstance -/
def tyD : D → String
  | .none => "NoneType"
  | .bool _ => "bool"
  | .int _ => "int"
  | .str _ => "str"
  | .list _ => "list"
  | .tuple _ => "tuple"
  | .dict _ => "dict"
def isD (T : String) (d : D) : Bool := tyD d == T || (tyD d == "bool" && T == "int")
def cIsi (f : D → Bool) (c : Env → R Lv) : Env → R NV := fun e => (c e).bind fun l e1 => ofO ((l.get e1).map fun d => .sc (.bool (f d))) e1
/-- what isinstance says of data, for one built-in type -/
def KitT (T : String) : Prop := kitB "NoneType" T = some ("NoneType" == T) ∧ kitB "bool" T = some ("bool" == T || T == "int") ∧ kitB "int" T = some ("int" == T) ∧ kitB "str" T = some ("str" == T) ∧ kitB "list" T = some ("list" == T) ∧ kitB "tuple" T = some ("tuple" == T)
theorem kt_bool : KitT "bool" := by refine ⟨?_, ?_, ?_, ?_, ?_, ?_⟩ <;> decide +kernel
theorem kt_int : KitT "int" := by refine ⟨?_, ?_, ?_, ?_, ?_, ?_⟩ <;> decide +kernel
theorem kt_str : KitT "str" := by refine ⟨?_, ?_, ?_, ?_, ?_, ?_⟩ <;> decide +kernel
theorem kt_list : KitT "list" := by refine ⟨?_, ?_, ?_, ?_, ?_, ?_⟩ <;> decide +kernel
theorem kt_tuple : KitT "tuple" := by refine ⟨?_, ?_, ?_, ?_, ?_, ?_⟩ <;> decide +kernel
theorem kt_dict : KitT "dict" := by refine ⟨?_, ?_, ?_, ?_, ?_, ?_⟩ <;> decide +kernel
theorem kit_view {G H : Hp} {x : V} {d : D} (xg : Ex G H) (h : Vw K G H x d) : ∃ t, TyX K H x t ∧ ∀ T, KitT T → PySem.W.kitOne K t (.type T) = some (isD T d) := by
  cases d with
  | none => rw [h.non_inv]; refine ⟨_, .base .non, fun T ⟨k1, k2, k3, k4, k5, k6⟩ => ?_⟩; rw [kit_ty k1]; simp [isD, tyD]
  | bool b => rw [h.bl_inv]; refine ⟨_, .base (.bl b), fun T ⟨k1, k2, k3, k4, k5, k6⟩ => ?_⟩; rw [kit_ty k2]; simp [isD, tyD]
  | int i => rw [h.int_inv]; refine ⟨_, .base (.int i), fun T ⟨k1, k2, k3, k4, k5, k6⟩ => ?_⟩; rw [kit_ty k3]; simp [isD, tyD]
  | str z => rw [h.str_inv]; refine ⟨_, .base (.str z), fun T ⟨k1, k2, k3, k4, k5, k6⟩ => ?_⟩; rw [kit_ty k4]; simp [isD, tyD]
  | list ds =>
    obtain ⟨a, vs, rfl, h1, _⟩ := h.lst_inv xg
    have e : ∀ T, KitT T → PySem.W.kitOne K (.type "list") (.type T) = some (isD T (.list ds)) := fun T ⟨k1, k2, k3, k4, k5, k6⟩ => by rw [kit_ty k5]; simp [isD, tyD]
    rcases h1 with (h1 | ⟨o, h1⟩) | ⟨o, n, us, h1, h2, h3, h4, h5⟩
    · exact ⟨_, .base (.lst h1), e⟩
    · exact ⟨_, .base (.frz h1), e⟩
    · exact ⟨_, .kList h1 h2, e⟩
  | tuple ds =>
    obtain ⟨a, vs, rfl, h1, _⟩ := h.tup_inv xg
    have e : ∀ T, KitT T → PySem.W.kitOne K (.type "tuple") (.type T) = some (isD T (.tuple ds)) := fun T ⟨k1, k2, k3, k4, k5, k6⟩ => by rw [kit_ty k6]; simp [isD, tyD]
    rcases h1 with (h1 | ⟨o, h1⟩) | ⟨o, n, us, h1, h2, h3, h4⟩
    · exact ⟨_, .base (.tup h1), e⟩
    · exact ⟨_, .fTuple h1, e⟩
    · exact ⟨_, .kTuple h1 h2, e⟩
  | dict ds =>
    cases h with
    | fz h => cases h
/-- isinstance(x, T), T a built-in type -/
theorem dn_isi (T : String) {a : Expr} {x : Str} {p px pos : Pos} {ca : Env → R Lv} (k : KitT T) (ha : PE X a (tE X.K mg C W ca)) (hm : X.mg "isinstance" = none) (hmx : X.mg x = none) (hbx : bootBuiltins x = some (.type T)) (hg : Gl X "isinstance" := by rfl) (hgx : Gl X x := by rfl)
    (hn : x ≠ "__name__" := by decide) (hdb : (x == ("__debug__" : Str)) = false := by decide)
    (he : starEach [a, .Name x px] X.env = (false, eval a X.env) :: starEach [.Name x px] X.env := by rfl) (he2 : starEach [.Name x px] X.env = (false, eval (.Name x px) X.env) :: starEach [] X.env := by rfl) (hpl : (backTo pos (starEach [.Name x px] X.env)).any (·.1) = false := by rfl) :
    PE X (.Call (.Name "isinstance" p) [a, .Name x px] [] pos) (tN X.K mg C W (cIsi (isD T) ca)) :=
  PE.to (pe_callB call_isi hg hm PyProof.Rows.boot_isinstance (pa_cons ha (pa_cons (pe_bltn (v := .ty T) hgx hmx hbx rfl hn hdb) pa_nil he2) he) (by decide) (by decide) he hpl) fun σ H Q ⟨G, e, Sg, g, p⟩ => ⟨G, e, Sg, g, (Post.bind p).imp fun l e1 G1 H1 S1 _ g1 x1 p1 v hv => by
    obtain ⟨nv, h1, h2⟩ := Post.ofO p1
    cases q : l.get e1 with
    | none => rw [q] at h1; cases h1
    | some d =>
      rw [q] at h1
      cases h1
      obtain ⟨t, ht, hk⟩ := kit_view g1.gh (hv.view g1 q)
      exact ⟨v, .ty T, t, .type T, isD T d, rfl, .ty T, ht, hk T k, h2 G1 H1 S1 g1 (Ex.refl G1) _ (.bl _)⟩⟩
def tTy (Ts : List String) : TA := fun _ H Q => Q (Ts.map V.ty) H
theorem ta_nil : PA X [] (tTy []) := pa_nil
theorem ta_cons {T : String} {Ts : List String} {x : Str} {px : Pos} {es : List Expr} (hgx : Gl X x) (hmx : X.mg x = none) (hbx : bootBuiltins x = some (.type T)) (h : PA X es (tTy Ts)) (hn : x ≠ "__name__" := by decide) (hdb : (x == ("__debug__" : Str)) = false := by decide)
    (hs : starEach (.Name x px :: es) X.env = (false, eval (.Name x px) X.env) :: starEach es X.env := by rfl) : PA X (.Name x px :: es) (tTy (T :: Ts)) :=
  pa_cons (pe_bltn (v := .ty T) hgx hmx hbx rfl hn hdb) h hs
theorem kitAny_of {t : Value} {d : D} : ∀ {Ts : List String}, (∀ T, T ∈ Ts → PySem.W.kitOne K t (.type T) = some (isD T d)) → PySem.W.kitAny K t (Ts.map Value.type) = some (Ts.any fun T => isD T d)
  | [], _ => rfl
  | T :: Ts, h => by
    have ih := kitAny_of (Ts := Ts) fun T' h' => h T' (List.mem_cons_of_mem _ h')
    refine kitAny_cons (h T List.mem_cons_self) (fun z => ?_) (fun z => ?_)
    · rw [List.any_cons, z, Bool.false_or]
      exact ih
    · rw [List.any_cons, z, Bool.true_or]
theorem clsVs : ∀ (Ts : List String), Paired ClsV (Ts.map V.ty) (Ts.map Value.type)
  | [] => .nil
  | T :: Ts => .cons (.ty T) (clsVs Ts)
/-- isinstance(x, (T1, T2, ..)) -/
theorem dn_isiT (Ts : List String) {a : Expr} {es : List Expr} {kk : Nat} {p px pos : Pos} {ca : Env → R Lv} (k : ∀ T, T ∈ Ts → KitT T) (hz : Ts.length ≤ sizeLine) (ha : PE X a (tE X.K mg C W ca)) (hes : PA X es (tTy Ts)) (hm : X.mg "isinstance" = none) (hg : Gl X "isinstance" := by rfl)
    (he : starEach [a, .Tuple es kk px] X.env = (false, eval a X.env) :: starEach [.Tuple es kk px] X.env := by rfl) (he2 : starEach [.Tuple es kk px] X.env = (false, eval (.Tuple es kk px) X.env) :: starEach [] X.env := by rfl) (hpl : (backTo pos (starEach [.Tuple es kk px] X.env)).any (·.1) = false := by rfl) :
    PE X (.Call (.Name "isinstance" p) [a, .Tuple es kk px] [] pos) (tN X.K mg C W (cIsi (fun d => Ts.any fun T => isD T d) ca)) :=
  PE.to (pe_callB call_isiT hg hm PyProof.Rows.boot_isinstance (pa_cons ha (pa_cons (pe_tup hes) pa_nil he2) he) (by decide) (by decide) he hpl) fun σ H Q ⟨G, e, Sg, g, p⟩ => ⟨G, e, Sg, g, (Post.bind p).imp fun l e1 G1 H1 S1 _ g1 x1 p1 v hv => by
    obtain ⟨nv, h1, h2⟩ := Post.ofO p1
    cases q : l.get e1 with
    | none => rw [q] at h1; cases h1
    | some d =>
      rw [q] at h1
      cases h1
      refine ⟨by rw [List.length_map]; exact hz, fun tp htp => ?_⟩
      have g2 := g1.new (p := tp) (o := .tup (Ts.map V.ty)) htp
      have hv2 : Vw X.K G1 (upd H1 tp (.tup (Ts.map V.ty))) v d := hv.view g2 q
      obtain ⟨t, ht, hk⟩ := kit_view g2.gh hv2
      exact ⟨v, tp, _, t, _, _, rfl, upd_same, clsVs Ts, ht, kitAny_of fun T hT => hk T (k T hT), h2 G1 _ S1 g2 (Ex.refl G1) _ (.bl _)⟩⟩
end
end DL

/-! Writes to own lists, methods. -/
namespace DL
open PySem PySem.Spec PyProof.Rows L2
open Evl (Ex ex_l ex_t ex_rd)

/-! ### mirrors -/
/-- x.method(..) that writes the list that slot i owns -/
def cMut (i : Nat) (g : List D → List D → Option (D × List D)) (ca : Env → R (List Lv)) : Env → R Lv := fun e => match e.getD i none with
  | some (.list _) => (ca e).bind fun ls e1 => match e1.getD i none, vals ls with
    | some (.list ds), some as => (match g ds as with
      | some (r, ds') => .ok (.val r) (e1.set i (some (.list ds')))
      | none => .st)
    | _, _ => .st
  | _ => .st
/-- x[..] = .. of the list that slot i owns -/
def cStore (i : Nat) (cv ci : Env → R Lv) : Env → R Fl := fun e => (cv e).bind fun l e1 => match l with
  | .val d => (match e1.getD i none with
    | some _ => (ci e1).bind fun m e2 => (match e2.getD i none, m.get e2 with
      | some (.list ds), some (.int k) => (match ixN ds.length k with
        | some j => .ok .nx (e2.set i (some (.list (ds.set j d))))
        | none => .st)
      | _, _ => .st)
    | none => .st)
  | _ => .st
def gApp : List D → List D → Option (D × List D)
  | ds, [d] => if fits (ds.length + 1) = true then some (.none, ds ++ [d]) else none
  | _, _ => none
def gExt : List D → List D → Option (D × List D)
  | ds, [.list es] => if fits (ds.length + es.length) = true then some (.none, ds ++ es) else none
  | _, _ => none
def gPop : List D → List D → Option (D × List D)
  | ds, [] => (ds[ds.length - 1]?).map fun d => (d, ds.dropLast)
  | ds, [.int i] => if inR i = true then ((seqIndex? i ds.length).bind fun k => (ds[k]?).map fun d => (d, ds.eraseIdx k)) else none
  | _, _ => none
def gRev : List D → List D → Option (D × List D)
  | ds, [] => some (.none, ds.reverse)
  | _, _ => none
def gIns : List D → List D → Option (D × List D)
  | ds, [.int i, d] => if (fits (ds.length + 1) && decide (0 ≤ i) && inR i) = true then some (.none, ds.take i.toNat ++ [d] ++ ds.drop i.toNat) else none
  | _, _ => none

section
variable {X : Cx} {K : Frag} {mg : MG} {C : Ct} {W : WX} {rsh : Sh}
/-- an own list is written where it lies -/
theorem Good.write {G H : Hp} {σ : L2.St} {e : Env} {Sg : Nat → ASet} {i : Nat} {ds : List D} (g : Good K mg C G H σ e Sg) (ht : C.Tg[i]? = some (.lst .fz)) (he : e.getD i none = some (.list ds)) :
    ∃ p xs, σ[i]? = some (some (.ref p)) ∧ H p = some (.lst xs) ∧ DpAll K G xs ds ∧ ∀ xs' ds', DpAll K G xs' ds' → Good K mg C G (upd H p (.lst xs')) σ (e.set i (some (.list ds'))) Sg := by
  have he := Good.getD (G := G) (H := H) (σ := σ) (Sg := Sg) he
  obtain ⟨v, h1, h2⟩ := g.slot i _ _ ht he
  obtain ⟨p, xs, es, rfl, e2, hp, sp, hd⟩ := own_lst_inv h2
  cases e2
  refine ⟨p, xs, h1, hp, hd, fun xs' ds' hd' => ?_⟩
  obtain ⟨p1, p2, p3⟩ := g.gs i p sp
  refine ⟨g.ls, by rw [List.length_set]; exact g.le, fun j sh d q1 q2 => ?_, g.dis, fun j a q => ?_, fun a u q => ?_, g.g0, fun a u q1 q2 => ?_, fun a q => ?_, g.gn, g.pin, fun j sh q1 q2 q3 => ?_⟩
  · rcases get_set q2 with ⟨rfl, z, _⟩ | ⟨hj, q2⟩
    · cases z
      rw [ht] at q1
      cases q1
      exact ⟨.ref p, h1, own_lst upd_same sp hd'⟩
    · obtain ⟨w, q3, q4⟩ := g.slot j sh d q1 q2
      refine ⟨w, q3, q4.mono (Ex.refl _) fun a ha => upd_ne fun z => ?_⟩
      subst z
      exact hj (g.dis j i a ha sp)
  · obtain ⟨q1, q2, q3⟩ := g.gs j a q
    refine ⟨q1, ?_, q3⟩
    by_cases ha : a = p
    · subst ha
      rw [upd_same]
      simp
    · rw [upd_ne ha]
      exact q2
  · have z : a ≠ p := fun z => by rw [z, p1] at q; cases q
    rw [upd_ne z]
    exact g.gh a u q
  · by_cases ha : a = p
    · subst ha
      rcases p3 with z | z
      · rw [z] at q1; cases q1
      · exact absurd z q2
    · rw [upd_ne ha]
      exact g.fr a u q1 q2
  · by_cases ha : a = p
    · subst ha
      rw [upd_same]
      simp
    · rw [upd_ne ha]
      exact g.al a q
  · by_cases hj : j = i
    · subst hj
      have hlt : j < e.length := (List.getElem?_eq_some_iff.mp he).1
      exact ⟨_, by rw [List.getElem?_set_self hlt]⟩
    · rw [List.getElem?_set_ne (Ne.symm hj)]
      exact g.par j sh q1 q2 q3

structure MutN (X : Cx) (K : Frag) (id : String) (g : List D → List D → Option (D × List D)) : Prop where
  run : ∃ r : V → List V → Hp → VK → Prop, MtM X id r ∧ ∀ (G H : Hp) (p : Addr) (xs : List V) (ds : List D) (vs : List V) (as : List D) (r' : D) (ds' : List D) (Q : VK), Ex G H → H p = some (.lst xs) → DpAll K G xs ds → DpAll K G vs as → g ds as = some (r', ds') →
    (∀ v xs', Dp K G v r' → DpAll K G xs' ds' → Q v (upd H p (.lst xs'))) → r (.ref p) vs H Q
section
variable {i : Nat} {a : Expr} {es : List Expr} {x name : Str} {p apos cpos : Pos} {id : String} {g : List D → List D → Option (D × List D)} {c : Env → R (List Lv)}
theorem de_mut (i : Nat) (pa : PlainAttrs "list") (slot : Slot "list" name id) (hty : typeOf (.builtin id) = pure (.type "method_descriptor")) (hm : MutN X X.K id g) (ha : PA X (a :: es) (tAs X.K mg C W c))
    (ht : C.Tg[i]? = some (.lst .fz) := by rfl) (hN : X.N[i]? = some x := by rfl) (hv : Vis X.env.scope x := by first | exact Or.inl rfl | exact Or.inr (Or.inl rfl) | exact Or.inr (Or.inr rfl)) (hd : (x == ("__debug__" : Str)) = false := by decide) (hcd : (x == ("__classdict__" : Str)) = false := by decide)
    (hbase : attributeBase (.Name x p) name X.env (eval (.Name x p) X.env) = eval (.Name x p) X.env := by rfl)
    (hfew : ((backTo cpos (starEach (a :: es) X.env)).all (fun x => !x.1) && (backToKw cpos (keywordEach [] X.env)).all (fun x => x.1.isSome)
      && decide ((a :: es).length + ([] : List Keyword).length + (if ([] : List Keyword).isEmpty then 0 else 1) < 30)) = true := by rfl)
    (hline : (apos.endLine == cpos.line) = true := by rfl) (hs : starEach (a :: es) X.env = (false, eval a X.env) :: starEach es X.env := by rfl) (hplain : (backTo cpos (starEach es X.env)).any (·.1) = false := by rfl) :
    PE X (.Call (.Attribute (.Name x p) name apos) (a :: es) [] cpos) (tE X.K mg C W (cMut i g c)) := by
  obtain ⟨r, hr, hs'⟩ := hm.run
  refine PE.to (pe_bm pa slot hty hr (pe_var hN hv hd hcd) ha hbase hfew hline hs hplain) fun σ H Q ⟨G, e, Sg, gd, p⟩ => ?_
  unfold cMut at p
  split at p
  · rename_i ds0 he0
    obtain ⟨l0, xs0, h1, h2, h3, _⟩ := gd.write ht he0
    refine ⟨.ref l0, h1, .inl ⟨rfl, xs0, .inl (.inl h2)⟩, G, e, Sg, gd, (Post.bind p).imp fun ls e1 G1 H1 S1 _ g1 x1 p1 vs hvs => ?_⟩
    split at p1
    · rename_i ds as he1 hls
      split at p1
      · rename_i r' ds' hg
        obtain ⟨l1, xs1, q1, q2, q3, q4⟩ := g1.write ht he1
        rw [h1] at q1
        cases q1
        exact hs' G1 H1 l0 xs1 ds vs as r' ds' Q g1.gh q2 q3 (hvs.vals hls) hg fun v xs' hv' hx' => p1 G1 _ S1 (q4 xs' ds' hx') (Ex.refl G1) v hv'
      · exact False.elim p1
    · exact False.elim p1
  · exact False.elim p
theorem de_mut0 (i : Nat) (pa : PlainAttrs "list") (slot : Slot "list" name id) (hty : typeOf (.builtin id) = pure (.type "method_descriptor")) (hm : MutN X X.K id g)
    (ht : C.Tg[i]? = some (.lst .fz) := by rfl) (hN : X.N[i]? = some x := by rfl) (hv : Vis X.env.scope x := by first | exact Or.inl rfl | exact Or.inr (Or.inl rfl) | exact Or.inr (Or.inr rfl)) (hd : (x == ("__debug__" : Str)) = false := by decide) (hcd : (x == ("__classdict__" : Str)) = false := by decide)
    (hbase : attributeBase (.Name x p) name X.env (eval (.Name x p) X.env) = eval (.Name x p) X.env := by rfl) (hline : (apos.endLine == cpos.line) = true := by rfl) :
    PE X (.Call (.Attribute (.Name x p) name apos) [] [] cpos) (tE X.K mg C W (cMut i g cNil)) := by
  obtain ⟨r, hr, hs'⟩ := hm.run
  refine PE.to (pe_bm0 pa slot hty hr (pe_var hN hv hd hcd) hbase hline) fun σ H Q ⟨G, e, Sg, gd, p⟩ => ?_
  unfold cMut at p
  split at p
  · rename_i ds0 he0
    obtain ⟨l0, xs0, h1, h2, h3, _⟩ := gd.write ht he0
    have p1 := (Post.bind p) G H Sg gd (Ex.refl G)
    dsimp only at p1
    split at p1
    · rename_i ds as he1 hls
      split at p1
      · rename_i r' ds' hg
        obtain ⟨l1, xs1, q1, q2, q3, q4⟩ := gd.write ht he1
        rw [h1] at q1
        cases q1
        have : as = [] := by
          have hls : some [] = some as := hls
          exact (Option.some.inj hls).symm
        subst this
        exact ⟨.ref l0, h1, .inl ⟨rfl, xs0, .inl (.inl h2)⟩, hs' G H l0 xs1 ds [] [] r' ds' Q gd.gh q2 q3 .nil hg fun v xs' hv' hx' => p1 G _ Sg (q4 xs' ds' hx') (Ex.refl G) v hv'⟩
      · exact False.elim p1
    · exact False.elim p1
  · exact False.elim p
end
theorem dps_set {G : Hp} : ∀ {vs : List V} {ds : List D} {v : V} {d : D} (j : Nat), DpAll K G vs ds → Dp K G v d → DpAll K G (vs.set j v) (ds.set j d)
  | _, _, _, _, _, .nil, _ => .nil
  | _, _, _, _, 0, .cons a b, h => .cons h b
  | _, _, _, _, j + 1, .cons a b, h => .cons a (dps_set j b h)
theorem ds_store (i : Nat) {x : Str} {ie ve : Expr} {p p2 pos : Pos} {cv ci : Env → R Lv} (he : PE X ve (tE K mg C W cv)) (hi : PE X ie (tE K mg C W ci))
    (ht : C.Tg[i]? = some (.lst .fz) := by rfl) (hN : X.N[i]? = some x := by rfl) (hv : Vis X.env.scope x := by first | exact Or.inl rfl | exact Or.inr (Or.inl rfl) | exact Or.inr (Or.inr rfl)) (hd : (x == ("__debug__" : Str)) = false := by decide) (hcd : (x == ("__classdict__" : Str)) = false := by decide)
    (ha : ∀ v, assign (.Subscript (.Name x p) ie p2) X.env v = (do
      let ov ← holding [v] (eval (.Name x p) X.env)
      let iv ← holding [v, ov] (eval ie X.env)
      standAt p2
      holding [v, ov, iv] (setItem ov iv v)
      release [v, ov, iv] []) := by intro _; rfl)
    (hs : swapsWithSole [.Subscript (.Name x p) ie p2] ve pos.line X.env = pure false := by rfl) (hw : swappedStores [.Subscript (.Name x p) ie p2] ve X.env = pure none := by rfl)
    (h1 : (assignEach [.Subscript (.Name x p) ie p2] X.env).map (·.2) = [assign (.Subscript (.Name x p) ie p2) X.env] := by rfl) : PS X (.Assign [.Subscript (.Name x p) ie p2] ve pos) (tS K mg C W rsh (cStore i cv ci)) :=
  PS.to (ps_asg he (pg_sub (pe_var hN hv hd hcd) hi set_list ha) hs hw h1) fun Dn σ H ⟨G, e, Sg, g, p⟩ => ⟨G, e, Sg, g, (PostS.bind p).imp fun l e1 G1 H1 S1 _ g1 x1 p1 v hv => by
    cases l with
    | plc i => exact False.elim p1
    | own i => exact False.elim p1
    | val d =>
      dsimp only at p1
      split at p1
      · rename_i d0 he0
        obtain ⟨w, q1, q2⟩ := g1.slot i _ d0 ht (Good.getD (G := G1) (H := H1) (σ := σ) (Sg := S1) he0)
        refine ⟨w, q1, G1, e1, S1, g1, (PostS.bind p1).imp fun m e2 G2 H2 S2 _ g2 x2 p2 iv hiv => ?_⟩
        split at p2
        · rename_i ds k he2 hm
          split at p2
          · rename_i j hj
            obtain ⟨l1, xs1, r1, r2, r3, r4⟩ := g2.write ht he2
            rw [q1] at r1
            cases r1
            have hv' : Dp K G1 v d := hv
            refine ⟨l1, xs1, k, j, rfl, (hiv.view g2 hm).int_inv, r2, by rw [dps_len _ _ r3]; exact hj, ?_⟩
            exact p2 G2 _ σ S2 (r4 _ _ (dps_set j r3 (dp_ex x2 _ _ hv'))) (Ex.refl G2)
          · exact False.elim p2
        · exact False.elim p2
      · exact False.elim p1⟩

/-! ### the methods -/
theorem mu_append : MutN X X.K "list.append" gApp := ⟨⟨_, mt_append, fun G H p xs ds vs as r' ds' Q xg hp hd ha hg q => by
  unfold gApp at hg
  split at hg
  · split at hg
    · rename_i hz
      cases hg
      cases ha with
      | cons h1 h2 =>
        cases h2
        refine ⟨p, xs, _, rfl, rfl, hp, ?_, q _ _ .non (dps_append hd (.cons h1 .nil))⟩
        rw [dps_len _ _ hd]
        have := fits_iff.mp hz
        omega
    · cases hg
  · cases hg⟩⟩
theorem dps_dropLast {G : Hp} : ∀ {vs : List V} {ds : List D}, DpAll K G vs ds → DpAll K G vs.dropLast ds.dropLast := fun h => by
  have := dps_len _ _ h
  rw [List.dropLast_eq_take, List.dropLast_eq_take, this]
  exact dps_take _ h
theorem dps_erase {G : Hp} : ∀ {vs : List V} {ds : List D} (j : Nat), DpAll K G vs ds → DpAll K G (vs.eraseIdx j) (ds.eraseIdx j)
  | _, _, _, .nil => .nil
  | _, _, 0, .cons a b => b
  | _, _, j + 1, .cons a b => .cons a (dps_erase j b)
theorem dps_rev {G : Hp} : ∀ {vs : List V} {ds : List D}, DpAll K G vs ds → DpAll K G vs.reverse ds.reverse
  | _, _, .nil => .nil
  | _, _, .cons a b => by
    rw [List.reverse_cons, List.reverse_cons]
    exact dps_append (dps_rev b) (.cons a .nil)
theorem dps_get {G : Hp} {vs : List V} {ds : List D} {j : Nat} {d : D} (h : DpAll K G vs ds) (hd : ds[j]? = some d) : ∃ v, vs[j]? = some v ∧ Dp K G v d := by
  have hl := dps_len _ _ h
  have hj := (List.getElem?_eq_some_iff.mp hd).1
  have hv : vs[j]? = some vs[j] := List.getElem?_eq_getElem (by omega)
  exact ⟨_, hv, dps_at _ _ h j _ _ hv hd⟩
def rPopB : V → List V → Hp → VK → Prop := fun x xs H Q => rPop x xs H Q ∨ rPopAt x xs H Q
theorem mt_popB : MtM X "list.pop" rPopB := fun pins s σ H x xs v us Q I rx rs q => q.elim (mt_pop pins s σ H x xs v us Q I rx rs) (mt_popAt pins s σ H x xs v us Q I rx rs)
theorem mu_pop : MutN X X.K "list.pop" gPop := ⟨⟨_, mt_popB, fun G H p xs ds vs as r' ds' Q xg hp hd ha hg q => by
  unfold gPop at hg
  have hl := dps_len _ _ hd
  split at hg
  · cases q1 : ds[ds.length - 1]? with
    | none => rw [q1] at hg; cases hg
    | some d =>
      rw [q1] at hg
      cases hg
      cases ha
      obtain ⟨v, hv, hdp⟩ := dps_get hd q1
      refine .inl ⟨p, xs, v, rfl, rfl, hp, by rw [hl]; exact hv, q _ _ hdp (dps_dropLast hd)⟩
  · rename_i i
    split at hg
    · rename_i hz
      have hz := inR_iff.mp hz
      cases q1 : seqIndex? i ds.length with
      | none => rw [q1] at hg; cases hg
      | some k =>
        cases q2 : ds[k]? with
        | none => rw [q1] at hg; simp [q2] at hg
        | some d =>
          rw [q1] at hg
          simp [q2] at hg
          obtain ⟨rfl, rfl⟩ := hg
          cases ha with
          | cons h1 h2 =>
            cases h2
            cases h1
            obtain ⟨v, hv, hdp⟩ := dps_get hd q2
            exact .inr ⟨p, xs, i, k, v, rfl, rfl, hp, by omega, by omega, by rw [hl]; exact q1, hv, q _ _ hdp (dps_erase k hd)⟩
    · cases hg
  · cases hg⟩⟩
theorem mu_reverse : MutN X X.K "list.reverse" gRev := ⟨⟨_, mt_reverse, fun G H p xs ds vs as r' ds' Q xg hp hd ha hg q => by
  unfold gRev at hg
  split at hg
  · cases hg
    cases ha
    exact ⟨p, xs, rfl, rfl, hp, q _ _ .non (dps_rev hd)⟩
  · cases hg⟩⟩
theorem mu_insert : MutN X X.K "list.insert" gIns := ⟨⟨_, mt_insert, fun G H p xs ds vs as r' ds' Q xg hp hd ha hg q => by
  unfold gIns at hg
  split at hg
  · split at hg
    · rename_i hz
      rw [Bool.and_eq_true, Bool.and_eq_true, decide_eq_true_iff] at hz
      obtain ⟨⟨z1, z2⟩, z3⟩ := hz
      have z3 := inR_iff.mp z3
      have z1 := fits_iff.mp z1
      cases hg
      cases ha with
      | cons h1 h2 =>
        cases h2 with
        | cons h2 h3 =>
          cases h3
          cases h1
          refine ⟨p, xs, _, _, rfl, rfl, hp, by rw [dps_len _ _ hd]; omega, z2, by omega, q _ _ .non (dps_append (dps_append (dps_take _ hd) (.cons h2 .nil)) (dps_drop _ hd))⟩
    · cases hg
  · cases hg⟩⟩
end
end DL

/-! try .. except. -/
namespace DL
open PySem PySem.Spec PyProof.Rows L2
open Evl (Ex ex_l ex_t ex_rd)

abbrev W0x : WX := fun _ _ _ _ => False
/-- try: .. except X as n: .. (slot i is n's; hit: which class is caught) -/
def cTryAs (i : Nat) (hit : Str → Option Bool) (b s : Env → R Fl) : Env → R Fl := fun e => match b e with
  | .ok fl e1 => .ok fl e1
  | .ex x e1 => (match hit x.cls, x.fld with
    | some true, none => (match s (e1.set i (some (.str x.cls))) with
      | .ok fl e2 => .ok fl (e2.set i none)
      | _ => .st)
    | some false, _ => .ex x e1
    | _, _ => .st)
  | .st => .st
/-- try: .. except X: .. -/
def cTry (hit : Str → Option Bool) (b s : Env → R Fl) : Env → R Fl := fun e => match b e with
  | .ok fl e1 => .ok fl e1
  | .ex x e1 => (match hit x.cls with
    | some true => (match s e1 with
      | .ok fl e2 => .ok fl e2
      | _ => .st)
    | some false => .ex x e1
    | none => .st)
  | .st => .st
/-- several clauses without names -/
def cHands : List ((Str → Option Bool) × (Env → R Fl)) → Exc → Env → R Fl
  | [], x, e => .ex x e
  | (hit, s) :: r, x, e => match hit x.cls with
    | some true => (match s e with
      | .ok fl e2 => .ok fl e2
      | _ => .st)
    | some false => cHands r x e
    | none => .st
def cTryM (l : List ((Str → Option Bool) × (Env → R Fl))) (b : Env → R Fl) : Env → R Fl := fun e => match b e with
  | .ok fl e1 => .ok fl e1
  | .ex x e1 => cHands l x e1
  | .st => .st
/-- isinstance(n, C), n the exception at hand -/
def cIsE (i : Nat) (f : Str → Option Bool) : Env → R NV := fun e => match e.getD i none with
  | some (.str n) => ofO ((f n).map fun b => .sc (.bool b)) e
  | _ => .st
def Ct.exc (C : Ct) (i : Nat) (a D : Addr) : Ct := { C with Tg := C.Tg.set i (.exc a D) }
/-- what a table of class names says of the clause's class c -/
def HitT (K : Frag) (mg : MG) (c : Value) (hit : Str → Option Bool) : Prop := ∀ n D b, mg n = some (.ref D) → hit n = some b → PySem.W.exmOne K (.ref D) c = some b
def IsT (K : Frag) (mg : MG) (c : Value) (f : Str → Option Bool) : Prop := ∀ n D b, mg n = some (.ref D) → f n = some b → ExcC K D ∧ PySem.W.kitOne K (.ref D) c = some b
def tab (l : List (Str × Bool)) : Str → Option Bool := fun n => l.lookup n
section
variable {K : Frag} {mg : MG} {c : Value} {l : List (Str × Bool)}
theorem lookup_cons {n m : Str} {b : Bool} {r : Option Bool} (h : ((m, b) :: l).lookup n = r) : (n = m ∧ r = some b) ∨ (n ≠ m ∧ l.lookup n = r) := by
  by_cases e : n = m
  · subst e
    left
    simp [List.lookup] at h
    exact ⟨rfl, h.symm⟩
  · right
    have : (n == m) = false := by simpa using e
    simp [List.lookup, this] at h
    exact ⟨e, h⟩
theorem hit_nil : HitT K mg c (tab []) := fun n D b _ h => by cases h
theorem hit_cons {m : Str} {D : Addr} {b : Bool} (hm : mg m = some (.ref D)) (h : PySem.W.exmOne K (.ref D) c = some b) (r : HitT K mg c (tab l)) : HitT K mg c (tab ((m, b) :: l)) := fun n D' b' h1 h2 => by
  rcases lookup_cons h2 with ⟨rfl, e⟩ | ⟨_, e⟩
  · rw [hm] at h1
    cases h1
    cases e
    exact h
  · exact r n D' b' h1 e
theorem is_nil : IsT K mg c (tab []) := fun n D b _ h => by cases h
theorem is_cons {m : Str} {D : Addr} {b : Bool} (hm : mg m = some (.ref D)) (hx : ExcC K D) (h : PySem.W.kitOne K (.ref D) c = some b) (r : IsT K mg c (tab l)) : IsT K mg c (tab ((m, b) :: l)) := fun n D' b' h1 h2 => by
  rcases lookup_cons h2 with ⟨rfl, e⟩ | ⟨_, e⟩
  · rw [hm] at h1
    cases h1
    cases e
    exact ⟨hx, h⟩
  · exact r n D' b' h1 e
theorem kit_own {D C : Addr} {b : Bool} (h2 : PySem.W.isClsIn K C = true) (h3 : PySem.W.typeIn K (.ref C) = some (.type "type")) (h4 : PySem.W.subIn K (.ref D) (.ref C) = some b) (h5 : PySem.W.subIn K (.ref D) (.ref D) = some true) : PySem.W.kitOne K (.ref D) (.ref C) = some b := by
  unfold PySem.W.kitOne
  by_cases e : (Value.ref D == Value.ref C) = true
  · rw [if_pos e]
    have : D = C := by
      have := beq_iff_eq.mp e
      injection this
    subst this
    rw [h4] at h5
    exact h5.symm
  · rw [if_neg e]
    have e2 : ((PySem.W.clsIn K C).isSome && PySem.W.typeIn K (.ref C) == some (.type "type")) = true := by
      have h2' : (PySem.W.clsIn K C).isSome = true := h2
      rw [h2', h3] <;> rfl
    show (if ((PySem.W.clsIn K C).isSome && PySem.W.typeIn K (.ref C) == some (.type "type")) = true then PySem.W.subIn K (.ref D) (.ref C) else none) = some b
    rw [if_pos e2]
    exact h4
theorem kit_bi {D : Addr} {T : String} {b : Bool} (hk : PySem.W.kitMeta T = true) (h4 : PySem.W.subIn K (.ref D) (.type T) = some b) : PySem.W.kitOne K (.ref D) (.type T) = some b := by
  unfold PySem.W.kitOne
  have e : ¬ (Value.ref D == Value.type T) = true := fun z => by
    have := beq_iff_eq.mp z
    cases this
  rw [if_neg e]
  show (if PySem.W.kitMeta T = true then PySem.W.subIn K (.ref D) (.type T) else none) = some b
  rw [if_pos hk]
  exact h4
end

section
variable {X : Cx} {K : Frag} {mg : MG} {C : Ct} {W : WX} {rsh : Sh}
theorem Good.toExc {G H : Hp} {σ : L2.St} {e : Env} {Sg : Nat → ASet} {i : Nat} {a D : Addr} {cn : Str} (g : Good K mg C G H σ e Sg) (hi : C.np ≤ i) (hl : i < C.Tg.length) (hm : mg cn = some (.ref D)) :
    Good K mg (C.exc i a D) G H (σ.set i (some (.ref a))) (e.set i (some (.str cn))) (fun j => if j = i then (fun _ => False) else Sg j) := by
  have tg : ∀ {j sh}, j ≠ i → (C.exc i a D).Tg[j]? = some sh → C.Tg[j]? = some sh := fun {j sh} hj h => by
    have h : (C.Tg.set i (.exc a D))[j]? = some sh := h
    rw [List.getElem?_set_ne (Ne.symm hj)] at h
    exact h
  refine ⟨by rw [List.length_set]; show σ.length = (C.Tg.set i _).length; rw [List.length_set]; exact g.ls, by rw [List.length_set]; show e.length = (C.Tg.set i _).length; rw [List.length_set]; exact g.le, fun j sh d h1 h2 => ?_, fun j k b h1 h2 => ?_, fun j b h => ?_, g.gh, g.g0, g.fr, g.al, g.gn, fun j sh h1 h2 h3 => ?_, fun j sh h1 h2 h3 => ?_⟩
  · rcases get_set h2 with ⟨rfl, z, _⟩ | ⟨hj, h2⟩
    · cases z
      have h1 : (C.Tg.set j (.exc a D))[j]? = some sh := h1
      rw [List.getElem?_set_self hl] at h1
      cases h1
      exact ⟨.ref a, by rw [List.getElem?_set_self (by rw [g.ls]; exact hl)], .exc hm⟩
    · obtain ⟨w, h3, h4⟩ := g.slot j sh d (tg hj h1) h2
      exact ⟨w, by rw [List.getElem?_set_ne (Ne.symm hj)]; exact h3, by simpa [hj] using h4⟩
  · by_cases hj : j = i
    · simp only [hj, if_true] at h1
    · by_cases hk : k = i
      · simp only [hk, if_true] at h2
      · simp only [hj, hk, if_false] at h1 h2
        exact g.dis j k b h1 h2
  · by_cases hj : j = i
    · simp only [hj, if_true] at h
    · simp only [hj, if_false] at h
      exact g.gs j b h
  · have hj : j ≠ i := fun z => by
      subst z
      have h1 : j < C.np := h1
      omega
    rw [List.getElem?_set_ne (Ne.symm hj)]
    exact g.pin j sh h1 (tg hj h2) h3
  · have hj : j ≠ i := fun z => by
      subst z
      have h1 : j < C.np := h1
      omega
    rw [List.getElem?_set_ne (Ne.symm hj)]
    exact g.par j sh h1 (tg hj h2) h3
theorem Good.ofExc {G H : Hp} {σ : L2.St} {e : Env} {Sg : Nat → ASet} {i : Nat} {a D : Addr} (g : Good K mg (C.exc i a D) G H σ e Sg) (hi : C.np ≤ i) :
    Good K mg C G H (σ.set i none) (e.set i none) (fun j => if j = i then (fun _ => False) else Sg j) := by
  have tg : ∀ {j sh}, j ≠ i → C.Tg[j]? = some sh → (C.exc i a D).Tg[j]? = some sh := fun {j sh} hj h => by
    show (C.Tg.set i (.exc a D))[j]? = some sh
    rw [List.getElem?_set_ne (Ne.symm hj)]
    exact h
  have ln : (C.exc i a D).Tg.length = C.Tg.length := by show (C.Tg.set i _).length = _; rw [List.length_set]
  refine ⟨by rw [List.length_set]; exact g.ls.trans ln, by rw [List.length_set]; exact g.le.trans ln, fun j sh d h1 h2 => ?_, fun j k b h1 h2 => ?_, fun j b h => ?_, g.gh, g.g0, g.fr, g.al, g.gn, fun j sh h1 h2 h3 => ?_, fun j sh h1 h2 h3 => ?_⟩
  · rcases get_set h2 with ⟨rfl, z, _⟩ | ⟨hj, h2⟩
    · cases z
    · obtain ⟨w, h3, h4⟩ := g.slot j sh d (tg hj h1) h2
      exact ⟨w, by rw [List.getElem?_set_ne (Ne.symm hj)]; exact h3, by simpa [hj] using h4⟩
  · by_cases hj : j = i
    · simp only [hj, if_true] at h1
    · by_cases hk : k = i
      · simp only [hk, if_true] at h2
      · simp only [hj, hk, if_false] at h1 h2
        exact g.dis j k b h1 h2
  · by_cases hj : j = i
    · simp only [hj, if_true] at h
    · simp only [hj, if_false] at h
      exact g.gs j b h
  · have hj : j ≠ i := fun z => by
      subst z
      omega
    rw [List.getElem?_set_ne (Ne.symm hj)]
    exact g.pin j sh h1 (tg hj h2) h3
  · have hj : j ≠ i := fun z => by
      subst z
      omega
    rw [List.getElem?_set_ne (Ne.symm hj)]
    exact g.par j sh h1 (tg hj h2) h3
theorem Lone.ofExc {G H : Hp} {Sg : Nat → ASet} {S : ASet} {i : Nat} {a D : Addr} (l : Lone (C.exc i a D) G H Sg S) : Lone C G H (fun j => if j = i then (fun _ => False) else Sg j) S :=
  ⟨l.own, fun j b h1 h2 => by
    by_cases hj : j = i
    · simp only [hj, if_true] at h2
    · simp only [hj, if_false] at h2
      exact l.apart j b h1 h2⟩

def tsE (K : Frag) (mg : MG) (C : Ct) (rsh : Sh) (i : Nat) (s : Env → R Fl) : Addr → Value → Option Addr → TS := fun a cls d Dn σ H => ∃ (_ : d = none) (D : Addr) (_ : cls = .ref D), tS K mg (C.exc i a D) W0x rsh s Dn σ H
theorem ds_tryAs (i : Nat) {x n : Str} {c : Value} {body suite : List Stmt} {b₀ : Stmt} {np pos pos' : Pos} {hit : Str → Option Bool} {cb cs : Env → R Fl}
    (hs : X.stack = X.env :: X.outer) (hf : X.env.frame = some X.env.locals) (hN : X.N.Nodup) (hi : X.N[i]? = some n) (hln : X.env.kindOf n = some .local) (hc : Names X x c) (tk : Takes X W) (hpn : C.np ≤ i) (hl : i < C.Tg.length) (ht : HitT X.K X.mg c hit)
    (hb : ∀ (W : WX) (pn : List (Addr × Obj)) (xe : Value → Shared → Prop), Takes (X.tr pn xe) W → PassesOwn (model X.prog X.w) X.A X.env xe → PSs (X.tr pn xe) body (tS X.K X.mg C W rsh cb))
    (hsu : ∀ (a : Addr) (oe : Obj) (D : Addr) (pn : List (Addr × Obj)), Zc (.ref D) none oe → (∃ vs, oe.data = .fields vs) → PSs (X.suite a ((a, oe) :: pn)) (b₀ :: suite) (tS X.K X.mg (C.exc i a D) W0x rsh cs)) :
    PS X (.Try body [.ExceptHandler (some (.Name x np)) (some n) (b₀ :: suite) pos'] [] [] pos) (tS X.K X.mg C W rsh (cTryAs i hit cb cs)) := by
  refine PS.to (ps_try_as (tb := fun W => tS X.K X.mg C W rsh cb) (ts := tsE X.K X.mg C rsh i cs) (Wout := W) hs hf hN hi hln hc tk hb fun a oe cls d pn hz hfl => ⟨fun pins s σ H Dn I ⟨hd, D, hcl, q⟩ => ?_⟩) fun Dn σ H ⟨G, e, Sg, g, p⟩ => ⟨G, e, Sg, g, ?_⟩
  · subst hd hcl
    exact (hsu a oe D pn hz hfl).run pins s σ H Dn I q
  · unfold cTryAs at p
    cases q : cb e with
    | ok fl e1 =>
      rw [q] at p
      cases fl with
      | nx => exact p
      | bk => exact p
      | ct => exact p
      | rt d => exact p
    | st => rw [q] at p; exact p
    | ex xx e1 =>
      rw [q] at p
      dsimp only at p
      intro G1 H1 σ1 S1 g1 x1 Cc hCc
      cases qh : hit xx.cls with
      | none => rw [qh] at p; exact False.elim p
      | some b =>
        have hx := ht xx.cls Cc b hCc qh
        cases b with
        | false =>
          rw [qh] at p
          dsimp only at p
          have w := p G1 H1 σ1 S1 g1 x1 Cc hCc
          cases qf : xx.fld with
          | none =>
            rw [qf] at w
            exact ⟨false, hx, (fun z => Bool.noConfusion z), fun _ => w⟩
          | some fv =>
            rw [qf] at w
            exact fun p1 hp1 => ⟨false, hx, (fun z => Bool.noConfusion z), fun _ => w p1 hp1⟩
        | true =>
          cases qf : xx.fld with
          | some fv => rw [qh, qf] at p; exact False.elim p
          | none =>
            rw [qh, qf] at p
            dsimp only at p
            refine ⟨true, hx, fun _ a ha => ⟨rfl, Cc, rfl, G1, e1.set i (some (.str xx.cls)), _, g1.toExc hpn hl hCc, ?_⟩, fun z => by cases z⟩
            cases qs : cs (e1.set i (some (.str xx.cls))) with
            | ex yy e2 => rw [qs] at p; exact False.elim p
            | st => rw [qs] at p; exact False.elim p
            | ok fl e2 =>
              rw [qs] at p
              have p := PostS.mono x1 p
              cases fl with
              | nx => exact fun G2 H2 σ2 S2 g2 x2 => p G2 H2 _ _ (g2.ofExc hpn) x2
              | bk => exact fun G2 H2 σ2 S2 g2 x2 => p G2 H2 _ _ (g2.ofExc hpn) x2
              | ct => exact fun G2 H2 σ2 S2 g2 x2 => p G2 H2 _ _ (g2.ofExc hpn) x2
              | rt d => exact fun G2 H2 σ2 S2 g2 x2 v S ho hlo => p G2 H2 _ _ (g2.ofExc hpn) x2 v S ho hlo.ofExc
/-- isinstance(n, C) in the suite -/
theorem dn_isE (i : Nat) {a D : Addr} {oe : Obj} {pn : List (Addr × Obj)} {n x : Str} {p pn' px pos : Pos} {cv : V} {cw : Value} {f : Str → Option Bool} (hz : Zc (.ref D) none oe) (hf : ∃ vs, oe.data = .fields vs) (hc : PE (X.suite a ((a, oe) :: pn)) (.Name x px) (tC cv)) (hcv : ∀ u, RelV cv u → u = cw) (hT : IsT X.K X.mg cw f)
    (hm : X.mg "isinstance" = none) (ht : C.Tg[i]? = some (.exc a D) := by rfl) (hN : X.N[i]? = some n := by rfl) (hv : Vis X.env.scope n := by first | exact Or.inl rfl | exact Or.inr (Or.inl rfl) | exact Or.inr (Or.inr rfl)) (hd : (n == ("__debug__" : Str)) = false := by decide) (hcd : (n == ("__classdict__" : Str)) = false := by decide) (hg : Gl X "isinstance" := by rfl)
    (he : starEach [.Name n pn', .Name x px] X.env = (false, eval (.Name n pn') X.env) :: starEach [.Name x px] X.env := by rfl) (he2 : starEach [.Name x px] X.env = (false, eval (.Name x px) X.env) :: starEach [] X.env := by rfl) (hpl : (backTo pos (starEach [.Name x px] X.env)).any (·.1) = false := by rfl) :
    PE (X.suite a ((a, oe) :: pn)) (.Call (.Name "isinstance" p) [.Name n pn', .Name x px] [] pos) (tN X.K X.mg C W (cIsE i f)) := by
  refine ⟨fun pins s σ H Q I ⟨G, e, Sg, g, q⟩ => ?_⟩
  unfold cIsE at q
  split at q
  · rename_i cn he1
    obtain ⟨v, h1, h2⟩ := g.slot i _ _ ht (Good.getD (G := G) (H := H) (σ := σ) (Sg := Sg) he1)
    cases h2 with
    | exc hmc =>
      obtain ⟨nv, h5, h6⟩ := Post.ofO q
      cases qf : f cn with
      | none => rw [qf] at h5; cases h5
      | some b =>
        rw [qf] at h5
        cases h5
        obtain ⟨EC, hk⟩ := hT cn D b hmc qf
        exact (pe_callB (X := X.suite a ((a, oe) :: pn)) (call_isE EC hz hf) hg hm PyProof.Rows.boot_isinstance (pa_cons (pe_var (X := X.suite a ((a, oe) :: pn)) (i := i) (x := n) (pos := pn') hN hv hd hcd) (pa_cons hc pa_nil he2) he) (by decide) (by decide) he hpl).run pins s σ H Q I
          ⟨.ref a, h1, cv, cw, b, rfl, hcv, hk, h6 G H Sg g (Ex.refl G) _ (.bl _)⟩
  · exact False.elim q
end
end DL

/-! Chained comparisons, signs, callees by name, the law's own def. -/
namespace DL
open PySem PySem.Spec PyProof.Rows L2
open Evl (Ex ex_l ex_t ex_rd)

/-- a op b op2 c -/
def cChain (f g : D → D → Option NV) (ca cb cc : Env → R Lv) : Env → R NV := fun e => (ca e).bind fun l e1 => (cb e1).bind fun m e2 =>
  (ofO ((l.get e2).bind fun x => (m.get e2).bind fun y => (f x y).bind fun n => dBool n.d) e2).bind fun k e3 => match k with
    | false => .ok (.sc (.bool false)) e3
    | true => (cc e3).bind fun o e4 => ofO ((m.get e4).bind fun y => (o.get e4).bind fun z => g y z) e4
def dNeg : D → Option NV
  | .int i => some (.sc (.int (-i)))
  | _ => none
def c1 (f : D → Option NV) (a : Env → R Lv) : Env → R NV := fun e => (a e).bind fun l e1 => ofO ((l.get e1).bind f) e1
section
variable {X : Cx} {K : Frag} {mg : MG} {C : Ct} {W : WX}
theorem tst_tN {c : Env → R NV} {σ : L2.St} {H : Hp} {Q : Bool → Hp → Prop} (h : tT K mg C W (cTst c) σ H Q) : tN K mg C W c σ H fun v H1 => ∃ k, v = .bl k ∧ Q k H1 := by
  obtain ⟨G, e, Sg, g, p⟩ := h
  refine ⟨G, e, Sg, g, (Post.bind p).imp fun n e1 G1 H1 S1 _ g1 x1 p1 => ?_⟩
  obtain ⟨k, h1, h2⟩ := Post.ofO p1
  cases n with
  | sc d =>
    have h1 : dBool d = some k := h1
    cases d with
    | bool b =>
      cases h1
      exact fun v hv => ⟨k, by cases (show Dp K H1 v (.bool k) from dp_ex g1.gh _ _ hv); rfl, h2 G1 H1 S1 g1 (Ex.refl G1)⟩
    | _ => cases h1
  | nl ds => cases h1
  | nt ds => cases h1
theorem bind3 {α β γ δ : Type} {o : Option α} {p : Option β} {f : α → β → Option γ} {r : γ → Option δ} {z : δ} (h : (o.bind fun x => p.bind fun y => (f x y).bind r) = some z) : ∃ x y n, o = some x ∧ p = some y ∧ f x y = some n ∧ r n = some z := by
  cases o with
  | none => cases h
  | some x =>
    cases p with
    | none => cases h
    | some y =>
      have h : (f x y).bind r = some z := h
      cases q : f x y with
      | none => rw [q] at h; cases h
      | some n =>
        rw [q] at h
        exact ⟨x, y, n, rfl, rfl, q, h⟩
theorem bind2 {α β γ : Type} {o : Option α} {p : Option β} {f : α → β → Option γ} {z : γ} (h : (o.bind fun x => p.bind fun y => f x y) = some z) : ∃ x y, o = some x ∧ p = some y ∧ f x y = some z := by
  cases o with
  | none => cases h
  | some x =>
    cases p with
    | none => cases h
    | some y => exact ⟨x, y, rfl, rfl, h⟩
theorem chain_ok {f g : D → D → Option NV} {r r' : R2} {ca cb cc : Env → R Lv} {σ : L2.St} {H : Hp} {Q : VK}
    (hs : ∀ (G H : Hp) (x y : V) (dx dy : D) (nv : NV) (Q : VK), Ex G H → Vw K G H x dx → Vw K G H y dy → f dx dy = some nv → NVp K G H Q nv → r x y H Q)
    (hs' : ∀ (G H : Hp) (x y : V) (dx dy : D) (nv : NV) (Q : VK), Ex G H → Vw K G H x dx → Vw K G H y dy → g dx dy = some nv → NVp K G H Q nv → r' x y H Q)
    (h : tN K mg C W (cChain f g ca cb cc) σ H Q) : tChain r r' (tE K mg C W ca) (tE K mg C W cb) (tE K mg C W cc) σ H Q := by
  obtain ⟨G, e, Sg, gd, p⟩ := h
  refine ⟨G, e, Sg, gd, (Post.bind p).imp fun l e1 G1 H1 S1 _ g1 _ p1 x hx => ?_⟩
  refine ⟨G1, e1, S1, g1, (Post.bind p1).imp fun m e2 G2 H2 S2 _ g2 x2 p2 y hy => ?_⟩
  have p2 := Post.bind p2
  obtain ⟨k, h1, p2⟩ := Post.ofO p2
  have p2 := p2 G2 H2 S2 g2 (Ex.refl G2)
  obtain ⟨dx, dy, n, ql, qm, qf, qn⟩ := bind3 h1
  refine hs G2 H2 x y dx dy n _ g2.gh ((hx.mono x2).view g2 ql) (hy.view g2 qm) qf ?_
  cases n with
  | nl ds => cases qn
  | nt ds => cases qn
  | sc d =>
    cases d with
    | bool b =>
      have qn : some b = some k := qn
      cases qn
      intro v hv
      cases hv
      refine ⟨k, rfl, ?_⟩
      cases k with
      | false =>
        rw [if_neg Bool.false_ne_true]
        exact p2 G2 H2 S2 g2 (Ex.refl G2) _ (.bl _)
      | true =>
        rw [if_pos rfl]
        refine ⟨G2, e2, S2, g2, (Post.bind p2).imp fun o e4 G4 H4 S4 _ g4 x4 p4 z hz => ?_⟩
        obtain ⟨nv, h5, h6⟩ := Post.ofO p4
        obtain ⟨dy', dz, qy, qz, qg⟩ := bind2 h5
        exact hs' G4 H4 y z dy' dz nv Q g4.gh ((hy.mono x4).view g4 qy) (hz.view g4 qz) qg (h6 G4 H4 S4 g4 (Ex.refl G4))
    | _ => cases qn
theorem dn_chain {a b c : Expr} {op op' : CmpOp} {pos : Pos} {f g : D → D → Option NV} {ca cb cc : Env → R Lv} (h : Op2 X K (compareOp op) f) (h' : Op2 X K (compareOp op') g) (ha : PE X a (tE K mg C W ca)) (hb : PE X b (tE K mg C W cb)) (hc : PE X c (tE K mg C W cc))
    (hm : lastMarks [op, op'] [b, c] = false := by with_unfolding_all rfl) : PE X (.Compare a [op, op'] [b, c] pos) (tN K mg C W (cChain f g ca cb cc)) := by
  obtain ⟨r, hr, hs⟩ := h.run
  obtain ⟨r', hr', hs'⟩ := h'.run
  exact PE.to (pe_chain hr hr' ha hb hc hm) fun σ H Q q => chain_ok hs hs' q
theorem dt_chain {a b c : Expr} {op op' : CmpOp} {pos : Pos} {f g : D → D → Option NV} {ca cb cc : Env → R Lv} (h : Op2 X K (compareOp op) f) (h' : Op2 X K (compareOp op') g) (ha : PE X a (tE K mg C W ca)) (hb : PE X b (tE K mg C W cb)) (hc : PE X c (tE K mg C W cc))
    (hm : lastMarks [op, op'] [b, c] = false := by with_unfolding_all rfl) : PT X (.Compare a [op, op'] [b, c] pos) (tT K mg C W (cTst (cChain f g ca cb cc))) := by
  obtain ⟨r, hr, hs⟩ := h.run
  obtain ⟨r', hr', hs'⟩ := h'.run
  exact PT.to (pt_chain hr hr' ha hb hc hm) fun σ H Q q => chain_ok hs hs' (tst_tN q)
theorem dn_neg {a : Expr} {pos : Pos} {c : Env → R Lv} (h : PE X a (tE K mg C W c)) : PE X (.UnaryOp .USub a pos) (tN K mg C W (c1 dNeg c)) :=
  PE.to (pe_un un_neg h) fun σ H Q ⟨G, e, Sg, g, p⟩ => ⟨G, e, Sg, g, (Post.bind p).imp fun l e1 G1 H1 S1 _ g1 x1 p1 v hv => by
    obtain ⟨nv, h1, h2⟩ := Post.ofO p1
    cases q : l.get e1 with
    | none => rw [q] at h1; cases h1
    | some d =>
      rw [q] at h1
      have h1 : dNeg d = some nv := h1
      cases d with
      | int i =>
        cases h1
        exact ⟨i, (hv.view g1 q).int_inv, h2 G1 H1 S1 g1 (Ex.refl G1) _ (.int _)⟩
      | _ => cases h1⟩
end

/-! ### callees by name -/
structure CalD (P : Program) (w : World) (K : Frag) (mg : MG) (base : Heap) (k : Nat) (x : Str) (modes : List Sh) (rsh : Sh) (m : List D → FR) (dd : List D) : Prop where
  ex : ∃ (f : Addr) (fd : FuncData) (ps : List Str) (dvs : List V) (ds' : List Value), FnOk P w K mg base (L2.CX P w) k f fd ps (spF K mg modes rsh m) ∧ mg x = some (.ref f) ∧ PySem.W.keepIn K (.ref f) = true ∧ Binds K fd ps ds' ∧ Vals dvs ds' ∧ ∀ G, DpAll K G dvs dd
theorem CalD.mono {P : Program} {w : World} {K : Frag} {mg : MG} {base : Heap} {j k : Nat} {x : Str} {modes : List Sh} {rsh : Sh} {m : List D → FR} {dd : List D} (h : CalD P w K mg base j x modes rsh m dd) (hjk : j ≤ k) : CalD P w K mg base k x modes rsh m dd := by
  obtain ⟨f, fd, ps, dvs, ds', h1, h2⟩ := h.ex
  exact ⟨f, fd, ps, dvs, ds', h1.mono hjk, h2⟩
section
variable {X : Cx} {C : Ct} {W : WX}
theorem dO_cal {x : Str} {k : Nat} {modes : List Sh} {rsh : Sh} {m : List D → FR} {dd : List D} (ks : List (Option Nat)) {a : Expr} {es : List Expr} {p pos : Pos} {ca : Env → R (List Lv)}
    (F : CalD X.prog X.w X.K X.mg X.base k x modes rsh m dd) (hr : Room k X.A) (ok : OkS C.Tg modes ks dd.length) (tk : Takes X W) (ha : PA X (a :: es) (tAs X.K X.mg C W ca)) (hg : Gl X x := by rfl) (hdb : (x == ("__debug__" : Str)) = false := by decide)
    (he : starEach (a :: es) X.env = (false, eval a X.env) :: starEach es X.env := by rfl) (hpl : (backTo pos (starEach es X.env)).any (·.1) = false := by rfl) :
    PE X (.Call (.Name x p) (a :: es) [] pos) (tO X.K X.mg C W rsh (cCall modes ks rsh m dd ca)) := by
  obtain ⟨f, fd, ps, dvs, ds', h1, h2, h3, h4, h5, h6⟩ := F.ex
  exact dO_call h1 hr h2 h3 h4 h5 h6 ok tk ha hg hdb he hpl
end
/-- a def of the text, as it stands behind the top -/
structure DefAt (K : Frag) (mg : MG) (x : Str) (st : Stmt) (dvs : List V) (f : Addr) (fd : FuncData) : Prop where
  F : FunD K x x (defArgs st) (defBody st) (defScope st) dvs [] f fd
  g : mg x = some (.ref f)
theorem defAt_mk {K : Frag} {mg : MG} {x : Str} {st : Stmt} {f : Addr} {oc : Value} {od an : Option Addr} {osl : Array (Option Value)} {kV doc pm cdv ct : Value} (g : mg x = some (.ref f))
    (l : K.lookup f = some ⟨oc, od, .func (PySem.W.fnOf x x (defArgs st) (defBody st) (defScope st) .none kV doc pm an cdv ct), osl⟩) (c : PySem.W.codeIn K cdv x = true) (k : PySem.W.keepIn K (.ref f) = true) :
    DefAt K mg x st [] f (PySem.W.fnOf x x (defArgs st) (defBody st) (defScope st) .none kV doc pm an cdv ct) :=
  ⟨⟨⟨oc, od, .none, kV, doc, pm, an, cdv, ct, osl, rfl, l, c, .inl ⟨rfl, rfl⟩, .inl rfl⟩, k⟩, g⟩
theorem defAt_mkD {K : Frag} {mg : MG} {x : Str} {st : Stmt} {f T : Addr} {oc : Value} {od an : Option Addr} {osl : Array (Option Value)} {kV doc pm cdv ct : Value} {dvs : List V} {o : Obj} {its : List Value} {n : Nat} (g : mg x = some (.ref f))
    (l : K.lookup f = some ⟨oc, od, .func (PySem.W.fnOf x x (defArgs st) (defBody st) (defScope st) (.ref T) kV doc pm an cdv ct), osl⟩) (c : PySem.W.codeIn K cdv x = true) (k : PySem.W.keepIn K (.ref f) = true)
    (lT : K.lookup T = some o) (oT : o.data = .seq its.toArray n) (rT : Vals dvs its) (hd : dvs ≠ []) :
    DefAt K mg x st dvs f (PySem.W.fnOf x x (defArgs st) (defBody st) (defScope st) (.ref T) kV doc pm an cdv ct) :=
  ⟨⟨⟨oc, od, .ref T, kV, doc, pm, an, cdv, ct, osl, rfl, l, c, .inr ⟨hd, T, o, its, n, rfl, lT, oT, rT⟩, .inl rfl⟩, k⟩, g⟩
section
variable {P : Program} {w : World} {K : Frag} {mg : MG} {base : Heap}
/-- a def whose mirror says nothing -/
theorem fn_st {f : Addr} {fd : FuncData} {ps : List Str} {k : Nat} {modes : List Sh} {rsh : Sh} : FnOk P w K mg base (L2.CX P w) k f fd ps (spF K mg modes rsh fun _ => .st) :=
  ⟨fun vs H Q E ⟨_, _, _, _, _, _, _, _, _, _, z⟩ => False.elim z, fun A outer s H args us vs Q E _ _ _ _ ⟨_, _, _, _, _, _, _, _, _, _, z⟩ => False.elim z⟩
/-- a def, called with all arguments; with defaults from the j-th on -/
theorem cal0 {x : Str} {st : Stmt} {f : Addr} {fd : FuncData} {ps : List Str} {k : Nat} {modes : List Sh} {rsh : Sh} {m : List D → FR} (A : DefAt K mg x st [] f fd) (h : FnOk P w K mg base (L2.CX P w) k f fd ps (spF K mg modes rsh m))
    (hb : ∀ (kV doc pm : Value) (an : Option Addr) (cdv ct : Value) (us : List Value), us.length = ps.length → bindArgs (PySem.W.fnOf x x (defArgs st) (defBody st) (defScope st) .none kV doc pm an cdv ct) ⟨us, []⟩ = pure (ps.zip us)) : CalD P w K mg base k x modes rsh m [] :=
  ⟨f, fd, ps, [], [], h, A.g, A.F.kp, A.F.bindsN hb, .nil, fun _ => .nil⟩
theorem calJ {x : Str} {st : Stmt} {f : Addr} {fd : FuncData} {ps : List Str} {k : Nat} {modes : List Sh} {rsh : Sh} {m : List D → FR} {dvs : List V} {dd : List D} (n j : Nat) (A : DefAt K mg x st dvs f fd) (h : FnOk P w K mg base (L2.CX P w) k f fd ps (spF K mg modes rsh m))
    (hd : dvs ≠ []) (hn : n + (dvs.length - j) = ps.length)
    (hb : ∀ (T : Addr) (kV doc pm : Value) (an : Option Addr) (cdv ct : Value) (us its : List Value), us.length = n → its.length = dvs.length →
      ∃ k, bindArgs (PySem.W.fnOf x x (defArgs st) (defBody st) (defScope st) (.ref T) kV doc pm an cdv ct) ⟨us, []⟩ = seqItems? (.ref T) >>= k ∧ k (some its.toArray) = pure (ps.zip (us ++ its.drop j))) (hdd : ∀ G, DpAll K G (dvs.drop j) dd) : CalD P w K mg base k x modes rsh m dd := by
  obtain ⟨ds, h1, h2⟩ := A.F.binds1 n j hd hn hb
  exact ⟨f, fd, ps, _, ds, h, A.g, A.F.kp, h2, h1, hdd⟩
end
theorem hu65 {A : Around} {k : Nat} (hr : Room k A) : A.units + 65 < cLine := by
  have := hr.un
  omega
def fzAt (Tg : List Sh) (i : Nat) : Bool := match Tg[i]? with
  | some .fz => true
  | _ => false
theorem hv_of {Tg : List Sh} {l : List Nat} (h : l.all (fzAt Tg) = true) : ∀ i ∈ l, Tg[i]? = some .fz := fun i hi => by
  rw [List.all_eq_true] at h
  have := h i hi
  unfold fzAt at this
  split at this
  · assumption
  · cases this
def blkB (N : List Str) (sc scope : Scope) (own : List (Str × Nat)) : Bool := decide (scope.kind = .function) && scope.names.all (fun y => decide (scope.names.lookup y.1 = some y.2)) && own.all (fun p => decide (N[p.2]? = some p.1)) &&
  scope.names.all (fun y => !decide (y.2 = .free) || (decide (sc.names.lookup y.1 = some .cell) || decide (sc.names.lookup y.1 = some .free))) && scope.names.all (fun y => !(decide (y.2 = .local) || decide (y.2 = .cell)) || (own.any (fun p => decide (p.1 = y.1)) || N.all fun z => decide (z ≠ y.1)))
theorem blk_of {N : List Str} {sc scope : Scope} {own : List (Str × Nat)} (h : blkB N sc scope own = true) : BlkOk N sc scope own := by
  unfold blkB at h
  simp only [Bool.and_eq_true, List.all_eq_true, decide_eq_true_eq, Bool.or_eq_true, Bool.not_eq_true', List.any_eq_true, decide_eq_false_iff_not] at h
  obtain ⟨⟨⟨⟨h1, h2⟩, h3⟩, h4⟩, h5⟩ := h
  refine ⟨h1, h2, h3, fun y hy e => (h4 y hy).resolve_left (fun z => z e), fun y hy e => ?_⟩
  rcases h5 y hy with z | z | z
  · simp only [Bool.or_eq_false_iff, decide_eq_false_iff_not] at z
    rcases e with e | e
    · exact absurd e z.1
    · exact absurd e z.2
  · obtain ⟨p, hp, e⟩ := z
    exact .inl (List.mem_map.mpr ⟨p, hp, e⟩)
  · exact .inr fun hm => z _ hm rfl
/-- the law's promise: it gives True -/
def spLaw (K : Frag) : Sp := fun vs H Q _ => ∃ (a : Addr) (ns : List Int), vs = [V.ref a] ∧ SqL K H a (ns.map V.int) ∧ ns.length ≤ 63 ∧ ∀ H', Q (.bl true) H'
theorem law_true {K : Frag} {mg : MG} {m : List D → FR} (hm : ∀ ns : List Int, ns.length ≤ 63 → ∃ outs, m [.list (ns.map .int)] = .ok (.bool true) outs) (vs : List V) (H : Hp) (Q : VK) (E : XK) (h : spLaw K vs H Q E) : spF K mg [.fz] .fz m vs H Q E := by
  obtain ⟨a, ns, rfl, hs, hl, q⟩ := h
  have hd : ∀ ns : List Int, DpAll K H (ns.map V.int) (ns.map PyData.int) := fun ns => by
    induction ns with
    | nil => exact .nil
    | cons n ns ih => exact .cons (.int n) ih
  obtain ⟨outs, e⟩ := hm ns hl
  refine ⟨H, [.list (ns.map .int)], fun _ _ => False, rfl, rfl, fun i sh v d h1 h2 h3 => ?_, fun i j b z => z.elim, fun i b z => z.elim, fun i b z => z.elim, Ex.refl H, ?_⟩
  · cases i with
    | zero =>
      simp at h1 h2 h3
      subst h1 h2 h3
      exact .fz (.lst hs (hd ns))
    | succ i => simp at h1
  · rw [e]
    intro G' H' Sa' v S _ hv _ _
    cases hv with
    | fz h => cases h; exact q _
theorem walkL {l : PySem.W.OpenLaw} {k : Nat} {q : Program} {loose : List Str} {XP : (Str → Option Value) → Heap → Prop} {YP : World → Heap → Prop} {d : DefRec} {K : Params → PySem.W.Frag} {x : Str} {m : List D → FR}
    (hn : l.most = some 63) (hdf : d.params.defaults = []) (hr : Room k callerA) (hY : ∀ (w : World) (h : Heap), YP w h → (K w.params).In h)
    (hm : ∀ ns : List Int, ns.length ≤ 63 → ∃ outs, m [.list (ns.map .int)] = .ok (.bool true) outs)
    (F : ∀ (w : World) (mg : Str → Option Value) (fa : Addr) (h : Heap), (K w.params).In h → h.Ns mainGlobals mg → mg d.name = some (.ref fa) →
      ∃ fd : FuncData, (∀ (s : Shared) (u : Value), BindsTo s fd ⟨[u], []⟩ [(x, u)]) ∧ ∀ base : Heap, FnOk l.prog w (K w.params) mg base (L2.CX l.prog w) k fa fd [x] (spF (K w.params) mg [.fz] .fz m)) :
    PySem.W.WalkO q loose XP YP l.row.toRowW d [] (fun f vs => PySem.call f vs) :=
  L2.walk_of (n := 63) (k := k) (x := x) (CX := fun w => L2.CX l.prog w) (sp := fun w => spLaw (K w.params)) hn (by decide) hdf hr hY (fun w mg fa h KX G hmg => by
    obtain ⟨fd, hb, hF⟩ := F w mg fa h KX G hmg
    exact ⟨fd, hb, fun base _ _ => (hF base).imp (law_true hm)⟩) (fun _ _ a ns hl _ hS => ⟨a, ns, rfl, hS, hl, fun _ => rfl⟩) fun w H s e s' z => by
      obtain ⟨_, _, _, _, _, _, _, _, _, _, _, _, z⟩ := z
      exact z
end DL

/-! Reckoning with mirrors. -/
namespace DL
open PySem PySem.Spec PyProof.Rows L2
section
variable {α β : Type} {e : Env} {a b c : Env → R Lv} {n o : Env → R NV} {s t u : Env → R Bool} {p q : Env → R Fl} {d r : Env → R D} {l : Env → R (List Lv)} {i k : Nat} {x y : D}

@[simp ↓] theorem bind_e {v : R α} {f : α → Env → R β} : R.bind v f = match v with | .ok a e => f a e | .ex x e => .ex x e | .st => .st := by rfl
@[simp ↓] theorem ofO_some {v : α} : ofO (some v) e = R.ok v e := by rfl
@[simp ↓] theorem ofO_none : ofO (none : Option α) e = R.st := by rfl
@[simp ↓] theorem cK_e : cK x e = .ok (.val x) e := by rfl
@[simp ↓] theorem c2_e {f : D → D → Option NV} : c2 f a b e = (a e).bind fun l e1 => (b e1).bind fun m e2 => ofO ((l.get e2).bind fun x => (m.get e2).bind fun y => f x y) e2 := by rfl
@[simp ↓] theorem c1_e {f : D → Option NV} : c1 f a e = (a e).bind fun l e1 => ofO ((l.get e1).bind f) e1 := by rfl
@[simp ↓] theorem cFrz_e : cFrz n e = (n e).bind fun v e1 => .ok (.val v.d) e1 := by rfl
@[simp ↓] theorem cOwn_e : cOwn n e = (n e).bind fun v e1 => match v with | .nl ds => .ok (.list ds) e1 | _ => .st := by rfl
@[simp ↓] theorem cMelt_e : cMelt d e = (d e).bind fun v e1 => .ok (.val v) e1 := by rfl
@[simp ↓] theorem cTru_e : cTru a e = (a e).bind fun l e1 => ofO ((l.get e1).bind dTru) e1 := by rfl
@[simp ↓] theorem cTst_e : cTst n e = (n e).bind fun v e1 => ofO (dBool v.d) e1 := by rfl
@[simp ↓] theorem cAnd_e : cAnd s t e = (s e).bind fun v e1 => match v with | true => t e1 | false => .ok false e1 := by rfl
@[simp ↓] theorem cOr_e : cOr s t e = (s e).bind fun v e1 => match v with | true => .ok true e1 | false => t e1 := by rfl
@[simp ↓] theorem cNot_e : cNot s e = (s e).bind fun v e1 => .ok (!v) e1 := by rfl
@[simp ↓] theorem cIf_e {f g : Env → R α} : cIf s f g e = (s e).bind fun v e1 => match v with | true => f e1 | false => g e1 := by rfl
@[simp ↓] theorem cAndV_e : cAndV a b e = (a e).bind fun v e1 => match v with | .val (.bool true) => b e1 | .val (.bool false) => .ok (.val (.bool false)) e1 | _ => .st := by rfl
@[simp ↓] theorem cOrV_e : cOrV a b e = (a e).bind fun v e1 => match v with | .val (.bool true) => .ok (.val (.bool true)) e1 | .val (.bool false) => b e1 | _ => .st := by rfl
@[simp ↓] theorem cNotV_e : cNotV a e = (a e).bind fun v e1 => match v with | .val (.bool k) => .ok (.val (.bool (!k))) e1 | _ => .st := by rfl
@[simp ↓] theorem cNil_e : cNil e = .ok [] e := by rfl
@[simp ↓] theorem cCons_e : cCons a l e = (a e).bind fun v e1 => (l e1).bind fun vs e2 => .ok (v :: vs) e2 := by rfl
@[simp ↓] theorem cLst_e : cLst l e = (l e).bind fun ls e1 => ofO ((vals ls).bind fun ds => if fits ds.length = true then some (.nl ds) else none) e1 := by rfl
@[simp ↓] theorem cTup_e : cTup l e = (l e).bind fun ls e1 => ofO ((vals ls).bind fun ds => if fits ds.length = true then some (.nt ds) else none) e1 := by rfl
@[simp ↓] theorem cB_e {g : List D → Option NV} : cB g l e = (l e).bind fun ls e1 => ofO ((gets ls e1).bind g) e1 := by rfl
@[simp ↓] theorem cMt_e {T : String} {g : D → List D → Option NV} : cMt T g a l e = (a e).bind fun l1 e1 => (ofO ((l1.get e1).bind fun x => if dTy x = T then some () else none) e1).bind fun _ e2 => (l e2).bind fun ls e3 => ofO ((l1.get e3).bind fun x => (gets ls e3).bind fun ds => g x ds) e3 := by rfl
@[simp ↓] theorem cPartN_e : cPartN e = .ok none e := by rfl
@[simp ↓] theorem cPart_e : cPart a e = (a e).bind fun l e1 => ofO ((l.get e1).bind fun d => (dInt d).map some) e1 := by rfl
@[simp ↓] theorem cSl_e {lo hi : Env → R (Option Int)} : cSl a lo hi e = (a e).bind fun l e1 => (lo e1).bind fun x e2 => (hi e2).bind fun y e3 => ofO ((l.get e3).bind fun d => dSl d x y) e3 := by rfl
@[simp ↓] theorem cNx_e : cNx e = .ok .nx e := by rfl
@[simp ↓] theorem cBk_e : cBk e = .ok .bk e := by rfl
@[simp ↓] theorem cCt_e : cCt e = .ok .ct e := by rfl
@[simp ↓] theorem cSeq_e : cSeq p q e = match p e with | .ok .nx e1 => q e1 | .ok .bk e1 => .ok .bk e1 | .ok .ct e1 => .ok .ct e1 | .ok (.rt d) e1 => .ok (.rt d) e1 | .ex x e1 => .ex x e1 | .st => .st := by rfl
@[simp ↓] theorem cRet_e : cRet a e = (a e).bind fun l e1 => match l with | .val d => .ok (.rt d) e1 | _ => .st := by rfl
@[simp ↓] theorem cRetO_e : cRetO d e = (d e).bind fun d e1 => .ok (.rt d) e1 := by rfl
@[simp ↓] theorem cRetN_e : cRetN e = .ok (.rt .none) e := by rfl
@[simp ↓] theorem cAsg_e {f : D → Env → Option Env} : cAsg a f e = (a e).bind fun l e1 => match l with | .val d => (match f d e1 with | some e2 => .ok .nx e2 | none => .st) | _ => .st := by rfl
@[simp ↓] theorem cSetO_e : cSetO i d e = (d e).bind fun d e1 => .ok .nx (e1.set i (some d)) := by rfl
@[simp ↓] theorem cDrop_e : cDrop a e = (a e).bind fun _ e1 => .ok .nx e1 := by rfl
@[simp ↓] theorem cRaise_e {cn : Str} : cRaise cn a e = (a e).bind fun _ e1 => .ex ⟨cn, none⟩ e1 := by rfl
@[simp ↓] theorem fSet_e : fSet i x e = some (e.set i (some x)) := by rfl
@[simp ↓] theorem cFor_e {f : Env → R (List D)} {g : D → Env → Option Env} : cFor f g p e = (f e).bind fun ds e1 => forL g p ds e1 := by rfl
@[simp ↓] theorem cItS_e : cItS a e = (a e).bind fun l e1 => match l with | .val d => ofO (seqOf d) e1 | _ => .st := by rfl
@[simp ↓] theorem cItRev_e : cItRev a e = (a e).bind fun l e1 => match l with | .val (.list ds) => .ok ds.reverse e1 | _ => .st := by rfl
@[simp ↓] theorem cItR1_e : cItR1 l e = (l e).bind fun ls e1 => match gets ls e1 with | some [.int j] => if inR j = true then .ok (intsFrom 0 j.toNat) e1 else .st | _ => .st := by rfl
@[simp ↓] theorem cItR2_e : cItR2 l e = (l e).bind fun ls e1 => match gets ls e1 with | some [.int i, .int j] => if (inR i && inR j) = true then .ok (intsFrom i (j - i).toNat) e1 else .st | _ => .st := by rfl
@[simp ↓] theorem cYes_e : cYes e = .ok true e := by rfl
@[simp ↓] theorem cIsi_e {f : D → Bool} : cIsi f a e = (a e).bind fun l e1 => ofO ((l.get e1).map fun d => .sc (.bool (f d))) e1 := by rfl
@[simp ↓] theorem cChain_e {f g : D → D → Option NV} : cChain f g a b c e = (a e).bind fun l e1 => (b e1).bind fun m e2 => (ofO ((l.get e2).bind fun x => (m.get e2).bind fun y => (f x y).bind fun n => dBool n.d) e2).bind fun k e3 => match k with | false => .ok (.sc (.bool false)) e3 | true => (c e3).bind fun o e4 => ofO ((m.get e4).bind fun y => (o.get e4).bind fun z => g y z) e4 := by rfl
@[simp ↓] theorem cMut_e {g : List D → List D → Option (D × List D)} : cMut i g l e = match e.getD i none with | some (.list _) => (l e).bind fun ls e1 => (match e1.getD i none, vals ls with | some (.list ds), some as => (match g ds as with | some (r, ds2) => .ok (.val r) (e1.set i (some (.list ds2))) | none => .st) | _, _ => .st) | _ => .st := by rfl
@[simp ↓] theorem cStore_e : cStore i a b e = (a e).bind fun l e1 => match l with | .val d => (match e1.getD i none with | some _ => (b e1).bind fun m e2 => (match e2.getD i none, m.get e2 with | some (.list ds), some (.int k) => (match ixN ds.length k with | some j => .ok .nx (e2.set i (some (.list (ds.set j d)))) | none => .st) | _, _ => .st) | none => .st) | _ => .st := by rfl
@[simp ↓] theorem cVar_e : cVar i e = match e.getD i none with | some d => .ok (.val d) e | none => .st := by rfl
@[simp ↓] theorem cPlc_e : cPlc i e = match e.getD i none with | some _ => .ok (.plc i) e | none => .st := by rfl
@[simp ↓] theorem cOwnV_e : cOwnV i e = match e.getD i none with | some _ => .ok (.own i) e | none => .st := by rfl
@[simp ↓] theorem cMove_e : cMove i e = match e.getD i none with | some d => .ok d (e.set i none) | none => .st := by rfl
@[simp ↓] theorem get_val : Lv.get (.val x) e = some x := by rfl
@[simp ↓] theorem get_plc : Lv.get (.plc i) e = e.getD i none := by rfl
@[simp ↓] theorem get_own : Lv.get (.own i) e = none := by rfl
@[simp ↓] theorem getA_val : Lv.getA (.val x) e = some x := by rfl
@[simp ↓] theorem getA_plc : Lv.getA (.plc i) e = e.getD i none := by rfl
@[simp ↓] theorem getA_own : Lv.getA (.own i) e = e.getD i none := by rfl
@[simp ↓] theorem slot_val : Lv.slot (.val x) = none := by rfl
@[simp ↓] theorem slot_plc : Lv.slot (.plc i) = some i := by rfl
@[simp ↓] theorem slot_own : Lv.slot (.own i) = some i := by rfl
@[simp ↓] theorem vals_nil : vals [] = some [] := by rfl
@[simp ↓] theorem vals_val {ls : List Lv} : vals (.val x :: ls) = (vals ls).map (x :: ·) := by rfl
@[simp ↓] theorem gets_nil : gets [] e = some [] := by rfl
@[simp ↓] theorem gets_cons {v : Lv} {ls : List Lv} : gets (v :: ls) e = (v.get e).bind fun d => (gets ls e).map (d :: ·) := by rfl
@[simp ↓] theorem getsA_nil : getsA [] e = some [] := by rfl
@[simp ↓] theorem getsA_cons {v : Lv} {ls : List Lv} : getsA (v :: ls) e = (v.getA e).bind fun d => (getsA ls e).map (d :: ·) := by rfl
@[simp ↓] theorem obind_some {γ : Type} {v : α} {f : α → Option γ} : (some v).bind f = f v := by rfl
@[simp ↓] theorem obind_none {γ : Type} {f : α → Option γ} : (none : Option α).bind f = none := by rfl
@[simp ↓] theorem omap_some {γ : Type} {v : α} {f : α → γ} : (some v).map f = some (f v) := by rfl
@[simp ↓] theorem nvd_sc : NV.d (.sc x) = x := by rfl
@[simp ↓] theorem nvd_nl {ds : List D} : NV.d (.nl ds) = .list ds := by rfl
@[simp ↓] theorem nvd_nt {ds : List D} : NV.d (.nt ds) = .tuple ds := by rfl
@[simp ↓] theorem cCall_e {modes : List Sh} {ks : List (Option Nat)} {rsh : Sh} {m : List D → FR} {dd : List D} : cCall modes ks rsh m dd l e = (l e).bind fun ls e1 => if ls.map Lv.slot = ks then (match getsA ls e1 with | none => .st | some ds => (match m (ds ++ dd) with | .ok r outs => if (!borrows modes ks || (indep rsh r && indeps modes outs)) = true then .ok r (putB modes ks outs e1) else .st | .ex x outs => if (!borrows modes ks || indeps modes outs) = true then .ex x (putB modes ks outs e1) else .st | .st => .st)) else .st := by rfl
@[simp ↓] theorem runF_e {rz : Bool} {ds : List D} : runF rz p k i ds = match p (ds.map some ++ List.replicate (i - k) none) with | .ok (.rt d) e => .ok d (outsOf k e) | .ok .nx e => (if rz = true then .ok .none (outsOf k e) else .st) | .ok .bk _ => .st | .ok .ct _ => .st | .ex x e => .ex x (outsOf k e) | .st => .st := by rfl
@[simp ↓] theorem forL_nil {g : D → Env → Option Env} : forL g p [] e = .ok .nx e := by rfl
@[simp ↓] theorem dAdd_ii {i j : Int} : dAdd (.int i) (.int j) = some (.sc (.int (i + j))) := by rfl
@[simp ↓] theorem dSub_ii {i j : Int} : dSub (.int i) (.int j) = some (.sc (.int (i - j))) := by rfl
@[simp ↓] theorem dLt_ii {i j : Int} : dLt (.int i) (.int j) = some (.sc (.bool (decide (i < j)))) := by rfl
@[simp ↓] theorem dLe_ii {i j : Int} : dLe (.int i) (.int j) = some (.sc (.bool (decide (i ≤ j)))) := by rfl
@[simp ↓] theorem dGt_ii {i j : Int} : dGt (.int i) (.int j) = some (.sc (.bool (decide (j < i)))) := by rfl
@[simp ↓] theorem dGe_ii {i j : Int} : dGe (.int i) (.int j) = some (.sc (.bool (decide (j ≤ i)))) := by rfl
@[simp ↓] theorem dEq_ii {i j : Int} : dEq (.int i) (.int j) = some (.sc (.bool (decide (i = j)))) := by rfl
@[simp ↓] theorem dNe_ii {i j : Int} : dNe (.int i) (.int j) = some (.sc (.bool (!decide (i = j)))) := by rfl
@[simp ↓] theorem dMul_ii {i j : Int} : dMul (.int i) (.int j) = if (small i || small j) = true then some (.sc (.int (i * j))) else none := by rfl
@[simp ↓] theorem dDiv_ii {i j : Int} : dDiv (.int i) (.int j) = if (decide (0 < j) && decide (j < 1073741824)) = true then some (.sc (.int (i / j))) else none := by rfl
@[simp ↓] theorem dMod_ii {i j : Int} : dMod (.int i) (.int j) = if decide (0 < j) = true then some (.sc (.int (i % j))) else none := by rfl
@[simp ↓] theorem dPow_ii {i j : Int} : dPow (.int i) (.int j) = if (decide (0 ≤ j) && decide (j ≤ 1000) && decide (i.natAbs < 2 ^ 64)) = true then some (.sc (.int (i ^ j.toNat))) else none := by rfl
@[simp ↓] theorem dAdd_ss {v w : Str} : dAdd (.str v) (.str w) = if fits (v.length + w.length) = true then some (.sc (.str (v ++ w))) else none := by rfl
@[simp ↓] theorem dAdd_ll {v w : List D} : dAdd (.list v) (.list w) = if fits (v.length + w.length) = true then some (.nl (v ++ w)) else none := by rfl
@[simp ↓] theorem dIx_l {v : List D} {j : Int} : dIx (.list v) (.int j) = (atI v j).map .sc := by rfl
@[simp ↓] theorem dIx_t {v : List D} {j : Int} : dIx (.tuple v) (.int j) = (atI v j).map .sc := by rfl
@[simp ↓] theorem dLen_l {v : List D} : dLen [.list v] = some (.sc (.int v.length)) := by rfl
@[simp ↓] theorem dLen_t {v : List D} : dLen [.tuple v] = some (.sc (.int v.length)) := by rfl
@[simp ↓] theorem dLen_s {v : Str} : dLen [.str v] = if fits v.length = true then some (.sc (.int v.length)) else none := by rfl
@[simp ↓] theorem dAbs_i {j : Int} : dAbs [.int j] = some (.sc (.int (if j < 0 then -j else j))) := by rfl
@[simp ↓] theorem dIntOf_i {j : Int} : dIntOf [.int j] = some (.sc (.int j)) := by rfl
@[simp ↓] theorem dIntOf_b {v : Bool} : dIntOf [.bool v] = some (.sc (.int (if v then 1 else 0))) := by rfl
@[simp ↓] theorem dList_l {v : List D} : dList [.list v] = some (.nl v) := by rfl
@[simp ↓] theorem dList_t {v : List D} : dList [.tuple v] = some (.nl v) := by rfl
@[simp ↓] theorem dTuple_l {v : List D} : dTuple [.list v] = some (.nt v) := by rfl
@[simp ↓] theorem dStr_i {j : Int} : dStrOf [.int j] = if j.natAbs.log2 < 1920 then some (.sc (.str (toString j))) else none := by rfl
@[simp ↓] theorem dStr_s {v : Str} : dStrOf [.str v] = some (.sc (.str v)) := by rfl
@[simp ↓] theorem dNeg_i {j : Int} : dNeg (.int j) = some (.sc (.int (-j))) := by rfl
@[simp ↓] theorem dBool_b {v : Bool} : dBool (.bool v) = some v := by rfl
@[simp ↓] theorem dInt_i {v : Int} : dInt (.int v) = some v := by rfl
@[simp ↓] theorem dTru_b {v : Bool} : dTru (.bool v) = some v := by rfl
@[simp ↓] theorem dTru_i {j : Int} : dTru (.int j) = some (j != 0) := by rfl
@[simp ↓] theorem dTru_l {v : List D} : dTru (.list v) = some (!v.isEmpty) := by rfl
@[simp ↓] theorem dTru_n : dTru .none = some false := by rfl
@[simp ↓] theorem dTru_t {v : List D} : dTru (.tuple v) = some (!v.isEmpty) := by rfl
@[simp ↓] theorem seqOf_l {v : List D} : seqOf (.list v) = some v := by rfl
@[simp ↓] theorem seqOf_t {v : List D} : seqOf (.tuple v) = some v := by rfl
@[simp ↓] theorem dIs_n : dIs .none .none = some (.sc (.bool true)) := by rfl
@[simp ↓] theorem dIs_i {j : Int} : dIs (.int j) .none = some (.sc (.bool false)) := by rfl
@[simp ↓] theorem dIs_b {j : Bool} : dIs (.bool j) .none = some (.sc (.bool false)) := by rfl
@[simp ↓] theorem dIs_l {j : List D} : dIs (.list j) .none = some (.sc (.bool false)) := by rfl
@[simp ↓] theorem dIs_t {j : List D} : dIs (.tuple j) .none = some (.sc (.bool false)) := by rfl
@[simp ↓] theorem dIs_s {j : Str} : dIs (.str j) .none = some (.sc (.bool false)) := by rfl
@[simp ↓] theorem gApp_e {ds : List D} : gApp ds [x] = if fits (ds.length + 1) = true then some (.none, ds ++ [x]) else none := by rfl
end
theorem getD_z {e : Env} {v : Option D} : List.getD (v :: e) 0 none = v := rfl
theorem getD_s {e : Env} {v : Option D} {i : Nat} : List.getD (v :: e) (i + 1) none = e.getD i none := rfl

theorem ixN_nat {n k : Nat} : ixN n (k : Int) = if k < n then some k else none := by
  unfold ixN
  rw [if_pos (Int.natCast_nonneg k)]
  by_cases h : k < n
  · rw [if_pos h, if_pos (by exact_mod_cast h), Int.toNat_natCast]
  · rw [if_neg h, if_neg (by exact_mod_cast h)]
theorem atI_nat {α : Type} {l : List α} {k : Nat} : atI l (k : Int) = l[k]? := by
  unfold atI
  rw [ixN_nat]
  by_cases h : k < l.length
  · rw [if_pos h]
    rfl
  · rw [if_neg h, List.getElem?_eq_none (Nat.le_of_not_lt h)]
    rfl
@[simp] theorem atI_lit {α : Type} {l : List α} {k : Nat} : atI l (no_index (OfNat.ofNat k)) = l[k]? := atI_nat (k := k)
@[simp] theorem atI_zero {α : Type} {l : List α} : atI l 0 = l[0]? := atI_nat (k := 0)
@[simp] theorem atI_one {α : Type} {l : List α} : atI l 1 = l[1]? := atI_nat (k := 1)
@[simp] theorem ixN_lit {n k : Nat} : ixN n (no_index (OfNat.ofNat k)) = if k < n then some k else none := ixN_nat (k := k)
@[simp] theorem ixN_zero {n : Nat} : ixN n 0 = if 0 < n then some 0 else none := ixN_nat (k := 0)
@[simp] theorem ixN_one {n : Nat} : ixN n 1 = if 1 < n then some 1 else none := ixN_nat (k := 1)
theorem atI_of {α : Type} {l : List α} {i : Int} (h : 0 ≤ i) : atI l i = l[i.toNat]? := by
  obtain ⟨k, rfl⟩ := Int.eq_ofNat_of_zero_le h
  exact atI_nat

/-- a loop that runs through -/
theorem forL_nx {f : D → Env → Option Env} {b : Env → R Fl} (I : Nat → Env → Prop) : ∀ (ds : List D) (k : Nat) (e : Env), I k e → (∀ (j : Nat) d e, ds[j]? = some d → I (k + j) e → ∃ e1, f d e = some e1 ∧ ∃ e2, (b e1 = .ok .nx e2 ∨ b e1 = .ok .ct e2) ∧ I (k + j + 1) e2) → ∃ e2, forL f b ds e = .ok .nx e2 ∧ I (k + ds.length) e2
  | [], k, e, h, _ => ⟨e, rfl, h⟩
  | d :: ds, k, e, h, st => by
    obtain ⟨e1, h1, e2, h2, h3⟩ := st 0 d e rfl h
    obtain ⟨e3, h4, h5⟩ := forL_nx I ds (k + 1) e2 h3 fun j d' e' hd hI => by
      have hI : I (k + (j + 1)) e' := by rw [show k + (j + 1) = k + 1 + j by omega]; exact hI
      have := st (j + 1) d' e' (by simpa using hd) hI
      rw [show k + (j + 1) + 1 = k + 1 + j + 1 by omega] at this
      exact this
    refine ⟨e3, ?_, by rw [show k + (d :: ds).length = k + 1 + ds.length by simp; omega]; exact h5⟩
    unfold forL
    rw [h1]
    rcases h2 with h2 | h2
    · simp only [h2, h4]
    · simp only [h2, h4]
/-- the same with all states known -/
theorem forL_eq {f : D → Env → Option Env} {b : Env → R Fl} (E : Nat → Env) (ds : List D) (st : ∀ (j : Nat) d, ds[j]? = some d → ∃ e1, f d (E j) = some e1 ∧ b e1 = .ok .nx (E (j + 1))) : forL f b ds (E 0) = .ok .nx (E ds.length) := by
  obtain ⟨e2, h1, h2⟩ := forL_nx (fun k e => e = E k) ds 0 (E 0) rfl fun j d e hd hI => by
    rw [Nat.zero_add] at hI
    subst hI
    obtain ⟨e1, h1, h2⟩ := st j d hd
    exact ⟨e1, h1, _, .inl h2, by rw [Nat.zero_add]⟩
  rw [Nat.zero_add] at h2
  rw [h1, h2]
theorem forL_cons_nx {f : D → Env → Option Env} {b : Env → R Fl} {d : D} {ds : List D} {e e1 e2 : Env} (h1 : f d e = some e1) (h2 : b e1 = .ok .nx e2) : forL f b (d :: ds) e = forL f b ds e2 := by
  rw [forL, h1]
  simp only [h2]
theorem intsFrom_get {lo : Int} {n j : Nat} {d : D} (h : (intsFrom lo n)[j]? = some d) : j < n ∧ d = .int (lo + j) := by
  unfold intsFrom at h
  rw [List.getElem?_map] at h
  by_cases hj : j < n
  · rw [List.getElem?_range hj] at h
    exact ⟨hj, (Option.some.inj h).symm⟩
  · rw [List.getElem?_eq_none (by simpa using hj)] at h
    cases h
@[simp] theorem intsFrom_len {lo : Int} {n : Nat} : (intsFrom lo n).length = n := by simp [intsFrom]
/-- [elt for x in .. if ..]: the parts change nothing -/
theorem comp_pure {i : Nat} {t : Env → R Bool} {c : Env → R Lv} {e : Env} (ds : List D) (p : D → Bool) (g : D → D) (hi : i < e.length)
    (ht : ∀ d, d ∈ ds → t (e.set i (some d)) = .ok (p d) (e.set i (some d))) (hc : ∀ d, d ∈ ds → p d = true → c (e.set i (some d)) = .ok (.val (g d)) (e.set i (some d))) :
    ∃ v, compL [i] (fSet i) t c ds e = .ok ((ds.filter p).map g) (e.set i v) := by
  have go : ∀ (ds : List D) (v : Option D), (∀ d, d ∈ ds → t (e.set i (some d)) = .ok (p d) (e.set i (some d))) → (∀ d, d ∈ ds → p d = true → c (e.set i (some d)) = .ok (.val (g d)) (e.set i (some d))) →
      ∃ v', compL [i] (fSet i) t c ds (e.set i v) = .ok ((ds.filter p).map g) (e.set i v') := by
    intro ds
    induction ds with
    | nil => intro v _ _; exact ⟨v, rfl⟩
    | cons d ds ih =>
      intro v ht hc
      obtain ⟨v', h⟩ := ih (some d) (fun x hx => ht x (List.mem_cons_of_mem _ hx)) (fun x hx => hc x (List.mem_cons_of_mem _ hx))
      have cl : fSet i d (clearE [i] (e.set i v)) = some (e.set i (some d)) := by simp [clearE, fSet]
      have h1 := ht d List.mem_cons_self
      unfold compL
      simp only [cl, h1]
      cases q : p d with
      | false => exact ⟨v', by simp only [h]; rw [List.filter_cons_of_neg (by simp [q])]⟩
      | true => exact ⟨v', by simp only [hc d List.mem_cons_self q, h]; rw [List.filter_cons_of_pos q]; rfl⟩
  obtain ⟨v', h⟩ := go ds (e[i]'hi) ht hc
  rw [List.set_getElem_self] at h
  exact ⟨v', h⟩
theorem cComp_pure {i : Nat} {ci : Env → R (List D)} {t : Env → R Bool} {c : Env → R Lv} {e0 e : Env} (ds : List D) (p : D → Bool) (g : D → D) (hci : ci e0 = .ok ds e) (hf : fits ds.length = true) (hi : i < e.length)
    (ht : ∀ d, d ∈ ds → t (e.set i (some d)) = .ok (p d) (e.set i (some d))) (hc : ∀ d, d ∈ ds → p d = true → c (e.set i (some d)) = .ok (.val (g d)) (e.set i (some d))) :
    cComp [i] ci (fSet i) t c e0 = .ok (.nl ((ds.filter p).map g)) e := by
  obtain ⟨v, h⟩ := comp_pure ds p g hi ht hc
  unfold cComp
  rw [hci, bind_e]
  simp only [hf, if_true, h]
  have : restoreE [i] e (e.set i v) = e := by
    show (e.set i v).set i (e.getD i none) = e
    rw [List.set_set, List.getD_eq_getElem?_getD, List.getElem?_eq_getElem hi, Option.getD_some, List.set_getElem_self]
  rw [this]
/-- .. without a condition -/
theorem cComp_map {i : Nat} {ci : Env → R (List D)} {c : Env → R Lv} {e0 e : Env} (ds : List D) (g : D → D) (hci : ci e0 = .ok ds e) (hf : fits ds.length = true) (hi : i < e.length)
    (hc : ∀ d, d ∈ ds → c (e.set i (some d)) = .ok (.val (g d)) (e.set i (some d))) : cComp [i] ci (fSet i) cYes c e0 = .ok (.nl (ds.map g)) e := by
  have := cComp_pure (t := cYes) ds (fun _ => true) g hci hf hi (fun d _ => rfl) (fun d hd _ => hc d hd)
  rw [this, List.filter_eq_self.mpr (fun _ _ => rfl)]
theorem fits_le {n : Nat} (h : n ≤ 16777216) : fits n = true := by
  rw [fits_iff, sizeLine_eq]
  exact h

section
variable {p q : Env → R Fl} {e e1 : Env} {d : D} {x : Exc}
theorem seq_nx (h : p e = .ok .nx e1) : cSeq p q e = q e1 := by rw [cSeq_e, h]
theorem seq_rt (h : p e = .ok (.rt d) e1) : cSeq p q e = .ok (.rt d) e1 := by rw [cSeq_e, h]
theorem seq_ex (h : p e = .ex x e1) : cSeq p q e = .ex x e1 := by rw [cSeq_e, h]
theorem seq_bk (h : p e = .ok .bk e1) : cSeq p q e = .ok .bk e1 := by rw [cSeq_e, h]
theorem seq_ct (h : p e = .ok .ct e1) : cSeq p q e = .ok .ct e1 := by rw [cSeq_e, h]
theorem if_t {α : Type} {t : Env → R Bool} {f g : Env → R α} (h : t e = .ok true e1) : cIf t f g e = f e1 := by rw [cIf_e, h, bind_e]
theorem if_f {α : Type} {t : Env → R Bool} {f g : Env → R α} (h : t e = .ok false e1) : cIf t f g e = g e1 := by rw [cIf_e, h, bind_e]
theorem for_it {f : Env → R (List D)} {g : D → Env → Option Env} {ds : List D} (h : f e = .ok ds e1) : cFor f g p e = forL g p ds e1 := by rw [cFor_e, h, bind_e]
theorem for_nx {f : Env → R (List D)} {g : D → Env → Option Env} {ds : List D} {e2 : Env} (h : f e = .ok ds e1) (hl : forL g p ds e1 = .ok .nx e2) : cFor f g p e = .ok .nx e2 := by rw [for_it h, hl]
theorem run_ok {rz : Bool} {n i : Nat} {ds : List D} {env : Env} {outs : List D} (h : p env = .ok (.rt d) e) (he : ds.map some ++ List.replicate (i - n) none = env := by rfl) (ho : outsOf n e = outs := by rfl) : runF rz p n i ds = .ok d outs := by subst he ho; rw [runF_e, h]
theorem run_exc {rz : Bool} {n i : Nat} {ds : List D} {env : Env} {outs : List D} (h : p env = .ex x e) (he : ds.map some ++ List.replicate (i - n) none = env := by rfl) (ho : outsOf n e = outs := by rfl) : runF rz p n i ds = .ex x outs := by subst he ho; rw [runF_e, h]
theorem run_rt {rz : Bool} {n i : Nat} {ds : List D} (h : p (ds.map some ++ List.replicate (i - n) none) = .ok (.rt d) e) : runF rz p n i ds = .ok d (outsOf n e) := by rw [runF_e, h]
theorem run_ex {rz : Bool} {n i : Nat} {ds : List D} (h : p (ds.map some ++ List.replicate (i - n) none) = .ex x e) : runF rz p n i ds = .ex x (outsOf n e) := by rw [runF_e, h]
theorem run_nx {n i : Nat} {ds : List D} (h : p (ds.map some ++ List.replicate (i - n) none) = .ok .nx e) : runF true p n i ds = .ok .none (outsOf n e) := by rw [runF_e, h]; rfl
theorem and_t {s t : Env → R Bool} (h : s e = .ok true e1) : cAnd s t e = t e1 := by rw [cAnd_e, h, bind_e]
theorem and_f {s t : Env → R Bool} (h : s e = .ok false e1) : cAnd s t e = .ok false e1 := by rw [cAnd_e, h, bind_e]
theorem or_t {s t : Env → R Bool} (h : s e = .ok true e1) : cOr s t e = .ok true e1 := by rw [cOr_e, h, bind_e]
theorem or_f {s t : Env → R Bool} (h : s e = .ok false e1) : cOr s t e = t e1 := by rw [cOr_e, h, bind_e]
theorem not_ok {s : Env → R Bool} {b : Bool} (h : s e = .ok b e1) : cNot s e = .ok (!b) e1 := by rw [cNot_e, h, bind_e]
end
end DL

/-! What every law's own helpers compute. -/
namespace DL
open PySem PySem.Spec PyProof.Rows L2
namespace Lib
def b__law_pool : Env → R Fl :=
 cRetO (cOwn (cLst (cCons (cFrz (cB dList (cCons (cVar 0) (cNil)))) (cCons (cK (.int 0)) (cCons (cK (.int 0)) (cCons (cK (.int 0)) (cCons (cK (.int 0)) (cNil))))))))
def m__law_pool : List D → FR := runF false b__law_pool 1 1
def s0__law_draw : Env → R Fl :=
 cIf (cTst (c2 dGt (cFrz (c2 dIx (cPlc 0) (cK (.int 2)))) (cK (.int 0)))) (cSeq (cAsg (cFrz (c2 dMod (cFrz (cB dIntOf (cCons (cFrz (c2 dIx (cPlc 0) (cK (.int 2)))) (cNil)))) (cVar 1))) (fSet 2))
 (cSeq (cStore 0 (cFrz (c2 dDiv (cFrz (c2 dIx (cPlc 0) (cK (.int 2)))) (cVar 1))) (cK (.int 2)))
 (cRet (cVar 2)))) (cNx)
def s1__law_draw : Env → R Fl :=
 cIf (cAnd (cTst (c2 dEq (cFrz (c2 dMod (cFrz (cB dIntOf (cCons (cFrz (c2 dIx (cPlc 0) (cK (.int 4)))) (cNil)))) (cK (.int 8)))) (cK (.int 0)))) (cTst (c2 dLt (cFrz (c2 dIx (cPlc 0) (cK (.int 1)))) (cFrz (cB dLen (cCons (cFrz (c2 dIx (cPlc 0) (cK (.int 0)))) (cNil))))))) (cSeq (cAsg (cFrz (cB dAbs (cCons (cFrz (c2 dIx (cFrz (c2 dIx (cPlc 0) (cK (.int 0)))) (cFrz (c2 dIx (cPlc 0) (cK (.int 1)))))) (cNil)))) (fSet 3))
 (cSeq (cStore 0 (cFrz (c2 dAdd (cFrz (c2 dIx (cPlc 0) (cK (.int 1)))) (cK (.int 1)))) (cK (.int 1)))
 (cSeq (cIf (cTst (c2 dGe (cVar 3) (cFrz (c2 dPow (cK (.int 10)) (cK (.int 18)))))) (cSeq (cStore 0 (cFrz (c2 dDiv (cVar 3) (cVar 1))) (cK (.int 2)))
 (cRet (cFrz (c2 dMod (cFrz (cB dIntOf (cCons (cVar 3) (cNil)))) (cVar 1))))) (cNx))
 (cStore 0 (cVar 3) (cK (.int 3)))))) (cNx)
def s2__law_draw : Env → R Fl :=
 cStore 0 (cFrz (c2 dAdd (cFrz (c2 dIx (cPlc 0) (cK (.int 4)))) (cK (.int 1)))) (cK (.int 4))
def s3__law_draw : Env → R Fl :=
 cAsg (cFrz (c2 dMod (cFrz (cB dIntOf (cCons (cFrz (c2 dAdd (cFrz (c2 dAdd (cFrz (c2 dMul (cFrz (c2 dIx (cPlc 0) (cK (.int 3)))) (cK (.int 48271)))) (cFrz (c2 dMul (cFrz (c2 dIx (cPlc 0) (cK (.int 4)))) (cK (.int 69621)))))) (cK (.int 7919)))) (cNil)))) (cK (.int 2147483647)))) (fSet 4)
def s4__law_draw : Env → R Fl :=
 cAsg (cFrz (c2 dMod (cFrz (cB dIntOf (cCons (cFrz (c2 dAdd (cFrz (c2 dMul (cVar 4) (cVar 4))) (cFrz (c2 dMul (cFrz (c2 dIx (cPlc 0) (cK (.int 4)))) (cK (.int 40692)))))) (cNil)))) (cK (.int 2147483399)))) (fSet 4)
def s5__law_draw : Env → R Fl :=
 cRet (cFrz (c2 dMod (cFrz (cB dIntOf (cCons (cVar 4) (cNil)))) (cVar 1)))
def b__law_draw : Env → R Fl :=
 cSeq (s0__law_draw)
 (cSeq (s1__law_draw)
 (cSeq (s2__law_draw)
 (cSeq (s3__law_draw)
 (cSeq (s4__law_draw)
 (s5__law_draw)))))
def m__law_draw : List D → FR := runF true b__law_draw 2 5
def b__law_pick : Env → R Fl :=
 cRet (cFrz (c2 dIx (cVar 1) (cMelt (cCall [(.lst .fz), .fz] [some 0, none] .fz m__law_draw [] (cCons (cOwnV 0) (cCons (cFrz (cB dLen (cCons (cVar 1) (cNil)))) (cNil)))))))
def m__law_pick : List D → FR := runF true b__law_pick 2 2
def l0__law_same (rc : List D → FR) : Env → R Fl :=
 cIf (cNot (cTru (cMelt (cCall [.fz, .fz] [none, none] .fz rc [] (cCons (cFrz (c2 dIx (cVar 0) (cVar 2))) (cCons (cFrz (c2 dIx (cVar 1) (cVar 2))) (cNil))))))) (cRet (cK (.bool false))) (cNx)
def s1__law_same : Env → R Fl :=
 cIf (cTst (c2 dIs (cVar 1) (cK .none))) (cRet (cFrz (c2 dIs (cVar 0) (cK .none)))) (cNx)
def s2__law_same (rc : List D → FR) : Env → R Fl :=
 cIf (cTst (cIsi (fun d => ["tuple", "list"].any fun T => isD T d) (cVar 1))) (cSeq (cIf (cOr (cTst (c2 dNe (cFrz (cIsi (isD "tuple") (cVar 1))) (cFrz (cIsi (isD "tuple") (cVar 0))))) (cTst (c2 dNe (cFrz (cIsi (isD "list") (cVar 1))) (cFrz (cIsi (isD "list") (cVar 0)))))) (cRet (cK (.bool false))) (cNx))
 (cSeq (cIf (cTst (c2 dNe (cFrz (cB dLen (cCons (cVar 0) (cNil)))) (cFrz (cB dLen (cCons (cVar 1) (cNil)))))) (cRet (cK (.bool false))) (cNx))
 (cSeq (cFor (cItR1 (cCons (cFrz (cB dLen (cCons (cVar 1) (cNil)))) (cNil))) (fSet 2) (l0__law_same rc))
 (cRet (cK (.bool true)))))) (cNx)
def s3__law_same : Env → R Fl :=
 cIf (cTst (cIsi (isD "bool") (cVar 1))) (cRet (cAndV (cFrz (cIsi (isD "bool") (cVar 0))) (cFrz (c2 dEq (cVar 0) (cVar 1))))) (cNx)
def s4__law_same : Env → R Fl :=
 cIf (cTst (cIsi (isD "int") (cVar 1))) (cRet (cAndV (cFrz (cIsi (isD "int") (cVar 0))) (cAndV (cNotV (cFrz (cIsi (isD "bool") (cVar 0)))) (cFrz (c2 dEq (cVar 0) (cVar 1)))))) (cNx)
def s5__law_same : Env → R Fl :=
 cRet (cAndV (cFrz (cIsi (isD "str") (cVar 0))) (cFrz (c2 dEq (cVar 0) (cVar 1))))
def b__law_same (rc : List D → FR) : Env → R Fl :=
 cSeq (s1__law_same)
 (cSeq (s2__law_same rc)
 (cSeq (s3__law_same)
 (cSeq (s4__law_same)
 (s5__law_same))))
def m__law_same : Nat → List D → FR
  | 0 => fun _ => .st
  | n + 1 => runF true (b__law_same (m__law_same n)) 2 3
end Lib
def poolD (ns : List Int) (p a c t : Int) : D := .list [.list (ns.map .int), .int p, .int a, .int c, .int t]
@[simp] theorem small_lit1 : small 48271 = true := by decide
@[simp] theorem small_lit2 : small 69621 = true := by decide
@[simp] theorem small_lit3 : small 40692 = true := by decide
@[simp] theorem pow18 : dPow (.int 10) (.int 18) = some (.sc (.int 1000000000000000000)) := by rw [dPow_ii]; rfl
theorem draw_s0 {ns : List Int} {p a c t many : Int} (h : 0 < a) (h1 : 0 < many) (h2 : many < 1073741824) :
    Lib.s0__law_draw [some (poolD ns p a c t), some (.int many), none, none, none] = .ok (.rt (.int (a % many))) [some (poolD ns p (a / many) c t), some (.int many), some (.int (a % many)), none, none] := by
  simp [Lib.s0__law_draw, poolD, h, h1, h2]
theorem draw_s0n {ns : List Int} {p a c t many : Int} (h : ¬ 0 < a) :
    Lib.s0__law_draw [some (poolD ns p a c t), some (.int many), none, none, none] = .ok .nx [some (poolD ns p a c t), some (.int many), none, none, none] := by
  simp [Lib.s0__law_draw, poolD, h]
theorem draw_s1a {ns : List Int} {p a c t many z : Int} (ht : t % 8 = 0) (hp : 0 ≤ p) (hz : ns[p.toNat]? = some z) (h1 : 0 < many) (h2 : many < 1073741824) (hc : 1000000000000000000 ≤ (if z < 0 then -z else z)) :
    Lib.s1__law_draw [some (poolD ns p a c t), some (.int many), none, none, none] = .ok (.rt (.int ((if z < 0 then -z else z) % many))) [some (poolD ns (p + 1) ((if z < 0 then -z else z) / many) c t), some (.int many), none, some (.int (if z < 0 then -z else z)), none] := by
  have hl : p < (ns.length : Int) := by
    have := (List.getElem?_eq_some_iff.mp hz).1
    omega
  simp only [Lib.s1__law_draw, poolD]
  simp [ht, hl, atI_of hp, hz, hc, h1, h2]
theorem draw_s1b {ns : List Int} {p a c t many z : Int} (ht : t % 8 = 0) (hp : 0 ≤ p) (hz : ns[p.toNat]? = some z) (hc : ¬ 1000000000000000000 ≤ (if z < 0 then -z else z)) :
    Lib.s1__law_draw [some (poolD ns p a c t), some (.int many), none, none, none] = .ok .nx [some (poolD ns (p + 1) a (if z < 0 then -z else z) t), some (.int many), none, some (.int (if z < 0 then -z else z)), none] := by
  have hl : p < (ns.length : Int) := by
    have := (List.getElem?_eq_some_iff.mp hz).1
    omega
  simp only [Lib.s1__law_draw, poolD]
  simp [ht, hl, atI_of hp, hz, hc]
theorem draw_s1n {ns : List Int} {p a c t many : Int} (h : ¬ (t % 8 = 0 ∧ p < (ns.length : Int))) :
    Lib.s1__law_draw [some (poolD ns p a c t), some (.int many), none, none, none] = .ok .nx [some (poolD ns p a c t), some (.int many), none, none, none] := by
  simp only [Lib.s1__law_draw, poolD]
  by_cases ht : t % 8 = 0
  · have hl : ¬ p < (ns.length : Int) := fun z => h ⟨ht, z⟩
    simp [ht, hl]
  · simp [ht]
theorem draw_rest {ns : List Int} {p a c t many : Int} {x : Option D} (h1 : 0 < many) :
    ∃ r v, cSeq Lib.s2__law_draw (cSeq Lib.s3__law_draw (cSeq Lib.s4__law_draw Lib.s5__law_draw)) [some (poolD ns p a c t), some (.int many), none, x, none] = .ok (.rt (.int (r % many))) [some (poolD ns p a c (t + 1)), some (.int many), none, x, v] := by
  have hs : ∀ m : Int, small (m % 2147483647) = true := fun m => by
    rw [small_iff]
    have := Int.emod_nonneg m (b := 2147483647) (by decide)
    have := Int.emod_lt_of_pos m (b := 2147483647) (by decide)
    omega
  simp [Lib.s2__law_draw, Lib.s3__law_draw, Lib.s4__law_draw, Lib.s5__law_draw, poolD, h1, hs]
  exact ⟨_, rfl⟩
theorem draw_ok (ns : List Int) (p a c t many : Int) (hp : 0 ≤ p) (hl : p ≤ (ns.length : Int)) (h1 : 0 < many) (h2 : many < 1073741824) :
    ∃ r p' a' c' t', Lib.m__law_draw [poolD ns p a c t, .int many] = .ok (.int r) [poolD ns p' a' c' t', .int many] ∧ 0 ≤ r ∧ r < many ∧ 0 ≤ p' ∧ p' ≤ (ns.length : Int) := by
  have mm : ∀ z : Int, 0 ≤ z % many ∧ z % many < many := fun z => ⟨Int.emod_nonneg z (by omega), Int.emod_lt_of_pos z h1⟩
  have st : Lib.m__law_draw [poolD ns p a c t, .int many] = (match Lib.b__law_draw [some (poolD ns p a c t), some (.int many), none, none, none] with | .ok (.rt d) e => .ok d (outsOf 2 e) | .ok .nx e => .ok .none (outsOf 2 e) | .ok .bk _ => .st | .ok .ct _ => .st | .ex x e => .ex x (outsOf 2 e) | .st => .st) := rfl
  rw [st]
  unfold Lib.b__law_draw
  by_cases ha : 0 < a
  · refine ⟨a % many, p, a / many, c, t, ?_, (mm a).1, (mm a).2, hp, hl⟩
    simp [draw_s0 ha h1 h2, outsOf]
  · rw [cSeq_e, draw_s0n ha]
    simp only
    by_cases hb : t % 8 = 0 ∧ p < (ns.length : Int)
    · obtain ⟨z, hz⟩ : ∃ z, ns[p.toNat]? = some z := ⟨ns[p.toNat]'(by omega), List.getElem?_eq_getElem (by omega)⟩
      by_cases hc : 1000000000000000000 ≤ (if z < 0 then -z else z)
      · refine ⟨(if z < 0 then -z else z) % many, p + 1, (if z < 0 then -z else z) / many, c, t, ?_, (mm _).1, (mm _).2, by omega, by omega⟩
        rw [cSeq_e, draw_s1a hb.1 hp hz h1 h2 hc]
        simp [outsOf]
      · rw [cSeq_e, draw_s1b hb.1 hp hz hc]
        simp only
        obtain ⟨r, v, e⟩ := draw_rest (ns := ns) (p := p + 1) (a := a) (c := if z < 0 then -z else z) (t := t) (many := many) (x := some (.int (if z < 0 then -z else z))) h1
        rw [e]
        exact ⟨r % many, p + 1, a, if z < 0 then -z else z, t + 1, by simp [outsOf], (mm _).1, (mm _).2, by omega, by omega⟩
    · rw [cSeq_e, draw_s1n hb]
      simp only
      obtain ⟨r, v, e⟩ := draw_rest (ns := ns) (p := p) (a := a) (c := c) (t := t) (many := many) (x := none) h1
      rw [e]
      exact ⟨r % many, p, a, c, t + 1, by simp [outsOf], (mm _).1, (mm _).2, hp, hl⟩
theorem pool_ok (ns : List Int) : Lib.m__law_pool [.list (ns.map .int)] = .ok (poolD ns 0 0 0 0) [.list (ns.map .int)] := by
  simp [Lib.m__law_pool, Lib.b__law_pool, poolD, outsOf, fits_le]
/-- what _law_same takes -/
def okS : Nat → D → Bool
  | _, .none => true
  | _, .bool _ => true
  | _, .int _ => true
  | _, .str _ => true
  | n + 1, .list ds => decide (ds.length ≤ 16777216) && ds.all (okS n)
  | n + 1, .tuple ds => decide (ds.length ≤ 16777216) && ds.all (okS n)
  | _, _ => false
theorem inR_of {i : Int} (h0 : 0 ≤ i) (h1 : i ≤ 1000000000) : inR i = true := by
  rw [inR_iff]
  omega
theorem dNe_bb (a b : Bool) : dNe (.bool a) (.bool b) = some (.sc (.bool (!(a == b)))) := by cases a <;> cases b <;> rfl
theorem dEq_bb (a b : Bool) : dEq (.bool a) (.bool b) = some (.sc (.bool (a == b))) := by cases a <;> cases b <;> rfl
theorem dEq_ss (a b : Str) : dEq (.str a) (.str b) = some (.sc (.bool (decide (a = b)))) := rfl
theorem dNe_ss (a b : Str) : dNe (.str a) (.str b) = some (.sc (.bool (!decide (a = b)))) := rfl
theorem same_loop {n : Nat} {ds : List D} (x : D) (ih : ∀ d, d ∈ ds → Lib.m__law_same n [d, d] = .ok (.bool true) [d, d]) (hx : ∀ (j : Nat) d, ds[j]? = some d → dIx x (.int (j : Int)) = some (.sc d)) :
    ∃ v, forL (fSet 2) (Lib.l0__law_same (Lib.m__law_same n)) (intsFrom 0 ds.length) [some x, some x, none] = .ok .nx [some x, some x, v] := by
  obtain ⟨e2, h1, h2⟩ := forL_nx (f := fSet 2) (b := Lib.l0__law_same (Lib.m__law_same n)) (fun _ e => ∃ v, e = [some x, some x, v]) (intsFrom 0 ds.length) 0 [some x, some x, none] ⟨_, rfl⟩ fun j d e hd ⟨v, he⟩ => by
    subst he
    obtain ⟨hj, rfl⟩ := intsFrom_get hd
    refine ⟨[some x, some x, some (.int (0 + (j : Int)))], rfl, [some x, some x, some (.int (0 + (j : Int)))], .inl ?_, _, rfl⟩
    have hj2 : ds[j]? = some ds[j] := List.getElem?_eq_getElem hj
    have hi := ih ds[j] (List.getElem_mem hj)
    have hx2 := hx j _ hj2
    rw [Int.zero_add]
    simp [Lib.l0__law_same, hx2, hi, borrows, isFz, putB]
  obtain ⟨v, rfl⟩ := h2
  exact ⟨v, h1⟩
theorem isTL_l {ds : List D} : (["tuple", "list"].any fun T => isD T (.list ds)) = true := by simp [isD, tyD]
theorem isTL_t {ds : List D} : (["tuple", "list"].any fun T => isD T (.tuple ds)) = true := by simp [isD, tyD]
theorem sm0l {ds : List D} (hl : ds.length ≤ 16777216) : inR (ds.length : Int) = true := inR_of (by omega) (by omega)
theorem sm1l {ds : List D} (hr : inR (ds.length : Int) = true) : cItR1 (cCons (cFrz (cB dLen (cCons (cVar 1) cNil))) cNil) [some (.list ds), some (.list ds), none] = .ok (intsFrom 0 ds.length) [some (.list ds), some (.list ds), none] := by
  simp [hr]
theorem sm2l {ds : List D} : (cOr (cTst (c2 dNe (cFrz (cIsi (isD "tuple") (cVar 1))) (cFrz (cIsi (isD "tuple") (cVar 0))))) (cTst (c2 dNe (cFrz (cIsi (isD "list") (cVar 1))) (cFrz (cIsi (isD "list") (cVar 0)))))) [some (.list ds), some (.list ds), none] = .ok false [some (.list ds), some (.list ds), none] := by
  have e1 : isD "tuple" (.list ds) = false := by simp [isD, tyD]
  have e2 : isD "list" (.list ds) = true := by simp [isD, tyD]
  simp [e1, e2, dNe_bb]
theorem sm3l {ds : List D} : Lib.s1__law_same [some (.list ds), some (.list ds), none] = .ok .nx [some (.list ds), some (.list ds), none] := by
  simp [Lib.s1__law_same]
theorem sm4l {ds : List D} : (cTst (cIsi (fun d => ["tuple", "list"].any fun T => isD T d) (cVar 1))) [some (.list ds), some (.list ds), none] = .ok true [some (.list ds), some (.list ds), none] := by
  simp [-List.any_cons, isTL_l]
theorem sm5l {ds : List D} : (cTst (c2 dNe (cFrz (cB dLen (cCons (cVar 0) (cNil)))) (cFrz (cB dLen (cCons (cVar 1) (cNil)))))) [some (.list ds), some (.list ds), none] = .ok false [some (.list ds), some (.list ds), none] := by
  simp
theorem sm6l {n : Nat} {ds : List D} {v : Option D} (hr : inR (ds.length : Int) = true) (lp : forL (fSet 2) (Lib.l0__law_same (Lib.m__law_same n)) (intsFrom 0 ds.length) [some (.list ds), some (.list ds), none] = .ok .nx [some (.list ds), some (.list ds), v]) :
   Lib.s2__law_same (Lib.m__law_same n) [some (.list ds), some (.list ds), none] = .ok (.rt (.bool true)) [some (.list ds), some (.list ds), v] := by
  unfold Lib.s2__law_same
  rw [cIf_e, sm4l, bind_e]
  simp only
  rw [cSeq_e, cIf_e, sm2l, bind_e]
  simp only
  rw [cNx_e]
  simp only
  rw [cSeq_e, cIf_e, sm5l, bind_e]
  simp only
  rw [cNx_e]
  simp only
  rw [cSeq_e, cFor_e, sm1l hr, bind_e]
  simp only
  rw [lp]
  rfl
theorem sm7l {n : Nat} {ds : List D} {v : Option D} (hr : inR (ds.length : Int) = true) (lp : forL (fSet 2) (Lib.l0__law_same (Lib.m__law_same n)) (intsFrom 0 ds.length) [some (.list ds), some (.list ds), none] = .ok .nx [some (.list ds), some (.list ds), v]) :
  Lib.m__law_same (n + 1) [.list ds, .list ds] = .ok (.bool true) [.list ds, .list ds] := by
  have st : Lib.m__law_same (n + 1) [.list ds, .list ds] = runF true (Lib.b__law_same (Lib.m__law_same n)) 2 3 [.list ds, .list ds] := rfl
  rw [st, runF_e]
  show (match Lib.b__law_same (Lib.m__law_same n) [some (.list ds), some (.list ds), none] with | .ok (.rt d) e => FR.ok d (outsOf 2 e) | .ok .nx e => (if true = true then .ok .none (outsOf 2 e) else .st) | .ok .bk _ => .st | .ok .ct _ => .st | .ex x e => .ex x (outsOf 2 e) | .st => .st) = _
  unfold Lib.b__law_same
  rw [cSeq_e, sm3l]
  simp only
  rw [cSeq_e, sm6l hr lp]
  rfl
theorem sm0t {ds : List D} (hl : ds.length ≤ 16777216) : inR (ds.length : Int) = true := inR_of (by omega) (by omega)
theorem sm1t {ds : List D} (hr : inR (ds.length : Int) = true) : cItR1 (cCons (cFrz (cB dLen (cCons (cVar 1) cNil))) cNil) [some (.tuple ds), some (.tuple ds), none] = .ok (intsFrom 0 ds.length) [some (.tuple ds), some (.tuple ds), none] := by
  simp [hr]
theorem sm2t {ds : List D} : (cOr (cTst (c2 dNe (cFrz (cIsi (isD "tuple") (cVar 1))) (cFrz (cIsi (isD "tuple") (cVar 0))))) (cTst (c2 dNe (cFrz (cIsi (isD "list") (cVar 1))) (cFrz (cIsi (isD "list") (cVar 0)))))) [some (.tuple ds), some (.tuple ds), none] = .ok false [some (.tuple ds), some (.tuple ds), none] := by
  have e1 : isD "tuple" (.tuple ds) = true := by simp [isD, tyD]
  have e2 : isD "list" (.tuple ds) = false := by simp [isD, tyD]
  simp [e1, e2, dNe_bb]
theorem sm3t {ds : List D} : Lib.s1__law_same [some (.tuple ds), some (.tuple ds), none] = .ok .nx [some (.tuple ds), some (.tuple ds), none] := by
  simp [Lib.s1__law_same]
theorem sm4t {ds : List D} : (cTst (cIsi (fun d => ["tuple", "list"].any fun T => isD T d) (cVar 1))) [some (.tuple ds), some (.tuple ds), none] = .ok true [some (.tuple ds), some (.tuple ds), none] := by
  simp [-List.any_cons, isTL_t]
theorem sm5t {ds : List D} : (cTst (c2 dNe (cFrz (cB dLen (cCons (cVar 0) (cNil)))) (cFrz (cB dLen (cCons (cVar 1) (cNil)))))) [some (.tuple ds), some (.tuple ds), none] = .ok false [some (.tuple ds), some (.tuple ds), none] := by
  simp
theorem sm6t {n : Nat} {ds : List D} {v : Option D} (hr : inR (ds.length : Int) = true) (lp : forL (fSet 2) (Lib.l0__law_same (Lib.m__law_same n)) (intsFrom 0 ds.length) [some (.tuple ds), some (.tuple ds), none] = .ok .nx [some (.tuple ds), some (.tuple ds), v]) :
   Lib.s2__law_same (Lib.m__law_same n) [some (.tuple ds), some (.tuple ds), none] = .ok (.rt (.bool true)) [some (.tuple ds), some (.tuple ds), v] := by
  unfold Lib.s2__law_same
  rw [cIf_e, sm4t, bind_e]
  simp only
  rw [cSeq_e, cIf_e, sm2t, bind_e]
  simp only
  rw [cNx_e]
  simp only
  rw [cSeq_e, cIf_e, sm5t, bind_e]
  simp only
  rw [cNx_e]
  simp only
  rw [cSeq_e, cFor_e, sm1t hr, bind_e]
  simp only
  rw [lp]
  rfl
theorem sm7t {n : Nat} {ds : List D} {v : Option D} (hr : inR (ds.length : Int) = true) (lp : forL (fSet 2) (Lib.l0__law_same (Lib.m__law_same n)) (intsFrom 0 ds.length) [some (.tuple ds), some (.tuple ds), none] = .ok .nx [some (.tuple ds), some (.tuple ds), v]) :
  Lib.m__law_same (n + 1) [.tuple ds, .tuple ds] = .ok (.bool true) [.tuple ds, .tuple ds] := by
  have st : Lib.m__law_same (n + 1) [.tuple ds, .tuple ds] = runF true (Lib.b__law_same (Lib.m__law_same n)) 2 3 [.tuple ds, .tuple ds] := rfl
  rw [st, runF_e]
  show (match Lib.b__law_same (Lib.m__law_same n) [some (.tuple ds), some (.tuple ds), none] with | .ok (.rt d) e => FR.ok d (outsOf 2 e) | .ok .nx e => (if true = true then .ok .none (outsOf 2 e) else .st) | .ok .bk _ => .st | .ok .ct _ => .st | .ex x e => .ex x (outsOf 2 e) | .st => .st) = _
  unfold Lib.b__law_same
  rw [cSeq_e, sm3t]
  simp only
  rw [cSeq_e, sm6t hr lp]
  rfl
theorem same_list {n : Nat} {ds : List D} (ih : ∀ d, d ∈ ds → Lib.m__law_same n [d, d] = .ok (.bool true) [d, d]) (hl : ds.length ≤ 16777216) : Lib.m__law_same (n + 1) [.list ds, .list ds] = .ok (.bool true) [.list ds, .list ds] := by
  obtain ⟨v, lp⟩ := same_loop (.list ds) ih fun j d hd => by rw [dIx_l, atI_nat, hd]; rfl
  exact sm7l (sm0l hl) lp
theorem same_tup {n : Nat} {ds : List D} (ih : ∀ d, d ∈ ds → Lib.m__law_same n [d, d] = .ok (.bool true) [d, d]) (hl : ds.length ≤ 16777216) : Lib.m__law_same (n + 1) [.tuple ds, .tuple ds] = .ok (.bool true) [.tuple ds, .tuple ds] := by
  obtain ⟨v, lp⟩ := same_loop (.tuple ds) ih fun j d hd => by rw [dIx_t, atI_nat, hd]; rfl
  exact sm7t (sm0l hl) lp
theorem same_ok : ∀ (n : Nat) (d : D), okS n d = true → Lib.m__law_same (n + 1) [d, d] = .ok (.bool true) [d, d]
  | n, .none, _ => by simp [Lib.m__law_same, Lib.b__law_same, Lib.s1__law_same, outsOf]
  | n, .bool b, _ => by simp [Lib.m__law_same, Lib.b__law_same, Lib.s1__law_same, Lib.s2__law_same, Lib.s3__law_same, isD, tyD, dEq_bb, outsOf]
  | n, .int i, _ => by simp [Lib.m__law_same, Lib.b__law_same, Lib.s1__law_same, Lib.s2__law_same, Lib.s3__law_same, Lib.s4__law_same, isD, tyD, outsOf]
  | n, .str x, _ => by
    have : dIs (.str x) .none = some (.sc (.bool false)) := rfl
    simp [Lib.m__law_same, Lib.b__law_same, Lib.s1__law_same, Lib.s2__law_same, Lib.s3__law_same, Lib.s4__law_same, Lib.s5__law_same, isD, tyD, dEq_ss, outsOf, this]
  | n + 1, .list ds, h => by
    rw [okS, Bool.and_eq_true, decide_eq_true_iff, List.all_eq_true] at h
    exact same_list (fun d hd => same_ok n d (h.2 d hd)) h.1
  | n + 1, .tuple ds, h => by
    rw [okS, Bool.and_eq_true, decide_eq_true_iff, List.all_eq_true] at h
    exact same_tup (fun d hd => same_ok n d (h.2 d hd)) h.1
  | 0, .list ds, h => by cases h
  | 0, .tuple ds, h => by cases h
  | 0, .dict ds, h => by cases h
  | n + 1, .dict ds, h => by cases h
theorem pick_ok (ns : List Int) (p a c t : Int) (ds : List D) (hp : 0 ≤ p) (hl : p ≤ (ns.length : Int)) (h1 : 0 < ds.length) (h2 : ds.length < 1073741824) :
    ∃ (k : Nat) (d : D) (p' a' c' t' : Int), ds[k]? = some d ∧ Lib.m__law_pick [poolD ns p a c t, .list ds] = .ok d [poolD ns p' a' c' t', .list ds] ∧ 0 ≤ p' ∧ p' ≤ (ns.length : Int) := by
  obtain ⟨r, p', a', c', t', e, r0, r1, p0, p1⟩ := draw_ok ns p a c t ds.length hp hl (by omega) (by omega)
  obtain ⟨k, rfl⟩ := Int.eq_ofNat_of_zero_le r0
  have hk : k < ds.length := by omega
  have hd : ds[k]? = some ds[k] := List.getElem?_eq_getElem hk
  refine ⟨k, ds[k], p', a', c', t', hd, ?_, p0, p1⟩
  have e' : Lib.m__law_draw [poolD ns p a c t, .int (ds.length : Int)] = .ok (.int (k : Int)) [poolD ns p' a' c' t', .int (ds.length : Int)] := e
  simp [Lib.m__law_pick, Lib.b__law_pick, e', borrows, isFz, putB, atI_nat, hd, outsOf]
/-! ### the helpers called -/
theorem draw_call {e e1 : Env} {i : Nat} {A : Env → R Lv} {ns : List Int} {p a c t many : Int} (hi : e.getD i none = some (poolD ns p a c t)) (hA : A e = .ok (.val (.int many)) e1) (hi1 : e1.getD i none = some (poolD ns p a c t)) (hp : 0 ≤ p) (hl : p ≤ (ns.length : Int)) (h1 : 0 < many) (h2 : many < 1073741824) :
    ∃ r p' a' c' t', cCall [(.lst .fz), .fz] [some i, none] .fz Lib.m__law_draw [] (cCons (cOwnV i) (cCons A cNil)) e = .ok (.int r) (e1.set i (some (poolD ns p' a' c' t'))) ∧ 0 ≤ r ∧ r < many ∧ 0 ≤ p' ∧ p' ≤ (ns.length : Int) := by
  obtain ⟨r, p', a', c', t', h, r0, r1, q0, q1⟩ := draw_ok ns p a c t many hp hl h1 h2
  refine ⟨r, p', a', c', t', ?_, r0, r1, q0, q1⟩
  rw [cCall_e, cCons_e, cOwnV_e, hi]
  simp only [bind_e, cCons_e, hA, cNil_e]
  rw [List.getD_eq_getElem?_getD] at hi1
  simp [hi1, h, borrows, isFz, putB]
theorem pick_call {e e1 : Env} {i : Nat} {A : Env → R Lv} {ns : List Int} {p a c t : Int} {ds : List D} (hi : e.getD i none = some (poolD ns p a c t)) (hA : A e = .ok (.val (.list ds)) e1) (hi1 : e1.getD i none = some (poolD ns p a c t)) (hp : 0 ≤ p) (hl : p ≤ (ns.length : Int)) (h1 : 0 < ds.length) (h2 : ds.length < 1073741824) :
    ∃ (k : Nat) (d : D) (p' a' c' t' : Int), ds[k]? = some d ∧ cCall [(.lst .fz), .fz] [some i, none] .fz Lib.m__law_pick [] (cCons (cOwnV i) (cCons A cNil)) e = .ok d (e1.set i (some (poolD ns p' a' c' t'))) ∧ 0 ≤ p' ∧ p' ≤ (ns.length : Int) := by
  obtain ⟨k, d, p', a', c', t', hd, h, q0, q1⟩ := pick_ok ns p a c t ds hp hl h1 h2
  refine ⟨k, d, p', a', c', t', hd, ?_, q0, q1⟩
  rw [cCall_e, cCons_e, cOwnV_e, hi]
  simp only [bind_e, cCons_e, hA, cNil_e]
  rw [List.getD_eq_getElem?_getD] at hi1
  simp [hi1, h, borrows, isFz, putB]
theorem pool_call {e e1 : Env} {A : Env → R Lv} {ns : List Int} (hA : A e = .ok (.val (.list (ns.map .int))) e1) : cCall [.fz] [none] (.lst .fz) Lib.m__law_pool [] (cCons A cNil) e = .ok (poolD ns 0 0 0 0) e1 := by
  rw [cCall_e, cCons_e, hA]
  simp [pool_ok, borrows, isFz, putB]
theorem same_call {e e1 e2 : Env} {A B : Env → R Lv} {d : D} {k : Nat} (hA : A e = .ok (.val d) e1) (hB : B e1 = .ok (.val d) e2) (hd : okS k d = true) : cCall [.fz, .fz] [none, none] .fz (Lib.m__law_same (k + 1)) [] (cCons A (cCons B cNil)) e = .ok (.bool true) e2 := by
  have h := same_ok k d hd
  rw [cCall_e, cCons_e, hA, bind_e]
  simp only [cCons_e, hB, bind_e, cNil_e]
  simp [h, borrows, isFz, putB]
/-- not _law_same(..), as a test -/
theorem same_not {e e1 e2 : Env} {A B : Env → R Lv} {d : D} {k : Nat} (hA : A e = .ok (.val d) e1) (hB : B e1 = .ok (.val d) e2) (hd : okS k d = true) : cNot (cTru (cMelt (cCall [.fz, .fz] [none, none] .fz (Lib.m__law_same (k + 1)) [] (cCons A (cCons B cNil))))) e = .ok false e2 := by
  rw [cNot_e, cTru_e, cMelt_e, same_call hA hB hd]
  simp
/-- a def's call whose parameters are all frozen -/
theorem call1 {e e1 : Env} {A : Env → R Lv} {x r : D} {m : List D → FR} {outs : List D} {rsh : Sh} (hA : A e = .ok (.val x) e1) (hm : m [x] = .ok r outs) : cCall [.fz] [none] rsh m [] (cCons A cNil) e = .ok r (putB [.fz] [none] outs e1) := by
  rw [cCall_e, cCons_e, hA]
  simp [hm, borrows, isFz]
theorem putB_fz : ∀ {ms : List Sh} {ks : List (Option Nat)} {ds : List D} {e : Env}, (∀ m ∈ ms, m = .fz) → putB ms ks ds e = e
  | [], _, _, _, _ => by simp [putB]
  | _ :: _, [], _, _, _ => by simp [putB]
  | _ :: _, _ :: _, [], _, _ => by simp [putB]
  | m :: ms, k :: ks, d :: ds, e, h => by
    have hm := h m List.mem_cons_self
    subst hm
    unfold putB
    rw [putB_fz fun m hm => h m (List.mem_cons_of_mem _ hm)]
    rfl

/-! ### lists of ints as data -/
theorem eqv_ints : ∀ a b : List Int, PyData.eqvAll (a.map .int) (b.map .int) = decide (a = b)
  | [], [] => rfl
  | [], _ :: _ => rfl
  | _ :: _, [] => rfl
  | x :: a, y :: b => by
    show (PyData.eqv (.int x) (.int y) && PyData.eqvAll (a.map .int) (b.map .int)) = decide (x :: a = y :: b)
    rw [eqv_ints a b]
    have : PyData.eqv (.int x) (.int y) = decide (x = y) := rfl
    rw [this]
    simp
theorem canLay_ints : ∀ a : List Int, PyData.canLayAll0 (a.map .int) = true
  | [] => rfl
  | x :: a => by
    show (PyData.canLay0 (.int x) && PyData.canLayAll0 (a.map .int)) = true
    rw [canLay_ints a]
    rfl
theorem shaped_ints (a : List Int) : dShaped (.list (a.map .int)) = true := by
  show (PyData.canLayAll0 (a.map .int) && decide (PyData.depthAll (a.map .int) + 1 ≤ 64)) = true
  rw [canLay_ints, PySem.W.depth_ints]
  rfl
theorem dEq_ints (a b : List Int) : dEq (.list (a.map .int)) (.list (b.map .int)) = some (.sc (.bool (decide (a = b)))) := by
  show (if (dShaped (.list (a.map .int)) && dShaped (.list (b.map .int))) = true then some (NV.sc (.bool (PyData.eqvAll (a.map .int) (b.map .int)))) else none) = _
  rw [shaped_ints, shaped_ints, eqv_ints]
  rfl
theorem dNe_ints (a b : List Int) : dNe (.list (a.map .int)) (.list (b.map .int)) = some (.sc (.bool (!decide (a = b)))) := by
  show (if (dShaped (.list (a.map .int)) && dShaped (.list (b.map .int))) = true then some (NV.sc (.bool (!PyData.eqvAll (a.map .int) (b.map .int)))) else none) = _
  rw [shaped_ints, shaped_ints, eqv_ints]
  rfl
theorem okSort_rows {f : List (List Int)} (hf : f.length ≤ 16777216) : okSort (f.map fun r => .list (r.map .int)) = true := by
  unfold okSort
  rw [Bool.and_eq_true, Bool.and_eq_true, Bool.and_eq_true]
  refine ⟨⟨⟨?_, ?_⟩, fits_le (by simpa using hf)⟩, ?_⟩
  · unfold likes
    rw [List.all_eq_true]
    intro d hd
    rw [List.all_eq_true]
    intro d' hd'
    obtain ⟨r, _, rfl⟩ := List.mem_map.mp hd
    obtain ⟨r', _, rfl⟩ := List.mem_map.mp hd'
    simp only [PySem.W.alike]
    exact PySem.W.alike_ints r r'
  · unfold sortable
    rw [Bool.or_eq_true]
    right
    rw [List.all_eq_true]
    intro d hd
    obtain ⟨r, _, rfl⟩ := List.mem_map.mp hd
    rfl
  · rw [List.all_eq_true]
    intro d hd
    obtain ⟨r, _, rfl⟩ := List.mem_map.mp hd
    have : (PyData.list (r.map .int)).depth = 1 := by
      show PyData.depthAll (r.map .int) + 1 = 1
      rw [PySem.W.depth_ints]
    rw [this]
    rfl
theorem sortD_perm (rev : Bool) (ds : List D) : (sortD rev ds).Perm ds := List.mergeSort_perm _ _
/-! ### one step at a time -/
section
variable {e e1 e2 e3 : Env} {A B : Env → R Lv} {l m : Lv} {x y : D} {nv : NV}
theorem st2 {f : D → D → Option NV} (hA : A e = .ok l e1) (hB : B e1 = .ok m e2) (hl : l.get e2 = some x) (hm : m.get e2 = some y) (hf : f x y = some nv) : c2 f A B e = .ok nv e2 := by
  rw [c2_e, hA, bind_e]
  simp only [hB, bind_e, hl, hm, obind_some, hf, ofO_some]
theorem stF {n : Env → R NV} (h : n e = .ok nv e1) : cFrz n e = .ok (.val nv.d) e1 := by rw [cFrz_e, h, bind_e]
theorem sv2 {f : D → D → Option NV} {z : D} (hA : A e = .ok l e1) (hB : B e1 = .ok m e2) (hl : l.get e2 = some x) (hm : m.get e2 = some y) (hf : f x y = some (.sc z)) : cFrz (c2 f A B) e = .ok (.val z) e2 := stF (st2 hA hB hl hm hf)
theorem stT {n : Env → R NV} {b : Bool} (h : n e = .ok (.sc (.bool b)) e1) : cTst n e = .ok b e1 := by rw [cTst_e, h, bind_e]; rfl
theorem stB1 {g : List D → Option NV} (hA : A e = .ok l e1) (hl : l.get e1 = some x) (hg : g [x] = some nv) : cB g (cCons A cNil) e = .ok nv e1 := by
  rw [cB_e, cCons_e, hA, bind_e]
  simp only [cNil_e, bind_e, gets_cons, gets_nil, hl, obind_some, omap_some, hg, ofO_some]
theorem stB2 {g : List D → Option NV} (hA : A e = .ok l e1) (hB : B e1 = .ok m e2) (hl : l.get e2 = some x) (hm : m.get e2 = some y) (hg : g [x, y] = some nv) : cB g (cCons A (cCons B cNil)) e = .ok nv e2 := by
  rw [cB_e, cCons_e, hA, bind_e]
  simp only [cCons_e, hB, cNil_e, bind_e, gets_cons, gets_nil, hl, hm, obind_some, omap_some, hg, ofO_some]
theorem sv1 {g : List D → Option NV} {z : D} (hA : A e = .ok l e1) (hl : l.get e1 = some x) (hg : g [x] = some (.sc z)) : cFrz (cB g (cCons A cNil)) e = .ok (.val z) e1 := stF (stB1 hA hl hg)
theorem sl1 {g : List D → Option NV} {z : List D} (hA : A e = .ok l e1) (hl : l.get e1 = some x) (hg : g [x] = some (.nl z)) : cFrz (cB g (cCons A cNil)) e = .ok (.val (.list z)) e1 := stF (stB1 hA hl hg)
theorem tv2 {f : D → D → Option NV} {b : Bool} (hA : A e = .ok l e1) (hB : B e1 = .ok m e2) (hl : l.get e2 = some x) (hm : m.get e2 = some y) (hf : f x y = some (.sc (.bool b))) : cTst (c2 f A B) e = .ok b e2 := stT (st2 hA hB hl hm hf)
theorem stV {i : Nat} (h : e.getD i none = some x) : cVar i e = .ok (.val x) e := by rw [cVar_e, h]
theorem stTru (h : A e = .ok l e1) {b : Bool} (hl : l.get e1 = some x) (hx : dTru x = some b) : cTru A e = .ok b e1 := by
  rw [cTru_e, h, bind_e]
  simp only [hl, obind_some, hx, ofO_some]
theorem stM {c : Env → R D} (h : c e = .ok x e1) : cMelt c e = .ok (.val x) e1 := by rw [cMelt_e, h, bind_e]
theorem stD (h : A e = .ok l e1) : cDrop A e = .ok .nx e1 := by rw [cDrop_e, h, bind_e]
theorem stA {f : D → Env → Option Env} (h : A e = .ok (.val x) e1) (hf : f x e1 = some e2) : cAsg A f e = .ok .nx e2 := by
  rw [cAsg_e, h, bind_e]
  simp only [hf]
theorem stR (h : A e = .ok (.val x) e1) : cRet A e = .ok (.rt x) e1 := by rw [cRet_e, h, bind_e]
theorem stS {i : Nat} {c : Env → R D} (h : c e = .ok x e1) : cSetO i c e = .ok .nx (e1.set i (some x)) := by rw [cSetO_e, h, bind_e]
theorem stAnd (h : A e = .ok (.val (.bool true)) e1) : cAndV A B e = B e1 := by rw [cAndV_e, h, bind_e]
/-- calls of defs that own nothing -/
theorem stC1 {mm : List D → FR} {outs : List D} {rsh : Sh} (hA : A e = .ok (.val x) e1) (hm : mm [x] = .ok y outs) : cCall [.fz] [none] rsh mm [] (cCons A cNil) e = .ok y e1 := by
  rw [call1 hA hm, putB_fz (by simp)]
theorem stC2 {mm : List D → FR} {outs : List D} {rsh : Sh} {z : D} (hA : A e = .ok (.val x) e1) (hB : B e1 = .ok (.val y) e2) (hm : mm [x, y] = .ok z outs) : cCall [.fz, .fz] [none, none] rsh mm [] (cCons A (cCons B cNil)) e = .ok z e2 := by
  rw [cCall_e, cCons_e, hA, bind_e]
  simp only [cCons_e, hB, bind_e, cNil_e]
  simp [hm, borrows, isFz, putB_fz]
theorem stC3 {mm : List D → FR} {outs : List D} {rsh : Sh} {z w : D} {A3 : Env → R Lv} (hA : A e = .ok (.val x) e1) (hB : B e1 = .ok (.val y) e2) (hC : A3 e2 = .ok (.val w) e3) (hm : mm [x, y, w] = .ok z outs) : cCall [.fz, .fz, .fz] [none, none, none] rsh mm [] (cCons A (cCons B (cCons A3 cNil))) e = .ok z e3 := by
  rw [cCall_e, cCons_e, hA, bind_e]
  simp only [cCons_e, hB, hC, bind_e, cNil_e]
  simp [hm, borrows, isFz, putB_fz]
theorem stX1 {mm : List D → FR} {outs : List D} {rsh : Sh} {q : Exc} (hA : A e = .ok (.val x) e1) (hm : mm [x] = .ex q outs) : cCall [.fz] [none] rsh mm [] (cCons A cNil) e = .ex q e1 := by
  rw [cCall_e, cCons_e, hA]
  simp [hm, borrows, isFz, putB_fz]
theorem stX2 {mm : List D → FR} {outs : List D} {rsh : Sh} {q : Exc} (hA : A e = .ok (.val x) e1) (hB : B e1 = .ok (.val y) e2) (hm : mm [x, y] = .ex q outs) : cCall [.fz, .fz] [none, none] rsh mm [] (cCons A (cCons B cNil)) e = .ex q e2 := by
  rw [cCall_e, cCons_e, hA, bind_e]
  simp only [cCons_e, hB, bind_e, cNil_e]
  simp [hm, borrows, isFz, putB_fz]
theorem stX3 {mm : List D → FR} {outs : List D} {rsh : Sh} {q : Exc} {w : D} {A3 : Env → R Lv} (hA : A e = .ok (.val x) e1) (hB : B e1 = .ok (.val y) e2) (hC : A3 e2 = .ok (.val w) e3) (hm : mm [x, y, w] = .ex q outs) : cCall [.fz, .fz, .fz] [none, none, none] rsh mm [] (cCons A (cCons B (cCons A3 cNil))) e = .ex q e3 := by
  rw [cCall_e, cCons_e, hA, bind_e]
  simp only [cCons_e, hB, hC, bind_e, cNil_e]
  simp [hm, borrows, isFz, putB_fz]
theorem xM {c : Env → R D} {q : Exc} (h : c e = .ex q e1) : cMelt c e = .ex q e1 := by rw [cMelt_e, h, bind_e]
theorem xD {q : Exc} (h : A e = .ex q e1) : cDrop A e = .ex q e1 := by rw [cDrop_e, h, bind_e]
theorem xA {f : D → Env → Option Env} {q : Exc} (h : A e = .ex q e1) : cAsg A f e = .ex q e1 := by rw [cAsg_e, h, bind_e]
theorem xR {cn : Str} (h : A e = .ok l e1) : cRaise cn A e = .ex ⟨cn, none⟩ e1 := by rw [cRaise_e, h, bind_e]
/-- a loop in a comprehension that carries a state -/
theorem compL_inv {vs : List Nat} {f : D → Env → Option Env} {t : Env → R Bool} {c : Env → R Lv} (I : Env → Prop) (Q : D → Prop) : ∀ (ds : List D) (e : Env), I e →
    (∀ d, d ∈ ds → ∀ e, I e → ∃ e1 e2 e3 x, f d (clearE vs e) = some e1 ∧ t e1 = .ok true e2 ∧ c e2 = .ok (.val x) e3 ∧ I e3 ∧ Q x) → ∃ xs e2, compL vs f t c ds e = .ok xs e2 ∧ I e2 ∧ xs.length = ds.length ∧ ∀ x, x ∈ xs → Q x
  | [], e, h, _ => ⟨[], e, rfl, h, rfl, fun x hx => by cases hx⟩
  | d :: ds, e, h, st => by
    obtain ⟨e1, e2, e3, x, h1, h2, h3, h4, h5⟩ := st d List.mem_cons_self e h
    obtain ⟨xs, e4, h6, h7, h8, h9⟩ := compL_inv I Q ds e3 h4 fun d' hd => st d' (List.mem_cons_of_mem _ hd)
    refine ⟨x :: xs, e4, ?_, h7, by simp [h8], fun y hy => ?_⟩
    · unfold compL
      simp only [h1, h2, h3, h6]
    · rcases List.mem_cons.mp hy with rfl | hy
      · exact h5
      · exact h9 y hy
end
end DL

namespace DL.K80
open PySem PySem.Spec PyProof.Rows L2 DL DL.Lib
/-! ## The mirrors -/
def tab_WatchError : Str → Option Bool := tab [(("WatchError" : Str), true), (("InvalidNumber" : Str), true), (("InvalidPaper" : Str), true)]
def tab_InvalidNumber : Str → Option Bool := tab [(("WatchError" : Str), false), (("InvalidNumber" : Str), true), (("InvalidPaper" : Str), false)]
def tab_InvalidPaper : Str → Option Bool := tab [(("WatchError" : Str), false), (("InvalidNumber" : Str), false), (("InvalidPaper" : Str), true)]
def tab_ValueError : Str → Option Bool := tab [(("WatchError" : Str), true), (("InvalidNumber" : Str), true), (("InvalidPaper" : Str), true)]
def b_is_number : Env → R Fl :=
 cSeq (cIf (cOr (cTst (cIsi (isD "bool") (cVar 0))) (cNot (cTst (cIsi (isD "int") (cVar 0))))) (cRet (cK (.bool false))) (cNx))
 (cRet (cFrz (cChain dLe dLe (cVar 1) (cVar 0) (cVar 2))))
def m_is_number : List D → FR := runF true b_is_number 3 3
def b_checked_number : Env → R Fl :=
 cSeq (cIf (cNot (cTru (cMelt (cCall [.fz, .fz, .fz] [none, none, none] .fz m_is_number [] (cCons (cVar 0) (cCons (cVar 1) (cCons (cVar 2) (cNil)))))))) (cRaise ("InvalidNumber" : Str) (cFrz (c2 dAdd (cFrz (c2 dAdd (cFrz (c2 dAdd (cK (.str ("no number from " : Str))) (cFrz (cB dStrOf (cCons (cVar 1) (cNil)))))) (cK (.str (" to " : Str))))) (cFrz (cB dStrOf (cCons (cVar 2) (cNil))))))) (cNx))
 (cRet (cVar 0))
def m_checked_number : List D → FR := runF true b_checked_number 3 3
def l0_all_rows : Env → R Fl :=
 cAsg (cFrz (c2 dAdd (cFrz (cComp [3] (cItS (cVar 1)) (fSet 3) (cYes) (cFrz (c2 dAdd (cFrz (cLst (cCons (cK (.int 0)) (cNil)))) (cVar 3))))) (cFrz (cComp [3] (cItRev (cVar 1)) (fSet 3) (cYes) (cFrz (c2 dAdd (cFrz (cLst (cCons (cK (.int 1)) (cNil)))) (cVar 3))))))) (fSet 1)
def s1_all_rows : Env → R Fl :=
 cDrop (cMelt (cCall [.fz, .fz, .fz] [none, none, none] .fz m_checked_number [] (cCons (cVar 0) (cCons (cK (.int 0)) (cCons (cK (.int 12)) (cNil))))))
def s2_all_rows : Env → R Fl :=
 cAsg (cFrz (cLst (cCons (cFrz (cLst (cNil))) (cNil)))) (fSet 1)
def b_all_rows : Env → R Fl :=
 cSeq (s1_all_rows)
 (cSeq (s2_all_rows)
 (cSeq (cFor (cItR1 (cCons (cVar 0) (cNil))) (fSet 2) (l0_all_rows))
 (cRet (cVar 1))))
def m_all_rows : List D → FR := runF true b_all_rows 1 4
def l0_row_at : Env → R Fl :=
 cAsg (cFrz (c2 dMul (cK (.int 2)) (cVar 2))) (fSet 2)
def l1_row_at : Env → R Fl :=
 cSeq (cAsg (cFrz (c2 dDiv (cVar 2) (cK (.int 2)))) (fSet 2))
 (cSeq (cAsg (cFrz (c2 dMod (cFrz (c2 dDiv (cVar 1) (cVar 2))) (cK (.int 2)))) (fSet 6))
 (cSeq (cDrop (cMut 4 gApp (cCons (cFrz (c2 dMod (cFrz (c2 dAdd (cVar 6) (cVar 5))) (cK (.int 2)))) (cNil))))
 (cAsg (cVar 6) (fSet 5))))
def s2_row_at : Env → R Fl :=
 cDrop (cMelt (cCall [.fz, .fz, .fz] [none, none, none] .fz m_checked_number [] (cCons (cVar 0) (cCons (cK (.int 0)) (cCons (cK (.int 12)) (cNil))))))
def s3_row_at : Env → R Fl :=
 cIf (cNot (cTru (cMelt (cCall [.fz, .fz, .fz] [none, none, none] .fz m_is_number [] (cCons (cVar 1) (cCons (cK (.int 0)) (cCons (cFrz (c2 dSub (cVar 2) (cK (.int 1)))) (cNil)))))))) (cRaise ("InvalidNumber" : Str) (cK (.str ("no place" : Str)))) (cNx)
def b_row_at : Env → R Fl :=
 cSeq (s2_row_at)
 (cSeq (cAsg (cK (.int 1)) (fSet 2))
 (cSeq (cFor (cItR1 (cCons (cVar 0) (cNil))) (fSet 3) (l0_row_at))
 (cSeq (s3_row_at)
 (cSeq (cSetO 4 (cOwn (cLst (cNil))))
 (cSeq (cAsg (cK (.int 0)) (fSet 5))
 (cSeq (cFor (cItR1 (cCons (cVar 0) (cNil))) (fSet 3) (l1_row_at))
 (cRet (cMelt (cMove 4)))))))))
def m_row_at : List D → FR := runF true b_row_at 2 7
def b_change_at : Env → R Fl :=
 cSeq (cAsg (cMelt (cCall [.fz, .fz] [none, none] .fz m_row_at [] (cCons (cVar 0) (cCons (cVar 1) (cNil))))) (fSet 2))
 (cSeq (cAsg (cMelt (cCall [.fz, .fz] [none, none] .fz m_row_at [] (cCons (cVar 0) (cCons (cFrz (c2 dAdd (cVar 1) (cK (.int 1)))) (cNil))))) (fSet 3))
 (cRet (cFrz (c2 dIx (cFrz (cComp [4] (cItR1 (cCons (cVar 0) (cNil))) (fSet 4) (cTst (c2 dNe (cFrz (c2 dIx (cVar 2) (cVar 4))) (cFrz (c2 dIx (cVar 3) (cVar 4))))) (cVar 4))) (cK (.int 0))))))
def m_change_at : List D → FR := runF true b_change_at 2 5
def b_checked_row : Env → R Fl :=
 cSeq (cIf (cOr (cTst (c2 dNe (cFrz (cB dLen (cCons (cVar 0) (cNil)))) (cVar 1))) (cTru (cFrz (cComp [2] (cItS (cVar 0)) (fSet 2) (cNot (cTru (cMelt (cCall [.fz, .fz, .fz] [none, none, none] .fz m_is_number [] (cCons (cVar 2) (cCons (cK (.int 0)) (cCons (cK (.int 1)) (cNil)))))))) (cVar 2))))) (cRaise ("InvalidPaper" : Str) (cK (.str ("no signs" : Str)))) (cNx))
 (cRet (cFrz (cB dList (cCons (cVar 0) (cNil)))))
def m_checked_row : List D → FR := runF true b_checked_row 2 3
def l0_place_of : Env → R Fl :=
 cSeq (cAsg (cFrz (c2 dMod (cFrz (c2 dAdd (cVar 3) (cVar 4))) (cK (.int 2)))) (fSet 3))
 (cAsg (cFrz (c2 dAdd (cFrz (c2 dMul (cK (.int 2)) (cVar 2))) (cVar 3))) (fSet 2))
def s1_place_of : Env → R Fl :=
 cAsg (cMelt (cCall [.fz, .fz] [none, none] .fz m_checked_row [] (cCons (cVar 0) (cCons (cFrz (cB dLen (cCons (cVar 0) (cNil)))) (cNil))))) (fSet 1)
def s2_place_of : Env → R Fl :=
 cIf (cTst (c2 dGt (cFrz (cB dLen (cCons (cVar 1) (cNil)))) (cK (.int 12)))) (cRaise ("InvalidPaper" : Str) (cK (.str ("too many" : Str)))) (cNx)
def b_place_of : Env → R Fl :=
 cSeq (s1_place_of)
 (cSeq (s2_place_of)
 (cSeq (cAsg (cK (.int 0)) (fSet 2))
 (cSeq (cAsg (cK (.int 0)) (fSet 3))
 (cSeq (cFor (cItS (cVar 1)) (fSet 4) (l0_place_of))
 (cRet (cVar 2))))))
def m_place_of : List D → FR := runF true b_place_of 1 5
def b__law_refused : Env → R Fl :=
 cSeq (cTryAs 3 tab_WatchError (cIf (cTst (c2 dEq (cVar 0) (cK (.int 0)))) (cDrop (cMelt (cCall [.fz] [none] .fz m_all_rows [] (cCons (cVar 1) (cNil))))) (cIf (cTst (c2 dEq (cVar 0) (cK (.int 1)))) (cDrop (cMelt (cCall [.fz, .fz] [none, none] .fz m_row_at [] (cCons (cVar 1) (cCons (cVar 2) (cNil)))))) (cIf (cTst (c2 dEq (cVar 0) (cK (.int 2)))) (cDrop (cMelt (cCall [.fz, .fz] [none, none] .fz m_change_at [] (cCons (cVar 1) (cCons (cVar 2) (cNil)))))) (cDrop (cMelt (cCall [.fz] [none] .fz m_place_of [] (cCons (cVar 2) (cNil)))))))) (cSeq (cIf (cOr (cTst (c2 dEq (cFrz (cIsE 3 tab_InvalidNumber)) (cFrz (cIsE 3 tab_InvalidPaper)))) (cNot (cTst (cIsE 3 tab_ValueError)))) (cRet (cK (.str ("other" : Str)))) (cNx))
 (cRet (cIf (cTst (cIsE 3 tab_InvalidNumber)) (cK (.str ("number" : Str))) (cK (.str ("paper" : Str)))))))
 (cRet (cK (.str ("none" : Str))))
def m__law_refused : List D → FR := runF true b__law_refused 3 4
def l0_law : Env → R Fl :=
 cAsg (cFrz (c2 dAdd (cFrz (cComp [10] (cItS (cVar 4)) (fSet 10) (cYes) (cFrz (c2 dAdd (cFrz (cLst (cCons (cK (.int 0)) (cNil)))) (cVar 10))))) (cFrz (cComp [10] (cItRev (cVar 4)) (fSet 10) (cYes) (cFrz (c2 dAdd (cFrz (cLst (cCons (cK (.int 1)) (cNil)))) (cVar 10))))))) (fSet 4)
def l1_law : Env → R Fl :=
 cSeq (cAsg (cFrz (cComp [11] (cItR1 (cCons (cVar 2) (cNil))) (fSet 11) (cTst (c2 dNe (cFrz (c2 dIx (cFrz (c2 dIx (cVar 3) (cVar 5))) (cVar 11))) (cFrz (c2 dIx (cFrz (c2 dIx (cVar 3) (cFrz (c2 dSub (cVar 5) (cK (.int 1)))))) (cVar 11))))) (cVar 11))) (fSet 6))
 (cIf (cOr (cTst (c2 dNe (cFrz (cB dLen (cCons (cVar 6) (cNil)))) (cK (.int 1)))) (cNot (cTru (cMelt (cCall [.fz, .fz] [none, none] .fz (m__law_same 12) [] (cCons (cMelt (cCall [.fz, .fz] [none, none] .fz m_change_at [] (cCons (cVar 2) (cCons (cFrz (c2 dSub (cVar 5) (cK (.int 1)))) (cNil))))) (cCons (cFrz (c2 dIx (cVar 6) (cK (.int 0)))) (cNil)))))))) (cRet (cK (.bool false))) (cNx))
def l2_law : Env → R Fl :=
 cSeq (cAsg (cMelt (cCall [(.lst .fz), .fz] [some 1, none] .fz m__law_draw [] (cCons (cOwnV 1) (cCons (cFrz (cB dLen (cCons (cVar 3) (cNil)))) (cNil))))) (fSet 7))
 (cIf (cOr (cNot (cTru (cMelt (cCall [.fz, .fz] [none, none] .fz (m__law_same 12) [] (cCons (cMelt (cCall [.fz, .fz] [none, none] .fz m_row_at [] (cCons (cVar 2) (cCons (cVar 7) (cNil))))) (cCons (cFrz (c2 dIx (cVar 3) (cVar 7))) (cNil))))))) (cNot (cTru (cMelt (cCall [.fz, .fz] [none, none] .fz (m__law_same 12) [] (cCons (cMelt (cCall [.fz] [none] .fz m_place_of [] (cCons (cFrz (cB dList (cCons (cFrz (c2 dIx (cVar 3) (cVar 7))) (cNil)))) (cNil)))) (cCons (cVar 7) (cNil)))))))) (cRet (cK (.bool false))) (cNx))
def s3_law : Env → R Fl :=
 cSetO 1 (cCall [.fz] [none] (.lst .fz) m__law_pool [] (cCons (cVar 0) (cNil)))
def s4_law : Env → R Fl :=
 cAsg (cMelt (cCall [(.lst .fz), .fz] [some 1, none] .fz m__law_draw [] (cCons (cOwnV 1) (cCons (cK (.int 8)) (cNil))))) (fSet 2)
def s5_law : Env → R Fl :=
 cAsg (cMelt (cCall [.fz] [none] .fz m_all_rows [] (cCons (cVar 2) (cNil)))) (fSet 3)
def s6_law : Env → R Fl :=
 cAsg (cFrz (cLst (cCons (cFrz (cLst (cNil))) (cNil)))) (fSet 4)
def s7_law : Env → R Fl :=
 cIf (cOr (cNot (cTru (cMelt (cCall [.fz, .fz] [none, none] .fz (m__law_same 12) [] (cCons (cVar 3) (cCons (cVar 4) (cNil))))))) (cTst (c2 dNe (cFrz (c2 dIx (cVar 3) (cK (.int 0)))) (cFrz (cComp [5] (cItR1 (cCons (cVar 2) (cNil))) (fSet 5) (cYes) (cK (.int 0))))))) (cRet (cK (.bool false))) (cNx)
def s8_law : Env → R Fl :=
 cIf (cOr (cTst (c2 dNe (cFrz (cB dLen (cCons (cFrz (cB dSorted (cCons (cVar 3) (cNil)))) (cNil)))) (cFrz (cB dLen (cCons (cVar 4) (cNil)))))) (cTst (c2 dGt (cFrz (cB dLen (cCons (cFrz (cComp [5] (cItR2 (cCons (cK (.int 1)) (cCons (cFrz (cB dLen (cCons (cVar 3) (cNil)))) (cNil)))) (fSet 5) (cTst (c2 dEq (cFrz (c2 dIx (cFrz (cB dSorted (cCons (cVar 3) (cNil)))) (cVar 5))) (cFrz (c2 dIx (cFrz (cB dSorted (cCons (cVar 3) (cNil)))) (cFrz (c2 dSub (cVar 5) (cK (.int 1)))))))) (cVar 5))) (cNil)))) (cK (.int 0))))) (cRet (cK (.bool false))) (cNx)
def s9_law : Env → R Fl :=
 cFor (cItR2 (cCons (cK (.int 1)) (cCons (cFrz (cB dLen (cCons (cVar 3) (cNil)))) (cNil)))) (fSet 5) (l1_law)
def s10_law : Env → R Fl :=
 cIf (cAnd (cTst (c2 dGt (cVar 2) (cK (.int 0)))) (cNot (cTru (cMelt (cCall [.fz, .fz] [none, none] .fz (m__law_same 12) [] (cCons (cFrz (cComp [10] (cItS (cFrz (cSl (cVar 3) (cPartN) (cPart (cFrz (c2 dDiv (cFrz (cB dLen (cCons (cVar 3) (cNil)))) (cK (.int 2)))))))) (fSet 10) (cYes) (cFrz (cSl (cVar 10) (cPart (cK (.int 1))) (cPartN))))) (cCons (cMelt (cCall [.fz] [none] .fz m_all_rows [] (cCons (cFrz (c2 dSub (cVar 2) (cK (.int 1)))) (cNil)))) (cNil)))))))) (cRet (cK (.bool false))) (cNx)
def s11_law : Env → R Fl :=
 cAsg (cFrz (cComp [5] (cItR1 (cCons (cK (.int 12)) (cNil))) (fSet 5) (cYes) (cMelt (cCall [(.lst .fz), .fz] [some 1, none] .fz m__law_draw [] (cCons (cOwnV 1) (cCons (cK (.int 2)) (cNil))))))) (fSet 8)
def s12_law : Env → R Fl :=
 cIf (cNot (cTru (cMelt (cCall [.fz, .fz] [none, none] .fz (m__law_same 12) [] (cCons (cMelt (cCall [.fz, .fz] [none, none] .fz m_row_at [] (cCons (cK (.int 12)) (cCons (cMelt (cCall [.fz] [none] .fz m_place_of [] (cCons (cFrz (cB dList (cCons (cVar 8) (cNil)))) (cNil)))) (cNil))))) (cCons (cVar 8) (cNil))))))) (cRet (cK (.bool false))) (cNx)
def s13_law : Env → R Fl :=
 cAsg (cMelt (cCall [(.lst .fz), .fz] [some 1, none] .fz m__law_pick [] (cCons (cOwnV 1) (cCons (cFrz (cLst (cCons (cFrz (c1 dNeg (cK (.int 1)))) (cCons (cK (.int 13)) (cCons (cK (.bool true)) (cNil)))))) (cNil))))) (fSet 9)
def s14_law : Env → R Fl :=
 cIf (cOr (cTst (c2 dNe (cMelt (cCall [.fz, .fz, .fz] [none, none, none] .fz m__law_refused [] (cCons (cK (.int 0)) (cCons (cVar 9) (cCons (cK (.int 0)) (cNil)))))) (cK (.str ("number" : Str))))) (cTst (c2 dNe (cMelt (cCall [.fz, .fz, .fz] [none, none, none] .fz m__law_refused [] (cCons (cK (.int 1)) (cCons (cVar 9) (cCons (cK (.int 0)) (cNil)))))) (cK (.str ("number" : Str)))))) (cRet (cK (.bool false))) (cNx)
def s15_law : Env → R Fl :=
 cIf (cOr (cTst (c2 dNe (cMelt (cCall [.fz, .fz, .fz] [none, none, none] .fz m__law_refused [] (cCons (cK (.int 1)) (cCons (cVar 2) (cCons (cMelt (cCall [(.lst .fz), .fz] [some 1, none] .fz m__law_pick [] (cCons (cOwnV 1) (cCons (cFrz (cLst (cCons (cFrz (c1 dNeg (cK (.int 1)))) (cCons (cFrz (cB dLen (cCons (cVar 3) (cNil)))) (cCons (cK (.bool true)) (cNil)))))) (cNil))))) (cNil)))))) (cK (.str ("number" : Str))))) (cTst (c2 dNe (cMelt (cCall [.fz, .fz, .fz] [none, none, none] .fz m__law_refused [] (cCons (cK (.int 2)) (cCons (cVar 2) (cCons (cFrz (c2 dSub (cFrz (cB dLen (cCons (cVar 3) (cNil)))) (cK (.int 1)))) (cNil)))))) (cK (.str ("number" : Str)))))) (cRet (cK (.bool false))) (cNx)
def s16_law : Env → R Fl :=
 cRet (cAndV (cFrz (c2 dEq (cMelt (cCall [.fz, .fz, .fz] [none, none, none] .fz m__law_refused [] (cCons (cK (.int 3)) (cCons (cK (.int 0)) (cCons (cFrz (cComp [5] (cItR1 (cCons (cK (.int 13)) (cNil))) (fSet 5) (cYes) (cK (.int 0)))) (cNil)))))) (cK (.str ("paper" : Str))))) (cFrz (c2 dEq (cMelt (cCall [.fz, .fz, .fz] [none, none, none] .fz m__law_refused [] (cCons (cK (.int 3)) (cCons (cK (.int 0)) (cCons (cFrz (cLst (cCons (cK (.int 0)) (cCons (cK (.int 2)) (cNil))))) (cNil)))))) (cK (.str ("paper" : Str))))))
def b_law : Env → R Fl :=
 cSeq (s3_law)
 (cSeq (s4_law)
 (cSeq (s5_law)
 (cSeq (s6_law)
 (cSeq (cFor (cItR1 (cCons (cVar 2) (cNil))) (fSet 5) (l0_law))
 (cSeq (s7_law)
 (cSeq (s8_law)
 (cSeq (s9_law)
 (cSeq (cFor (cItR1 (cCons (cK (.int 6)) (cNil))) (fSet 5) (l2_law))
 (cSeq (s10_law)
 (cSeq (s11_law)
 (cSeq (s12_law)
 (cSeq (s13_law)
 (cSeq (s14_law)
 (cSeq (s15_law)
 (s16_law)))))))))))))))
def m_law : List D → FR := runF true b_law 1 12
end DL.K80

namespace DL.K80
open PySem PySem.Spec PyProof.Rows L2 DL DL.Lib
/-! ## Plain functions -/
def grow (found : List (List Int)) : List (List Int) := found.map (0 :: ·) ++ found.reverse.map (1 :: ·)
def gray : Nat → List (List Int)
  | 0 => [[]]
  | n + 1 => grow (gray n)
def rowGo (p : Int) : Nat → Int → List Int
  | 0, _ => []
  | n + 1, before => (p / 2 ^ n % 2 + before) % 2 :: rowGo p n (p / 2 ^ n % 2)
def rowAt (n : Nat) (p : Int) : List Int := rowGo p n 0
def placeGo : List Int → Int → Int → Int
  | [], f, _ => f
  | s :: r, f, l => placeGo r (2 * f + (l + s) % 2) ((l + s) % 2)
def placeOf (r : List Int) : Int := placeGo r 0 0
def bitsD (r : List Int) : D := .list (r.map .int)
def rowsD (rs : List (List Int)) : D := .list (rs.map bitsD)
theorem grow_len {f : List (List Int)} : (grow f).length = 2 * f.length := by simp [grow]; omega
theorem gray_len : ∀ n, (gray n).length = 2 ^ n
  | 0 => rfl
  | n + 1 => by rw [gray, grow_len, gray_len n]; omega

/-! ## The defs -/
theorem isnum (v lo hi : Int) : m_is_number [.int v, .int lo, .int hi] = .ok (.bool (decide (lo ≤ v) && decide (v ≤ hi))) [.int v, .int lo, .int hi] := by
  by_cases h : lo ≤ v <;> simp [m_is_number, b_is_number, isD, tyD, h, outsOf]
theorem isnum_b (b : Bool) (x y : D) : m_is_number [.bool b, x, y] = .ok (.bool false) [.bool b, x, y] := by
  simp [m_is_number, b_is_number, isD, tyD, outsOf]
theorem chk {v : Int} (h0 : 0 ≤ v) (h1 : v ≤ 12) : m_checked_number [.int v, .int 0, .int 12] = .ok (.int v) [.int v, .int 0, .int 12] := by
  simp [m_checked_number, b_checked_number, isnum, h0, h1, borrows, isFz, putB, outsOf]
theorem words_ok (e : Env) (he : e.getD 1 none = some (.int 0)) (he2 : e.getD 2 none = some (.int 12)) : ∃ s, (cFrz (c2 dAdd (cFrz (c2 dAdd (cFrz (c2 dAdd (cK (.str ("no number from " : Str))) (cFrz (cB dStrOf (cCons (cVar 1) (cNil)))))) (cK (.str (" to " : Str))))) (cFrz (cB dStrOf (cCons (cVar 2) (cNil)))))) e = .ok (.val (.str s)) e := by
  have f1 : fits (("no number from " : Str).length + (toString (0 : Int) : Str).length) = true := by decide +kernel
  have f2 : fits ((("no number from " : Str) ++ (toString (0 : Int) : Str)).length + (" to " : Str).length) = true := by decide +kernel
  have f3 : fits (((("no number from " : Str) ++ (toString (0 : Int) : Str)) ++ (" to " : Str)).length + (toString (12 : Int) : Str).length) = true := by decide +kernel
  have l1 : (0 : Int).natAbs.log2 < 1920 := by decide
  have l2 : (12 : Int).natAbs.log2 < 1920 := by decide
  refine ⟨(("no number from " : Str) ++ Str.ofString (toString (0 : Int)) ++ (" to " : Str)) ++ Str.ofString (toString (12 : Int)), ?_⟩
  simp only [cFrz_e, c2_e, cK_e, cB_e, cCons_e, cVar_e, cNil_e, he, he2, bind_e, gets_cons, gets_nil, get_val, obind_some, omap_some, dStr_i, l1, l2, if_true, ofO_some, nvd_sc, dAdd_ss, f1, f2, f3]
theorem chk_bad {v : Int} (h : ¬ (0 ≤ v ∧ v ≤ 12)) : m_checked_number [.int v, .int 0, .int 12] = .ex ⟨"InvalidNumber", none⟩ [.int v, .int 0, .int 12] := by
  have hb : (decide (0 ≤ v) && decide (v ≤ 12)) = false := by
    by_cases h0 : 0 ≤ v
    · have : ¬ v ≤ 12 := fun z => h ⟨h0, z⟩
      simp [this]
    · simp [h0]
  obtain ⟨s, hs⟩ := words_ok [some (.int v), some (.int 0), some (.int 12)] rfl rfl
  unfold m_checked_number b_checked_number
  rw [runF_e]
  simp only [List.map, List.append, List.replicate, Nat.sub_self, List.append_nil]
  rw [cSeq_e, cIf_e]
  have ht : (cNot (cTru (cMelt (cCall [.fz, .fz, .fz] [none, none, none] .fz m_is_number [] (cCons (cVar 0) (cCons (cVar 1) (cCons (cVar 2) (cNil)))))))) [some (.int v), some (.int 0), some (.int 12)] = .ok true [some (.int v), some (.int 0), some (.int 12)] := by
    simp [isnum, hb, borrows, isFz, putB]
  rw [ht, bind_e]
  simp only [cRaise_e]
  rw [hs, bind_e]
  rfl
theorem chk_badb {b : Bool} : m_checked_number [.bool b, .int 0, .int 12] = .ex ⟨"InvalidNumber", none⟩ [.bool b, .int 0, .int 12] := by
  obtain ⟨s, hs⟩ := words_ok [some (.bool b), some (.int 0), some (.int 12)] rfl rfl
  unfold m_checked_number b_checked_number
  rw [runF_e]
  simp only [List.map, List.append, List.replicate, Nat.sub_self, List.append_nil]
  rw [cSeq_e, cIf_e]
  have ht : (cNot (cTru (cMelt (cCall [.fz, .fz, .fz] [none, none, none] .fz m_is_number [] (cCons (cVar 0) (cCons (cVar 1) (cCons (cVar 2) (cNil)))))))) [some (.bool b), some (.int 0), some (.int 12)] = .ok true [some (.bool b), some (.int 0), some (.int 12)] := by
    simp [isnum_b, borrows, isFz, putB]
  rw [ht, bind_e]
  simp only [cRaise_e]
  rw [hs, bind_e]
  rfl

/-! all_rows -/
theorem grow_step (e : Env) (v c : Nat) (f : List (List Int)) (hv : e.getD v none = some (rowsD f)) (hc : c < e.length) (hvc : c ≠ v) (hf : f.length ≤ 100000) (hr : ∀ r ∈ f, r.length ≤ 1000) :
    (cAsg (cFrz (c2 dAdd (cFrz (cComp [c] (cItS (cVar v)) (fSet c) (cYes) (cFrz (c2 dAdd (cFrz (cLst (cCons (cK (.int 0)) (cNil)))) (cVar c))))) (cFrz (cComp [c] (cItRev (cVar v)) (fSet c) (cYes) (cFrz (c2 dAdd (cFrz (cLst (cCons (cK (.int 1)) (cNil)))) (cVar c))))))) (fSet v)) e = .ok .nx (e.set v (some (rowsD (grow f)))) := by
  have one : ∀ (b : Int) (r : List Int), r ∈ f → (cFrz (c2 dAdd (cFrz (cLst (cCons (cK (.int b)) (cNil)))) (cVar c))) (e.set c (some (bitsD r))) = .ok (.val (bitsD (b :: r))) (e.set c (some (bitsD r))) := fun b r h => by
    have := hr r h
    have h1 : fits (([PyData.int b] : List D).length + (r.map PyData.int).length) = true := fits_le (by simp; omega)
    have hg : (List.set e c (some (.list (r.map .int))))[c]? = some (some (.list (r.map .int))) := List.getElem?_set_self hc
    have h2 : fits ([PyData.int b] : List D).length = true := fits_le (by simp)
    simp only [cFrz_e, c2_e, cLst_e, cCons_e, cK_e, cNil_e, bind_e, vals_val, vals_nil, omap_some, obind_some, h2, if_true, ofO_some, nvd_nl, cVar_e, List.getD_eq_getElem?_getD, hg, Option.getD_some, get_val, bitsD, dAdd_ll, h1]
    rfl
  have h1 : cComp [c] (cItS (cVar v)) (fSet c) (cYes) (cFrz (c2 dAdd (cFrz (cLst (cCons (cK (.int 0)) (cNil)))) (cVar c))) e = .ok (.nl ((f.map bitsD).map fun d => match d with | .list ds => .list (.int 0 :: ds) | d => d)) e := by
    refine cComp_map (e := e) (f.map bitsD) _ ?_ (fits_le (by simp; omega)) hc ?_
    · simp only [cItS_e, cVar_e, hv, bind_e, rowsD, seqOf_l, ofO_some]
    · intro d hd
      obtain ⟨r, hr', rfl⟩ := List.mem_map.mp hd
      rw [one 0 r hr']
      rfl
  have h2 : cComp [c] (cItRev (cVar v)) (fSet c) (cYes) (cFrz (c2 dAdd (cFrz (cLst (cCons (cK (.int 1)) (cNil)))) (cVar c))) e = .ok (.nl ((f.map bitsD).reverse.map fun d => match d with | .list ds => .list (.int 1 :: ds) | d => d)) e := by
    refine cComp_map (e := e) (f.map bitsD).reverse _ ?_ (fits_le (by simp; omega)) hc ?_
    · simp only [cItRev_e, cVar_e, hv, bind_e, rowsD]
    · intro d hd
      obtain ⟨r, hr', rfl⟩ := List.mem_map.mp (List.mem_reverse.mp hd)
      rw [one 1 r hr']
      rfl
  have hfit : fits ((((f.map bitsD).map fun d => match d with | .list ds => PyData.list (.int 0 :: ds) | d => d)).length + (((f.map bitsD).reverse.map fun d => match d with | .list ds => PyData.list (.int 1 :: ds) | d => d)).length) = true := fits_le (by simp; omega)
  simp only [cAsg_e, cFrz_e, c2_e, h1, h2, bind_e, nvd_nl, get_val, obind_some, dAdd_ll, hfit, if_true, ofO_some, fSet_e]
  simp [rowsD, grow, bitsD, List.map_map, Function.comp_def]
theorem gray_row : ∀ n, ∀ r ∈ gray n, r.length = n
  | 0, r, h => by
    simp [gray] at h
    simp [h]
  | n + 1, r, h => by
    simp only [gray, grow, List.mem_append, List.mem_map, List.mem_reverse] at h
    rcases h with ⟨x, hx, rfl⟩ | ⟨x, hx, rfl⟩
    · simp [gray_row n x hx]
    · simp [gray_row n x hx]
theorem pow_le {k : Nat} (h : k ≤ 12) : 2 ^ k ≤ 4096 := Nat.pow_le_pow_right (by decide) h
theorem all_rows {n : Nat} (h : n ≤ 12) : m_all_rows [.int n] = .ok (rowsD (gray n)) [.int n] := by
  have lp : ∀ (ds : List D) (k : Nat) (t : Option D), k + ds.length ≤ 12 → ∃ t', forL (fSet 2) l0_all_rows ds [some (.int n), some (rowsD (gray k)), t, none] = .ok .nx [some (.int n), some (rowsD (gray (k + ds.length))), t', none] := by
    intro ds
    induction ds with
    | nil => intro k t _; exact ⟨t, rfl⟩
    | cons d ds ih =>
      intro k t hk
      simp only [List.length_cons] at hk
      obtain ⟨t', h'⟩ := ih (k + 1) (some d) (by omega)
      refine ⟨t', ?_⟩
      have gs : l0_all_rows [some (.int n), some (rowsD (gray k)), some d, none] = .ok .nx [some (.int n), some (rowsD (gray (k + 1))), some d, none] := grow_step [some (.int n), some (rowsD (gray k)), some d, none] 1 3 (gray k) rfl (by simp) (by decide) (by rw [gray_len]; have := pow_le (k := k) (by omega); omega) (fun r hr => by rw [gray_row k r hr]; omega)
      rw [forL_cons_nx (e1 := [some (.int n), some (rowsD (gray k)), some d, none]) (e2 := [some (.int n), some (rowsD (gray (k + 1))), some d, none]) rfl gs, h']
      simp only [List.length_cons]
      rw [show k + (ds.length + 1) = k + 1 + ds.length by omega]
  obtain ⟨t', hlp⟩ := lp (intsFrom 0 n) 0 none (by rw [intsFrom_len]; omega)
  rw [intsFrom_len, Nat.zero_add] at hlp
  have hr : inR (n : Int) = true := inR_of (by omega) (by omega)
  have hc := chk (v := (n : Int)) (by omega) (by omega)
  have g0 : rowsD (gray 0) = .list [.list []] := rfl
  have s1 : s1_all_rows [some (.int (n : Int)), none, none, none] = .ok .nx [some (.int (n : Int)), none, none, none] := by
    simp [s1_all_rows, hc, borrows, isFz, putB]
  have s2 : s2_all_rows [some (.int (n : Int)), none, none, none] = .ok .nx [some (.int (n : Int)), some (rowsD (gray 0)), none, none] := by
    rw [g0]
    simp [s2_all_rows, fits_le]
  have hi : cItR1 (cCons (cVar 0) (cNil)) [some (.int (n : Int)), some (rowsD (gray 0)), none, none] = .ok (intsFrom 0 n) [some (.int (n : Int)), some (rowsD (gray 0)), none, none] := by
    simp [hr]
  have hb : b_all_rows [some (.int (n : Int)), none, none, none] = .ok (.rt (rowsD (gray n))) [some (.int (n : Int)), some (rowsD (gray n)), t', none] := by
    unfold b_all_rows
    rw [seq_nx s1, seq_nx s2, seq_nx (for_nx hi hlp)]
    rfl
  unfold m_all_rows
  exact run_ok hb

/-! row_at -/
theorem atI_map {r : List Int} {j : Nat} : atI (r.map PyData.int) (j : Int) = (r[j]?).map .int := by
  rw [atI_nat, List.getElem?_map]
theorem row_loop (L p : Int) : ∀ (ds : List D) (t b : Option D) (bf : Int) (acc : List D), ds.length ≤ 12 → acc.length + ds.length ≤ 1000 →
    ∃ m t' b' bf', forL (fSet 3) l1_row_at ds [some (.int L), some (.int p), some (.int (2 ^ ds.length)), t, some (.list acc), some (.int bf), b] = .ok .nx [some (.int L), some (.int p), m, t', some (.list (acc ++ (rowGo p ds.length bf).map .int)), bf', b']
  | [], t, b, bf, acc, _, _ => ⟨some (.int (2 ^ 0)), t, b, some (.int bf), by simp [rowGo]⟩
  | d :: ds, t, b, bf, acc, h, ha => by
    simp only [List.length_cons] at h ha
    obtain ⟨m, t', b', bf', ih⟩ := row_loop L p ds (some d) (some (.int (p / 2 ^ ds.length % 2))) (p / 2 ^ ds.length % 2) (acc ++ [.int ((p / 2 ^ ds.length % 2 + bf) % 2)]) (by omega) (by simp; omega)
    refine ⟨m, t', b', bf', ?_⟩
    have p2 : (2 : Int) ^ (ds.length + 1) / 2 = 2 ^ ds.length := by
      rw [Int.pow_succ, Int.mul_ediv_cancel _ (by decide)]
    have pp : (0 : Int) < 2 ^ ds.length := Int.pow_pos (by decide)
    have pl : (2 : Int) ^ ds.length < 1073741824 := by
      have := pow_le (k := ds.length) (by omega)
      have e : ((2 ^ ds.length : Nat) : Int) = 2 ^ ds.length := by simp
      omega
    have hf : fits (acc.length + 1) = true := fits_le (by omega)
    have st : l1_row_at [some (.int L), some (.int p), some (.int (2 ^ (ds.length + 1))), some d, some (.list acc), some (.int bf), b] = .ok .nx [some (.int L), some (.int p), some (.int (2 ^ ds.length)), some d, some (.list (acc ++ [.int ((p / 2 ^ ds.length % 2 + bf) % 2)])), some (.int (p / 2 ^ ds.length % 2)), some (.int (p / 2 ^ ds.length % 2))] := by
      simp [l1_row_at, p2, pp, pl, hf]
    rw [forL_cons_nx (e1 := [some (.int L), some (.int p), some (.int (2 ^ (ds.length + 1))), some d, some (.list acc), some (.int bf), b]) rfl st, ih]
    simp [rowGo, List.append_assoc]
theorem many_loop (L p : Int) : ∀ (ds : List D) (t : Option D) (k : Nat), k + ds.length ≤ 12 →
    ∃ t', forL (fSet 3) l0_row_at ds [some (.int L), some (.int p), some (.int (2 ^ k)), t, none, none, none] = .ok .nx [some (.int L), some (.int p), some (.int (2 ^ (k + ds.length))), t', none, none, none]
  | [], t, k, _ => ⟨t, rfl⟩
  | d :: ds, t, k, h => by
    simp only [List.length_cons] at h
    obtain ⟨t', ih⟩ := many_loop L p ds (some d) (k + 1) (by omega)
    refine ⟨t', ?_⟩
    have hs : small 2 = true := by decide
    have st : l0_row_at [some (.int L), some (.int p), some (.int (2 ^ k)), some d, none, none, none] = .ok .nx [some (.int L), some (.int p), some (.int (2 ^ (k + 1))), some d, none, none, none] := by
      simp [l0_row_at, hs]
      rw [Int.pow_succ, Int.mul_comm]
    rw [forL_cons_nx (e1 := [some (.int L), some (.int p), some (.int (2 ^ k)), some d, none, none, none]) rfl st, ih]
    simp only [List.length_cons]
    rw [show k + (ds.length + 1) = k + 1 + ds.length by omega]
theorem row_s2 {n p : Int} (h0 : 0 ≤ n) (h : n ≤ 12) : s2_row_at [some (.int n), some (.int p), none, none, none, none, none] = .ok .nx [some (.int n), some (.int p), none, none, none, none, none] := by
  simp [s2_row_at, chk h0 h, borrows, isFz, putB]
theorem row_i1 {n p : Int} (hr : inR n = true) {m : Option D} {a b c d : Option D} : cItR1 (cCons (cVar 0) (cNil)) [some (.int n), some (.int p), m, a, b, c, d] = .ok (intsFrom 0 n.toNat) [some (.int n), some (.int p), m, a, b, c, d] := by
  simp [hr]
theorem row_s3 {n : Nat} {p : Int} (h0 : 0 ≤ p) (h1 : p < 2 ^ n) {t1 : Option D} : s3_row_at [some (.int (n : Int)), some (.int p), some (.int (2 ^ n)), t1, none, none, none] = .ok .nx [some (.int (n : Int)), some (.int p), some (.int (2 ^ n)), t1, none, none, none] := by
  have : p ≤ 2 ^ n - 1 := by omega
  simp [s3_row_at, isnum, h0, this, borrows, isFz, putB]
theorem row_at {n : Nat} {p : Int} (h : n ≤ 12) (h0 : 0 ≤ p) (h1 : p < 2 ^ n) : m_row_at [.int n, .int p] = .ok (bitsD (rowAt n p)) [.int n, .int p] := by
  have hr : inR (n : Int) = true := inR_of (by omega) (by omega)
  have hc := chk (v := (n : Int)) (by omega) (by omega)
  obtain ⟨t1, l1⟩ := many_loop n p (intsFrom 0 n) none 0 (by rw [intsFrom_len]; omega)
  obtain ⟨m, t2, b2, f2, l2⟩ := row_loop n p (intsFrom 0 n) t1 none 0 [] (by rw [intsFrom_len]; omega) (by rw [intsFrom_len]; simp; omega)
  rw [intsFrom_len, Nat.zero_add] at l1
  rw [intsFrom_len, List.nil_append] at l2
  have a1 : cAsg (cK (.int 1)) (fSet 2) [some (.int (n : Int)), some (.int p), none, none, none, none, none] = .ok .nx [some (.int (n : Int)), some (.int p), some (.int (2 ^ 0)), none, none, none, none] := rfl
  have a2 : cSetO 4 (cOwn (cLst (cNil))) [some (.int (n : Int)), some (.int p), some (.int (2 ^ n)), t1, none, none, none] = .ok .nx [some (.int (n : Int)), some (.int p), some (.int (2 ^ n)), t1, some (.list []), none, none] := by
    simp [fits_le]
  have a3 : cAsg (cK (.int 0)) (fSet 5) [some (.int (n : Int)), some (.int p), some (.int (2 ^ n)), t1, some (.list []), none, none] = .ok .nx [some (.int (n : Int)), some (.int p), some (.int (2 ^ n)), t1, some (.list []), some (.int 0), none] := rfl
  have i1 : ∀ {m : Option D} {a b c d : Option D}, cItR1 (cCons (cVar 0) (cNil)) [some (.int (n : Int)), some (.int p), m, a, b, c, d] = .ok (intsFrom 0 n) [some (.int (n : Int)), some (.int p), m, a, b, c, d] := fun {m a b c d} => row_i1 hr
  have hb : b_row_at [some (.int (n : Int)), some (.int p), none, none, none, none, none] = .ok (.rt (bitsD (rowAt n p))) [some (.int (n : Int)), some (.int p), m, t2, none, f2, b2] := by
    unfold b_row_at
    rw [seq_nx (row_s2 (by omega) (by omega)), seq_nx a1, seq_nx (for_nx i1 l1), seq_nx (row_s3 h0 h1), seq_nx a2, seq_nx a3, seq_nx (for_nx i1 l2)]
    rfl
  unfold m_row_at
  exact run_ok hb
/-! change_at -/
def unl (n : Nat) (one two : List Int) : List Nat := (List.range n).filter fun j => decide (one.getD j 0 ≠ two.getD j 0)
theorem unlike_comp {e e0 : Env} {i n : Nat} {A B : Env → R Lv} {ci : Env → R (List D)} (one two : List Int) (hi : i < e.length) (hn : n ≤ 100000) (hci : ci e0 = .ok (intsFrom 0 n) e)
    (hA : ∀ j, j < n → A (e.set i (some (.int (j : Int)))) = .ok (.val (.int (one.getD j 0))) (e.set i (some (.int (j : Int))))) (hB : ∀ j, j < n → B (e.set i (some (.int (j : Int)))) = .ok (.val (.int (two.getD j 0))) (e.set i (some (.int (j : Int))))) :
    cComp [i] ci (fSet i) (cTst (c2 dNe A B)) (cVar i) e0 = .ok (.nl ((unl n one two).map fun (j : Nat) => PyData.int (j : Int))) e := by
  have dn : ∀ d ∈ intsFrom 0 n, ∃ j, j < n ∧ d = .int ((j : Nat) : Int) := fun d hd => by
    obtain ⟨j, hj⟩ := List.getElem?_of_mem hd
    obtain ⟨h1, h2⟩ := intsFrom_get hj
    exact ⟨j, h1, by rw [h2, Int.zero_add]⟩
  have := cComp_pure (e := e) (e0 := e0) (ci := ci) (t := cTst (c2 dNe A B)) (c := cVar i) (i := i) (intsFrom 0 n) (fun d => match d with | .int j => decide (one.getD j.toNat 0 ≠ two.getD j.toNat 0) | _ => false) (fun d => d) hci (fits_le (by simp; omega)) hi ?_ ?_
  · rw [this]
    congr 2
    unfold intsFrom unl
    rw [List.filter_map, List.map_map]
    simp [Function.comp_def]
  · intro d hd
    obtain ⟨j, hj, rfl⟩ := dn d hd
    simp only [cTst_e, c2_e, hA j hj, hB j hj, bind_e, get_val, obind_some, dNe_ii, ofO_some, nvd_sc, dBool_b, Int.toNat_natCast]
    simp
  · intro d hd _
    have hg : (List.set e i (some d))[i]? = some (some d) := List.getElem?_set_self hi
    simp only [cVar_e, List.getD_eq_getElem?_getD, hg, Option.getD_some]
theorem ix_bits {r : List Int} {j : Nat} (h : j < r.length) : dIx (bitsD r) (.int (j : Int)) = some (.sc (.int (r.getD j 0))) := by
  have : r[j]? = some r[j] := List.getElem?_eq_getElem h
  simp [bitsD, atI_nat, List.getD_eq_getElem?_getD, this]
theorem row_len : ∀ (n : Nat) (p b : Int), (rowGo p n b).length = n
  | 0, _, _ => rfl
  | n + 1, p, b => by simp [rowGo, row_len n]
theorem change_at {n : Nat} {k : Int} (h : n ≤ 12) (h0 : 0 ≤ k) (hk : k + 1 < 2 ^ n) {z : Nat} (hz : (unl n (rowAt n k) (rowAt n (k + 1)))[0]? = some z) :
    m_change_at [.int n, .int k] = .ok (.int z) [.int n, .int k] := by
  have r1 := row_at (n := n) (p := k) h h0 (by omega)
  have r2 := row_at (n := n) (p := k + 1) h (by omega) hk
  have hr : inR (n : Int) = true := inR_of (by omega) (by omega)
  have a1 : cAsg (cMelt (cCall [.fz, .fz] [none, none] .fz m_row_at [] (cCons (cVar 0) (cCons (cVar 1) (cNil))))) (fSet 2) [some (.int n), some (.int k), none, none, none] = .ok .nx [some (.int n), some (.int k), some (bitsD (rowAt n k)), none, none] := by
    simp [r1, borrows, isFz, putB]
  have a2 : cAsg (cMelt (cCall [.fz, .fz] [none, none] .fz m_row_at [] (cCons (cVar 0) (cCons (cFrz (c2 dAdd (cVar 1) (cK (.int 1)))) (cNil))))) (fSet 3) [some (.int n), some (.int k), some (bitsD (rowAt n k)), none, none] = .ok .nx [some (.int n), some (.int k), some (bitsD (rowAt n k)), some (bitsD (rowAt n (k + 1))), none] := by
    simp [r2, borrows, isFz, putB]
  have uc := unlike_comp (e := [some (.int n), some (.int k), some (bitsD (rowAt n k)), some (bitsD (rowAt n (k + 1))), none]) (e0 := [some (.int n), some (.int k), some (bitsD (rowAt n k)), some (bitsD (rowAt n (k + 1))), none])
    (i := 4) (n := n) (A := cFrz (c2 dIx (cVar 2) (cVar 4))) (B := cFrz (c2 dIx (cVar 3) (cVar 4))) (ci := cItR1 (cCons (cVar 0) (cNil))) (rowAt n k) (rowAt n (k + 1)) (by simp) (by omega) (by simp [hr])
    (fun j hj => by simp [ix_bits (r := rowAt n k) (j := j) (by rw [rowAt, row_len]; exact hj)]) (fun j hj => by simp [ix_bits (r := rowAt n (k + 1)) (j := j) (by rw [rowAt, row_len]; exact hj)])
  have hb : b_change_at [some (.int n), some (.int k), none, none, none] = .ok (.rt (.int z)) [some (.int n), some (.int k), some (bitsD (rowAt n k)), some (bitsD (rowAt n (k + 1))), none] := by
    unfold b_change_at
    rw [seq_nx a1, seq_nx a2, cRet_e, cFrz_e, c2_e, cFrz_e, uc]
    simp [hz]
  exact run_ok hb

/-! checked_row, place_of -/
def isBits (r : List Int) : Prop := ∀ x ∈ r, 0 ≤ x ∧ x ≤ 1
theorem chk_row {r : List Int} (hr : isBits r) (hl : r.length ≤ 100000) : m_checked_row [bitsD r, .int (r.length : Int)] = .ok (bitsD r) [bitsD r, .int (r.length : Int)] := by
  have cc : cComp [2] (cItS (cVar 0)) (fSet 2) (cNot (cTru (cMelt (cCall [.fz, .fz, .fz] [none, none, none] .fz m_is_number [] (cCons (cVar 2) (cCons (cK (.int 0)) (cCons (cK (.int 1)) (cNil)))))))) (cVar 2) [some (bitsD r), some (.int (r.length : Int)), none] = .ok (.nl []) [some (bitsD r), some (.int (r.length : Int)), none] := by
    have := cComp_pure (e0 := [some (bitsD r), some (.int (r.length : Int)), none]) (e := [some (bitsD r), some (.int (r.length : Int)), none]) (ci := cItS (cVar 0)) (t := cNot (cTru (cMelt (cCall [.fz, .fz, .fz] [none, none, none] .fz m_is_number [] (cCons (cVar 2) (cCons (cK (.int 0)) (cCons (cK (.int 1)) (cNil)))))))) (c := cVar 2) (i := 2) (r.map .int) (fun _ => false) (fun d => d) (by simp [bitsD]) (fits_le (by simp; omega)) (by simp) ?_ ?_
    · rw [this]
      simp
    · intro d hd
      obtain ⟨x, hx, rfl⟩ := List.mem_map.mp hd
      have := hr x hx
      simp [isnum, this.1, this.2, borrows, isFz, putB]
    · intro d _ z
      cases z
  have e0 : (cOr (cTst (c2 dNe (cFrz (cB dLen (cCons (cVar 0) (cNil)))) (cVar 1))) (cTru (cFrz (cComp [2] (cItS (cVar 0)) (fSet 2) (cNot (cTru (cMelt (cCall [.fz, .fz, .fz] [none, none, none] .fz m_is_number [] (cCons (cVar 2) (cCons (cK (.int 0)) (cCons (cK (.int 1)) (cNil)))))))) (cVar 2))))) [some (bitsD r), some (.int (r.length : Int)), none] = .ok false [some (bitsD r), some (.int (r.length : Int)), none] := by
    have o1 : (cTst (c2 dNe (cFrz (cB dLen (cCons (cVar 0) (cNil)))) (cVar 1))) [some (bitsD r), some (.int (r.length : Int)), none] = .ok false [some (bitsD r), some (.int (r.length : Int)), none] := by simp [bitsD]
    rw [or_f o1, cTru_e, cFrz_e, cc]
    simp
  have hb : b_checked_row [some (bitsD r), some (.int (r.length : Int)), none] = .ok (.rt (bitsD r)) [some (bitsD r), some (.int (r.length : Int)), none] := by
    unfold b_checked_row
    rw [cSeq_e, if_f e0]
    simp [bitsD]
  exact run_ok hb
theorem place_loop (rw1 sg : D) : ∀ (r : List Int) (f l : Int) (s : Option D), ∃ l' s', forL (fSet 4) l0_place_of (r.map .int) [some rw1, some sg, some (.int f), some (.int l), s] = .ok .nx [some rw1, some sg, some (.int (placeGo r f l)), l', s']
  | [], f, l, s => ⟨_, _, rfl⟩
  | x :: r, f, l, s => by
    obtain ⟨l', s', ih⟩ := place_loop rw1 sg r (2 * f + (l + x) % 2) ((l + x) % 2) (some (.int x))
    refine ⟨l', s', ?_⟩
    have hs : small 2 = true := by decide
    have st : l0_place_of [some rw1, some sg, some (.int f), some (.int l), some (.int x)] = .ok .nx [some rw1, some sg, some (.int (2 * f + (l + x) % 2)), some (.int ((l + x) % 2)), some (.int x)] := by
      simp [l0_place_of, hs]
    rw [List.map_cons, forL_cons_nx (e1 := [some rw1, some sg, some (.int f), some (.int l), some (.int x)]) rfl st, ih]
    rfl
theorem place_of {r : List Int} (hr : isBits r) (hl : r.length ≤ 12) : m_place_of [bitsD r] = .ok (.int (placeOf r)) [bitsD r] := by
  obtain ⟨l', s', lp⟩ := place_loop (bitsD r) (bitsD r) r 0 0 none
  have cr := chk_row hr (by omega)
  have s1 : s1_place_of [some (bitsD r), none, none, none, none] = .ok .nx [some (bitsD r), some (bitsD r), none, none, none] := by
    have hlen : (cFrz (cB dLen (cCons (cVar 0) (cNil)))) [some (bitsD r), none, none, none, none] = .ok (.val (.int (r.length : Int))) [some (bitsD r), none, none, none, none] := by simp [bitsD]
    simp only [s1_place_of, cAsg_e, cMelt_e, cCall_e, cCons_e, hlen, cNil_e, cVar_e, bind_e, List.getD_cons_zero]
    simp [cr, borrows, isFz, putB]
  have s2 : s2_place_of [some (bitsD r), some (bitsD r), none, none, none] = .ok .nx [some (bitsD r), some (bitsD r), none, none, none] := by
    have : ¬ (12 : Int) < (r.length : Int) := by omega
    simp [s2_place_of, bitsD, this]
  have a1 : cAsg (cK (.int 0)) (fSet 2) [some (bitsD r), some (bitsD r), none, none, none] = .ok .nx [some (bitsD r), some (bitsD r), some (.int 0), none, none] := rfl
  have a2 : cAsg (cK (.int 0)) (fSet 3) [some (bitsD r), some (bitsD r), some (.int 0), none, none] = .ok .nx [some (bitsD r), some (bitsD r), some (.int 0), some (.int 0), none] := rfl
  have hi : cItS (cVar 1) [some (bitsD r), some (bitsD r), some (.int 0), some (.int 0), none] = .ok (r.map .int) [some (bitsD r), some (bitsD r), some (.int 0), some (.int 0), none] := by simp [bitsD]
  have hb : b_place_of [some (bitsD r), none, none, none, none] = .ok (.rt (.int (placeOf r))) [some (bitsD r), some (bitsD r), some (.int (placeOf r)), l', s'] := by
    unfold b_place_of
    rw [seq_nx s1, seq_nx s2, seq_nx a1, seq_nx a2, seq_nx (for_nx hi lp)]
    rfl
  exact run_ok hb
end DL.K80

namespace DL.K80
open PySem PySem.Spec PyProof.Rows L2 DL DL.Lib
/-! ## Plain facts -/
def okN (n : Nat) : Bool := (List.range (2 ^ n)).all fun p => decide ((gray n)[p]? = some (rowAt n p)) && decide (placeOf (rowAt n p) = p) && (rowAt n p).all fun x => decide (0 ≤ x) && decide (x ≤ 1)
def okStep (n : Nat) : Bool := (List.range (2 ^ n - 1)).all fun k => decide (unl n (rowAt n ((k : Int) + 1)) (rowAt n k) = unl n (rowAt n k) (rowAt n ((k : Int) + 1))) && decide ((unl n (rowAt n k) (rowAt n ((k : Int) + 1))).length = 1)
theorem ok_all : (List.range 8).all (fun n => okN n && okStep n && decide (gray n).Nodup && decide ((gray n)[0]? = some (List.replicate n 0))) = true := by decide +kernel
theorem fact {n : Nat} (h : n < 8) : (∀ p : Nat, p < 2 ^ n → (gray n)[p]? = some (rowAt n p) ∧ placeOf (rowAt n p) = p ∧ isBits (rowAt n p)) ∧ (∀ k : Nat, k + 1 < 2 ^ n → unl n (rowAt n ((k : Int) + 1)) (rowAt n k) = unl n (rowAt n k) (rowAt n ((k : Int) + 1)) ∧ ∃ z, unl n (rowAt n k) (rowAt n ((k : Int) + 1)) = [z]) ∧ (gray n).Nodup ∧ (gray n)[0]? = some (List.replicate n 0) := by
  have := List.all_eq_true.mp ok_all n (List.mem_range.mpr h)
  rw [Bool.and_eq_true, Bool.and_eq_true, Bool.and_eq_true, decide_eq_true_iff, decide_eq_true_iff] at this
  obtain ⟨⟨⟨h1, h2⟩, h3⟩, h4⟩ := this
  refine ⟨fun p hp => ?_, fun k hk => ?_, h3, h4⟩
  · have := List.all_eq_true.mp h1 p (List.mem_range.mpr hp)
    rw [Bool.and_eq_true, Bool.and_eq_true, decide_eq_true_iff, decide_eq_true_iff, List.all_eq_true] at this
    refine ⟨this.1.1, this.1.2, fun x hx => ?_⟩
    have := this.2 x hx
    rw [Bool.and_eq_true, decide_eq_true_iff, decide_eq_true_iff] at this
    exact this
  · have := List.all_eq_true.mp h2 k (List.mem_range.mpr (by omega))
    rw [Bool.and_eq_true, decide_eq_true_iff, decide_eq_true_iff] at this
    exact ⟨this.1, List.length_eq_one_iff.mp this.2⟩
theorem rowAt_len {n : Nat} {p : Int} : (rowAt n p).length = n := row_len n p 0
theorem place_lin : ∀ (r : List Int) (f l : Int), placeGo r f l = f * 2 ^ r.length + placeGo r 0 l
  | [], f, l => by simp [placeGo]
  | x :: r, f, l => by
    rw [placeGo, place_lin r, placeGo, place_lin r (2 * 0 + _)]
    rw [List.length_cons, Int.pow_succ]
    generalize (2 : Int) ^ r.length = N
    generalize (l + x) % 2 = y
    rw [Int.add_mul, Int.mul_zero, Int.zero_add, ← Int.add_assoc, Int.mul_comm 2 f, Int.mul_assoc, Int.mul_comm 2 N]
theorem place_bd : ∀ (r : List Int) (l : Int), 0 ≤ placeGo r 0 l ∧ placeGo r 0 l < 2 ^ r.length
  | [], l => by simp [placeGo]
  | x :: r, l => by
    rw [placeGo, place_lin r, List.length_cons, Int.pow_succ]
    have h := place_bd r ((l + x) % 2)
    have hy : (l + x) % 2 = 0 ∨ (l + x) % 2 = 1 := by omega
    generalize (2 : Int) ^ r.length = N at *
    rcases hy with e | e <;> rw [e] at h ⊢ <;> constructor <;> omega
theorem row_place : ∀ (r : List Int) (F l : Int), isBits r → (l = 0 ∨ l = 1) → rowGo (F * 2 ^ r.length + placeGo r 0 l) r.length l = r
  | [], F, l, _, _ => rfl
  | x :: r, F, l, hr, hl => by
    have hx := hr x List.mem_cons_self
    have ih := row_place r (2 * F + (l + x) % 2) ((l + x) % 2) (fun y hy => hr y (List.mem_cons_of_mem _ hy)) (by omega)
    have bd := place_bd r ((l + x) % 2)
    have e : F * 2 ^ (r.length + 1) + placeGo (x :: r) 0 l = (2 * F + (l + x) % 2) * 2 ^ r.length + placeGo r 0 ((l + x) % 2) := by
      rw [placeGo, place_lin r (2 * 0 + _), Int.pow_succ]
      generalize (2 : Int) ^ r.length = N
      rw [Int.mul_zero, Int.zero_add, ← Int.add_assoc, Int.add_mul, Int.mul_comm 2 F, Int.mul_assoc, Int.mul_comm 2 N]
    rw [List.length_cons, e, rowGo]
    have pp : (0 : Int) < 2 ^ r.length := Int.pow_pos (by decide)
    have q : ((2 * F + (l + x) % 2) * 2 ^ r.length + placeGo r 0 ((l + x) % 2)) / 2 ^ r.length = 2 * F + (l + x) % 2 := by
      rw [Int.add_comm, Int.add_mul_ediv_right _ _ (by omega), Int.ediv_eq_zero_of_lt bd.1 bd.2, Int.zero_add]
    rw [q]
    have q2 : (2 * F + (l + x) % 2) % 2 = (l + x) % 2 := by omega
    rw [q2, ih]
    congr 1
    omega
theorem far_ok {r : List Int} (hr : isBits r) (hl : r.length = 12) : rowAt 12 (placeOf r) = r ∧ 0 ≤ placeOf r ∧ placeOf r < 2 ^ 12 := by
  have h := row_place r 0 0 hr (.inl rfl)
  rw [Int.zero_mul, Int.zero_add, hl] at h
  have b := place_bd r 0
  rw [hl] at b
  exact ⟨h, b⟩
theorem okS_bits (k : Nat) (r : List Int) (h : r.length ≤ 100000) : okS (k + 1) (bitsD r) = true := by
  rw [bitsD, okS, Bool.and_eq_true, decide_eq_true_iff, List.all_eq_true]
  refine ⟨by simp; omega, fun d hd => ?_⟩
  obtain ⟨x, _, rfl⟩ := List.mem_map.mp hd
  cases k <;> rfl
theorem okS_rows (k : Nat) (f : List (List Int)) (h : f.length ≤ 100000) (hr : ∀ r ∈ f, r.length ≤ 100000) : okS (k + 2) (rowsD f) = true := by
  rw [rowsD, okS, Bool.and_eq_true, decide_eq_true_iff, List.all_eq_true]
  refine ⟨by simp; omega, fun d hd => ?_⟩
  obtain ⟨r, hr', rfl⟩ := List.mem_map.mp hd
  exact okS_bits k r (hr r hr')
theorem gray_ne {n : Nat} : 0 < (gray n).length := by rw [gray_len]; exact Nat.pow_pos (by decide)
theorem gray_le {n : Nat} (h : n < 8) : (gray n).length ≤ 128 := by
  rw [gray_len]
  exact Nat.pow_le_pow_right (n := 2) (by decide) (show n ≤ 7 by omega)
theorem gray_okS {n k : Nat} (h : n < 8) : okS (k + 2) (rowsD (gray n)) = true := okS_rows k _ (by have := gray_le h; omega) fun r hr => by rw [gray_row n r hr]; omega
theorem ix_rows {n k : Nat} (h : n < 8) (hk : k < 2 ^ n) : dIx (rowsD (gray n)) (.int (k : Int)) = some (.sc (bitsD (rowAt n k))) := by
  have := ((fact h).1 k hk).1
  simp [rowsD, atI_nat, this]

/-! ## The law -/
section
variable {S P : D} {n : Nat} {u5 u6 u7 u8 u9 u10 u11 : Option D}
abbrev EE (S P : D) (n : Nat) (u5 u6 u7 u8 u9 u10 u11 : Option D) : Env := [some S, some P, some (.int (n : Int)), some (rowsD (gray n)), some (rowsD (gray n)), u5, u6, u7, u8, u9, u10, u11]
theorem inRn (h : n < 8) : inR (n : Int) = true := inR_of (by omega) (by omega)
theorem s7 (h : n < 8) : s7_law (EE S P n u5 u6 u7 u8 u9 u10 u11) = .ok .nx (EE S P n u5 u6 u7 u8 u9 u10 u11) := by
  have c1 := same_not (e := EE S P n u5 u6 u7 u8 u9 u10 u11) (e1 := EE S P n u5 u6 u7 u8 u9 u10 u11) (e2 := EE S P n u5 u6 u7 u8 u9 u10 u11) (A := cVar 3) (B := cVar 4) (d := rowsD (gray n)) (k := 11) rfl rfl (gray_okS h)
  have cc : cComp [5] (cItR1 (cCons (cVar 2) (cNil))) (fSet 5) (cYes) (cK (.int 0)) (EE S P n u5 u6 u7 u8 u9 u10 u11) = .ok (.nl ((intsFrom 0 n).map fun _ => .int 0)) (EE S P n u5 u6 u7 u8 u9 u10 u11) :=
    cComp_map (e := EE S P n u5 u6 u7 u8 u9 u10 u11) (intsFrom 0 n) (fun _ => .int 0) (by simp [inRn h]) (fits_le (by simp; omega)) (by simp) fun d _ => rfl
  have ez : (intsFrom 0 n).map (fun _ => PyData.int 0) = (List.replicate n 0).map PyData.int := by
    simp [intsFrom, List.map_map, Function.comp_def, List.map_const']
  rw [ez] at cc
  have i0 : dIx (rowsD (gray n)) (.int 0) = some (.sc (bitsD (List.replicate n 0))) := by
    have := (fact h).2.2.2
    simp [rowsD, this]
  have c2' : cTst (c2 dNe (cFrz (c2 dIx (cVar 3) (cK (.int 0)))) (cFrz (cComp [5] (cItR1 (cCons (cVar 2) (cNil))) (fSet 5) (cYes) (cK (.int 0))))) (EE S P n u5 u6 u7 u8 u9 u10 u11) = .ok false (EE S P n u5 u6 u7 u8 u9 u10 u11) := by
    have a1 : (cFrz (c2 dIx (cVar 3) (cK (.int 0)))) (EE S P n u5 u6 u7 u8 u9 u10 u11) = .ok (.val (bitsD (List.replicate n 0))) (EE S P n u5 u6 u7 u8 u9 u10 u11) := stF (st2 (stV rfl) (cK_e) rfl rfl i0)
    have a2 : (cFrz (cComp [5] (cItR1 (cCons (cVar 2) (cNil))) (fSet 5) (cYes) (cK (.int 0)))) (EE S P n u5 u6 u7 u8 u9 u10 u11) = .ok (.val (bitsD (List.replicate n 0))) (EE S P n u5 u6 u7 u8 u9 u10 u11) := by
      exact stF cc
    refine stT (st2 a1 a2 rfl rfl ?_)
    rw [bitsD, dNe_ints, decide_eq_true rfl]
    rfl
  unfold s7_law
  rw [if_f ((or_f c1).trans c2'), cNx_e]
theorem srt (h : n < 8) : cFrz (cB dSorted (cCons (cVar 3) (cNil))) (EE S P n u5 u6 u7 u8 u9 u10 u11) = .ok (.val (.list (sortD false ((gray n).map bitsD)))) (EE S P n u5 u6 u7 u8 u9 u10 u11) := by
  have hs : dSorted [rowsD (gray n)] = some (.nl (sortD false ((gray n).map bitsD))) := by
    have := okSort_rows (f := gray n) (by have := gray_le h; omega)
    show (if okSort ((gray n).map bitsD) = true then some (NV.nl (sortD false ((gray n).map bitsD))) else none) = _
    rw [show (gray n).map bitsD = (gray n).map fun r => PyData.list (r.map .int) from rfl, this]
    rfl
  exact stF (stB1 (stV rfl) rfl hs)
theorem srt_at (h : n < 8) {k : Nat} (hk : k < 2 ^ n) : ∃ r, (sortD false ((gray n).map bitsD))[k]? = some (bitsD r) := by
  have hp := sortD_perm false ((gray n).map bitsD)
  have hl : k < (sortD false ((gray n).map bitsD)).length := by rw [hp.length_eq, List.length_map, gray_len]; exact hk
  have hm : (sortD false ((gray n).map bitsD))[k] ∈ (gray n).map bitsD := hp.mem_iff.mp (List.getElem_mem hl)
  obtain ⟨r, _, e⟩ := List.mem_map.mp hm
  exact ⟨r, by rw [List.getElem?_eq_getElem hl, e]⟩
theorem bitsD_inj {a b : List Int} (h : bitsD a = bitsD b) : a = b := by
  have := PyData.list.inj h
  clear h
  induction a generalizing b with
  | nil =>
    cases b with
    | nil => rfl
    | cons => cases this
  | cons x a ih =>
    cases b with
    | nil => cases this
    | cons y b =>
      simp only [List.map_cons, List.cons.injEq] at this
      rw [PyData.int.inj this.1, ih this.2]
theorem srt_nodup (h : n < 8) : (sortD false ((gray n).map bitsD)).Nodup := by
  rw [(sortD_perm false ((gray n).map bitsD)).nodup_iff]
  exact List.pairwise_map.mpr ((fact h).2.2.1.imp fun ne e => ne (bitsD_inj e))
theorem len3 : cFrz (cB dLen (cCons (cVar 3) (cNil))) (EE S P n u5 u6 u7 u8 u9 u10 u11) = .ok (.val (.int ((2 ^ n : Nat) : Int))) (EE S P n u5 u6 u7 u8 u9 u10 u11) := by
  have : dLen [rowsD (gray n)] = some (.sc (.int ((2 ^ n : Nat) : Int))) := by
    rw [rowsD, dLen_l, List.length_map, gray_len]
  exact stF (stB1 (stV rfl) rfl this)
theorem len4 : cFrz (cB dLen (cCons (cVar 4) (cNil))) (EE S P n u5 u6 u7 u8 u9 u10 u11) = .ok (.val (.int ((2 ^ n : Nat) : Int))) (EE S P n u5 u6 u7 u8 u9 u10 u11) := by
  have : dLen [rowsD (gray n)] = some (.sc (.int ((2 ^ n : Nat) : Int))) := by
    rw [rowsD, dLen_l, List.length_map, gray_len]
  exact stF (stB1 (stV rfl) rfl this)
theorem p128 (h : n < 8) : 2 ^ n ≤ 128 := Nat.pow_le_pow_right (n := 2) (by decide) (show n ≤ 7 by omega)
theorem itr (h : n < 8) : cItR2 (cCons (cK (.int 1)) (cCons (cFrz (cB dLen (cCons (cVar 3) (cNil)))) (cNil))) (EE S P n u5 u6 u7 u8 u9 u10 u11) = .ok (intsFrom 1 (2 ^ n - 1)) (EE S P n u5 u6 u7 u8 u9 u10 u11) := by
  have hp := p128 h
  have r1 : inR 1 = true := by decide
  have r2 : inR ((2 ^ n : Nat) : Int) = true := by
    generalize 2 ^ n = N at hp ⊢
    exact inR_of (by omega) (by omega)
  have e : (((2 ^ n : Nat) : Int) - 1).toNat = 2 ^ n - 1 := by
    generalize 2 ^ n = N
    omega
  rw [cItR2_e, cCons_e, cK_e, bind_e]
  simp only [cCons_e, len3, bind_e, cNil_e, gets_cons, gets_nil, get_val, obind_some, omap_some, r1, r2, e, Bool.and_self, if_true]
theorem mem_ints {lo : Int} {m : Nat} {d : D} (h : d ∈ intsFrom lo m) : ∃ j : Nat, j < m ∧ d = .int (lo + j) := by
  obtain ⟨j, hj⟩ := List.getElem?_of_mem h
  obtain ⟨h1, h2⟩ := intsFrom_get hj
  exact ⟨j, h1, h2⟩
theorem s8 (h : n < 8) : s8_law (EE S P n u5 u6 u7 u8 u9 u10 u11) = .ok .nx (EE S P n u5 u6 u7 u8 u9 u10 u11) := by
  have hp := p128 h
  have c1 : cTst (c2 dNe (cFrz (cB dLen (cCons (cFrz (cB dSorted (cCons (cVar 3) (cNil)))) (cNil)))) (cFrz (cB dLen (cCons (cVar 4) (cNil))))) (EE S P n u5 u6 u7 u8 u9 u10 u11) = .ok false (EE S P n u5 u6 u7 u8 u9 u10 u11) := by
    have l1 : dLen [.list (sortD false ((gray n).map bitsD))] = some (.sc (.int ((2 ^ n : Nat) : Int))) := by
      rw [dLen_l, (sortD_perm false ((gray n).map bitsD)).length_eq, List.length_map, gray_len]
    refine stT (st2 (stF (stB1 (srt h) rfl l1)) len4 rfl rfl ?_)
    rw [NV.d, dNe_ii, decide_eq_true rfl]
    rfl
  have cc : cComp [5] (cItR2 (cCons (cK (.int 1)) (cCons (cFrz (cB dLen (cCons (cVar 3) (cNil)))) (cNil)))) (fSet 5) (cTst (c2 dEq (cFrz (c2 dIx (cFrz (cB dSorted (cCons (cVar 3) (cNil)))) (cVar 5))) (cFrz (c2 dIx (cFrz (cB dSorted (cCons (cVar 3) (cNil)))) (cFrz (c2 dSub (cVar 5) (cK (.int 1)))))))) (cVar 5) (EE S P n u5 u6 u7 u8 u9 u10 u11) = .ok (.nl []) (EE S P n u5 u6 u7 u8 u9 u10 u11) := by
    have := cComp_pure (e0 := EE S P n u5 u6 u7 u8 u9 u10 u11) (e := EE S P n u5 u6 u7 u8 u9 u10 u11) (i := 5) (ci := cItR2 (cCons (cK (.int 1)) (cCons (cFrz (cB dLen (cCons (cVar 3) (cNil)))) (cNil)))) (t := cTst (c2 dEq (cFrz (c2 dIx (cFrz (cB dSorted (cCons (cVar 3) (cNil)))) (cVar 5))) (cFrz (c2 dIx (cFrz (cB dSorted (cCons (cVar 3) (cNil)))) (cFrz (c2 dSub (cVar 5) (cK (.int 1)))))))) (c := cVar 5) (intsFrom 1 (2 ^ n - 1)) (fun _ => false) (fun d => d) (itr h) (fits_le (by rw [intsFrom_len]; omega)) (by simp) ?_ ?_
    · rw [this, List.filter_eq_nil_iff.mpr (fun _ _ => by simp)]
      rfl
    · intro d hd
      obtain ⟨j, hj, rfl⟩ := mem_ints hd
      have q1 : (1 : Int) + (j : Int) = ((j + 1 : Nat) : Int) := by omega
      have q2 : ((j + 1 : Nat) : Int) - 1 = (j : Int) := by omega
      rw [q1]
      obtain ⟨r, hr⟩ := srt_at (n := n) h (k := j + 1) (by omega)
      obtain ⟨r', hr'⟩ := srt_at (n := n) h (k := j) (by omega)
      have ne : r ≠ r' := fun z => by
        subst z
        obtain ⟨a1, a2⟩ := List.getElem?_eq_some_iff.mp hr
        obtain ⟨b1, b2⟩ := List.getElem?_eq_some_iff.mp hr'
        exact List.pairwise_iff_getElem.mp (srt_nodup h) j (j + 1) b1 a1 (by omega) (b2.trans a2.symm)
      have i1 : dIx (.list (sortD false ((gray n).map bitsD))) (.int ((j + 1 : Nat) : Int)) = some (.sc (bitsD r)) := by rw [dIx_l, atI_nat, hr]; rfl
      have i2 : dIx (.list (sortD false ((gray n).map bitsD))) (.int (j : Int)) = some (.sc (bitsD r')) := by rw [dIx_l, atI_nat, hr']; rfl
      have se := srt (S := S) (P := P) (u5 := some (.int ((j + 1 : Nat) : Int))) (u6 := u6) (u7 := u7) (u8 := u8) (u9 := u9) (u10 := u10) (u11 := u11) h
      refine stT (st2 (stF (st2 se (stV rfl) rfl rfl i1)) (stF (st2 se (stF (st2 (stV rfl) cK_e rfl rfl dSub_ii)) rfl rfl (by rw [NV.d, q2]; exact i2))) rfl rfl ?_)
      rw [NV.d, NV.d, bitsD, bitsD, dEq_ints, decide_eq_false ne]
    · intro d _ z
      cases z
  have c2' : cTst (c2 dGt (cFrz (cB dLen (cCons (cFrz (cComp [5] (cItR2 (cCons (cK (.int 1)) (cCons (cFrz (cB dLen (cCons (cVar 3) (cNil)))) (cNil)))) (fSet 5) (cTst (c2 dEq (cFrz (c2 dIx (cFrz (cB dSorted (cCons (cVar 3) (cNil)))) (cVar 5))) (cFrz (c2 dIx (cFrz (cB dSorted (cCons (cVar 3) (cNil)))) (cFrz (c2 dSub (cVar 5) (cK (.int 1)))))))) (cVar 5))) (cNil)))) (cK (.int 0))) (EE S P n u5 u6 u7 u8 u9 u10 u11) = .ok false (EE S P n u5 u6 u7 u8 u9 u10 u11) :=
    stT (st2 (stF (stB1 (stF cc) rfl dLen_l)) cK_e rfl rfl rfl)
  unfold s8_law
  rw [if_f ((or_f c1).trans c2'), cNx_e]
theorem l1 (h : n < 8) {k : Nat} (hk : k + 1 < 2 ^ n) (h5 : u5 = some (.int ((k + 1 : Nat) : Int))) : ∃ v, l1_law (EE S P n u5 u6 u7 u8 u9 u10 u11) = .ok .nx (EE S P n u5 v u7 u8 u9 u10 u11) := by
  subst h5
  obtain ⟨z, hz⟩ := ((fact h).2.1 k hk).2
  have hz2 := ((fact h).2.1 k hk).1.trans hz
  have q2 : ((k + 1 : Nat) : Int) - 1 = (k : Int) := by omega
  have q3 : ((k + 1 : Nat) : Int) = (k : Int) + 1 := by omega
  have pc : ((2 ^ n : Nat) : Int) = 2 ^ n := by simp
  have ixB : dIx (rowsD (gray n)) (.int (((k + 1 : Nat) : Int) - 1)) = some (.sc (bitsD (rowAt n (k : Int)))) := by
    rw [q2]
    exact ix_rows h (by omega)
  have uc := unlike_comp (e := EE S P n (some (.int ((k + 1 : Nat) : Int))) u6 u7 u8 u9 u10 u11) (e0 := EE S P n (some (.int ((k + 1 : Nat) : Int))) u6 u7 u8 u9 u10 u11) (i := 11) (n := n)
    (A := cFrz (c2 dIx (cFrz (c2 dIx (cVar 3) (cVar 5))) (cVar 11))) (B := cFrz (c2 dIx (cFrz (c2 dIx (cVar 3) (cFrz (c2 dSub (cVar 5) (cK (.int 1)))))) (cVar 11))) (ci := cItR1 (cCons (cVar 2) (cNil))) (rowAt n ((k + 1 : Nat) : Int)) (rowAt n k) (by simp) (by omega) (by simp [inRn h])
    (fun j hj => stF (st2 (stF (st2 (stV rfl) (stV rfl) rfl rfl (ix_rows h hk))) (stV rfl) rfl rfl (ix_bits (by rw [rowAt_len]; exact hj))))
    (fun j hj => stF (st2 (stF (st2 (stV rfl) (stF (st2 (stV rfl) cK_e rfl rfl dSub_ii)) rfl rfl ixB)) (stV rfl) rfl rfl (ix_bits (r := rowAt n (k : Int)) (by rw [rowAt_len]; exact hj))))
  rw [q3, hz2] at uc
  have st1 := stA (f := fSet 6) (e2 := EE S P n (some (.int ((k : Int) + 1))) (some (.list [.int (z : Int)])) u7 u8 u9 u10 u11) (stF uc) rfl
  have ca := change_at (n := n) (k := (k : Int)) (z := z) (by omega) (by omega) (by rw [← pc]; omega) (by rw [hz]; rfl)
  have o1 : (cTst (c2 dNe (cFrz (cB dLen (cCons (cVar 6) (cNil)))) (cK (.int 1)))) (EE S P n (some (.int ((k : Int) + 1))) (some (.list [.int (z : Int)])) u7 u8 u9 u10 u11) = .ok false (EE S P n (some (.int ((k : Int) + 1))) (some (.list [.int (z : Int)])) u7 u8 u9 u10 u11) :=
    stT (st2 (stF (stB1 (stV rfl) rfl dLen_l)) cK_e rfl rfl rfl)
  have b1 : cFrz (c2 dIx (cVar 6) (cK (.int 0))) (EE S P n (some (.int ((k : Int) + 1))) (some (.list [.int (z : Int)])) u7 u8 u9 u10 u11) = .ok (.val (.int (z : Int))) (EE S P n (some (.int ((k : Int) + 1))) (some (.list [.int (z : Int)])) u7 u8 u9 u10 u11) := sv2 (stV rfl) cK_e rfl rfl rfl
  have o2 := same_not (k := 11) (d := .int (z : Int)) (e := EE S P n (some (.int ((k : Int) + 1))) (some (.list [.int (z : Int)])) u7 u8 u9 u10 u11) (e1 := EE S P n (some (.int ((k : Int) + 1))) (some (.list [.int (z : Int)])) u7 u8 u9 u10 u11) (e2 := EE S P n (some (.int ((k : Int) + 1))) (some (.list [.int (z : Int)])) u7 u8 u9 u10 u11)
    (A := cMelt (cCall [.fz, .fz] [none, none] .fz m_change_at [] (cCons (cVar 2) (cCons (cFrz (c2 dSub (cVar 5) (cK (.int 1)))) (cNil))))) (B := cFrz (c2 dIx (cVar 6) (cK (.int 0))))
    (stM (stC2 (stV rfl) (stF (st2 (stV rfl) cK_e rfl rfl dSub_ii)) (by rw [NV.d, show (k : Int) + 1 - 1 = k by omega]; exact ca))) b1 rfl
  refine ⟨some (.list [.int (z : Int)]), ?_⟩
  rw [q3]
  unfold l1_law
  rw [seq_nx st1, if_f ((or_f o1).trans o2), cNx_e]
theorem s9 (h : n < 8) : ∃ v5 v6, s9_law (EE S P n u5 u6 u7 u8 u9 u10 u11) = .ok .nx (EE S P n v5 v6 u7 u8 u9 u10 u11) := by
  obtain ⟨e2, h1, v5, v6, rfl⟩ := forL_nx (f := fSet 5) (b := l1_law) (fun _ e => ∃ v5 v6, e = EE S P n v5 v6 u7 u8 u9 u10 u11) (intsFrom 1 (2 ^ n - 1)) 0 (EE S P n u5 u6 u7 u8 u9 u10 u11) ⟨_, _, rfl⟩ fun j d e hd ⟨v5, v6, he⟩ => by
    subst he
    obtain ⟨hj, rfl⟩ := intsFrom_get hd
    obtain ⟨v, hv⟩ := l1 (S := S) (P := P) (u5 := some (.int (1 + (j : Int)))) (u6 := v6) (u7 := u7) (u8 := u8) (u9 := u9) (u10 := u10) (u11 := u11) h (k := j) (by omega) (by rw [show (1 : Int) + (j : Int) = ((j + 1 : Nat) : Int) by omega])
    exact ⟨EE S P n (some (.int (1 + (j : Int)))) v6 u7 u8 u9 u10 u11, rfl, _, .inl hv, _, _, rfl⟩
  exact ⟨v5, v6, for_nx (itr h) h1⟩
end
end DL.K80

namespace DL.K80
open PySem PySem.Spec PyProof.Rows L2 DL DL.Lib
section
variable {S : D} {n : Nat} {u5 u6 u7 u8 u9 u10 u11 : Option D} {NS : List Int}
theorem l2 (h : n < 8) {p a c t : Int} (hp : 0 ≤ p) (hl : p ≤ (NS.length : Int)) : ∃ p' a' c' t' v, l2_law (EE S (poolD NS p a c t) n u5 u6 u7 u8 u9 u10 u11) = .ok .nx (EE S (poolD NS p' a' c' t') n u5 u6 v u8 u9 u10 u11) ∧ 0 ≤ p' ∧ p' ≤ (NS.length : Int) := by
  have hq := p128 h
  have pos : 0 < 2 ^ n := Nat.pow_pos (by decide)
  have pc : ((2 ^ n : Nat) : Int) = 2 ^ n := by simp
  obtain ⟨r, p', a', c', t', hd, r0, r1, q0, q1⟩ := draw_call (e := EE S (poolD NS p a c t) n u5 u6 u7 u8 u9 u10 u11) (e1 := EE S (poolD NS p a c t) n u5 u6 u7 u8 u9 u10 u11) (i := 1) (A := cFrz (cB dLen (cCons (cVar 3) (cNil)))) (many := ((2 ^ n : Nat) : Int)) rfl len3 rfl hp hl (by generalize 2 ^ n = N at *; omega) (by generalize 2 ^ n = N at *; omega)
  obtain ⟨m, rfl⟩ := Int.eq_ofNat_of_zero_le r0
  have hm : m < 2 ^ n := by generalize 2 ^ n = N at *; omega
  refine ⟨p', a', c', t', some (.int (m : Int)), ?_, q0, q1⟩
  have st1 := stA (f := fSet 7) (e2 := EE S (poolD NS p' a' c' t') n u5 u6 (some (.int (m : Int))) u8 u9 u10 u11) (stM hd) rfl
  obtain ⟨f1, f2, f3⟩ := (fact h).1 m hm
  have ra := row_at (n := n) (p := (m : Int)) (by omega) (by omega) (by rw [← pc]; omega)
  have pl := place_of (r := rowAt n m) f3 (by rw [rowAt_len]; omega)
  rw [f2] at pl
  have ix : cFrz (c2 dIx (cVar 3) (cVar 7)) (EE S (poolD NS p' a' c' t') n u5 u6 (some (.int (m : Int))) u8 u9 u10 u11) = .ok (.val (bitsD (rowAt n m))) (EE S (poolD NS p' a' c' t') n u5 u6 (some (.int (m : Int))) u8 u9 u10 u11) := sv2 (stV rfl) (stV rfl) rfl rfl (ix_rows h hm)
  have o1 := same_not (k := 11) (d := bitsD (rowAt n m)) (A := cMelt (cCall [.fz, .fz] [none, none] .fz m_row_at [] (cCons (cVar 2) (cCons (cVar 7) (cNil))))) (stM (stC2 (e := EE S (poolD NS p' a' c' t') n u5 u6 (some (.int (m : Int))) u8 u9 u10 u11) (stV rfl) (stV rfl) ra)) ix (okS_bits 10 _ (by rw [rowAt_len]; omega))
  have o2 := same_not (k := 11) (d := .int (m : Int)) (B := cVar 7) (A := cMelt (cCall [.fz] [none] .fz m_place_of [] (cCons (cFrz (cB dList (cCons (cFrz (c2 dIx (cVar 3) (cVar 7))) (cNil)))) (cNil)))) (stM (stC1 (sl1 ix rfl dList_l) pl)) (stV rfl) rfl
  unfold l2_law
  rw [seq_nx st1, if_f ((or_f o1).trans o2), cNx_e]
theorem s9b (h : n < 8) {p a c t : Int} (hp : 0 ≤ p) (hl : p ≤ (NS.length : Int)) : ∃ p' a' c' t' v5 v7, cFor (cItR1 (cCons (cK (.int 6)) (cNil))) (fSet 5) (l2_law) (EE S (poolD NS p a c t) n u5 u6 u7 u8 u9 u10 u11) = .ok .nx (EE S (poolD NS p' a' c' t') n v5 u6 v7 u8 u9 u10 u11) ∧ 0 ≤ p' ∧ p' ≤ (NS.length : Int) := by
  obtain ⟨e2, h1, p', a', c', t', v5, v7, rfl, q0, q1⟩ := forL_nx (f := fSet 5) (b := l2_law) (fun _ e => ∃ p a c t v5 v7, e = EE S (poolD NS p a c t) n v5 u6 v7 u8 u9 u10 u11 ∧ 0 ≤ p ∧ p ≤ (NS.length : Int)) (intsFrom 0 6) 0 (EE S (poolD NS p a c t) n u5 u6 u7 u8 u9 u10 u11) ⟨_, _, _, _, _, _, rfl, hp, hl⟩ fun j d e hd ⟨p, a, c, t, v5, v7, he, hp, hl⟩ => by
    subst he
    obtain ⟨p', a', c', t', v, hv, q0, q1⟩ := l2 (S := S) (u5 := some d) (u6 := u6) (u7 := v7) (u8 := u8) (u9 := u9) (u10 := u10) (u11 := u11) h hp hl
    exact ⟨EE S (poolD NS p a c t) n (some d) u6 v7 u8 u9 u10 u11, rfl, _, .inl hv, _, _, _, _, _, _, rfl, q0, q1⟩
  refine ⟨p', a', c', t', v5, v7, for_nx (ds := intsFrom 0 6) ?_ h1, q0, q1⟩
  rfl
variable {P : D}
theorem half (m : Nat) : ((gray (m + 1)).map bitsD).take (2 ^ m) = (gray m).map fun r => bitsD (0 :: r) := by
  rw [gray, grow, List.map_append, List.take_append_of_le_length (by simp [gray_len]), List.take_of_length_le (by simp [gray_len]), List.map_map]
  rfl
theorem s10 (h : n < 8) : s10_law (EE S P n u5 u6 u7 u8 u9 u10 u11) = .ok .nx (EE S P n u5 u6 u7 u8 u9 u10 u11) := by
  have hq := p128 h
  unfold s10_law
  cases n with
  | zero =>
    have t0 : cTst (c2 dGt (cVar 2) (cK (.int 0))) (EE S P 0 u5 u6 u7 u8 u9 u10 u11) = .ok false (EE S P 0 u5 u6 u7 u8 u9 u10 u11) := tv2 (stV rfl) cK_e rfl rfl rfl
    rw [if_f (and_f t0), cNx_e]
  | succ m =>
    have t0 : cTst (c2 dGt (cVar 2) (cK (.int 0))) (EE S P (m + 1) u5 u6 u7 u8 u9 u10 u11) = .ok true (EE S P (m + 1) u5 u6 u7 u8 u9 u10 u11) := by
      refine tv2 (stV rfl) cK_e rfl rfl ?_
      rw [dGt_ii, decide_eq_true (by omega)]
    have hd : dDiv (.int ((2 ^ (m + 1) : Nat) : Int)) (.int 2) = some (.sc (.int ((2 ^ m : Nat) : Int))) := by
      rw [dDiv_ii, Nat.pow_succ]
      have : (((2 ^ m * 2 : Nat) : Int) / 2) = ((2 ^ m : Nat) : Int) := by
        generalize 2 ^ m = N
        omega
      rw [this]
      rfl
    have sl : cItS (cFrz (cSl (cVar 3) (cPartN) (cPart (cFrz (c2 dDiv (cFrz (cB dLen (cCons (cVar 3) (cNil)))) (cK (.int 2))))))) (EE S P (m + 1) u5 u6 u7 u8 u9 u10 u11) = .ok ((gray m).map fun r => bitsD (0 :: r)) (EE S P (m + 1) u5 u6 u7 u8 u9 u10 u11) := by
      have pt : cPart (cFrz (c2 dDiv (cFrz (cB dLen (cCons (cVar 3) (cNil)))) (cK (.int 2)))) (EE S P (m + 1) u5 u6 u7 u8 u9 u10 u11) = .ok (some ((2 ^ m : Nat) : Int)) (EE S P (m + 1) u5 u6 u7 u8 u9 u10 u11) := by
        rw [cPart_e, sv2 len3 cK_e rfl rfl hd, bind_e]
        rfl
      have sl0 : cSl (cVar 3) (cPartN) (cPart (cFrz (c2 dDiv (cFrz (cB dLen (cCons (cVar 3) (cNil)))) (cK (.int 2))))) (EE S P (m + 1) u5 u6 u7 u8 u9 u10 u11) = .ok (.nl ((gray m).map fun r => bitsD (0 :: r))) (EE S P (m + 1) u5 u6 u7 u8 u9 u10 u11) := by
        have hx : dSl (rowsD (gray (m + 1))) none (some ((2 ^ m : Nat) : Int)) = some (.nl ((gray m).map fun r => bitsD (0 :: r))) := by
          show some (NV.nl (dCut ((gray (m + 1)).map bitsD) none (some ((2 ^ m : Nat) : Int)))) = _
          rw [dCut, HT.sIx_none, HT.sIx_nat, List.drop_zero, List.length_map, gray_len, Nat.sub_zero, Nat.min_eq_left (Nat.pow_le_pow_right (by decide) (by omega)), half]
        rw [cSl_e, stV (x := rowsD (gray (m + 1))) rfl, bind_e]
        simp only [cPartN_e, bind_e, pt, get_val, obind_some, hx, ofO_some]
      rw [cItS_e, stF sl0, bind_e]
      rfl
    have cc := cComp_map (e0 := EE S P (m + 1) u5 u6 u7 u8 u9 u10 u11) (e := EE S P (m + 1) u5 u6 u7 u8 u9 u10 u11) (i := 10) (c := cFrz (cSl (cVar 10) (cPart (cK (.int 1))) (cPartN))) ((gray m).map fun r => bitsD (0 :: r)) (fun d => match d with | .list (_ :: t) => .list t | d => d) sl (fits_le (by rw [List.length_map]; have := gray_le (n := m) (by omega); omega)) (by simp) fun d hd => by
      obtain ⟨r, hr, rfl⟩ := List.mem_map.mp hd
      have hx : dSl (bitsD (0 :: r)) (some 1) none = some (.nl (r.map .int)) := by
        show some (NV.nl (dCut ((0 :: r).map PyData.int) (some ((1 : Nat) : Int)) none)) = _
        rw [dCut, HT.sIx_none, HT.sIx_nat]
        simp
        exact List.take_of_length_le (by simp)
      have s0 : cSl (cVar 10) (cPart (cK (.int 1))) (cPartN) (List.set (EE S P (m + 1) u5 u6 u7 u8 u9 u10 u11) 10 (some (bitsD (0 :: r)))) = .ok (.nl (r.map .int)) (List.set (EE S P (m + 1) u5 u6 u7 u8 u9 u10 u11) 10 (some (bitsD (0 :: r)))) := by
        rw [cSl_e, stV (x := bitsD (0 :: r)) rfl, bind_e]
        simp only [cPartN_e, bind_e, cPart_e, cK_e, get_val, obind_some, dInt_i, omap_some, hx, ofO_some]
      exact stF s0
    have em : ((gray m).map fun r => bitsD (0 :: r)).map (fun d => match d with | .list (_ :: t) => PyData.list t | d => d) = (gray m).map bitsD := by
      rw [List.map_map]
      rfl
    rw [em] at cc
    have ar := all_rows (n := m) (by omega)
    have sb : cFrz (c2 dSub (cVar 2) (cK (.int 1))) (EE S P (m + 1) u5 u6 u7 u8 u9 u10 u11) = .ok (.val (.int (m : Int))) (EE S P (m + 1) u5 u6 u7 u8 u9 u10 u11) := by
      refine sv2 (stV rfl) cK_e rfl rfl ?_
      rw [dSub_ii, show ((m + 1 : Nat) : Int) - 1 = (m : Int) by omega]
    have o := same_not (k := 11) (d := rowsD (gray m)) (A := cFrz (cComp [10] (cItS (cFrz (cSl (cVar 3) (cPartN) (cPart (cFrz (c2 dDiv (cFrz (cB dLen (cCons (cVar 3) (cNil)))) (cK (.int 2)))))))) (fSet 10) (cYes) (cFrz (cSl (cVar 10) (cPart (cK (.int 1))) (cPartN))))) (B := cMelt (cCall [.fz] [none] .fz m_all_rows [] (cCons (cFrz (c2 dSub (cVar 2) (cK (.int 1)))) (cNil)))) (stF cc) (stM (stC1 sb ar)) (gray_okS (k := 9) (by omega))
    rw [if_f ((and_t t0).trans o), cNx_e]
theorem ints_of {xs : List D} (h : ∀ x, x ∈ xs → ∃ b : Int, x = .int b ∧ 0 ≤ b ∧ b ≤ 1) : ∃ r : List Int, xs = r.map .int ∧ isBits r := by
  induction xs with
  | nil => exact ⟨[], rfl, fun x hx => by cases hx⟩
  | cons x xs ih =>
    obtain ⟨b, rfl, b0, b1⟩ := h x List.mem_cons_self
    obtain ⟨r, rfl, hr⟩ := ih fun y hy => h y (List.mem_cons_of_mem _ hy)
    refine ⟨b :: r, rfl, fun y hy => ?_⟩
    rcases List.mem_cons.mp hy with rfl | hy
    · exact ⟨b0, b1⟩
    · exact hr y hy
theorem s11 (h : n < 8) {p a c t : Int} (hp : 0 ≤ p) (hl : p ≤ (NS.length : Int)) : ∃ p' a' c' t' r, s11_law (EE S (poolD NS p a c t) n u5 u6 u7 u8 u9 u10 u11) = .ok .nx (EE S (poolD NS p' a' c' t') n u5 u6 u7 (some (bitsD r)) u9 u10 u11) ∧ 0 ≤ p' ∧ p' ≤ (NS.length : Int) ∧ isBits r ∧ r.length = 12 := by
  obtain ⟨xs, e2, h1, ⟨p', a', c', t', v5, rfl, q0, q1⟩, h3, h4⟩ := compL_inv (vs := [5]) (f := fSet 5) (t := cYes) (c := cMelt (cCall [(.lst .fz), .fz] [some 1, none] .fz m__law_draw [] (cCons (cOwnV 1) (cCons (cK (.int 2)) (cNil))))) (fun e => ∃ p a c t v5, e = EE S (poolD NS p a c t) n v5 u6 u7 u8 u9 u10 u11 ∧ 0 ≤ p ∧ p ≤ (NS.length : Int)) (fun x => ∃ b : Int, x = .int b ∧ 0 ≤ b ∧ b ≤ 1) (intsFrom 0 12) (EE S (poolD NS p a c t) n u5 u6 u7 u8 u9 u10 u11) ⟨_, _, _, _, _, rfl, hp, hl⟩ fun d _ e ⟨p, a, c, t, v5, he, hp, hl⟩ => by
    subst he
    obtain ⟨r, p', a', c', t', hd, r0, r1, q0, q1⟩ := draw_call (e := EE S (poolD NS p a c t) n (some d) u6 u7 u8 u9 u10 u11) (e1 := EE S (poolD NS p a c t) n (some d) u6 u7 u8 u9 u10 u11) (i := 1) (A := cK (.int 2)) (many := 2) rfl cK_e rfl hp hl (by decide) (by decide)
    exact ⟨EE S (poolD NS p a c t) n (some d) u6 u7 u8 u9 u10 u11, _, _, .int r, rfl, cYes_e, stM hd, ⟨p', a', c', t', some d, rfl, q0, q1⟩, r, rfl, r0, by omega⟩
  obtain ⟨r, rfl, hr⟩ := ints_of h4
  rw [intsFrom_len, List.length_map] at h3
  refine ⟨p', a', c', t', r, ?_, q0, q1, hr, h3⟩
  have cc : cComp [5] (cItR1 (cCons (cK (.int 12)) (cNil))) (fSet 5) (cYes) (cMelt (cCall [(.lst .fz), .fz] [some 1, none] .fz m__law_draw [] (cCons (cOwnV 1) (cCons (cK (.int 2)) (cNil))))) (EE S (poolD NS p a c t) n u5 u6 u7 u8 u9 u10 u11) = .ok (.nl (r.map .int)) (EE S (poolD NS p' a' c' t') n u5 u6 u7 u8 u9 u10 u11) := by
    have it : cItR1 (cCons (cK (.int 12)) (cNil)) (EE S (poolD NS p a c t) n u5 u6 u7 u8 u9 u10 u11) = .ok (intsFrom 0 12) (EE S (poolD NS p a c t) n u5 u6 u7 u8 u9 u10 u11) := rfl
    unfold cComp
    rw [it, bind_e]
    simp only [h1]
    rfl
  exact stA (stF cc) rfl
theorem s12 {r : List Int} (hr : isBits r) (hl : r.length = 12) : s12_law (EE S P n u5 u6 u7 (some (bitsD r)) u9 u10 u11) = .ok .nx (EE S P n u5 u6 u7 (some (bitsD r)) u9 u10 u11) := by
  obtain ⟨f1, f2, f3⟩ := far_ok hr hl
  have pl := place_of hr (by omega)
  have ra := row_at (n := 12) (p := placeOf r) (by omega) f2 f3
  rw [f1] at ra
  have o := same_not (k := 11) (d := bitsD r) (e := EE S P n u5 u6 u7 (some (bitsD r)) u9 u10 u11) (A := cMelt (cCall [.fz, .fz] [none, none] .fz m_row_at [] (cCons (cK (.int 12)) (cCons (cMelt (cCall [.fz] [none] .fz m_place_of [] (cCons (cFrz (cB dList (cCons (cVar 8) (cNil)))) (cNil)))) (cNil))))) (B := cVar 8)
    (stM (stC2 cK_e (stM (stC1 (sl1 (stV rfl) rfl dList_l) pl)) ra)) (stV rfl) (okS_bits 10 _ (by omega))
  unfold s12_law
  rw [if_f o, cNx_e]
end
end DL.K80

namespace DL.K80
open PySem PySem.Spec PyProof.Rows L2 DL DL.Lib
abbrev xN : Exc := ⟨"InvalidNumber", none⟩
abbrev xP : Exc := ⟨"InvalidPaper", none⟩
/-! refusals of the defs -/
theorem all_rows_bad {x : D} (h : m_checked_number [x, .int 0, .int 12] = .ex xN [x, .int 0, .int 12]) : m_all_rows [x] = .ex xN [x] := by
  have hb : b_all_rows [some x, none, none, none] = .ex xN [some x, none, none, none] := by
    unfold b_all_rows
    exact seq_ex (xD (xM (stX3 (stV rfl) cK_e cK_e h)))
  exact run_exc hb
theorem row_at_bad {x y : D} (h : m_checked_number [x, .int 0, .int 12] = .ex xN [x, .int 0, .int 12]) : m_row_at [x, y] = .ex xN [x, y] := by
  have hb : b_row_at [some x, some y, none, none, none, none, none] = .ex xN [some x, some y, none, none, none, none, none] := by
    unfold b_row_at
    exact seq_ex (xD (xM (stX3 (stV rfl) cK_e cK_e h)))
  exact run_exc hb
theorem many_loopD (L y : D) : ∀ (ds : List D) (t : Option D) (k : Nat), k + ds.length ≤ 12 →
    ∃ t', forL (fSet 3) l0_row_at ds [some L, some y, some (.int (2 ^ k)), t, none, none, none] = .ok .nx [some L, some y, some (.int (2 ^ (k + ds.length))), t', none, none, none]
  | [], t, k, _ => ⟨t, rfl⟩
  | d :: ds, t, k, h => by
    simp only [List.length_cons] at h
    obtain ⟨t', ih⟩ := many_loopD L y ds (some d) (k + 1) (by omega)
    refine ⟨t', ?_⟩
    have hs : small 2 = true := by decide
    have st : l0_row_at [some L, some y, some (.int (2 ^ k)), some d, none, none, none] = .ok .nx [some L, some y, some (.int (2 ^ (k + 1))), some d, none, none, none] := by
      simp [l0_row_at, hs]
      rw [Int.pow_succ, Int.mul_comm]
    rw [forL_cons_nx (e1 := [some L, some y, some (.int (2 ^ k)), some d, none, none, none]) rfl st, ih]
    simp only [List.length_cons]
    rw [show k + (ds.length + 1) = k + 1 + ds.length by omega]
theorem row_at_bad2 {n : Nat} {y : D} (hn : n ≤ 12) (hy : m_is_number [y, .int 0, .int (2 ^ n - 1)] = .ok (.bool false) [y, .int 0, .int (2 ^ n - 1)]) : m_row_at [.int n, y] = .ex xN [.int n, y] := by
  have hr : inR (n : Int) = true := inR_of (by omega) (by omega)
  obtain ⟨t1, l1⟩ := many_loopD (.int n) y (intsFrom 0 n) none 0 (by rw [intsFrom_len]; omega)
  rw [intsFrom_len, Nat.zero_add] at l1
  have s2 : s2_row_at [some (.int (n : Int)), some y, none, none, none, none, none] = .ok .nx [some (.int (n : Int)), some y, none, none, none, none, none] := stD (stM (stC3 (stV rfl) cK_e cK_e (chk (by omega) (by omega))))
  have a1 : cAsg (cK (.int 1)) (fSet 2) [some (.int (n : Int)), some y, none, none, none, none, none] = .ok .nx [some (.int (n : Int)), some y, some (.int (2 ^ 0)), none, none, none, none] := rfl
  have i1 : cItR1 (cCons (cVar 0) (cNil)) [some (.int (n : Int)), some y, some (.int (2 ^ 0)), none, none, none, none] = .ok (intsFrom 0 n) [some (.int (n : Int)), some y, some (.int (2 ^ 0)), none, none, none, none] := by
    simp [hr]
  have t : (cNot (cTru (cMelt (cCall [.fz, .fz, .fz] [none, none, none] .fz m_is_number [] (cCons (cVar 1) (cCons (cK (.int 0)) (cCons (cFrz (c2 dSub (cVar 2) (cK (.int 1)))) (cNil)))))))) [some (.int (n : Int)), some y, some (.int (2 ^ n)), t1, none, none, none] = .ok true [some (.int (n : Int)), some y, some (.int (2 ^ n)), t1, none, none, none] :=
    not_ok (stTru (stM (stC3 (stV rfl) cK_e (sv2 (stV rfl) cK_e rfl rfl dSub_ii) hy)) rfl rfl)
  have hb : b_row_at [some (.int (n : Int)), some y, none, none, none, none, none] = .ex xN [some (.int (n : Int)), some y, some (.int (2 ^ n)), t1, none, none, none] := by
    unfold b_row_at
    rw [seq_nx s2, seq_nx a1, seq_nx (for_nx i1 l1)]
    refine seq_ex ?_
    unfold s3_row_at
    rw [if_t t]
    exact xR cK_e
  exact run_exc hb
theorem change_at_bad {n : Nat} (hn : n ≤ 12) : m_change_at [.int n, .int (2 ^ n - 1)] = .ex xN [.int n, .int (2 ^ n - 1)] := by
  have pp : (0 : Int) < 2 ^ n := Int.pow_pos (by decide)
  have r1 := row_at (n := n) (p := 2 ^ n - 1) hn (by omega) (by omega)
  have r2 := row_at_bad2 (n := n) (y := .int (2 ^ n - 1 + 1)) hn (by rw [isnum, decide_eq_false (p := (2 : Int) ^ n - 1 + 1 ≤ 2 ^ n - 1) (by omega), Bool.and_false])
  have a1 : cAsg (cMelt (cCall [.fz, .fz] [none, none] .fz m_row_at [] (cCons (cVar 0) (cCons (cVar 1) (cNil))))) (fSet 2) [some (.int n), some (.int (2 ^ n - 1)), none, none, none] = .ok .nx [some (.int n), some (.int (2 ^ n - 1)), some (bitsD (rowAt n (2 ^ n - 1))), none, none] :=
    stA (stM (stC2 (stV rfl) (stV rfl) r1)) rfl
  have hb : b_change_at [some (.int n), some (.int (2 ^ n - 1)), none, none, none] = .ex xN [some (.int n), some (.int (2 ^ n - 1)), some (bitsD (rowAt n (2 ^ n - 1))), none, none] := by
    unfold b_change_at
    rw [seq_nx a1]
    exact seq_ex (xA (xM (stX2 (stV rfl) (sv2 (stV rfl) cK_e rfl rfl dAdd_ii) r2)))
  exact run_exc hb
theorem place_of_bad13 : m_place_of [bitsD (List.replicate 13 0)] = .ex xP [bitsD (List.replicate 13 0)] := by
  have cr := chk_row (r := List.replicate 13 0) (fun x hx => by rw [List.eq_of_mem_replicate hx]; decide) (by decide)
  generalize hz : bitsD (List.replicate 13 0) = z at cr ⊢
  have hl : dLen [z] = some (.sc (.int 13)) := by rw [← hz]; rfl
  have s1 : s1_place_of [some z, none, none, none, none] = .ok .nx [some z, some z, none, none, none] := stA (stM (stC2 (stV rfl) (sv1 (stV rfl) rfl hl) cr)) rfl
  have t : (cTst (c2 dGt (cFrz (cB dLen (cCons (cVar 1) (cNil)))) (cK (.int 12)))) [some z, some z, none, none, none] = .ok true [some z, some z, none, none, none] := tv2 (sv1 (stV rfl) rfl hl) cK_e rfl rfl rfl
  have hb : b_place_of [some z, none, none, none, none] = .ex xP [some z, some z, none, none, none] := by
    unfold b_place_of
    rw [seq_nx s1]
    refine seq_ex ?_
    unfold s2_place_of
    rw [if_t t]
    exact xR cK_e
  exact run_exc hb
theorem chk_row_bad : m_checked_row [.list [.int 0, .int 2], .int 2] = .ex xP [.list [.int 0, .int 2], .int 2] := by
  have cc : cComp [2] (cItS (cVar 0)) (fSet 2) (cNot (cTru (cMelt (cCall [.fz, .fz, .fz] [none, none, none] .fz m_is_number [] (cCons (cVar 2) (cCons (cK (.int 0)) (cCons (cK (.int 1)) (cNil)))))))) (cVar 2) [some (.list [.int 0, .int 2]), some (.int 2), none] = .ok (.nl [.int 2]) [some (.list [.int 0, .int 2]), some (.int 2), none] := by
    have := cComp_pure (e0 := [some (.list [.int 0, .int 2]), some (.int 2), none]) (e := [some (.list [.int 0, .int 2]), some (.int 2), none]) (ci := cItS (cVar 0)) (t := cNot (cTru (cMelt (cCall [.fz, .fz, .fz] [none, none, none] .fz m_is_number [] (cCons (cVar 2) (cCons (cK (.int 0)) (cCons (cK (.int 1)) (cNil)))))))) (c := cVar 2) (i := 2) [.int 0, .int 2] (fun d => match d with | .int i => !(decide (0 ≤ i) && decide (i ≤ 1)) | _ => true) (fun d => d) rfl (fits_le (by decide)) (by simp) ?_ ?_
    · rw [this]
      rfl
    · intro d hd
      have : ∃ i : Int, d = .int i := by
        simp only [List.mem_cons, List.not_mem_nil, or_false] at hd
        rcases hd with rfl | rfl
        · exact ⟨0, rfl⟩
        · exact ⟨2, rfl⟩
      obtain ⟨i, rfl⟩ := this
      exact not_ok (stTru (stM (stC3 (stV rfl) cK_e cK_e (isnum i 0 1))) rfl rfl)
    · intro d hd _
      exact stV rfl
  have o1 : (cTst (c2 dNe (cFrz (cB dLen (cCons (cVar 0) (cNil)))) (cVar 1))) [some (.list [.int 0, .int 2]), some (.int 2), none] = .ok false [some (.list [.int 0, .int 2]), some (.int 2), none] := tv2 (sv1 (stV rfl) rfl dLen_l) (stV rfl) rfl rfl rfl
  have hb : b_checked_row [some (.list [.int 0, .int 2]), some (.int 2), none] = .ex xP [some (.list [.int 0, .int 2]), some (.int 2), none] := by
    unfold b_checked_row
    refine seq_ex ?_
    rw [if_t ((or_f o1).trans (stTru (stF cc) rfl rfl))]
    exact xR cK_e
  exact run_exc hb
theorem place_of_bad02 : m_place_of [.list [.int 0, .int 2]] = .ex xP [.list [.int 0, .int 2]] := by
  have hb : b_place_of [some (.list [.int 0, .int 2]), none, none, none, none] = .ex xP [some (.list [.int 0, .int 2]), none, none, none, none] := by
    unfold b_place_of
    exact seq_ex (xA (xM (stX2 (stV rfl) (sv1 (stV rfl) rfl dLen_l) chk_row_bad)))
  exact run_exc hb

/-! _law_refused -/
theorem try_hit {i : Nat} {hit : Str → Option Bool} {b s : Env → R Fl} {e e1 e2 : Env} {x : Exc} {fl : Fl} (hb : b e = .ex x e1) (hh : hit x.cls = some true) (hf : x.fld = none) (hs : s (e1.set i (some (.str x.cls))) = .ok fl e2) : cTryAs i hit b s e = .ok fl (e2.set i none) := by
  unfold cTryAs
  rw [hb]
  simp only [hh, hf, hs]
def refS : Env → R Fl := cSeq (cIf (cOr (cTst (c2 dEq (cFrz (cIsE 3 tab_InvalidNumber)) (cFrz (cIsE 3 tab_InvalidPaper)))) (cNot (cTst (cIsE 3 tab_ValueError)))) (cRet (cK (.str ("other" : Str)))) (cNx))
 (cRet (cIf (cTst (cIsE 3 tab_InvalidNumber)) (cK (.str ("number" : Str))) (cK (.str ("paper" : Str)))))
def refB : Env → R Fl := (cIf (cTst (c2 dEq (cVar 0) (cK (.int 0)))) (cDrop (cMelt (cCall [.fz] [none] .fz m_all_rows [] (cCons (cVar 1) (cNil))))) (cIf (cTst (c2 dEq (cVar 0) (cK (.int 1)))) (cDrop (cMelt (cCall [.fz, .fz] [none, none] .fz m_row_at [] (cCons (cVar 1) (cCons (cVar 2) (cNil)))))) (cIf (cTst (c2 dEq (cVar 0) (cK (.int 2)))) (cDrop (cMelt (cCall [.fz, .fz] [none, none] .fz m_change_at [] (cCons (cVar 1) (cCons (cVar 2) (cNil)))))) (cDrop (cMelt (cCall [.fz] [none] .fz m_place_of [] (cCons (cVar 2) (cNil))))))))
theorem tE_num {t : Str → Option Bool} {a b c : Option D} {cn : Str} {v : Bool} (h : t cn = some v) : cIsE 3 t [a, b, c, some (.str cn)] = .ok (.sc (.bool v)) [a, b, c, some (.str cn)] := by
  show ofO ((t cn).map fun b => NV.sc (.bool b)) _ = _
  rw [h]
  rfl
theorem refS_num {a b c : Option D} : refS [a, b, c, some (.str "InvalidNumber")] = .ok (.rt (.str "number")) [a, b, c, some (.str "InvalidNumber")] := by
  have t1 : tab_InvalidNumber "InvalidNumber" = some true := by decide +kernel
  have t2 : tab_InvalidPaper "InvalidNumber" = some false := by decide +kernel
  have t3 : tab_ValueError "InvalidNumber" = some true := by decide +kernel
  have o1 : cTst (c2 dEq (cFrz (cIsE 3 tab_InvalidNumber)) (cFrz (cIsE 3 tab_InvalidPaper))) [a, b, c, some (.str "InvalidNumber")] = .ok false [a, b, c, some (.str "InvalidNumber")] := tv2 (stF (tE_num t1)) (stF (tE_num t2)) rfl rfl (dEq_bb true false)
  have o2 : cNot (cTst (cIsE 3 tab_ValueError)) [a, b, c, some (.str "InvalidNumber")] = .ok false [a, b, c, some (.str "InvalidNumber")] := not_ok (stT (tE_num t3))
  unfold refS
  have : cIf (cOr (cTst (c2 dEq (cFrz (cIsE 3 tab_InvalidNumber)) (cFrz (cIsE 3 tab_InvalidPaper)))) (cNot (cTst (cIsE 3 tab_ValueError)))) (cRet (cK (.str ("other" : Str)))) (cNx) [a, b, c, some (.str "InvalidNumber")] = .ok .nx [a, b, c, some (.str "InvalidNumber")] := by
    rw [if_f ((or_f o1).trans o2), cNx_e]
  rw [seq_nx this]
  exact stR (by rw [if_t (stT (tE_num t1)), cK_e])
theorem refS_pap {a b c : Option D} : refS [a, b, c, some (.str "InvalidPaper")] = .ok (.rt (.str "paper")) [a, b, c, some (.str "InvalidPaper")] := by
  have t1 : tab_InvalidNumber "InvalidPaper" = some false := by decide +kernel
  have t2 : tab_InvalidPaper "InvalidPaper" = some true := by decide +kernel
  have t3 : tab_ValueError "InvalidPaper" = some true := by decide +kernel
  have o1 : cTst (c2 dEq (cFrz (cIsE 3 tab_InvalidNumber)) (cFrz (cIsE 3 tab_InvalidPaper))) [a, b, c, some (.str "InvalidPaper")] = .ok false [a, b, c, some (.str "InvalidPaper")] := tv2 (stF (tE_num t1)) (stF (tE_num t2)) rfl rfl (dEq_bb false true)
  have o2 : cNot (cTst (cIsE 3 tab_ValueError)) [a, b, c, some (.str "InvalidPaper")] = .ok false [a, b, c, some (.str "InvalidPaper")] := not_ok (stT (tE_num t3))
  unfold refS
  have : cIf (cOr (cTst (c2 dEq (cFrz (cIsE 3 tab_InvalidNumber)) (cFrz (cIsE 3 tab_InvalidPaper)))) (cNot (cTst (cIsE 3 tab_ValueError)))) (cRet (cK (.str ("other" : Str)))) (cNx) [a, b, c, some (.str "InvalidPaper")] = .ok .nx [a, b, c, some (.str "InvalidPaper")] := by
    rw [if_f ((or_f o1).trans o2), cNx_e]
  rw [seq_nx this]
  exact stR (by rw [if_f (stT (tE_num t1)), cK_e])
theorem ref_run {x y z : D} {q : Exc} {s : Str} (hb : refB [some x, some y, some z, none] = .ex q [some x, some y, some z, none]) (hh : tab_WatchError q.cls = some true) (hf : q.fld = none) (hs : refS [some x, some y, some z, some (.str q.cls)] = .ok (.rt (.str s)) [some x, some y, some z, some (.str q.cls)]) : m__law_refused [x, y, z] = .ok (.str s) [x, y, z] := by
  have h := try_hit (i := 3) (hit := tab_WatchError) hb hh hf hs
  have hb : b__law_refused [some x, some y, some z, none] = .ok (.rt (.str s)) [some x, some y, some z, none] := seq_rt h
  exact run_ok hb
theorem ref0 {y z : D} (h : m_all_rows [y] = .ex xN [y]) : m__law_refused [.int 0, y, z] = .ok (.str "number") [.int 0, y, z] := by
  refine ref_run (q := xN) ?_ (by decide +kernel) rfl refS_num
  unfold refB
  rw [if_t (tv2 (stV rfl) cK_e rfl rfl rfl)]
  exact xD (xM (stX1 (stV rfl) h))
theorem ref1 {y z : D} (h : m_row_at [y, z] = .ex xN [y, z]) : m__law_refused [.int 1, y, z] = .ok (.str "number") [.int 1, y, z] := by
  refine ref_run (q := xN) ?_ (by decide +kernel) rfl refS_num
  unfold refB
  rw [if_f (tv2 (stV rfl) cK_e rfl rfl rfl), if_t (tv2 (stV rfl) cK_e rfl rfl rfl)]
  exact xD (xM (stX2 (stV rfl) (stV rfl) h))
theorem ref2 {y z : D} (h : m_change_at [y, z] = .ex xN [y, z]) : m__law_refused [.int 2, y, z] = .ok (.str "number") [.int 2, y, z] := by
  refine ref_run (q := xN) ?_ (by decide +kernel) rfl refS_num
  unfold refB
  rw [if_f (tv2 (stV rfl) cK_e rfl rfl rfl), if_f (tv2 (stV rfl) cK_e rfl rfl rfl), if_t (tv2 (stV rfl) cK_e rfl rfl rfl)]
  exact xD (xM (stX2 (stV rfl) (stV rfl) h))
theorem ref3 {y z : D} (h : m_place_of [z] = .ex xP [z]) : m__law_refused [.int 3, y, z] = .ok (.str "paper") [.int 3, y, z] := by
  refine ref_run (q := xP) ?_ (by decide +kernel) rfl refS_pap
  unfold refB
  rw [if_f (tv2 (stV rfl) cK_e rfl rfl rfl), if_f (tv2 (stV rfl) cK_e rfl rfl rfl), if_f (tv2 (stV rfl) cK_e rfl rfl rfl)]
  exact xD (xM (stX1 (stV rfl) h))
end DL.K80

namespace DL.K80
open PySem PySem.Spec PyProof.Rows L2 DL DL.Lib
/-- what is no number from 0 to 12 -/
theorem bad3 {d : D} {k : Nat} (h : ([PyData.int (-1), .int 13, .bool true])[k]? = some d) : m_checked_number [d, .int 0, .int 12] = .ex xN [d, .int 0, .int 12] := by
  match k, h with
  | 0, h => cases h; exact chk_bad (by omega)
  | 1, h => cases h; exact chk_bad (by omega)
  | 2, h => cases h; exact chk_badb
theorem badp {n : Nat} {d : D} {k : Nat} (h : ([PyData.int (-1), .int ((2 ^ n : Nat) : Int), .bool true])[k]? = some d) : m_is_number [d, .int 0, .int (2 ^ n - 1)] = .ok (.bool false) [d, .int 0, .int (2 ^ n - 1)] := by
  match k, h with
  | 0, h => cases h; rw [isnum]; rfl
  | 1, h =>
    cases h
    have pc : ((2 ^ n : Nat) : Int) = 2 ^ n := by simp
    rw [isnum, pc, decide_eq_false (p := (2 : Int) ^ n ≤ 2 ^ n - 1) (by omega), Bool.and_false]
  | 2, h => cases h; exact isnum_b _ _ _
section
variable {S P : D} {n : Nat} {u5 u6 u7 u8 u9 u10 u11 : Option D} {NS : List Int}
theorem m1 {e : Env} : cFrz (c1 dNeg (cK (.int 1))) e = .ok (.val (.int (-1))) e := rfl
theorem lst3 {e : Env} {A B C : Env → R Lv} {a b c : D} (hA : A e = .ok (.val a) e) (hB : B e = .ok (.val b) e) (hC : C e = .ok (.val c) e) : cFrz (cLst (cCons A (cCons B (cCons C cNil)))) e = .ok (.val (.list [a, b, c])) e := by
  have hf : fits ([a, b, c] : List D).length = true := fits_le (by simp)
  rw [cFrz_e, cLst_e, cCons_e, hA, bind_e]
  simp only [cCons_e, hB, hC, bind_e, cNil_e, vals_val, vals_nil, omap_some, obind_some, hf, if_true, ofO_some, nvd_nl]
theorem s13 {p a c t : Int} (hp : 0 ≤ p) (hl : p ≤ (NS.length : Int)) : ∃ p' a' c' t' d, s13_law (EE S (poolD NS p a c t) n u5 u6 u7 u8 u9 u10 u11) = .ok .nx (EE S (poolD NS p' a' c' t') n u5 u6 u7 u8 (some d) u10 u11) ∧ 0 ≤ p' ∧ p' ≤ (NS.length : Int) ∧ m_checked_number [d, .int 0, .int 12] = .ex xN [d, .int 0, .int 12] := by
  obtain ⟨k, d, p', a', c', t', hd, hc, q0, q1⟩ := pick_call (e := EE S (poolD NS p a c t) n u5 u6 u7 u8 u9 u10 u11) (e1 := EE S (poolD NS p a c t) n u5 u6 u7 u8 u9 u10 u11) (i := 1) (A := cFrz (cLst (cCons (cFrz (c1 dNeg (cK (.int 1)))) (cCons (cK (.int 13)) (cCons (cK (.bool true)) (cNil)))))) (ds := [.int (-1), .int 13, .bool true]) rfl (lst3 m1 cK_e cK_e) rfl hp hl (by decide) (by decide)
  exact ⟨p', a', c', t', d, stA (stM hc) rfl, q0, q1, bad3 hd⟩
theorem s14 {d : D} (hd : m_checked_number [d, .int 0, .int 12] = .ex xN [d, .int 0, .int 12]) : s14_law (EE S P n u5 u6 u7 u8 (some d) u10 u11) = .ok .nx (EE S P n u5 u6 u7 u8 (some d) u10 u11) := by
  have a1 := ref0 (z := .int 0) (all_rows_bad hd)
  have a2 := ref1 (row_at_bad (y := .int 0) hd)
  have o1 : (cTst (c2 dNe (cMelt (cCall [.fz, .fz, .fz] [none, none, none] .fz m__law_refused [] (cCons (cK (.int 0)) (cCons (cVar 9) (cCons (cK (.int 0)) (cNil)))))) (cK (.str ("number" : Str))))) (EE S P n u5 u6 u7 u8 (some d) u10 u11) = .ok false (EE S P n u5 u6 u7 u8 (some d) u10 u11) :=
    tv2 (stM (stC3 cK_e (stV rfl) cK_e a1)) cK_e rfl rfl (by rw [dNe_ss, decide_eq_true rfl]; rfl)
  have o2 : (cTst (c2 dNe (cMelt (cCall [.fz, .fz, .fz] [none, none, none] .fz m__law_refused [] (cCons (cK (.int 1)) (cCons (cVar 9) (cCons (cK (.int 0)) (cNil)))))) (cK (.str ("number" : Str))))) (EE S P n u5 u6 u7 u8 (some d) u10 u11) = .ok false (EE S P n u5 u6 u7 u8 (some d) u10 u11) :=
    tv2 (stM (stC3 cK_e (stV rfl) cK_e a2)) cK_e rfl rfl (by rw [dNe_ss, decide_eq_true rfl]; rfl)
  unfold s14_law
  rw [if_f ((or_f o1).trans o2), cNx_e]
theorem s15 (h : n < 8) {p a c t : Int} (hp : 0 ≤ p) (hl : p ≤ (NS.length : Int)) : ∃ p' a' c' t', s15_law (EE S (poolD NS p a c t) n u5 u6 u7 u8 u9 u10 u11) = .ok .nx (EE S (poolD NS p' a' c' t') n u5 u6 u7 u8 u9 u10 u11) := by
  obtain ⟨k, d, p', a', c', t', hd, hc, q0, q1⟩ := pick_call (e := EE S (poolD NS p a c t) n u5 u6 u7 u8 u9 u10 u11) (e1 := EE S (poolD NS p a c t) n u5 u6 u7 u8 u9 u10 u11) (i := 1) (A := cFrz (cLst (cCons (cFrz (c1 dNeg (cK (.int 1)))) (cCons (cFrz (cB dLen (cCons (cVar 3) (cNil)))) (cCons (cK (.bool true)) (cNil)))))) (ds := [.int (-1), .int ((2 ^ n : Nat) : Int), .bool true]) rfl (lst3 m1 len3 cK_e) rfl hp hl (by simp) (by simp)
  have pc : ((2 ^ n : Nat) : Int) = 2 ^ n := by simp
  have a1 := ref1 (row_at_bad2 (n := n) (y := d) (by omega) (badp hd))
  have a2 := ref2 (change_at_bad (n := n) (by omega))
  refine ⟨p', a', c', t', ?_⟩
  have o1 : (cTst (c2 dNe (cMelt (cCall [.fz, .fz, .fz] [none, none, none] .fz m__law_refused [] (cCons (cK (.int 1)) (cCons (cVar 2) (cCons (cMelt (cCall [(.lst .fz), .fz] [some 1, none] .fz m__law_pick [] (cCons (cOwnV 1) (cCons (cFrz (cLst (cCons (cFrz (c1 dNeg (cK (.int 1)))) (cCons (cFrz (cB dLen (cCons (cVar 3) (cNil)))) (cCons (cK (.bool true)) (cNil)))))) (cNil))))) (cNil)))))) (cK (.str ("number" : Str))))) (EE S (poolD NS p a c t) n u5 u6 u7 u8 u9 u10 u11) = .ok false (EE S (poolD NS p' a' c' t') n u5 u6 u7 u8 u9 u10 u11) :=
    tv2 (stM (stC3 cK_e (stV rfl) (stM hc) a1)) cK_e rfl rfl (by rw [dNe_ss, decide_eq_true rfl]; rfl)
  have o2 : (cTst (c2 dNe (cMelt (cCall [.fz, .fz, .fz] [none, none, none] .fz m__law_refused [] (cCons (cK (.int 2)) (cCons (cVar 2) (cCons (cFrz (c2 dSub (cFrz (cB dLen (cCons (cVar 3) (cNil)))) (cK (.int 1)))) (cNil)))))) (cK (.str ("number" : Str))))) (EE S (poolD NS p' a' c' t') n u5 u6 u7 u8 u9 u10 u11) = .ok false (EE S (poolD NS p' a' c' t') n u5 u6 u7 u8 u9 u10 u11) :=
    tv2 (stM (stC3 cK_e (stV rfl) (sv2 len3 cK_e rfl rfl dSub_ii) (by rw [pc]; exact a2))) cK_e rfl rfl (by rw [dNe_ss, decide_eq_true rfl]; rfl)
  unfold s15_law
  rw [if_f ((or_f o1).trans o2), cNx_e]
theorem s16 : s16_law (EE S P n u5 u6 u7 u8 u9 u10 u11) = .ok (.rt (.bool true)) (EE S P n u5 u6 u7 u8 u9 u10 u11) := by
  have cc : cFrz (cComp [5] (cItR1 (cCons (cK (.int 13)) (cNil))) (fSet 5) (cYes) (cK (.int 0))) (EE S P n u5 u6 u7 u8 u9 u10 u11) = .ok (.val (bitsD (List.replicate 13 0))) (EE S P n u5 u6 u7 u8 u9 u10 u11) := by
    have := cComp_map (e0 := EE S P n u5 u6 u7 u8 u9 u10 u11) (e := EE S P n u5 u6 u7 u8 u9 u10 u11) (i := 5) (ci := cItR1 (cCons (cK (.int 13)) (cNil))) (c := cK (.int 0)) (intsFrom 0 13) (fun _ => .int 0) rfl (fits_le (by rw [intsFrom_len]; omega)) (by simp) fun d _ => rfl
    have e : (intsFrom 0 13).map (fun _ => PyData.int 0) = (List.replicate 13 0).map PyData.int := rfl
    rw [e] at this
    exact stF this
  have l2 : cFrz (cLst (cCons (cK (.int 0)) (cCons (cK (.int 2)) (cNil)))) (EE S P n u5 u6 u7 u8 u9 u10 u11) = .ok (.val (.list [.int 0, .int 2])) (EE S P n u5 u6 u7 u8 u9 u10 u11) := by
    have hf : fits ([PyData.int 0, .int 2] : List D).length = true := fits_le (by decide)
    rw [cFrz_e, cLst_e, cCons_e, cK_e, bind_e]
    simp only [cCons_e, cK_e, bind_e, cNil_e, vals_val, vals_nil, omap_some, obind_some, hf, if_true, ofO_some, nvd_nl]
  have a1 := ref3 (y := .int 0) place_of_bad13
  have a2 := ref3 (y := .int 0) place_of_bad02
  have o1 := sv2 (f := dEq) (z := .bool true) (stM (stC3 (rsh := .fz) cK_e cK_e cc a1)) (cK_e (x := .str ("paper" : Str))) rfl rfl (by rw [dEq_ss, decide_eq_true rfl])
  have o2 := sv2 (f := dEq) (z := .bool true) (stM (stC3 (rsh := .fz) cK_e cK_e l2 a2)) (cK_e (x := .str ("paper" : Str))) rfl rfl (by rw [dEq_ss, decide_eq_true rfl])
  unfold s16_law
  exact stR ((stAnd o1).trans o2)
end
theorem law_holds (NS : List Int) (hN : NS.length ≤ 63) : ∃ outs, m_law [.list (NS.map .int)] = .ok (.bool true) outs := by
  generalize hS : PyData.list (NS.map .int) = S
  have e3 : s3_law [some S, none, none, none, none, none, none, none, none, none, none, none] = .ok .nx [some S, some (poolD NS 0 0 0 0), none, none, none, none, none, none, none, none, none, none] := by
    subst hS
    exact stS (pool_call (stV rfl))
  obtain ⟨r, p4, a4, c4, t4, h4, r0, r1, p4a, p4b⟩ := draw_call (e := [some S, some (poolD NS 0 0 0 0), none, none, none, none, none, none, none, none, none, none]) (e1 := [some S, some (poolD NS 0 0 0 0), none, none, none, none, none, none, none, none, none, none]) (i := 1) (A := cK (.int 8)) (many := 8) rfl cK_e rfl (by decide) (by omega) (by decide) (by decide)
  obtain ⟨n, rfl⟩ := Int.eq_ofNat_of_zero_le r0
  have hn : n < 8 := by omega
  have e4 : s4_law [some S, some (poolD NS 0 0 0 0), none, none, none, none, none, none, none, none, none, none] = .ok .nx [some S, some (poolD NS p4 a4 c4 t4), some (.int (n : Int)), none, none, none, none, none, none, none, none, none] := stA (stM h4) rfl
  have e5 : s5_law [some S, some (poolD NS p4 a4 c4 t4), some (.int (n : Int)), none, none, none, none, none, none, none, none, none] = .ok .nx [some S, some (poolD NS p4 a4 c4 t4), some (.int (n : Int)), some (rowsD (gray n)), none, none, none, none, none, none, none, none] := stA (stM (stC1 (stV rfl) (all_rows (by omega)))) rfl
  have e6 : s6_law [some S, some (poolD NS p4 a4 c4 t4), some (.int (n : Int)), some (rowsD (gray n)), none, none, none, none, none, none, none, none] = .ok .nx [some S, some (poolD NS p4 a4 c4 t4), some (.int (n : Int)), some (rowsD (gray n)), some (rowsD (gray 0)), none, none, none, none, none, none, none] := by
    suffices hv : cFrz (cLst (cCons (cFrz (cLst (cNil))) (cNil))) [some S, some (poolD NS p4 a4 c4 t4), some (.int (n : Int)), some (rowsD (gray n)), none, none, none, none, none, none, none, none] = .ok (.val (rowsD (gray 0))) [some S, some (poolD NS p4 a4 c4 t4), some (.int (n : Int)), some (rowsD (gray n)), none, none, none, none, none, none, none, none] from stA hv rfl
    have hf : fits ([PyData.list []] : List D).length = true := fits_le (by decide)
    have hf0 : fits ([] : List D).length = true := fits_le (by decide)
    rw [cFrz_e, cLst_e, cCons_e, cFrz_e, cLst_e, cNil_e, bind_e]
    simp only [bind_e, cNil_e, vals_val, vals_nil, omap_some, obind_some, hf, hf0, if_true, ofO_some, nvd_nl]
    rfl
  have lp : ∀ (ds : List D) (k : Nat) (u5 : Option D), k + ds.length ≤ 12 → ∃ v5, forL (fSet 5) l0_law ds [some S, some (poolD NS p4 a4 c4 t4), some (.int (n : Int)), some (rowsD (gray n)), some (rowsD (gray k)), u5, none, none, none, none, none, none] = .ok .nx [some S, some (poolD NS p4 a4 c4 t4), some (.int (n : Int)), some (rowsD (gray n)), some (rowsD (gray (k + ds.length))), v5, none, none, none, none, none, none] := by
    intro ds
    induction ds with
    | nil => intro k u5 _; exact ⟨u5, rfl⟩
    | cons d ds ih =>
      intro k u5 hk
      simp only [List.length_cons] at hk
      obtain ⟨v5, h'⟩ := ih (k + 1) (some d) (by omega)
      refine ⟨v5, ?_⟩
      have gs : l0_law [some S, some (poolD NS p4 a4 c4 t4), some (.int (n : Int)), some (rowsD (gray n)), some (rowsD (gray k)), some d, none, none, none, none, none, none] = .ok .nx [some S, some (poolD NS p4 a4 c4 t4), some (.int (n : Int)), some (rowsD (gray n)), some (rowsD (gray (k + 1))), some d, none, none, none, none, none, none] :=
        grow_step [some S, some (poolD NS p4 a4 c4 t4), some (.int (n : Int)), some (rowsD (gray n)), some (rowsD (gray k)), some d, none, none, none, none, none, none] 4 10 (gray k) rfl (by simp) (by decide) (by rw [gray_len]; have := pow_le (k := k) (by omega); omega) (fun r hr => by rw [gray_row k r hr]; omega)
      rw [forL_cons_nx (e1 := [some S, some (poolD NS p4 a4 c4 t4), some (.int (n : Int)), some (rowsD (gray n)), some (rowsD (gray k)), some d, none, none, none, none, none, none]) rfl gs, h']
      simp only [List.length_cons]
      rw [show k + (ds.length + 1) = k + 1 + ds.length by omega]
  obtain ⟨v5, hlp⟩ := lp (intsFrom 0 n) 0 none (by rw [intsFrom_len]; omega)
  rw [intsFrom_len, Nat.zero_add] at hlp
  have i1 : cItR1 (cCons (cVar 2) (cNil)) [some S, some (poolD NS p4 a4 c4 t4), some (.int (n : Int)), some (rowsD (gray n)), some (rowsD (gray 0)), none, none, none, none, none, none, none] = .ok (intsFrom 0 n) [some S, some (poolD NS p4 a4 c4 t4), some (.int (n : Int)), some (rowsD (gray n)), some (rowsD (gray 0)), none, none, none, none, none, none, none] := by
    rw [cItR1_e, cCons_e, stV (x := .int (n : Int)) rfl, bind_e]
    simp only [cNil_e, bind_e, gets_cons, gets_nil, get_val, obind_some, omap_some, inRn hn, if_true, Int.toNat_natCast]
  have e7 := for_nx i1 hlp
  have g7 := s7 (S := S) (P := poolD NS p4 a4 c4 t4) (u5 := v5) (u6 := none) (u7 := none) (u8 := none) (u9 := none) (u10 := none) (u11 := none) hn
  have g8 := s8 (S := S) (P := poolD NS p4 a4 c4 t4) (u5 := v5) (u6 := none) (u7 := none) (u8 := none) (u9 := none) (u10 := none) (u11 := none) hn
  obtain ⟨w5, w6, g9⟩ := s9 (S := S) (P := poolD NS p4 a4 c4 t4) (u5 := v5) (u6 := none) (u7 := none) (u8 := none) (u9 := none) (u10 := none) (u11 := none) hn
  obtain ⟨p5, a5, c5, t5, x5, x7, g9b, p5a, p5b⟩ := s9b (S := S) (NS := NS) (u5 := w5) (u6 := w6) (u7 := none) (u8 := none) (u9 := none) (u10 := none) (u11 := none) hn (a := a4) (c := c4) (t := t4) p4a p4b
  have g10 := s10 (S := S) (P := poolD NS p5 a5 c5 t5) (u5 := x5) (u6 := w6) (u7 := x7) (u8 := none) (u9 := none) (u10 := none) (u11 := none) hn
  obtain ⟨p6, a6, c6, t6, fr, g11, p6a, p6b, fb, fl⟩ := s11 (S := S) (NS := NS) (u5 := x5) (u6 := w6) (u7 := x7) (u8 := none) (u9 := none) (u10 := none) (u11 := none) hn (a := a5) (c := c5) (t := t5) p5a p5b
  have g12 := s12 (S := S) (P := poolD NS p6 a6 c6 t6) (n := n) (u5 := x5) (u6 := w6) (u7 := x7) (u9 := none) (u10 := none) (u11 := none) fb fl
  obtain ⟨p7, a7, c7, t7, bd, g13, p7a, p7b, hbad⟩ := s13 (S := S) (NS := NS) (n := n) (u5 := x5) (u6 := w6) (u7 := x7) (u8 := some (bitsD fr)) (u9 := none) (u10 := none) (u11 := none) (a := a6) (c := c6) (t := t6) p6a p6b
  have g14 := s14 (S := S) (P := poolD NS p7 a7 c7 t7) (n := n) (u5 := x5) (u6 := w6) (u7 := x7) (u8 := some (bitsD fr)) (u10 := none) (u11 := none) hbad
  obtain ⟨p8, a8, c8, t8, g15⟩ := s15 (S := S) (NS := NS) (n := n) (u5 := x5) (u6 := w6) (u7 := x7) (u8 := some (bitsD fr)) (u9 := some bd) (u10 := none) (u11 := none) hn (a := a7) (c := c7) (t := t7) p7a p7b
  have g16 := s16 (S := S) (P := poolD NS p8 a8 c8 t8) (n := n) (u5 := x5) (u6 := w6) (u7 := x7) (u8 := some (bitsD fr)) (u9 := some bd) (u10 := none) (u11 := none)
  have hb : b_law [some S, none, none, none, none, none, none, none, none, none, none, none] = .ok (.rt (.bool true)) (EE S (poolD NS p8 a8 c8 t8) n x5 w6 x7 (some (bitsD fr)) (some bd) none none) := by
    unfold b_law
    rw [seq_nx e3, seq_nx e4, seq_nx e5, seq_nx e6, seq_nx e7, seq_nx g7, seq_nx g8, seq_nx g9, seq_nx g9b, seq_nx g10, seq_nx g11, seq_nx g12, seq_nx g13, seq_nx g14, seq_nx g15, g16]
  exact ⟨_, run_ok hb rfl rfl⟩
end DL.K80

namespace DL.K80
open PySem PySem.Spec PyProof.Rows L2 DL DL.Lib
/-! ## The text -/
def top (i : Nat) : Stmt := PySem.Challenge.pw_watchhire_k80_rows_one_sign_apart.main.body.getD i (.Pass ⟨0, 0, 0, 0⟩)
abbrev s__law_pool : Stmt := top 16
abbrev s__law_draw : Stmt := top 17
abbrev s_is_number : Stmt := top 6
abbrev s_checked_number : Stmt := top 7
abbrev s_all_rows : Stmt := top 10
abbrev s__law_pick : Stmt := top 18
abbrev s__law_same : Stmt := top 15
abbrev s_row_at : Stmt := top 12
abbrev s_change_at : Stmt := top 13
abbrev s_checked_row : Stmt := top 9
abbrev s_place_of : Stmt := top 11
abbrev s__law_refused : Stmt := top 19
abbrev s_law : Stmt := top 20
structure Txt (K : Frag) (mg : MG) : Prop where
  n_list : mg ("list" : Str) = none
  n_int : mg ("int" : Str) = none
  n_len : mg ("len" : Str) = none
  n_abs : mg ("abs" : Str) = none
  n_isinstance : mg ("isinstance" : Str) = none
  n_bool : mg ("bool" : Str) = none
  n_str : mg ("str" : Str) = none
  n_range : mg ("range" : Str) = none
  n_reversed : mg ("reversed" : Str) = none
  n_tuple : mg ("tuple" : Str) = none
  n_ValueError : mg ("ValueError" : Str) = none
  n_sorted : mg ("sorted" : Str) = none
  x_InvalidNumber : ∃ C, ExcK K mg ("InvalidNumber" : Str) C
  x_InvalidPaper : ∃ C, ExcK K mg ("InvalidPaper" : Str) C
  x_WatchError : ∃ C, ExcK K mg ("WatchError" : Str) C
  hit_WatchError : ∃ C, mg ("WatchError" : Str) = some (.ref C) ∧ HitT K mg (.ref C) tab_WatchError
  is_InvalidNumber : ∃ C, mg ("InvalidNumber" : Str) = some (.ref C) ∧ IsT K mg (.ref C) tab_InvalidNumber
  is_InvalidPaper : ∃ C, mg ("InvalidPaper" : Str) = some (.ref C) ∧ IsT K mg (.ref C) tab_InvalidPaper
  is_ValueError : IsT K mg (.type "ValueError") tab_ValueError
  d__law_pool : ∃ f fd, DefAt K mg ("_law_pool" : Str) s__law_pool [] f fd
  d__law_draw : ∃ f fd, DefAt K mg ("_law_draw" : Str) s__law_draw [] f fd
  d_is_number : ∃ f fd, DefAt K mg ("is_number" : Str) s_is_number [.int 0, .int 1000000] f fd
  d_checked_number : ∃ f fd, DefAt K mg ("checked_number" : Str) s_checked_number [.int 0, .int 1000000] f fd
  d_all_rows : ∃ f fd, DefAt K mg ("all_rows" : Str) s_all_rows [] f fd
  d__law_pick : ∃ f fd, DefAt K mg ("_law_pick" : Str) s__law_pick [] f fd
  d__law_same : ∃ f fd, DefAt K mg ("_law_same" : Str) s__law_same [] f fd
  d_row_at : ∃ f fd, DefAt K mg ("row_at" : Str) s_row_at [] f fd
  d_change_at : ∃ f fd, DefAt K mg ("change_at" : Str) s_change_at [] f fd
  d_checked_row : ∃ f fd, DefAt K mg ("checked_row" : Str) s_checked_row [] f fd
  d_place_of : ∃ f fd, DefAt K mg ("place_of" : Str) s_place_of [] f fd
  d__law_refused : ∃ f fd, DefAt K mg ("_law_refused" : Str) s__law_refused [] f fd
  d_law : ∃ f fd, DefAt K mg ("law" : Str) s_law [] f fd
section
variable {P : Program} {w : World} {K : Frag} {mg : MG} {base : Heap}
theorem sc__law_pool : FnScope ["script"] ["script"] (defScope s__law_pool) := ⟨rfl, rfl, rfl, by decide +kernel, rfl, by decide +kernel, by decide +kernel⟩
theorem fn__law_pool (T : Txt K mg) {f : Addr} {fd : FuncData} (A : DefAt K mg ("_law_pool" : Str) s__law_pool [] f fd) : FnOk P w K mg base (L2.CX P w) 1 f fd ["script"] (spF K mg [.fz] (.lst .fz) m__law_pool) :=
  have S := sc__law_pool
  fnD (modes := [.fz]) (locs := []) (rsh := (.lst .fz)) (rz := false) A.F S rfl rfl (fun z => by cases z) fun cdv A outer s G0 H0 vs S0 E hr => by
    have tk := takes_of (X := cxOf (L2.CX P w) P w K mg base ["script"] ("_law_pool" : Str) (defScope s__law_pool) f cdv A outer s H0 E) rfl rfl rfl rfl
    have hp : PassesOwn (model P w) (A.deeper (envOfC ("_law_pool" : Str) (defScope s__law_pool) s.heap.objs.size f cdv)) _ (cxOf (L2.CX P w) P w K mg base ["script"] ("_law_pool" : Str) (defScope s__law_pool) f cdv A outer s H0 E).xe := PassesOwn.leaving
    exact (dss_one (by exact ds_retO (dO_n (dn_lst (da_cons (de_n (dn_callTy (cn_list) rfl T.n_list (by rfl) (da_cons (de_var 0) (da_nil)))) (da_cons (de_int) (da_cons (de_int) (da_cons (de_int) (da_cons (de_int) (da_nil))))))))))
theorem ok__law_pool_0 (T : Txt K mg) : CalD P w K mg base 1 ("_law_pool" : Str) [.fz] (.lst .fz) m__law_pool [] :=
  let ⟨_, _, A⟩ := T.d__law_pool; cal0 A (fn__law_pool T A) (fun _ _ _ _ _ _ us hl => match us, hl with | [_], _ => rfl)
theorem sc__law_draw : FnScope ["pool", "many", "found", "cell", "mixed"] ["pool", "many"] (defScope s__law_draw) := ⟨rfl, rfl, rfl, by decide +kernel, rfl, by decide +kernel, by decide +kernel⟩
theorem fn__law_draw (T : Txt K mg) {f : Addr} {fd : FuncData} (A : DefAt K mg ("_law_draw" : Str) s__law_draw [] f fd) : FnOk P w K mg base (L2.CX P w) 1 f fd ["pool", "many"] (spF K mg [(.lst .fz), .fz] .fz m__law_draw) :=
  have S := sc__law_draw
  fnD (modes := [(.lst .fz), .fz]) (locs := [.fz, .fz, .fz]) (rsh := .fz) (rz := true) A.F S rfl rfl (fun _ => rfl) fun cdv A outer s G0 H0 vs S0 E hr => by
    have tk := takes_of (X := cxOf (L2.CX P w) P w K mg base ["pool", "many", "found", "cell", "mixed"] ("_law_draw" : Str) (defScope s__law_draw) f cdv A outer s H0 E) rfl rfl rfl rfl
    have hp : PassesOwn (model P w) (A.deeper (envOfC ("_law_draw" : Str) (defScope s__law_draw) s.heap.objs.size f cdv)) _ (cxOf (L2.CX P w) P w K mg base ["pool", "many", "found", "cell", "mixed"] ("_law_draw" : Str) (defScope s__law_draw) f cdv A outer s H0 E).xe := PassesOwn.leaving
    exact (dss_cons (by exact ds_if (pt_cmp1 op2_gt (de_n (dn_ix (de_plc 0) (de_int))) (de_int) (nomark _)) (dss_cons (by exact ds_asg (de_n (dn_op op2_mod (de_n (dn_callTy (cn_int) rfl T.n_int (by rfl) (da_cons (de_n (dn_ix (de_plc 0) (de_int))) (da_nil)))) (de_var 1))) (dg_name 2 S.nd))
      (dss_cons (by exact ds_store 0 (de_n (dn_op op2_div (de_n (dn_ix (de_plc 0) (de_int))) (de_var 1))) (de_int))
      (dss_one (by exact ds_ret (de_var 2))))) (dss_nil))
      (dss_cons (by exact ds_if (dt_w (dw_and (pt_cmp1 (op2_eq hr.units) (de_n (dn_op op2_mod (de_n (dn_callTy (cn_int) rfl T.n_int (by rfl) (da_cons (de_n (dn_ix (de_plc 0) (de_int))) (da_nil)))) (de_int))) (de_int) (nomark _)) (dw_and1 (pt_cmp1 op2_lt (de_n (dn_ix (de_plc 0) (de_int))) (de_n (dn_callB (cn_len) rfl T.n_len (by rfl) (da_cons (de_n (dn_ix (de_plc 0) (de_int))) (da_nil)))) (nomark _))))) (dss_cons (by exact ds_asg (de_n (dn_callB (cn_abs) rfl T.n_abs (by rfl) (da_cons (de_n (dn_ix (de_n (dn_ix (de_plc 0) (de_int))) (de_n (dn_ix (de_plc 0) (de_int))))) (da_nil)))) (dg_name 3 S.nd))
      (dss_cons (by exact ds_store 0 (de_n (dn_op op2_add (de_n (dn_ix (de_plc 0) (de_int))) (de_int))) (de_int))
      (dss_cons (by exact ds_if (pt_cmp1 op2_ge (de_var 3) (de_n (dn_op op2_pow (de_int) (de_int))) (nomark _)) (dss_cons (by exact ds_store 0 (de_n (dn_op op2_div (de_var 3) (de_var 1))) (de_int))
      (dss_one (by exact ds_ret (de_n (dn_op op2_mod (de_n (dn_callTy (cn_int) rfl T.n_int (by rfl) (da_cons (de_var 3) (da_nil)))) (de_var 1)))))) (dss_nil))
      (dss_one (by exact ds_store 0 (de_var 3) (de_int)))))) (dss_nil))
      (dss_cons (by exact ds_store 0 (de_n (dn_op op2_add (de_n (dn_ix (de_plc 0) (de_int))) (de_int))) (de_int))
      (dss_cons (by exact ds_asg (de_n (dn_op op2_mod (de_n (dn_callTy (cn_int) rfl T.n_int (by rfl) (da_cons (de_n (dn_op op2_add (de_n (dn_op op2_add (de_n (dn_op op2_mul (de_n (dn_ix (de_plc 0) (de_int))) (de_int))) (de_n (dn_op op2_mul (de_n (dn_ix (de_plc 0) (de_int))) (de_int))))) (de_int))) (da_nil)))) (de_int))) (dg_name 4 S.nd))
      (dss_cons (by exact ds_asg (de_n (dn_op op2_mod (de_n (dn_callTy (cn_int) rfl T.n_int (by rfl) (da_cons (de_n (dn_op op2_add (de_n (dn_op op2_mul (de_var 4) (de_var 4))) (de_n (dn_op op2_mul (de_n (dn_ix (de_plc 0) (de_int))) (de_int))))) (da_nil)))) (de_int))) (dg_name 4 S.nd))
      (dss_one (by exact ds_ret (de_n (dn_op op2_mod (de_n (dn_callTy (cn_int) rfl T.n_int (by rfl) (da_cons (de_var 4) (da_nil)))) (de_var 1))))))))))
theorem ok__law_draw_0 (T : Txt K mg) : CalD P w K mg base 1 ("_law_draw" : Str) [(.lst .fz), .fz] .fz m__law_draw [] :=
  let ⟨_, _, A⟩ := T.d__law_draw; cal0 A (fn__law_draw T A) (fun _ _ _ _ _ _ us hl => match us, hl with | [_, _], _ => rfl)
theorem sc_is_number : FnScope ["value", "least", "most"] ["value", "least", "most"] (defScope s_is_number) := ⟨rfl, rfl, rfl, by decide +kernel, rfl, by decide +kernel, by decide +kernel⟩
theorem fn_is_number (T : Txt K mg) {f : Addr} {fd : FuncData} (A : DefAt K mg ("is_number" : Str) s_is_number [.int 0, .int 1000000] f fd) : FnOk P w K mg base (L2.CX P w) 1 f fd ["value", "least", "most"] (spF K mg [.fz, .fz, .fz] .fz m_is_number) :=
  have S := sc_is_number
  fnD (modes := [.fz, .fz, .fz]) (locs := []) (rsh := .fz) (rz := true) A.F S rfl rfl (fun _ => rfl) fun cdv A outer s G0 H0 vs S0 E hr => by
    have tk := takes_of (X := cxOf (L2.CX P w) P w K mg base ["value", "least", "most"] ("is_number" : Str) (defScope s_is_number) f cdv A outer s H0 E) rfl rfl rfl rfl
    have hp : PassesOwn (model P w) (A.deeper (envOfC ("is_number" : Str) (defScope s_is_number) s.heap.objs.size f cdv)) _ (cxOf (L2.CX P w) P w K mg base ["value", "least", "most"] ("is_number" : Str) (defScope s_is_number) f cdv A outer s H0 E).xe := PassesOwn.leaving
    exact (dss_cons (by exact ds_if (dt_w (dw_or (dt_n (dn_isi "bool" kt_bool (de_var 0) T.n_isinstance T.n_bool (by rfl))) (dw_or1 (dt_not (dt_n (dn_isi "int" kt_int (de_var 0) T.n_isinstance T.n_int (by rfl))))))) (dss_one (by exact ds_ret (de_bl))) (dss_nil))
      (dss_one (by exact ds_ret (de_n (dn_chain op2_le op2_le (de_var 1) (de_var 0) (de_var 2))))))
theorem ok_is_number_0 (T : Txt K mg) : CalD P w K mg base 1 ("is_number" : Str) [.fz, .fz, .fz] .fz m_is_number [] :=
  let ⟨_, _, A⟩ := T.d_is_number; calJ 3 2 A (fn_is_number T A) (by intro z; cases z) rfl (fun _ _ _ _ _ _ _ us its hl hi => match us, its, hl, hi with | [a0, a1, a2], [d0, d1], _, _ => ⟨_, rfl, rfl⟩) (fun _ => .nil)
theorem sc_checked_number : FnScope ["value", "least", "most"] ["value", "least", "most"] (defScope s_checked_number) := ⟨rfl, rfl, rfl, by decide +kernel, rfl, by decide +kernel, by decide +kernel⟩
theorem fn_checked_number (T : Txt K mg) {f : Addr} {fd : FuncData} (A : DefAt K mg ("checked_number" : Str) s_checked_number [.int 0, .int 1000000] f fd) : FnOk P w K mg base (L2.CX P w) 2 f fd ["value", "least", "most"] (spF K mg [.fz, .fz, .fz] .fz m_checked_number) :=
  have S := sc_checked_number
  fnD (modes := [.fz, .fz, .fz]) (locs := []) (rsh := .fz) (rz := true) A.F S rfl rfl (fun _ => rfl) fun cdv A outer s G0 H0 vs S0 E hr => by
    have tk := takes_of (X := cxOf (L2.CX P w) P w K mg base ["value", "least", "most"] ("checked_number" : Str) (defScope s_checked_number) f cdv A outer s H0 E) rfl rfl rfl rfl
    have hp : PassesOwn (model P w) (A.deeper (envOfC ("checked_number" : Str) (defScope s_checked_number) s.heap.objs.size f cdv)) _ (cxOf (L2.CX P w) P w K mg base ["value", "least", "most"] ("checked_number" : Str) (defScope s_checked_number) f cdv A outer s H0 E).xe := PassesOwn.leaving
    exact (dss_cons (by exact ds_if (dt_not (dt_tru (de_oz (dO_cal [none, none, none] (ok_is_number_0 T) (hr.mono (by decide)) (.val (.val (.val (.nil)))) tk (da_cons (de_var 0) (da_cons (de_var 1) (da_cons (de_var 2) (da_nil)))))))) (dss_one (by exact (let ⟨_, hx_⟩ := T.x_InvalidNumber; ds_raise rfl tk hx_ (de_n (dn_op op2_add (de_n (dn_op op2_add (de_n (dn_op op2_add (de_str) (de_n (dn_callTy (cn_str) rfl T.n_str (by rfl) (da_cons (de_var 1) (da_nil)))))) (de_str))) (de_n (dn_callTy (cn_str) rfl T.n_str (by rfl) (da_cons (de_var 2) (da_nil))))))))) (dss_nil))
      (dss_one (by exact ds_ret (de_var 0))))
theorem ok_checked_number_0 (T : Txt K mg) : CalD P w K mg base 2 ("checked_number" : Str) [.fz, .fz, .fz] .fz m_checked_number [] :=
  let ⟨_, _, A⟩ := T.d_checked_number; calJ 3 2 A (fn_checked_number T A) (by intro z; cases z) rfl (fun _ _ _ _ _ _ _ us its hl hi => match us, its, hl, hi with | [a0, a1, a2], [d0, d1], _, _ => ⟨_, rfl, rfl⟩) (fun _ => .nil)
theorem sc_all_rows : FnScope ["length", "found", "turn", "row"] ["length"] (defScope s_all_rows) := ⟨rfl, rfl, rfl, by decide +kernel, rfl, by decide +kernel, by decide +kernel⟩
theorem fn_all_rows (T : Txt K mg) {f : Addr} {fd : FuncData} (A : DefAt K mg ("all_rows" : Str) s_all_rows [] f fd) : FnOk P w K mg base (L2.CX P w) 3 f fd ["length"] (spF K mg [.fz] .fz m_all_rows) :=
  have S := sc_all_rows
  fnD (modes := [.fz]) (locs := [.fz, .fz, .fz]) (rsh := .fz) (rz := true) A.F S rfl rfl (fun _ => rfl) fun cdv A outer s G0 H0 vs S0 E hr => by
    have tk := takes_of (X := cxOf (L2.CX P w) P w K mg base ["length", "found", "turn", "row"] ("all_rows" : Str) (defScope s_all_rows) f cdv A outer s H0 E) rfl rfl rfl rfl
    have hp : PassesOwn (model P w) (A.deeper (envOfC ("all_rows" : Str) (defScope s_all_rows) s.heap.objs.size f cdv)) _ (cxOf (L2.CX P w) P w K mg base ["length", "found", "turn", "row"] ("all_rows" : Str) (defScope s_all_rows) f cdv A outer s H0 E).xe := PassesOwn.leaving
    exact (dss_cons (by exact ds_expr (de_oz (dO_cal [none, none, none] (ok_checked_number_0 T) (hr.mono (by decide)) (.val (.val (.val (.nil)))) tk (da_cons (de_var 0) (da_cons (de_int) (da_cons (de_int) (da_nil)))))))
      (dss_cons (by exact ds_asg (de_n (dn_lst (da_cons (de_n (dn_lst (da_nil))) (da_nil)))) (dg_name 1 S.nd))
      (dss_cons (by exact ds_for hp rfl (di_range1 T.n_range (da_cons (de_var 0) (da_nil))) (dg_name 2 S.nd) (dss_one (by exact ds_asg (de_n (dn_op op2_add (de_n (dn_lc [(("row" : Str), 3)] rfl S.nd (di_seq (de_var 1)) (blk_of (by rfl)) (hv_of (by rfl)) (by decide) (fun _ _ _ _ _ => bG_of fun _ _ _ _ => dg_name 3 S.nd) (fun _ _ _ _ _ => bT_nil) (fun _ _ _ _ _ => bE_of fun _ _ _ _ => de_n (dn_op op2_add (de_n (dn_lst (da_cons (de_int) (da_nil)))) (de_var 3))))) (de_n (dn_lc [(("row" : Str), 3)] rfl S.nd (di_rev T.n_reversed (de_var 1)) (blk_of (by rfl)) (hv_of (by rfl)) (by decide) (fun _ _ _ _ _ => bG_of fun _ _ _ _ => dg_name 3 S.nd) (fun _ _ _ _ _ => bT_nil) (fun _ _ _ _ _ => bE_of fun _ _ _ _ => de_n (dn_op op2_add (de_n (dn_lst (da_cons (de_int) (da_nil)))) (de_var 3))))))) (dg_name 1 S.nd))))
      (dss_one (by exact ds_ret (de_var 1))))))
theorem ok_all_rows_0 (T : Txt K mg) : CalD P w K mg base 3 ("all_rows" : Str) [.fz] .fz m_all_rows [] :=
  let ⟨_, _, A⟩ := T.d_all_rows; cal0 A (fn_all_rows T A) (fun _ _ _ _ _ _ us hl => match us, hl with | [_], _ => rfl)
theorem sc__law_pick : FnScope ["pool", "rows"] ["pool", "rows"] (defScope s__law_pick) := ⟨rfl, rfl, rfl, by decide +kernel, rfl, by decide +kernel, by decide +kernel⟩
theorem fn__law_pick (T : Txt K mg) {f : Addr} {fd : FuncData} (A : DefAt K mg ("_law_pick" : Str) s__law_pick [] f fd) : FnOk P w K mg base (L2.CX P w) 2 f fd ["pool", "rows"] (spF K mg [(.lst .fz), .fz] .fz m__law_pick) :=
  have S := sc__law_pick
  fnD (modes := [(.lst .fz), .fz]) (locs := []) (rsh := .fz) (rz := true) A.F S rfl rfl (fun _ => rfl) fun cdv A outer s G0 H0 vs S0 E hr => by
    have tk := takes_of (X := cxOf (L2.CX P w) P w K mg base ["pool", "rows"] ("_law_pick" : Str) (defScope s__law_pick) f cdv A outer s H0 E) rfl rfl rfl rfl
    have hp : PassesOwn (model P w) (A.deeper (envOfC ("_law_pick" : Str) (defScope s__law_pick) s.heap.objs.size f cdv)) _ (cxOf (L2.CX P w) P w K mg base ["pool", "rows"] ("_law_pick" : Str) (defScope s__law_pick) f cdv A outer s H0 E).xe := PassesOwn.leaving
    exact (dss_one (by exact ds_ret (de_n (dn_ix (de_var 1) (de_oz (dO_cal [some 0, none] (ok__law_draw_0 T) (hr.mono (by decide)) (.own (i := 0) rfl (by intro z; cases z) (by decide) (.val (.nil))) tk (da_cons (de_own 0) (da_cons (de_n (dn_callB (cn_len) rfl T.n_len (by rfl) (da_cons (de_var 1) (da_nil)))) (da_nil)))))))))
theorem ok__law_pick_0 (T : Txt K mg) : CalD P w K mg base 2 ("_law_pick" : Str) [(.lst .fz), .fz] .fz m__law_pick [] :=
  let ⟨_, _, A⟩ := T.d__law_pick; cal0 A (fn__law_pick T A) (fun _ _ _ _ _ _ us hl => match us, hl with | [_, _], _ => rfl)
theorem sc__law_same : FnScope ["actual", "due", "k"] ["actual", "due"] (defScope s__law_same) := ⟨rfl, rfl, rfl, by decide +kernel, rfl, by decide +kernel, by decide +kernel⟩
theorem fn__law_same (T : Txt K mg) {n : Nat} {rc : List D → FR} {f : Addr} {fd : FuncData} (A : DefAt K mg ("_law_same" : Str) s__law_same [] f fd) (IH : CalD P w K mg base (0 + n) ("_law_same" : Str) [.fz, .fz] .fz rc []) : FnOk P w K mg base (L2.CX P w) (0 + n + 1) f fd ["actual", "due"] (spF K mg [.fz, .fz] .fz (runF true (b__law_same rc) 2 3)) :=
  have S := sc__law_same
  fnD (modes := [.fz, .fz]) (locs := [.fz]) (rsh := .fz) (rz := true) A.F S rfl rfl (fun _ => rfl) fun cdv A outer s G0 H0 vs S0 E hr => by
    have tk := takes_of (X := cxOf (L2.CX P w) P w K mg base ["actual", "due", "k"] ("_law_same" : Str) (defScope s__law_same) f cdv A outer s H0 E) rfl rfl rfl rfl
    have hp : PassesOwn (model P w) (A.deeper (envOfC ("_law_same" : Str) (defScope s__law_same) s.heap.objs.size f cdv)) _ (cxOf (L2.CX P w) P w K mg base ["actual", "due", "k"] ("_law_same" : Str) (defScope s__law_same) f cdv A outer s H0 E).xe := PassesOwn.leaving
    exact (dss_cons (by exact ds_if (pt_cmp1 op2_is (de_var 1) (de_non) (nomark _)) (dss_one (by exact ds_ret (de_n (dn_cmp op2_is (de_var 0) (de_non) (nomark _))))) (dss_nil))
      (dss_cons (by exact ds_if (dt_n (dn_isiT ["tuple", "list"] (fun T h => by simp only [List.mem_cons, List.not_mem_nil, or_false] at h; rcases h with rfl | rfl; exact kt_tuple; exact kt_list) (by decide) (de_var 1) (ta_cons rfl T.n_tuple (by rfl) (ta_cons rfl T.n_list (by rfl) (ta_nil))) T.n_isinstance)) (dss_cons (by exact ds_if (dt_w (dw_or (pt_cmp1 (op2_ne hr.units) (de_n (dn_isi "tuple" kt_tuple (de_var 1) T.n_isinstance T.n_tuple (by rfl))) (de_n (dn_isi "tuple" kt_tuple (de_var 0) T.n_isinstance T.n_tuple (by rfl))) (nomark _)) (dw_or1 (pt_cmp1 (op2_ne hr.units) (de_n (dn_isi "list" kt_list (de_var 1) T.n_isinstance T.n_list (by rfl))) (de_n (dn_isi "list" kt_list (de_var 0) T.n_isinstance T.n_list (by rfl))) (nomark _))))) (dss_one (by exact ds_ret (de_bl))) (dss_nil))
      (dss_cons (by exact ds_if (pt_cmp1 (op2_ne hr.units) (de_n (dn_callB (cn_len) rfl T.n_len (by rfl) (da_cons (de_var 0) (da_nil)))) (de_n (dn_callB (cn_len) rfl T.n_len (by rfl) (da_cons (de_var 1) (da_nil)))) (nomark _)) (dss_one (by exact ds_ret (de_bl))) (dss_nil))
      (dss_cons (by exact ds_for hp rfl (di_range1 T.n_range (da_cons (de_n (dn_callB (cn_len) rfl T.n_len (by rfl) (da_cons (de_var 1) (da_nil)))) (da_nil))) (dg_name 2 S.nd) (dss_one (by exact ds_if (dt_not (dt_tru (de_oz (dO_cal [none, none] IH (hr.mono (by omega)) (.val (.val (.nil))) tk (da_cons (de_n (dn_ix (de_var 0) (de_var 2))) (da_cons (de_n (dn_ix (de_var 1) (de_var 2))) (da_nil))))))) (dss_one (by exact ds_ret (de_bl))) (dss_nil))))
      (dss_one (by exact ds_ret (de_bl)))))) (dss_nil))
      (dss_cons (by exact ds_if (dt_n (dn_isi "bool" kt_bool (de_var 1) T.n_isinstance T.n_bool (by rfl))) (dss_one (by exact ds_ret (de_and (de_n (dn_isi "bool" kt_bool (de_var 0) T.n_isinstance T.n_bool (by rfl))) (de_one (de_n (dn_cmp (op2_eq hr.units) (de_var 0) (de_var 1) (nomark _))))))) (dss_nil))
      (dss_cons (by exact ds_if (dt_n (dn_isi "int" kt_int (de_var 1) T.n_isinstance T.n_int (by rfl))) (dss_one (by exact ds_ret (de_and (de_n (dn_isi "int" kt_int (de_var 0) T.n_isinstance T.n_int (by rfl))) (de_and (de_not (de_n (dn_isi "bool" kt_bool (de_var 0) T.n_isinstance T.n_bool (by rfl)))) (de_one (de_n (dn_cmp (op2_eq hr.units) (de_var 0) (de_var 1) (nomark _)))))))) (dss_nil))
      (dss_one (by exact ds_ret (de_and (de_n (dn_isi "str" kt_str (de_var 0) T.n_isinstance T.n_str (by rfl))) (de_one (de_n (dn_cmp (op2_eq hr.units) (de_var 0) (de_var 1) (nomark _)))))))))))
theorem ok__law_same_0 (T : Txt K mg) : ∀ n : Nat, CalD P w K mg base (0 + n) ("_law_same" : Str) [.fz, .fz] .fz (m__law_same n) []
  | 0 => let ⟨_, _, A⟩ := T.d__law_same; cal0 (ps := ["actual", "due"]) A fn_st (fun _ _ _ _ _ _ us hl => match us, hl with | [_, _], _ => rfl)
  | n + 1 => let ⟨_, _, A⟩ := T.d__law_same; cal0 A (fn__law_same T A (ok__law_same_0 T n)) (fun _ _ _ _ _ _ us hl => match us, hl with | [_, _], _ => rfl)
theorem sc_row_at : FnScope ["length", "place", "many", "turn", "found", "before", "bit"] ["length", "place"] (defScope s_row_at) := ⟨rfl, rfl, rfl, by decide +kernel, rfl, by decide +kernel, by decide +kernel⟩
theorem fn_row_at (T : Txt K mg) {f : Addr} {fd : FuncData} (A : DefAt K mg ("row_at" : Str) s_row_at [] f fd) : FnOk P w K mg base (L2.CX P w) 3 f fd ["length", "place"] (spF K mg [.fz, .fz] .fz m_row_at) :=
  have S := sc_row_at
  fnD (modes := [.fz, .fz]) (locs := [.fz, .fz, (.lst .fz), .fz, .fz]) (rsh := .fz) (rz := true) A.F S rfl rfl (fun _ => rfl) fun cdv A outer s G0 H0 vs S0 E hr => by
    have tk := takes_of (X := cxOf (L2.CX P w) P w K mg base ["length", "place", "many", "turn", "found", "before", "bit"] ("row_at" : Str) (defScope s_row_at) f cdv A outer s H0 E) rfl rfl rfl rfl
    have hp : PassesOwn (model P w) (A.deeper (envOfC ("row_at" : Str) (defScope s_row_at) s.heap.objs.size f cdv)) _ (cxOf (L2.CX P w) P w K mg base ["length", "place", "many", "turn", "found", "before", "bit"] ("row_at" : Str) (defScope s_row_at) f cdv A outer s H0 E).xe := PassesOwn.leaving
    exact (dss_cons (by exact ds_expr (de_oz (dO_cal [none, none, none] (ok_checked_number_0 T) (hr.mono (by decide)) (.val (.val (.val (.nil)))) tk (da_cons (de_var 0) (da_cons (de_int) (da_cons (de_int) (da_nil)))))))
      (dss_cons (by exact ds_asg (de_int) (dg_name 2 S.nd))
      (dss_cons (by exact ds_for hp rfl (di_range1 T.n_range (da_cons (de_var 0) (da_nil))) (dg_name 3 S.nd) (dss_one (by exact ds_asg (de_n (dn_op op2_mul (de_int) (de_var 2))) (dg_name 2 S.nd))))
      (dss_cons (by exact ds_if (dt_not (dt_tru (de_oz (dO_cal [none, none, none] (ok_is_number_0 T) (hr.mono (by decide)) (.val (.val (.val (.nil)))) tk (da_cons (de_var 1) (da_cons (de_int) (da_cons (de_n (dn_op op2_sub (de_var 2) (de_int))) (da_nil)))))))) (dss_one (by exact (let ⟨_, hx_⟩ := T.x_InvalidNumber; ds_raise rfl tk hx_ (de_str)))) (dss_nil))
      (dss_cons (by exact ds_setO 4 S.nd (dO_n (dn_lst (da_nil))))
      (dss_cons (by exact ds_asg (de_int) (dg_name 5 S.nd))
      (dss_cons (by exact ds_for hp rfl (di_range1 T.n_range (da_cons (de_var 0) (da_nil))) (dg_name 3 S.nd) (dss_cons (by exact ds_asg (de_n (dn_op op2_div (de_var 2) (de_int))) (dg_name 2 S.nd))
      (dss_cons (by exact ds_asg (de_n (dn_op op2_mod (de_n (dn_op op2_div (de_var 1) (de_var 2))) (de_int))) (dg_name 6 S.nd))
      (dss_cons (by exact ds_expr (de_mut 4 PySem.F.plainAttrs_list PySem.F.slot_list_append PySem.F.type_list_append mu_append (da_cons (de_n (dn_op op2_mod (de_n (dn_op op2_add (de_var 6) (de_var 5))) (de_int))) (da_nil))))
      (dss_one (by exact ds_asg (de_var 6) (dg_name 5 S.nd)))))))
      (dss_one (by exact ds_ret (de_o (dO_move 4)))))))))))
theorem ok_row_at_0 (T : Txt K mg) : CalD P w K mg base 3 ("row_at" : Str) [.fz, .fz] .fz m_row_at [] :=
  let ⟨_, _, A⟩ := T.d_row_at; cal0 A (fn_row_at T A) (fun _ _ _ _ _ _ us hl => match us, hl with | [_, _], _ => rfl)
theorem sc_change_at : FnScope ["length", "place", "one", "other", "index"] ["length", "place"] (defScope s_change_at) := ⟨rfl, rfl, rfl, by decide +kernel, rfl, by decide +kernel, by decide +kernel⟩
theorem fn_change_at (T : Txt K mg) {f : Addr} {fd : FuncData} (A : DefAt K mg ("change_at" : Str) s_change_at [] f fd) : FnOk P w K mg base (L2.CX P w) 4 f fd ["length", "place"] (spF K mg [.fz, .fz] .fz m_change_at) :=
  have S := sc_change_at
  fnD (modes := [.fz, .fz]) (locs := [.fz, .fz, .fz]) (rsh := .fz) (rz := true) A.F S rfl rfl (fun _ => rfl) fun cdv A outer s G0 H0 vs S0 E hr => by
    have tk := takes_of (X := cxOf (L2.CX P w) P w K mg base ["length", "place", "one", "other", "index"] ("change_at" : Str) (defScope s_change_at) f cdv A outer s H0 E) rfl rfl rfl rfl
    have hp : PassesOwn (model P w) (A.deeper (envOfC ("change_at" : Str) (defScope s_change_at) s.heap.objs.size f cdv)) _ (cxOf (L2.CX P w) P w K mg base ["length", "place", "one", "other", "index"] ("change_at" : Str) (defScope s_change_at) f cdv A outer s H0 E).xe := PassesOwn.leaving
    exact (dss_cons (by exact ds_asg (de_oz (dO_cal [none, none] (ok_row_at_0 T) (hr.mono (by decide)) (.val (.val (.nil))) tk (da_cons (de_var 0) (da_cons (de_var 1) (da_nil))))) (dg_name 2 S.nd))
      (dss_cons (by exact ds_asg (de_oz (dO_cal [none, none] (ok_row_at_0 T) (hr.mono (by decide)) (.val (.val (.nil))) tk (da_cons (de_var 0) (da_cons (de_n (dn_op op2_add (de_var 1) (de_int))) (da_nil))))) (dg_name 3 S.nd))
      (dss_one (by exact ds_ret (de_n (dn_ix (de_n (dn_lc [(("index" : Str), 4)] rfl S.nd (di_range1 T.n_range (da_cons (de_var 0) (da_nil))) (blk_of (by rfl)) (hv_of (by rfl)) (by decide) (fun _ _ _ _ _ => bG_of fun _ _ _ _ => dg_name 4 S.nd) (fun _ _ _ _ _ => bT_of fun _ _ _ _ => pt_cmp1 (op2_ne hr.units) (de_n (dn_ix (de_var 2) (de_var 4))) (de_n (dn_ix (de_var 3) (de_var 4))) (nomark _)) (fun _ _ _ _ _ => bE_of fun _ _ _ _ => de_var 4))) (de_int)))))))
theorem ok_change_at_0 (T : Txt K mg) : CalD P w K mg base 4 ("change_at" : Str) [.fz, .fz] .fz m_change_at [] :=
  let ⟨_, _, A⟩ := T.d_change_at; cal0 A (fn_change_at T A) (fun _ _ _ _ _ _ us hl => match us, hl with | [_, _], _ => rfl)
theorem sc_checked_row : FnScope ["row", "length", "sign"] ["row", "length"] (defScope s_checked_row) := ⟨rfl, rfl, rfl, by decide +kernel, rfl, by decide +kernel, by decide +kernel⟩
theorem fn_checked_row (T : Txt K mg) {f : Addr} {fd : FuncData} (A : DefAt K mg ("checked_row" : Str) s_checked_row [] f fd) : FnOk P w K mg base (L2.CX P w) 2 f fd ["row", "length"] (spF K mg [.fz, .fz] .fz m_checked_row) :=
  have S := sc_checked_row
  fnD (modes := [.fz, .fz]) (locs := [.fz]) (rsh := .fz) (rz := true) A.F S rfl rfl (fun _ => rfl) fun cdv A outer s G0 H0 vs S0 E hr => by
    have tk := takes_of (X := cxOf (L2.CX P w) P w K mg base ["row", "length", "sign"] ("checked_row" : Str) (defScope s_checked_row) f cdv A outer s H0 E) rfl rfl rfl rfl
    have hp : PassesOwn (model P w) (A.deeper (envOfC ("checked_row" : Str) (defScope s_checked_row) s.heap.objs.size f cdv)) _ (cxOf (L2.CX P w) P w K mg base ["row", "length", "sign"] ("checked_row" : Str) (defScope s_checked_row) f cdv A outer s H0 E).xe := PassesOwn.leaving
    exact (dss_cons (by exact ds_if (dt_w (dw_or (pt_cmp1 (op2_ne hr.units) (de_n (dn_callB (cn_len) rfl T.n_len (by rfl) (da_cons (de_var 0) (da_nil)))) (de_var 1) (nomark _)) (dw_or1 (dt_tru (de_n (dn_lc [(("sign" : Str), 2)] rfl S.nd (di_seq (de_var 0)) (blk_of (by rfl)) (hv_of (by rfl)) (by decide) (fun _ _ _ _ _ => bG_of fun _ _ _ _ => dg_name 2 S.nd) (fun _ _ _ _ _ => bT_of fun _ _ _ _ => dt_not (dt_tru (de_oz (dO_cal [none, none, none] (ok_is_number_0 T) (hr.mono (by decide)) (.val (.val (.val (.nil)))) takes0 (da_cons (de_var 2) (da_cons (de_int) (da_cons (de_int) (da_nil)))))))) (fun _ _ _ _ _ => bE_of fun _ _ _ _ => de_var 2))))))) (dss_one (by exact (let ⟨_, hx_⟩ := T.x_InvalidPaper; ds_raise rfl tk hx_ (de_str)))) (dss_nil))
      (dss_one (by exact ds_ret (de_n (dn_callTy (cn_list) rfl T.n_list (by rfl) (da_cons (de_var 0) (da_nil)))))))
theorem ok_checked_row_0 (T : Txt K mg) : CalD P w K mg base 2 ("checked_row" : Str) [.fz, .fz] .fz m_checked_row [] :=
  let ⟨_, _, A⟩ := T.d_checked_row; cal0 A (fn_checked_row T A) (fun _ _ _ _ _ _ us hl => match us, hl with | [_, _], _ => rfl)
theorem sc_place_of : FnScope ["row", "signs", "found", "lit", "sign"] ["row"] (defScope s_place_of) := ⟨rfl, rfl, rfl, by decide +kernel, rfl, by decide +kernel, by decide +kernel⟩
theorem fn_place_of (T : Txt K mg) {f : Addr} {fd : FuncData} (A : DefAt K mg ("place_of" : Str) s_place_of [] f fd) : FnOk P w K mg base (L2.CX P w) 3 f fd ["row"] (spF K mg [.fz] .fz m_place_of) :=
  have S := sc_place_of
  fnD (modes := [.fz]) (locs := [.fz, .fz, .fz, .fz]) (rsh := .fz) (rz := true) A.F S rfl rfl (fun _ => rfl) fun cdv A outer s G0 H0 vs S0 E hr => by
    have tk := takes_of (X := cxOf (L2.CX P w) P w K mg base ["row", "signs", "found", "lit", "sign"] ("place_of" : Str) (defScope s_place_of) f cdv A outer s H0 E) rfl rfl rfl rfl
    have hp : PassesOwn (model P w) (A.deeper (envOfC ("place_of" : Str) (defScope s_place_of) s.heap.objs.size f cdv)) _ (cxOf (L2.CX P w) P w K mg base ["row", "signs", "found", "lit", "sign"] ("place_of" : Str) (defScope s_place_of) f cdv A outer s H0 E).xe := PassesOwn.leaving
    exact (dss_cons (by exact ds_asg (de_oz (dO_cal [none, none] (ok_checked_row_0 T) (hr.mono (by decide)) (.val (.val (.nil))) tk (da_cons (de_var 0) (da_cons (de_n (dn_callB (cn_len) rfl T.n_len (by rfl) (da_cons (de_var 0) (da_nil)))) (da_nil))))) (dg_name 1 S.nd))
      (dss_cons (by exact ds_if (pt_cmp1 op2_gt (de_n (dn_callB (cn_len) rfl T.n_len (by rfl) (da_cons (de_var 1) (da_nil)))) (de_int) (nomark _)) (dss_one (by exact (let ⟨_, hx_⟩ := T.x_InvalidPaper; ds_raise rfl tk hx_ (de_str)))) (dss_nil))
      (dss_cons (by exact ds_asg (de_int) (dg_name 2 S.nd))
      (dss_cons (by exact ds_asg (de_int) (dg_name 3 S.nd))
      (dss_cons (by exact ds_for hp rfl (di_seq (de_var 1)) (dg_name 4 S.nd) (dss_cons (by exact ds_asg (de_n (dn_op op2_mod (de_n (dn_op op2_add (de_var 3) (de_var 4))) (de_int))) (dg_name 3 S.nd))
      (dss_one (by exact ds_asg (de_n (dn_op op2_add (de_n (dn_op op2_mul (de_int) (de_var 2))) (de_var 3))) (dg_name 2 S.nd)))))
      (dss_one (by exact ds_ret (de_var 2))))))))
theorem ok_place_of_0 (T : Txt K mg) : CalD P w K mg base 3 ("place_of" : Str) [.fz] .fz m_place_of [] :=
  let ⟨_, _, A⟩ := T.d_place_of; cal0 A (fn_place_of T A) (fun _ _ _ _ _ _ us hl => match us, hl with | [_], _ => rfl)
theorem sc__law_refused : FnScope ["choice", "length", "place", "problem"] ["choice", "length", "place"] (defScope s__law_refused) := ⟨rfl, rfl, rfl, by decide +kernel, rfl, by decide +kernel, by decide +kernel⟩
theorem fn__law_refused (T : Txt K mg) {f : Addr} {fd : FuncData} (A : DefAt K mg ("_law_refused" : Str) s__law_refused [] f fd) : FnOk P w K mg base (L2.CX P w) 5 f fd ["choice", "length", "place"] (spF K mg [.fz, .fz, .fz] .fz m__law_refused) :=
  have S := sc__law_refused
  fnD (modes := [.fz, .fz, .fz]) (locs := [.fz]) (rsh := .fz) (rz := true) A.F S rfl rfl (fun _ => rfl) fun cdv A outer s G0 H0 vs S0 E hr => by
    have tk := takes_of (X := cxOf (L2.CX P w) P w K mg base ["choice", "length", "place", "problem"] ("_law_refused" : Str) (defScope s__law_refused) f cdv A outer s H0 E) rfl rfl rfl rfl
    have hp : PassesOwn (model P w) (A.deeper (envOfC ("_law_refused" : Str) (defScope s__law_refused) s.heap.objs.size f cdv)) _ (cxOf (L2.CX P w) P w K mg base ["choice", "length", "place", "problem"] ("_law_refused" : Str) (defScope s__law_refused) f cdv A outer s H0 E).xe := PassesOwn.leaving
    exact (dss_cons (by exact (let ⟨_, hm_, hH_⟩ := T.hit_WatchError; ds_tryAs 3 rfl rfl S.nd rfl rfl ⟨rfl, by decide, Or.inl hm_⟩ tk (Nat.le_of_ble_eq_true rfl) (Nat.le_of_ble_eq_true rfl) hH_ (fun W pn xe tk hp => dss_one (by exact ds_if (pt_cmp1 (op2_eq hr.units) (de_var 0) (de_int) (nomark _)) (dss_one (by exact ds_expr (de_oz (dO_cal [none] (ok_all_rows_0 T) (hr.mono (by decide)) (.val (.nil)) tk (da_cons (de_var 1) (da_nil)))))) (dss_one (by exact ds_if (pt_cmp1 (op2_eq hr.units) (de_var 0) (de_int) (nomark _)) (dss_one (by exact ds_expr (de_oz (dO_cal [none, none] (ok_row_at_0 T) (hr.mono (by decide)) (.val (.val (.nil))) tk (da_cons (de_var 1) (da_cons (de_var 2) (da_nil))))))) (dss_one (by exact ds_if (pt_cmp1 (op2_eq hr.units) (de_var 0) (de_int) (nomark _)) (dss_one (by exact ds_expr (de_oz (dO_cal [none, none] (ok_change_at_0 T) (hr.mono (by decide)) (.val (.val (.nil))) tk (da_cons (de_var 1) (da_cons (de_var 2) (da_nil))))))) (dss_one (by exact ds_expr (de_oz (dO_cal [none] (ok_place_of_0 T) (hr.mono (by decide)) (.val (.nil)) tk (da_cons (de_var 2) (da_nil)))))))))))) (fun a oe D pn hz hf => dss_cons (by exact ds_if (dt_w (dw_or (pt_cmp1 (op2_eq hr.units) (de_n ((let ⟨_, hm_, hT_⟩ := T.is_InvalidNumber; dn_isE 3 hz hf (pe_glob (v := .ref _) rfl hm_ rfl) (fun _ z => z) hT_ T.n_isinstance))) (de_n ((let ⟨_, hm_, hT_⟩ := T.is_InvalidPaper; dn_isE 3 hz hf (pe_glob (v := .ref _) rfl hm_ rfl) (fun _ z => z) hT_ T.n_isinstance))) (nomark _)) (dw_or1 (dt_not (dt_n (dn_isE 3 hz hf (pe_bltn (v := .ty "ValueError") rfl T.n_ValueError (by rfl) rfl) (fun _ z => z) T.is_ValueError T.n_isinstance)))))) (dss_one (by exact ds_ret (de_str))) (dss_nil))
      (dss_one (by exact ds_ret (de_if (dt_n ((let ⟨_, hm_, hT_⟩ := T.is_InvalidNumber; dn_isE 3 hz hf (pe_glob (v := .ref _) rfl hm_ rfl) (fun _ z => z) hT_ T.n_isinstance))) (de_str) (de_str)))))))
      (dss_one (by exact ds_ret (de_str))))
theorem ok__law_refused_0 (T : Txt K mg) : CalD P w K mg base 5 ("_law_refused" : Str) [.fz, .fz, .fz] .fz m__law_refused [] :=
  let ⟨_, _, A⟩ := T.d__law_refused; cal0 A (fn__law_refused T A) (fun _ _ _ _ _ _ us hl => match us, hl with | [_, _, _], _ => rfl)
theorem sc_law : FnScope ["script", "pool", "length", "rows", "due", "k", "unlike", "place", "far", "bad", "row", "j"] ["script"] (defScope s_law) := ⟨rfl, rfl, rfl, by decide +kernel, rfl, by decide +kernel, by decide +kernel⟩
theorem fn_law (T : Txt K mg) {f : Addr} {fd : FuncData} (A : DefAt K mg ("law" : Str) s_law [] f fd) : FnOk P w K mg base (L2.CX P w) 13 f fd ["script"] (spF K mg [.fz] .fz m_law) :=
  have S := sc_law
  fnD (modes := [.fz]) (locs := [(.lst .fz), .fz, .fz, .fz, .fz, .fz, .fz, .fz, .fz, .fz, .fz]) (rsh := .fz) (rz := true) A.F S rfl rfl (fun _ => rfl) fun cdv A outer s G0 H0 vs S0 E hr => by
    have tk := takes_of (X := cxOf (L2.CX P w) P w K mg base ["script", "pool", "length", "rows", "due", "k", "unlike", "place", "far", "bad", "row", "j"] ("law" : Str) (defScope s_law) f cdv A outer s H0 E) rfl rfl rfl rfl
    have hp : PassesOwn (model P w) (A.deeper (envOfC ("law" : Str) (defScope s_law) s.heap.objs.size f cdv)) _ (cxOf (L2.CX P w) P w K mg base ["script", "pool", "length", "rows", "due", "k", "unlike", "place", "far", "bad", "row", "j"] ("law" : Str) (defScope s_law) f cdv A outer s H0 E).xe := PassesOwn.leaving
    exact (dss_cons (by exact ds_setO 1 S.nd (dO_cal [none] (ok__law_pool_0 T) (hr.mono (by decide)) (.val (.nil)) tk (da_cons (de_var 0) (da_nil))))
      (dss_cons (by exact ds_asg (de_oz (dO_cal [some 1, none] (ok__law_draw_0 T) (hr.mono (by decide)) (.own (i := 1) rfl (by intro z; cases z) (by decide) (.val (.nil))) tk (da_cons (de_own 1) (da_cons (de_int) (da_nil))))) (dg_name 2 S.nd))
      (dss_cons (by exact ds_asg (de_oz (dO_cal [none] (ok_all_rows_0 T) (hr.mono (by decide)) (.val (.nil)) tk (da_cons (de_var 2) (da_nil)))) (dg_name 3 S.nd))
      (dss_cons (by exact ds_asg (de_n (dn_lst (da_cons (de_n (dn_lst (da_nil))) (da_nil)))) (dg_name 4 S.nd))
      (dss_cons (by exact ds_for hp rfl (di_range1 T.n_range (da_cons (de_var 2) (da_nil))) (dg_name 5 S.nd) (dss_one (by exact ds_asg (de_n (dn_op op2_add (de_n (dn_lc [(("row" : Str), 10)] rfl S.nd (di_seq (de_var 4)) (blk_of (by rfl)) (hv_of (by rfl)) (by decide) (fun _ _ _ _ _ => bG_of fun _ _ _ _ => dg_name 10 S.nd) (fun _ _ _ _ _ => bT_nil) (fun _ _ _ _ _ => bE_of fun _ _ _ _ => de_n (dn_op op2_add (de_n (dn_lst (da_cons (de_int) (da_nil)))) (de_var 10))))) (de_n (dn_lc [(("row" : Str), 10)] rfl S.nd (di_rev T.n_reversed (de_var 4)) (blk_of (by rfl)) (hv_of (by rfl)) (by decide) (fun _ _ _ _ _ => bG_of fun _ _ _ _ => dg_name 10 S.nd) (fun _ _ _ _ _ => bT_nil) (fun _ _ _ _ _ => bE_of fun _ _ _ _ => de_n (dn_op op2_add (de_n (dn_lst (da_cons (de_int) (da_nil)))) (de_var 10))))))) (dg_name 4 S.nd))))
      (dss_cons (by exact ds_if (dt_w (dw_or (dt_not (dt_tru (de_oz (dO_cal [none, none] (ok__law_same_0 T 12) (hr.mono (by decide)) (.val (.val (.nil))) tk (da_cons (de_var 3) (da_cons (de_var 4) (da_nil))))))) (dw_or1 (pt_cmp1 (op2_ne hr.units) (de_n (dn_ix (de_var 3) (de_int))) (de_n (dn_lc [(("k" : Str), 5)] rfl S.nd (di_range1 T.n_range (da_cons (de_var 2) (da_nil))) (blk_of (by rfl)) (hv_of (by rfl)) (by decide) (fun _ _ _ _ _ => bG_of fun _ _ _ _ => dg_name 5 S.nd) (fun _ _ _ _ _ => bT_nil) (fun _ _ _ _ _ => bE_of fun _ _ _ _ => de_int))) (nomark _))))) (dss_one (by exact ds_ret (de_bl))) (dss_nil))
      (dss_cons (by exact ds_if (dt_w (dw_or (pt_cmp1 (op2_ne hr.units) (de_n (dn_callB (cn_len) rfl T.n_len (by rfl) (da_cons (de_n (dn_callB (cn_sorted hr.units) rfl T.n_sorted (by rfl) (da_cons (de_var 3) (da_nil)))) (da_nil)))) (de_n (dn_callB (cn_len) rfl T.n_len (by rfl) (da_cons (de_var 4) (da_nil)))) (nomark _)) (dw_or1 (pt_cmp1 op2_gt (de_n (dn_callB (cn_len) rfl T.n_len (by rfl) (da_cons (de_n (dn_lc [(("k" : Str), 5)] rfl S.nd (di_range2 T.n_range (da_cons (de_int) (da_cons (de_n (dn_callB (cn_len) rfl T.n_len (by rfl) (da_cons (de_var 3) (da_nil)))) (da_nil)))) (blk_of (by rfl)) (hv_of (by rfl)) (by decide) (fun _ _ _ _ _ => bG_of fun _ _ _ _ => dg_name 5 S.nd) (fun _ _ _ _ _ => bT_of fun _ _ _ _ => pt_cmp1 (op2_eq hr.units) (de_n (dn_ix (de_n (dn_callB (cn_sorted hr.units) rfl T.n_sorted (by rfl) (da_cons (de_var 3) (da_nil)))) (de_var 5))) (de_n (dn_ix (de_n (dn_callB (cn_sorted hr.units) rfl T.n_sorted (by rfl) (da_cons (de_var 3) (da_nil)))) (de_n (dn_op op2_sub (de_var 5) (de_int))))) (nomark _)) (fun _ _ _ _ _ => bE_of fun _ _ _ _ => de_var 5))) (da_nil)))) (de_int) (nomark _))))) (dss_one (by exact ds_ret (de_bl))) (dss_nil))
      (dss_cons (by exact ds_for hp rfl (di_range2 T.n_range (da_cons (de_int) (da_cons (de_n (dn_callB (cn_len) rfl T.n_len (by rfl) (da_cons (de_var 3) (da_nil)))) (da_nil)))) (dg_name 5 S.nd) (dss_cons (by exact ds_setLc 6 [(("j" : Str), 11)] rfl S.nd rfl (by rfl) (di_range1 T.n_range (da_cons (de_var 2) (da_nil))) (blk_of (by rfl)) (hv_of (by rfl)) (by decide) (fun _ _ _ _ _ => bG_of fun _ _ _ _ => dg_name 11 S.nd) (fun _ _ _ _ _ => bT_of fun _ _ _ _ => pt_cmp1 (op2_ne hr.units) (de_n (dn_ix (de_n (dn_ix (de_var 3) (de_var 5))) (de_var 11))) (de_n (dn_ix (de_n (dn_ix (de_var 3) (de_n (dn_op op2_sub (de_var 5) (de_int))))) (de_var 11))) (nomark _)) (fun _ _ _ _ _ => bE_of fun _ _ _ _ => de_var 11))
      (dss_one (by exact ds_if (dt_w (dw_or (pt_cmp1 (op2_ne hr.units) (de_n (dn_callB (cn_len) rfl T.n_len (by rfl) (da_cons (de_var 6) (da_nil)))) (de_int) (nomark _)) (dw_or1 (dt_not (dt_tru (de_oz (dO_cal [none, none] (ok__law_same_0 T 12) (hr.mono (by decide)) (.val (.val (.nil))) tk (da_cons (de_oz (dO_cal [none, none] (ok_change_at_0 T) (hr.mono (by decide)) (.val (.val (.nil))) tk (da_cons (de_var 2) (da_cons (de_n (dn_op op2_sub (de_var 5) (de_int))) (da_nil))))) (da_cons (de_n (dn_ix (de_var 6) (de_int))) (da_nil)))))))))) (dss_one (by exact ds_ret (de_bl))) (dss_nil)))))
      (dss_cons (by exact ds_for hp rfl (di_range1 T.n_range (da_cons (de_int) (da_nil))) (dg_name 5 S.nd) (dss_cons (by exact ds_asg (de_oz (dO_cal [some 1, none] (ok__law_draw_0 T) (hr.mono (by decide)) (.own (i := 1) rfl (by intro z; cases z) (by decide) (.val (.nil))) tk (da_cons (de_own 1) (da_cons (de_n (dn_callB (cn_len) rfl T.n_len (by rfl) (da_cons (de_var 3) (da_nil)))) (da_nil))))) (dg_name 7 S.nd))
      (dss_one (by exact ds_if (dt_w (dw_or (dt_not (dt_tru (de_oz (dO_cal [none, none] (ok__law_same_0 T 12) (hr.mono (by decide)) (.val (.val (.nil))) tk (da_cons (de_oz (dO_cal [none, none] (ok_row_at_0 T) (hr.mono (by decide)) (.val (.val (.nil))) tk (da_cons (de_var 2) (da_cons (de_var 7) (da_nil))))) (da_cons (de_n (dn_ix (de_var 3) (de_var 7))) (da_nil))))))) (dw_or1 (dt_not (dt_tru (de_oz (dO_cal [none, none] (ok__law_same_0 T 12) (hr.mono (by decide)) (.val (.val (.nil))) tk (da_cons (de_oz (dO_cal [none] (ok_place_of_0 T) (hr.mono (by decide)) (.val (.nil)) tk (da_cons (de_n (dn_callTy (cn_list) rfl T.n_list (by rfl) (da_cons (de_n (dn_ix (de_var 3) (de_var 7))) (da_nil)))) (da_nil)))) (da_cons (de_var 7) (da_nil)))))))))) (dss_one (by exact ds_ret (de_bl))) (dss_nil)))))
      (dss_cons (by exact ds_if (dt_w (dw_and (pt_cmp1 op2_gt (de_var 2) (de_int) (nomark _)) (dw_and1 (dt_not (dt_tru (de_oz (dO_cal [none, none] (ok__law_same_0 T 12) (hr.mono (by decide)) (.val (.val (.nil))) tk (da_cons (de_n (dn_lc [(("row" : Str), 10)] rfl S.nd (di_seq (de_n (dn_sl (de_var 3) (dp_none) (dp_some (de_n (dn_op op2_div (de_n (dn_callB (cn_len) rfl T.n_len (by rfl) (da_cons (de_var 3) (da_nil)))) (de_int))))))) (blk_of (by rfl)) (hv_of (by rfl)) (by decide) (fun _ _ _ _ _ => bG_of fun _ _ _ _ => dg_name 10 S.nd) (fun _ _ _ _ _ => bT_nil) (fun _ _ _ _ _ => bE_of fun _ _ _ _ => de_n (dn_sl (de_var 10) (dp_some (de_int)) (dp_none))))) (da_cons (de_oz (dO_cal [none] (ok_all_rows_0 T) (hr.mono (by decide)) (.val (.nil)) tk (da_cons (de_n (dn_op op2_sub (de_var 2) (de_int))) (da_nil)))) (da_nil)))))))))) (dss_one (by exact ds_ret (de_bl))) (dss_nil))
      (dss_cons (by exact ds_setLc 8 [(("k" : Str), 5)] rfl S.nd rfl (by rfl) (di_range1 T.n_range (da_cons (de_int) (da_nil))) (blk_of (by rfl)) (hv_of (by rfl)) (by decide) (fun _ _ _ _ _ => bG_of fun _ _ _ _ => dg_name 5 S.nd) (fun _ _ _ _ _ => bT_nil) (fun _ _ _ _ _ => bE_of fun _ _ _ _ => de_oz (dO_cal [some 1, none] (ok__law_draw_0 T) (hr.mono (by decide)) (.own (i := 1) rfl (by intro z; cases z) (by decide) (.val (.nil))) takes0 (da_cons (de_own 1) (da_cons (de_int) (da_nil))))))
      (dss_cons (by exact ds_if (dt_not (dt_tru (de_oz (dO_cal [none, none] (ok__law_same_0 T 12) (hr.mono (by decide)) (.val (.val (.nil))) tk (da_cons (de_oz (dO_cal [none, none] (ok_row_at_0 T) (hr.mono (by decide)) (.val (.val (.nil))) tk (da_cons (de_int) (da_cons (de_oz (dO_cal [none] (ok_place_of_0 T) (hr.mono (by decide)) (.val (.nil)) tk (da_cons (de_n (dn_callTy (cn_list) rfl T.n_list (by rfl) (da_cons (de_var 8) (da_nil)))) (da_nil)))) (da_nil))))) (da_cons (de_var 8) (da_nil))))))) (dss_one (by exact ds_ret (de_bl))) (dss_nil))
      (dss_cons (by exact ds_asg (de_oz (dO_cal [some 1, none] (ok__law_pick_0 T) (hr.mono (by decide)) (.own (i := 1) rfl (by intro z; cases z) (by decide) (.val (.nil))) tk (da_cons (de_own 1) (da_cons (de_n (dn_lst (da_cons (de_n (dn_neg (de_int))) (da_cons (de_int) (da_cons (de_bl) (da_nil)))))) (da_nil))))) (dg_name 9 S.nd))
      (dss_cons (by exact ds_if (dt_w (dw_or (pt_cmp1 (op2_ne hr.units) (de_oz (dO_cal [none, none, none] (ok__law_refused_0 T) (hr.mono (by decide)) (.val (.val (.val (.nil)))) tk (da_cons (de_int) (da_cons (de_var 9) (da_cons (de_int) (da_nil)))))) (de_str) (nomark _)) (dw_or1 (pt_cmp1 (op2_ne hr.units) (de_oz (dO_cal [none, none, none] (ok__law_refused_0 T) (hr.mono (by decide)) (.val (.val (.val (.nil)))) tk (da_cons (de_int) (da_cons (de_var 9) (da_cons (de_int) (da_nil)))))) (de_str) (nomark _))))) (dss_one (by exact ds_ret (de_bl))) (dss_nil))
      (dss_cons (by exact ds_if (dt_w (dw_or (pt_cmp1 (op2_ne hr.units) (de_oz (dO_cal [none, none, none] (ok__law_refused_0 T) (hr.mono (by decide)) (.val (.val (.val (.nil)))) tk (da_cons (de_int) (da_cons (de_var 2) (da_cons (de_oz (dO_cal [some 1, none] (ok__law_pick_0 T) (hr.mono (by decide)) (.own (i := 1) rfl (by intro z; cases z) (by decide) (.val (.nil))) tk (da_cons (de_own 1) (da_cons (de_n (dn_lst (da_cons (de_n (dn_neg (de_int))) (da_cons (de_n (dn_callB (cn_len) rfl T.n_len (by rfl) (da_cons (de_var 3) (da_nil)))) (da_cons (de_bl) (da_nil)))))) (da_nil))))) (da_nil)))))) (de_str) (nomark _)) (dw_or1 (pt_cmp1 (op2_ne hr.units) (de_oz (dO_cal [none, none, none] (ok__law_refused_0 T) (hr.mono (by decide)) (.val (.val (.val (.nil)))) tk (da_cons (de_int) (da_cons (de_var 2) (da_cons (de_n (dn_op op2_sub (de_n (dn_callB (cn_len) rfl T.n_len (by rfl) (da_cons (de_var 3) (da_nil)))) (de_int))) (da_nil)))))) (de_str) (nomark _))))) (dss_one (by exact ds_ret (de_bl))) (dss_nil))
      (dss_one (by exact ds_ret (de_and (de_n (dn_cmp (op2_eq hr.units) (de_oz (dO_cal [none, none, none] (ok__law_refused_0 T) (hr.mono (by decide)) (.val (.val (.val (.nil)))) tk (da_cons (de_int) (da_cons (de_int) (da_cons (de_n (dn_lc [(("k" : Str), 5)] rfl S.nd (di_range1 T.n_range (da_cons (de_int) (da_nil))) (blk_of (by rfl)) (hv_of (by rfl)) (by decide) (fun _ _ _ _ _ => bG_of fun _ _ _ _ => dg_name 5 S.nd) (fun _ _ _ _ _ => bT_nil) (fun _ _ _ _ _ => bE_of fun _ _ _ _ => de_int))) (da_nil)))))) (de_str) (nomark _))) (de_one (de_n (dn_cmp (op2_eq hr.units) (de_oz (dO_cal [none, none, none] (ok__law_refused_0 T) (hr.mono (by decide)) (.val (.val (.val (.nil)))) tk (da_cons (de_int) (da_cons (de_int) (da_cons (de_n (dn_lst (da_cons (de_int) (da_cons (de_int) (da_nil))))) (da_nil)))))) (de_str) (nomark _))))))))))))))))))))))
theorem ok_law_0 (T : Txt K mg) : CalD P w K mg base 13 ("law" : Str) [.fz] .fz m_law [] :=
  let ⟨_, _, A⟩ := T.d_law; cal0 A (fn_law T A) (fun _ _ _ _ _ _ us hl => match us, hl with | [_], _ => rfl)
theorem law_fn (T : Txt K mg) {fa : Addr} (hfa : mg ("law" : Str) = some (.ref fa)) : ∃ fd : FuncData, (∀ (s : Shared) (u : Value), BindsTo s fd ⟨[u], []⟩ [(("script" : Str), u)]) ∧ ∀ base : Heap, FnOk P w K mg base (L2.CX P w) 13 fa fd ["script"] (spF K mg [.fz] .fz m_law) := by
  obtain ⟨f, fd, A⟩ := T.d_law
  have e := A.g.symm.trans hfa
  cases e
  exact ⟨fd, fun s u => FunD.bindsA (ps := ["script"]) A.F (fun _ _ _ _ _ _ us hl => match us, hl with | [_], _ => rfl) s [u] rfl, fun base => fn_law T A⟩
end
theorem all_mk {K : Frag} {h : Heap} {mg : MG} (X : K.In h) (G : h.Ns mainGlobals mg) {C_InvalidNumber : Addr} {C_InvalidPaper : Addr} {C_WatchError : Addr} {f__law_pool : Addr} {oc__law_pool kV__law_pool dc__law_pool pm__law_pool cd__law_pool ct__law_pool : Value} {od__law_pool an__law_pool : Option Addr} {sl__law_pool : Array (Option Value)} {f__law_draw : Addr} {oc__law_draw kV__law_draw dc__law_draw pm__law_draw cd__law_draw ct__law_draw : Value} {od__law_draw an__law_draw : Option Addr} {sl__law_draw : Array (Option Value)} {f_is_number : Addr} {oc_is_number kV_is_number dc_is_number pm_is_number cd_is_number ct_is_number : Value} {od_is_number an_is_number : Option Addr} {sl_is_number : Array (Option Value)} {T_is_number : Addr} {u_is_number_0 : Tok} {u_is_number_1 : Tok} {oT_is_number : Value} {dT_is_number : Option Addr} {nT_is_number : Nat} {sT_is_number : Array (Option Value)} {f_checked_number : Addr} {oc_checked_number kV_checked_number dc_checked_number pm_checked_number cd_checked_number ct_checked_number : Value} {od_checked_number an_checked_number : Option Addr} {sl_checked_number : Array (Option Value)} {T_checked_number : Addr} {u_checked_number_0 : Tok} {u_checked_number_1 : Tok} {oT_checked_number : Value} {dT_checked_number : Option Addr} {nT_checked_number : Nat} {sT_checked_number : Array (Option Value)} {f_all_rows : Addr} {oc_all_rows kV_all_rows dc_all_rows pm_all_rows cd_all_rows ct_all_rows : Value} {od_all_rows an_all_rows : Option Addr} {sl_all_rows : Array (Option Value)} {f__law_pick : Addr} {oc__law_pick kV__law_pick dc__law_pick pm__law_pick cd__law_pick ct__law_pick : Value} {od__law_pick an__law_pick : Option Addr} {sl__law_pick : Array (Option Value)} {f__law_same : Addr} {oc__law_same kV__law_same dc__law_same pm__law_same cd__law_same ct__law_same : Value} {od__law_same an__law_same : Option Addr} {sl__law_same : Array (Option Value)} {f_row_at : Addr} {oc_row_at kV_row_at dc_row_at pm_row_at cd_row_at ct_row_at : Value} {od_row_at an_row_at : Option Addr} {sl_row_at : Array (Option Value)} {f_change_at : Addr} {oc_change_at kV_change_at dc_change_at pm_change_at cd_change_at ct_change_at : Value} {od_change_at an_change_at : Option Addr} {sl_change_at : Array (Option Value)} {f_checked_row : Addr} {oc_checked_row kV_checked_row dc_checked_row pm_checked_row cd_checked_row ct_checked_row : Value} {od_checked_row an_checked_row : Option Addr} {sl_checked_row : Array (Option Value)} {f_place_of : Addr} {oc_place_of kV_place_of dc_place_of pm_place_of cd_place_of ct_place_of : Value} {od_place_of an_place_of : Option Addr} {sl_place_of : Array (Option Value)} {f__law_refused : Addr} {oc__law_refused kV__law_refused dc__law_refused pm__law_refused cd__law_refused ct__law_refused : Value} {od__law_refused an__law_refused : Option Addr} {sl__law_refused : Array (Option Value)} {f_law : Addr} {oc_law kV_law dc_law pm_law cd_law ct_law : Value} {od_law an_law : Option Addr} {sl_law : Array (Option Value)}
    (z_list : PySem.W.nsIn K mainGlobals ("list" : Str) = some none)
    (z_int : PySem.W.nsIn K mainGlobals ("int" : Str) = some none)
    (z_len : PySem.W.nsIn K mainGlobals ("len" : Str) = some none)
    (z_abs : PySem.W.nsIn K mainGlobals ("abs" : Str) = some none)
    (z_isinstance : PySem.W.nsIn K mainGlobals ("isinstance" : Str) = some none)
    (z_bool : PySem.W.nsIn K mainGlobals ("bool" : Str) = some none)
    (z_str : PySem.W.nsIn K mainGlobals ("str" : Str) = some none)
    (z_range : PySem.W.nsIn K mainGlobals ("range" : Str) = some none)
    (z_reversed : PySem.W.nsIn K mainGlobals ("reversed" : Str) = some none)
    (z_tuple : PySem.W.nsIn K mainGlobals ("tuple" : Str) = some none)
    (z_ValueError : PySem.W.nsIn K mainGlobals ("ValueError" : Str) = some none)
    (z_sorted : PySem.W.nsIn K mainGlobals ("sorted" : Str) = some none)
    (a_InvalidNumber : PySem.W.nsIn K mainGlobals ("InvalidNumber" : Str) = some (some (.ref C_InvalidNumber)))
    (b_InvalidNumber : PySem.W.subIn K (.ref C_InvalidNumber) (.type "BaseException") = some true)
    (t_InvalidNumber : PySem.W.typeIn K (.ref C_InvalidNumber) = some (.type "type"))
    (x_InvalidNumber : PySem.W.excIn K C_InvalidNumber [.type "ValueError", .type "Exception", .type "BaseException", .type "object"] "ValueError.__new__" = true)
    (k_InvalidNumber : PySem.W.keepIn K (.ref C_InvalidNumber) = true)
    (h_InvalidNumber : PySem.W.hasDictIn K C_InvalidNumber = true)
    (i_InvalidNumber : PySem.W.isClsIn K C_InvalidNumber = true)
    (e1_InvalidNumber : PySem.W.findIn K (.ref C_InvalidNumber) "__getattribute__" = some (some (.builtin "BaseException.__getattribute__")))
    (e2_InvalidNumber : PySem.W.findIn K (.ref C_InvalidNumber) "__getattr__" = some none)
    (e3_InvalidNumber : PySem.W.findIn K (.ref C_InvalidNumber) "__class__" = some (some (.builtin "object.__class__")))
    (e4_InvalidNumber : PySem.W.mroIn K C_InvalidNumber (.type "object") = some true)
    (a_InvalidPaper : PySem.W.nsIn K mainGlobals ("InvalidPaper" : Str) = some (some (.ref C_InvalidPaper)))
    (b_InvalidPaper : PySem.W.subIn K (.ref C_InvalidPaper) (.type "BaseException") = some true)
    (t_InvalidPaper : PySem.W.typeIn K (.ref C_InvalidPaper) = some (.type "type"))
    (x_InvalidPaper : PySem.W.excIn K C_InvalidPaper [.type "ValueError", .type "Exception", .type "BaseException", .type "object"] "ValueError.__new__" = true)
    (k_InvalidPaper : PySem.W.keepIn K (.ref C_InvalidPaper) = true)
    (h_InvalidPaper : PySem.W.hasDictIn K C_InvalidPaper = true)
    (i_InvalidPaper : PySem.W.isClsIn K C_InvalidPaper = true)
    (e1_InvalidPaper : PySem.W.findIn K (.ref C_InvalidPaper) "__getattribute__" = some (some (.builtin "BaseException.__getattribute__")))
    (e2_InvalidPaper : PySem.W.findIn K (.ref C_InvalidPaper) "__getattr__" = some none)
    (e3_InvalidPaper : PySem.W.findIn K (.ref C_InvalidPaper) "__class__" = some (some (.builtin "object.__class__")))
    (e4_InvalidPaper : PySem.W.mroIn K C_InvalidPaper (.type "object") = some true)
    (a_WatchError : PySem.W.nsIn K mainGlobals ("WatchError" : Str) = some (some (.ref C_WatchError)))
    (b_WatchError : PySem.W.subIn K (.ref C_WatchError) (.type "BaseException") = some true)
    (t_WatchError : PySem.W.typeIn K (.ref C_WatchError) = some (.type "type"))
    (x_WatchError : PySem.W.excIn K C_WatchError [.type "ValueError", .type "Exception", .type "BaseException", .type "object"] "ValueError.__new__" = true)
    (k_WatchError : PySem.W.keepIn K (.ref C_WatchError) = true)
    (h_WatchError : PySem.W.hasDictIn K C_WatchError = true)
    (e1_WatchError : PySem.W.findIn K (.ref C_WatchError) "__getattribute__" = some (some (.builtin "BaseException.__getattribute__")))
    (e2_WatchError : PySem.W.findIn K (.ref C_WatchError) "__getattr__" = some none)
    (e3_WatchError : PySem.W.findIn K (.ref C_WatchError) "__class__" = some (some (.builtin "object.__class__")))
    (e4_WatchError : PySem.W.mroIn K C_WatchError (.type "object") = some true)
    (e5 : PySem.W.specialIn K (.builtin "object.__class__") "__get__" = some (some (.builtin "getset_descriptor.__get__")))
    (e6 : PySem.W.takesIn K (.builtin "object.__class__") = some true)
    (s_WatchError_WatchError : PySem.W.subIn K (.ref C_WatchError) (.ref C_WatchError) = some true)
    (s_InvalidNumber_WatchError : PySem.W.subIn K (.ref C_InvalidNumber) (.ref C_WatchError) = some true)
    (s_InvalidPaper_WatchError : PySem.W.subIn K (.ref C_InvalidPaper) (.ref C_WatchError) = some true)
    (s_WatchError_InvalidNumber : PySem.W.subIn K (.ref C_WatchError) (.ref C_InvalidNumber) = some false)
    (s_InvalidNumber_InvalidNumber : PySem.W.subIn K (.ref C_InvalidNumber) (.ref C_InvalidNumber) = some true)
    (s_InvalidPaper_InvalidNumber : PySem.W.subIn K (.ref C_InvalidPaper) (.ref C_InvalidNumber) = some false)
    (s_InvalidPaper_InvalidPaper : PySem.W.subIn K (.ref C_InvalidPaper) (.ref C_InvalidPaper) = some true)
    (s_WatchError_InvalidPaper : PySem.W.subIn K (.ref C_WatchError) (.ref C_InvalidPaper) = some false)
    (s_InvalidNumber_InvalidPaper : PySem.W.subIn K (.ref C_InvalidNumber) (.ref C_InvalidPaper) = some false)
    (s_WatchError_ValueError : PySem.W.subIn K (.ref C_WatchError) (.type "ValueError") = some true)
    (s_InvalidNumber_ValueError : PySem.W.subIn K (.ref C_InvalidNumber) (.type "ValueError") = some true)
    (s_InvalidPaper_ValueError : PySem.W.subIn K (.ref C_InvalidPaper) (.type "ValueError") = some true)
    (a__law_pool : PySem.W.nsIn K mainGlobals ("_law_pool" : Str) = some (some (.ref f__law_pool)))
    (l__law_pool : K.lookup f__law_pool = some ⟨oc__law_pool, od__law_pool, .func (PySem.W.fnOf ("_law_pool" : Str) ("_law_pool" : Str) (defArgs s__law_pool) (defBody s__law_pool) (defScope s__law_pool) .none kV__law_pool dc__law_pool pm__law_pool an__law_pool cd__law_pool ct__law_pool), sl__law_pool⟩)
    (c__law_pool : PySem.W.codeIn K cd__law_pool ("_law_pool" : Str) = true)
    (k__law_pool : PySem.W.keepIn K (.ref f__law_pool) = true)
    (a__law_draw : PySem.W.nsIn K mainGlobals ("_law_draw" : Str) = some (some (.ref f__law_draw)))
    (l__law_draw : K.lookup f__law_draw = some ⟨oc__law_draw, od__law_draw, .func (PySem.W.fnOf ("_law_draw" : Str) ("_law_draw" : Str) (defArgs s__law_draw) (defBody s__law_draw) (defScope s__law_draw) .none kV__law_draw dc__law_draw pm__law_draw an__law_draw cd__law_draw ct__law_draw), sl__law_draw⟩)
    (c__law_draw : PySem.W.codeIn K cd__law_draw ("_law_draw" : Str) = true)
    (k__law_draw : PySem.W.keepIn K (.ref f__law_draw) = true)
    (a_is_number : PySem.W.nsIn K mainGlobals ("is_number" : Str) = some (some (.ref f_is_number)))
    (l_is_number : K.lookup f_is_number = some ⟨oc_is_number, od_is_number, .func (PySem.W.fnOf ("is_number" : Str) ("is_number" : Str) (defArgs s_is_number) (defBody s_is_number) (defScope s_is_number) (.ref T_is_number) kV_is_number dc_is_number pm_is_number an_is_number cd_is_number ct_is_number), sl_is_number⟩)
    (c_is_number : PySem.W.codeIn K cd_is_number ("is_number" : Str) = true)
    (k_is_number : PySem.W.keepIn K (.ref f_is_number) = true)
    (g_is_number : K.lookup T_is_number = some ⟨oT_is_number, dT_is_number, .seq #[.int 0 u_is_number_0, .int 1000000 u_is_number_1] nT_is_number, sT_is_number⟩)
    (a_checked_number : PySem.W.nsIn K mainGlobals ("checked_number" : Str) = some (some (.ref f_checked_number)))
    (l_checked_number : K.lookup f_checked_number = some ⟨oc_checked_number, od_checked_number, .func (PySem.W.fnOf ("checked_number" : Str) ("checked_number" : Str) (defArgs s_checked_number) (defBody s_checked_number) (defScope s_checked_number) (.ref T_checked_number) kV_checked_number dc_checked_number pm_checked_number an_checked_number cd_checked_number ct_checked_number), sl_checked_number⟩)
    (c_checked_number : PySem.W.codeIn K cd_checked_number ("checked_number" : Str) = true)
    (k_checked_number : PySem.W.keepIn K (.ref f_checked_number) = true)
    (g_checked_number : K.lookup T_checked_number = some ⟨oT_checked_number, dT_checked_number, .seq #[.int 0 u_checked_number_0, .int 1000000 u_checked_number_1] nT_checked_number, sT_checked_number⟩)
    (a_all_rows : PySem.W.nsIn K mainGlobals ("all_rows" : Str) = some (some (.ref f_all_rows)))
    (l_all_rows : K.lookup f_all_rows = some ⟨oc_all_rows, od_all_rows, .func (PySem.W.fnOf ("all_rows" : Str) ("all_rows" : Str) (defArgs s_all_rows) (defBody s_all_rows) (defScope s_all_rows) .none kV_all_rows dc_all_rows pm_all_rows an_all_rows cd_all_rows ct_all_rows), sl_all_rows⟩)
    (c_all_rows : PySem.W.codeIn K cd_all_rows ("all_rows" : Str) = true)
    (k_all_rows : PySem.W.keepIn K (.ref f_all_rows) = true)
    (a__law_pick : PySem.W.nsIn K mainGlobals ("_law_pick" : Str) = some (some (.ref f__law_pick)))
    (l__law_pick : K.lookup f__law_pick = some ⟨oc__law_pick, od__law_pick, .func (PySem.W.fnOf ("_law_pick" : Str) ("_law_pick" : Str) (defArgs s__law_pick) (defBody s__law_pick) (defScope s__law_pick) .none kV__law_pick dc__law_pick pm__law_pick an__law_pick cd__law_pick ct__law_pick), sl__law_pick⟩)
    (c__law_pick : PySem.W.codeIn K cd__law_pick ("_law_pick" : Str) = true)
    (k__law_pick : PySem.W.keepIn K (.ref f__law_pick) = true)
    (a__law_same : PySem.W.nsIn K mainGlobals ("_law_same" : Str) = some (some (.ref f__law_same)))
    (l__law_same : K.lookup f__law_same = some ⟨oc__law_same, od__law_same, .func (PySem.W.fnOf ("_law_same" : Str) ("_law_same" : Str) (defArgs s__law_same) (defBody s__law_same) (defScope s__law_same) .none kV__law_same dc__law_same pm__law_same an__law_same cd__law_same ct__law_same), sl__law_same⟩)
    (c__law_same : PySem.W.codeIn K cd__law_same ("_law_same" : Str) = true)
    (k__law_same : PySem.W.keepIn K (.ref f__law_same) = true)
    (a_row_at : PySem.W.nsIn K mainGlobals ("row_at" : Str) = some (some (.ref f_row_at)))
    (l_row_at : K.lookup f_row_at = some ⟨oc_row_at, od_row_at, .func (PySem.W.fnOf ("row_at" : Str) ("row_at" : Str) (defArgs s_row_at) (defBody s_row_at) (defScope s_row_at) .none kV_row_at dc_row_at pm_row_at an_row_at cd_row_at ct_row_at), sl_row_at⟩)
    (c_row_at : PySem.W.codeIn K cd_row_at ("row_at" : Str) = true)
    (k_row_at : PySem.W.keepIn K (.ref f_row_at) = true)
    (a_change_at : PySem.W.nsIn K mainGlobals ("change_at" : Str) = some (some (.ref f_change_at)))
    (l_change_at : K.lookup f_change_at = some ⟨oc_change_at, od_change_at, .func (PySem.W.fnOf ("change_at" : Str) ("change_at" : Str) (defArgs s_change_at) (defBody s_change_at) (defScope s_change_at) .none kV_change_at dc_change_at pm_change_at an_change_at cd_change_at ct_change_at), sl_change_at⟩)
    (c_change_at : PySem.W.codeIn K cd_change_at ("change_at" : Str) = true)
    (k_change_at : PySem.W.keepIn K (.ref f_change_at) = true)
    (a_checked_row : PySem.W.nsIn K mainGlobals ("checked_row" : Str) = some (some (.ref f_checked_row)))
    (l_checked_row : K.lookup f_checked_row = some ⟨oc_checked_row, od_checked_row, .func (PySem.W.fnOf ("checked_row" : Str) ("checked_row" : Str) (defArgs s_checked_row) (defBody s_checked_row) (defScope s_checked_row) .none kV_checked_row dc_checked_row pm_checked_row an_checked_row cd_checked_row ct_checked_row), sl_checked_row⟩)
    (c_checked_row : PySem.W.codeIn K cd_checked_row ("checked_row" : Str) = true)
    (k_checked_row : PySem.W.keepIn K (.ref f_checked_row) = true)
    (a_place_of : PySem.W.nsIn K mainGlobals ("place_of" : Str) = some (some (.ref f_place_of)))
    (l_place_of : K.lookup f_place_of = some ⟨oc_place_of, od_place_of, .func (PySem.W.fnOf ("place_of" : Str) ("place_of" : Str) (defArgs s_place_of) (defBody s_place_of) (defScope s_place_of) .none kV_place_of dc_place_of pm_place_of an_place_of cd_place_of ct_place_of), sl_place_of⟩)
    (c_place_of : PySem.W.codeIn K cd_place_of ("place_of" : Str) = true)
    (k_place_of : PySem.W.keepIn K (.ref f_place_of) = true)
    (a__law_refused : PySem.W.nsIn K mainGlobals ("_law_refused" : Str) = some (some (.ref f__law_refused)))
    (l__law_refused : K.lookup f__law_refused = some ⟨oc__law_refused, od__law_refused, .func (PySem.W.fnOf ("_law_refused" : Str) ("_law_refused" : Str) (defArgs s__law_refused) (defBody s__law_refused) (defScope s__law_refused) .none kV__law_refused dc__law_refused pm__law_refused an__law_refused cd__law_refused ct__law_refused), sl__law_refused⟩)
    (c__law_refused : PySem.W.codeIn K cd__law_refused ("_law_refused" : Str) = true)
    (k__law_refused : PySem.W.keepIn K (.ref f__law_refused) = true)
    (a_law : PySem.W.nsIn K mainGlobals ("law" : Str) = some (some (.ref f_law)))
    (l_law : K.lookup f_law = some ⟨oc_law, od_law, .func (PySem.W.fnOf ("law" : Str) ("law" : Str) (defArgs s_law) (defBody s_law) (defScope s_law) .none kV_law dc_law pm_law an_law cd_law ct_law), sl_law⟩)
    (c_law : PySem.W.codeIn K cd_law ("law" : Str) = true)
    (k_law : PySem.W.keepIn K (.ref f_law) = true) : Txt K mg :=
  ⟨PySem.W.mg_none_of X G z_list,
   PySem.W.mg_none_of X G z_int,
   PySem.W.mg_none_of X G z_len,
   PySem.W.mg_none_of X G z_abs,
   PySem.W.mg_none_of X G z_isinstance,
   PySem.W.mg_none_of X G z_bool,
   PySem.W.mg_none_of X G z_str,
   PySem.W.mg_none_of X G z_range,
   PySem.W.mg_none_of X G z_reversed,
   PySem.W.mg_none_of X G z_tuple,
   PySem.W.mg_none_of X G z_ValueError,
   PySem.W.mg_none_of X G z_sorted,
   ⟨_, PySem.W.mg_of X G a_InvalidNumber, x_InvalidNumber, k_InvalidNumber, b_InvalidNumber, t_InvalidNumber⟩,
   ⟨_, PySem.W.mg_of X G a_InvalidPaper, x_InvalidPaper, k_InvalidPaper, b_InvalidPaper, t_InvalidPaper⟩,
   ⟨_, PySem.W.mg_of X G a_WatchError, x_WatchError, k_WatchError, b_WatchError, t_WatchError⟩,
   ⟨_, PySem.W.mg_of X G a_WatchError, hit_cons (PySem.W.mg_of X G a_WatchError) (PySem.W.exm_ref b_WatchError h_WatchError t_WatchError s_WatchError_WatchError) (hit_cons (PySem.W.mg_of X G a_InvalidNumber) (PySem.W.exm_ref b_WatchError h_WatchError t_WatchError s_InvalidNumber_WatchError) (hit_cons (PySem.W.mg_of X G a_InvalidPaper) (PySem.W.exm_ref b_WatchError h_WatchError t_WatchError s_InvalidPaper_WatchError) (hit_nil)))⟩,
   ⟨_, PySem.W.mg_of X G a_InvalidNumber, is_cons (PySem.W.mg_of X G a_WatchError) ⟨e1_WatchError, e2_WatchError, b_WatchError, h_WatchError, e3_WatchError, e5, e6, e4_WatchError⟩ (kit_own i_InvalidNumber t_InvalidNumber s_WatchError_InvalidNumber s_WatchError_WatchError) (is_cons (PySem.W.mg_of X G a_InvalidNumber) ⟨e1_InvalidNumber, e2_InvalidNumber, b_InvalidNumber, h_InvalidNumber, e3_InvalidNumber, e5, e6, e4_InvalidNumber⟩ (kit_own i_InvalidNumber t_InvalidNumber s_InvalidNumber_InvalidNumber s_InvalidNumber_InvalidNumber) (is_cons (PySem.W.mg_of X G a_InvalidPaper) ⟨e1_InvalidPaper, e2_InvalidPaper, b_InvalidPaper, h_InvalidPaper, e3_InvalidPaper, e5, e6, e4_InvalidPaper⟩ (kit_own i_InvalidNumber t_InvalidNumber s_InvalidPaper_InvalidNumber s_InvalidPaper_InvalidPaper) (is_nil)))⟩,
   ⟨_, PySem.W.mg_of X G a_InvalidPaper, is_cons (PySem.W.mg_of X G a_WatchError) ⟨e1_WatchError, e2_WatchError, b_WatchError, h_WatchError, e3_WatchError, e5, e6, e4_WatchError⟩ (kit_own i_InvalidPaper t_InvalidPaper s_WatchError_InvalidPaper s_WatchError_WatchError) (is_cons (PySem.W.mg_of X G a_InvalidNumber) ⟨e1_InvalidNumber, e2_InvalidNumber, b_InvalidNumber, h_InvalidNumber, e3_InvalidNumber, e5, e6, e4_InvalidNumber⟩ (kit_own i_InvalidPaper t_InvalidPaper s_InvalidNumber_InvalidPaper s_InvalidNumber_InvalidNumber) (is_cons (PySem.W.mg_of X G a_InvalidPaper) ⟨e1_InvalidPaper, e2_InvalidPaper, b_InvalidPaper, h_InvalidPaper, e3_InvalidPaper, e5, e6, e4_InvalidPaper⟩ (kit_own i_InvalidPaper t_InvalidPaper s_InvalidPaper_InvalidPaper s_InvalidPaper_InvalidPaper) (is_nil)))⟩,
   is_cons (PySem.W.mg_of X G a_WatchError) ⟨e1_WatchError, e2_WatchError, b_WatchError, h_WatchError, e3_WatchError, e5, e6, e4_WatchError⟩ (kit_bi (by decide +kernel) s_WatchError_ValueError) (is_cons (PySem.W.mg_of X G a_InvalidNumber) ⟨e1_InvalidNumber, e2_InvalidNumber, b_InvalidNumber, h_InvalidNumber, e3_InvalidNumber, e5, e6, e4_InvalidNumber⟩ (kit_bi (by decide +kernel) s_InvalidNumber_ValueError) (is_cons (PySem.W.mg_of X G a_InvalidPaper) ⟨e1_InvalidPaper, e2_InvalidPaper, b_InvalidPaper, h_InvalidPaper, e3_InvalidPaper, e5, e6, e4_InvalidPaper⟩ (kit_bi (by decide +kernel) s_InvalidPaper_ValueError) (is_nil))),
   ⟨_, _, defAt_mk (PySem.W.mg_of X G a__law_pool) l__law_pool c__law_pool k__law_pool⟩,
   ⟨_, _, defAt_mk (PySem.W.mg_of X G a__law_draw) l__law_draw c__law_draw k__law_draw⟩,
   ⟨_, _, defAt_mkD (PySem.W.mg_of X G a_is_number) l_is_number c_is_number k_is_number g_is_number (its := [.int 0 u_is_number_0, .int 1000000 u_is_number_1]) rfl (.cons (⟨_, rfl⟩) (.cons (⟨_, rfl⟩) (.nil))) (by intro z; cases z)⟩,
   ⟨_, _, defAt_mkD (PySem.W.mg_of X G a_checked_number) l_checked_number c_checked_number k_checked_number g_checked_number (its := [.int 0 u_checked_number_0, .int 1000000 u_checked_number_1]) rfl (.cons (⟨_, rfl⟩) (.cons (⟨_, rfl⟩) (.nil))) (by intro z; cases z)⟩,
   ⟨_, _, defAt_mk (PySem.W.mg_of X G a_all_rows) l_all_rows c_all_rows k_all_rows⟩,
   ⟨_, _, defAt_mk (PySem.W.mg_of X G a__law_pick) l__law_pick c__law_pick k__law_pick⟩,
   ⟨_, _, defAt_mk (PySem.W.mg_of X G a__law_same) l__law_same c__law_same k__law_same⟩,
   ⟨_, _, defAt_mk (PySem.W.mg_of X G a_row_at) l_row_at c_row_at k_row_at⟩,
   ⟨_, _, defAt_mk (PySem.W.mg_of X G a_change_at) l_change_at c_change_at k_change_at⟩,
   ⟨_, _, defAt_mk (PySem.W.mg_of X G a_checked_row) l_checked_row c_checked_row k_checked_row⟩,
   ⟨_, _, defAt_mk (PySem.W.mg_of X G a_place_of) l_place_of c_place_of k_place_of⟩,
   ⟨_, _, defAt_mk (PySem.W.mg_of X G a__law_refused) l__law_refused c__law_refused k__law_refused⟩,
   ⟨_, _, defAt_mk (PySem.W.mg_of X G a_law) l_law c_law k_law⟩⟩
end DL.K80

open PySem PySem.W PyProof.Rows
set_option maxRecDepth 100000 in
set_option maxHeartbeats 0 in
theorem PySem.Challenge.cw_watchhire_k80_rows_one_sign_apart_holds : PySem.Challenge.rw_watchhire_k80_rows_one_sign_apart.Holds := by
  w_on; o_law; k_head; (case hw => w_witness2)
  k_fill
  refine DL.walkL (l := PySem.Challenge.rw_watchhire_k80_rows_one_sign_apart) (k := 13) (x := "script") (m := DL.K80.m_law) rfl rfl ⟨rfl, by decide, by decide⟩ (fun w h Y => PySem.W.kIn_of Y) DL.K80.law_holds ?F
  case F =>
    intro w mg fa h KX G hmg
    refine DL.K80.law_fn ?T hmg
    refine' DL.K80.all_mk KX G ?z_list ?z_int ?z_len ?z_abs ?z_isinstance ?z_bool ?z_str ?z_range ?z_reversed ?z_tuple ?z_ValueError ?z_sorted ?a_InvalidNumber ?b_InvalidNumber ?t_InvalidNumber ?x_InvalidNumber ?k_InvalidNumber ?h_InvalidNumber ?i_InvalidNumber ?e1_InvalidNumber ?e2_InvalidNumber ?e3_InvalidNumber ?e4_InvalidNumber ?a_InvalidPaper ?b_InvalidPaper ?t_InvalidPaper ?x_InvalidPaper ?k_InvalidPaper ?h_InvalidPaper ?i_InvalidPaper ?e1_InvalidPaper ?e2_InvalidPaper ?e3_InvalidPaper ?e4_InvalidPaper ?a_WatchError ?b_WatchError ?t_WatchError ?x_WatchError ?k_WatchError ?h_WatchError ?e1_WatchError ?e2_WatchError ?e3_WatchError ?e4_WatchError ?e5 ?e6 ?s_WatchError_WatchError ?s_InvalidNumber_WatchError ?s_InvalidPaper_WatchError ?s_WatchError_InvalidNumber ?s_InvalidNumber_InvalidNumber ?s_InvalidPaper_InvalidNumber ?s_InvalidPaper_InvalidPaper ?s_WatchError_InvalidPaper ?s_InvalidNumber_InvalidPaper ?s_WatchError_ValueError ?s_InvalidNumber_ValueError ?s_InvalidPaper_ValueError ?a__law_pool ?l__law_pool ?c__law_pool ?k__law_pool ?a__law_draw ?l__law_draw ?c__law_draw ?k__law_draw ?a_is_number ?l_is_number ?c_is_number ?k_is_number ?g_is_number ?a_checked_number ?l_checked_number ?c_checked_number ?k_checked_number ?g_checked_number ?a_all_rows ?l_all_rows ?c_all_rows ?k_all_rows ?a__law_pick ?l__law_pick ?c__law_pick ?k__law_pick ?a__law_same ?l__law_same ?c__law_same ?k__law_same ?a_row_at ?l_row_at ?c_row_at ?k_row_at ?a_change_at ?l_change_at ?c_change_at ?k_change_at ?a_checked_row ?l_checked_row ?c_checked_row ?k_checked_row ?a_place_of ?l_place_of ?c_place_of ?k_place_of ?a__law_refused ?l__law_refused ?c__law_refused ?k__law_refused ?a_law ?l_law ?c_law ?k_law
    (case z_list => k_is)
    (case z_int => k_is)
    (case z_len => k_is)
    (case z_abs => k_is)
    (case z_isinstance => k_is)
    (case z_bool => k_is)
    (case z_str => k_is)
    (case z_range => k_is)
    (case z_reversed => k_is)
    (case z_tuple => k_is)
    (case z_ValueError => k_is)
    (case z_sorted => k_is)
    (case a_InvalidNumber => k_is)
    (case b_InvalidNumber => k_is)
    (case t_InvalidNumber => k_is)
    (case x_InvalidNumber => k_exc)
    (case k_InvalidNumber => k_is)
    (case h_InvalidNumber => k_is)
    (case i_InvalidNumber => k_is)
    (case e1_InvalidNumber => k_is)
    (case e2_InvalidNumber => k_is)
    (case e3_InvalidNumber => k_is)
    (case e4_InvalidNumber => k_is)
    (case a_InvalidPaper => k_is)
    (case b_InvalidPaper => k_is)
    (case t_InvalidPaper => k_is)
    (case x_InvalidPaper => k_exc)
    (case k_InvalidPaper => k_is)
    (case h_InvalidPaper => k_is)
    (case i_InvalidPaper => k_is)
    (case e1_InvalidPaper => k_is)
    (case e2_InvalidPaper => k_is)
    (case e3_InvalidPaper => k_is)
    (case e4_InvalidPaper => k_is)
    (case a_WatchError => k_is)
    (case b_WatchError => k_is)
    (case t_WatchError => k_is)
    (case x_WatchError => k_exc)
    (case k_WatchError => k_is)
    (case h_WatchError => k_is)
    (case e1_WatchError => k_is)
    (case e2_WatchError => k_is)
    (case e3_WatchError => k_is)
    (case e4_WatchError => k_is)
    (case e5 => k_is)
    (case e6 => k_is)
    (case s_WatchError_WatchError => k_is)
    (case s_InvalidNumber_WatchError => k_is)
    (case s_InvalidPaper_WatchError => k_is)
    (case s_WatchError_InvalidNumber => k_is)
    (case s_InvalidNumber_InvalidNumber => k_is)
    (case s_InvalidPaper_InvalidNumber => k_is)
    (case s_InvalidPaper_InvalidPaper => k_is)
    (case s_WatchError_InvalidPaper => k_is)
    (case s_InvalidNumber_InvalidPaper => k_is)
    (case s_WatchError_ValueError => k_is)
    (case s_InvalidNumber_ValueError => k_is)
    (case s_InvalidPaper_ValueError => k_is)
    (case a__law_pool => k_is)
    (case l__law_pool => k_is)
    (case c__law_pool => k_is)
    (case k__law_pool => k_is)
    (case a__law_draw => k_is)
    (case l__law_draw => k_is)
    (case c__law_draw => k_is)
    (case k__law_draw => k_is)
    (case a_is_number => k_is)
    (case l_is_number => k_is)
    (case c_is_number => k_is)
    (case k_is_number => k_is)
    (case g_is_number => k_is)
    (case a_checked_number => k_is)
    (case l_checked_number => k_is)
    (case c_checked_number => k_is)
    (case k_checked_number => k_is)
    (case g_checked_number => k_is)
    (case a_all_rows => k_is)
    (case l_all_rows => k_is)
    (case c_all_rows => k_is)
    (case k_all_rows => k_is)
    (case a__law_pick => k_is)
    (case l__law_pick => k_is)
    (case c__law_pick => k_is)
    (case k__law_pick => k_is)
    (case a__law_same => k_is)
    (case l__law_same => k_is)
    (case c__law_same => k_is)
    (case k__law_same => k_is)
    (case a_row_at => k_is)
    (case l_row_at => k_is)
    (case c_row_at => k_is)
    (case k_row_at => k_is)
    (case a_change_at => k_is)
    (case l_change_at => k_is)
    (case c_change_at => k_is)
    (case k_change_at => k_is)
    (case a_checked_row => k_is)
    (case l_checked_row => k_is)
    (case c_checked_row => k_is)
    (case k_checked_row => k_is)
    (case a_place_of => k_is)
    (case l_place_of => k_is)
    (case c_place_of => k_is)
    (case k_place_of => k_is)
    (case a__law_refused => k_is)
    (case l__law_refused => k_is)
    (case c__law_refused => k_is)
    (case k__law_refused => k_is)
    (case a_law => k_is)
    (case l_law => k_is)
    (case c_law => k_is)
    (case k_law => k_is)
#print axioms PySem.Challenge.cw_watchhire_k80_rows_one_sign_apart_holds
