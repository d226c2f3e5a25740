import PyProof.Rows.All
import Wide.All
import OpenK.AllK
import Wide.FinOn
import HandS.ForMost
import HandS.ForExc
import HandS.Evl
import KE.DataEq
import HandS.TupAny
import HandS.TupMul
import HandS.TupLe
import HandS.Deep
import HandS.Text
import HandS.StrMore
import HandS.Wide
import KE.SortData
import PyProof.Rows.SeqMore
import PyProof.Rows.ListMulArg
import HandS.Rev
import HandS.RaiseMore
import HandS.ExcCtx
import HandS.CallSlots
import HandS.Defaults
import HandS.IsInst
import HandS.More
import HandS.SetFor
import HandS.SortKw
import PyProof.AutoSeq1
import HandS.ExcIs
import HandS.TryOnly
import HandS.TryMany
import HandS.WordsExc
import HandS.Ends
import KE.DataFind
import HandS.Small
import HandS.HotCalls
import HandS.Flow
import PySem.Challenge.RW_watchhire_k51_evenest_shares_and_gifts
set_option Elab.async false
set_option linter.all false
set_option maxRecDepth 100000
set_option maxHeartbeats 2000000
/-! A layer over the hand layer: a def is mirrored by a function over plain data. Data, results, shapes, ownership, the state's invariant. -/
namespace DL
open PySem L2
open Evl (Ex ex_l ex_t ex_rd)

abbrev Frag := PySem.W.Frag
abbrev MG := Str → Option Value
abbrev D := PyData
abbrev Env := List (Option D)
/-- an own exception: its class's name, its one field (name, value) where it has one -/
structure Exc where
  cls : Str
  fld : Option (Str × V)
inductive R (α : Type) where
  | ok (a : α) (e : Env)
  | ex (x : Exc) (e : Env)
  | st
def R.bind {α β : Type} (r : R α) (f : α → Env → R β) : R β := match r with
  | .ok a e => f a e
  | .ex x e => .ex x e
  | .st => .st
/-- a value, or the thing that an own slot holds -/
inductive Lv where
  | val (d : D)
  | plc (i : Nat)
  | own (i : Nat)
def Lv.get (l : Lv) (e : Env) : Option D := match l with
  | .val d => some d
  | .plc i => e.getD i none
  | .own _ => none
/-- what a built-in operation gives: a known or plain value; a new list; a new tuple -/
inductive NV where
  | sc (d : D)
  | nl (ds : List D)
  | nt (ds : List D)
inductive Fl where
  | nx
  | bk
  | ct
  | rt (d : D)
inductive FR where
  | ok (r : D) (outs : List D)
  | ex (x : Exc) (outs : List D)
  | st

/-- shapes of what a slot owns: fz is frozen (nobody changes it any more) -/
inductive Sh where
  | fz
  | lst (s : Sh)
  | dct (s : Sh)
  | tup (ss : List Sh)
  | ins (cn : Str) (fs : List (Str × Sh))
  | exc (a D : Addr)

def keyD : Key → D
  | .inl i => .int i
  | .inr x => .str x
abbrev ASet := Addr → Prop

inductive Own (K : Frag) (mg : MG) (G H : Hp) : Sh → V → D → ASet → Prop
  | exc {a D : Addr} {cn : Str} {S : ASet} : mg cn = some (.ref D) → Own K mg G H (.exc a D) (.ref a) (.str cn) S
  | fz {v : V} {d : D} {S : ASet} : Dp K G v d → Own K mg G H .fz v d S
  | lst {s : Sh} {p : Addr} {vs : List V} {ds : List D} {S : ASet} (Sk : Nat → ASet) : H p = some (.lst vs) → S p → vs.length = ds.length →
      (∀ k a, Sk k a → S a) → (∀ k, ¬ Sk k p) → (∀ j k a, Sk j a → Sk k a → j = k) →
      (∀ (k : Nat) v d, vs[k]? = some v → ds[k]? = some d → Own K mg G H s v d (Sk k)) → Own K mg G H (.lst s) (.ref p) (.list ds) S
  | dct {s : Sh} {p : Addr} {kvs : List (Key × V)} {kds : List (D × D)} {S : ASet} (Sk : Nat → ASet) : H p = some (.dK kvs) → S p → kvs.length = kds.length → (kvs.map (·.1)).Nodup →
      (∀ k a, Sk k a → S a) → (∀ k, ¬ Sk k p) → (∀ j k a, Sk j a → Sk k a → j = k) →
      (∀ (k : Nat) kv kd, kvs[k]? = some kv → kds[k]? = some kd → kd.1 = keyD kv.1) →
      (∀ (k : Nat) kv kd, kvs[k]? = some kv → kds[k]? = some kd → Own K mg G H s kv.2 kd.2 (Sk k)) → Own K mg G H (.dct s) (.ref p) (.dict kds) S
  | tup {ss : List Sh} {p : Addr} {vs : List V} {ds : List D} {S : ASet} (Sk : Nat → ASet) : SqT K G p vs → vs.length = ds.length → vs.length = ss.length →
      (∀ k a, Sk k a → S a) → (∀ j k a, Sk j a → Sk k a → j = k) →
      (∀ (k : Nat) s v d, ss[k]? = some s → vs[k]? = some v → ds[k]? = some d → Own K mg G H s v d (Sk k)) → Own K mg G H (.tup ss) (.ref p) (.tuple ds) S
  | ins {cn : Str} {fs : List (Str × Sh)} {C p dx : Addr} {fvs : List (Str × V)} {fds : List (D × D)} {S : ASet} (Sk : Nat → ASet) : mg cn = some (.ref C) → H p = some (.ins C dx fvs) → H dx = some (.own p) → S p → S dx →
      fvs.length = fds.length → fvs.length = fs.length →
      (∀ k a, Sk k a → S a) → (∀ k, ¬ Sk k p ∧ ¬ Sk k dx) → (∀ j k a, Sk j a → Sk k a → j = k) →
      (∀ (k : Nat) f fv fd, fs[k]? = some f → fvs[k]? = some fv → fds[k]? = some fd → f.1 = fv.1 ∧ fd.1 = .str fv.1) →
      (∀ (k : Nat) f fv fd, fs[k]? = some f → fvs[k]? = some fv → fds[k]? = some fd → Own K mg G H f.2 fv.2 fd.2 (Sk k)) → Own K mg G H (.ins cn fs) (.ref p) (.dict fds) S

section
variable {K : Frag} {mg : MG} {G G' H H' : Hp} {sh : Sh} {v : V} {d : D} {S S' : ASet}

theorem dp_ex (e : Ex G G') : ∀ (d : D) (v : V), Dp K G v d → Dp K G' v d := by
  have go : ∀ n : Nat, ∀ (d : D) (v : V), sizeOf d < n → Dp K G v d → Dp K G' v d := by
    intro n
    induction n with
    | zero => intro d v h; exact absurd h (Nat.not_lt_zero _)
    | succ n ih =>
      have all : ∀ (ds : List D) (vs : List V), sizeOf ds < n + 1 → DpAll K G vs ds → DpAll K G' vs ds := by
        intro ds
        induction ds with
        | nil =>
          intro vs _ h
          cases h
          exact .nil
        | cons d ds ih2 =>
          intro vs hz h
          have hz' : 1 + sizeOf d + sizeOf ds < n + 1 := by simpa using hz
          cases h with
          | cons h1 h2 => exact .cons (ih d _ (by omega) h1) (ih2 _ (by omega) h2)
      intro d v hz h
      cases h with
      | non => exact .non
      | bl b => exact .bl b
      | int i => exact .int i
      | str x => exact .str x
      | lst h1 h2 => exact .lst (ex_l e h1) (all _ _ (by simp at hz; omega) h2)
      | tup h1 h2 => exact .tup (ex_t e h1) (all _ _ (by simp at hz; omega) h2)
  intro d v h
  exact go (sizeOf d + 1) d v (Nat.lt_succ_self _) h
theorem dps_ex (e : Ex G G') : ∀ (ds : List D) (vs : List V), DpAll K G vs ds → DpAll K G' vs ds := by
  intro ds
  induction ds with
  | nil =>
    intro vs h
    cases h
    exact .nil
  | cons d ds ih =>
    intro vs h
    cases h with
    | cons h1 h2 => exact .cons (dp_ex e _ _ h1) (ih _ h2)
theorem dps_len : ∀ (ds : List D) (vs : List V), DpAll K G vs ds → vs.length = ds.length := by
  intro ds
  induction ds with
  | nil =>
    intro vs h
    cases h
    rfl
  | cons d ds ih =>
    intro vs h
    cases h with
    | cons h1 h2 => simp [ih _ h2]
theorem dps_at : ∀ (ds : List D) (vs : List V), DpAll K G vs ds → ∀ (k : Nat) v d, vs[k]? = some v → ds[k]? = some d → Dp K G v d := by
  intro ds
  induction ds with
  | nil =>
    intro vs h k v d h1 h2
    simp at h2
  | cons d ds ih =>
    intro vs h k v d' h1 h2
    cases h with
    | cons ha hb =>
      cases k with
      | zero =>
        simp at h1 h2
        subst h1 h2
        exact ha
      | succ k => exact ih _ hb k v d' (by simpa using h1) (by simpa using h2)
theorem dps_of : ∀ (ds : List D) (vs : List V), vs.length = ds.length → (∀ (k : Nat) v d, vs[k]? = some v → ds[k]? = some d → Dp K G v d) → DpAll K G vs ds := by
  intro ds
  induction ds with
  | nil =>
    intro vs hl _
    cases vs with
    | nil => exact .nil
    | cons => simp at hl
  | cons d ds ih =>
    intro vs hl h
    cases vs with
    | nil => simp at hl
    | cons v vs => exact .cons (h 0 v d rfl rfl) (ih vs (by simpa using hl) fun k v' d' h1 h2 => h (k + 1) v' d' (by simpa using h1) (by simpa using h2))
theorem dps_append {ds es : List D} {vs ws : List V} (h1 : DpAll K G vs ds) (h2 : DpAll K G ws es) : DpAll K G (vs ++ ws) (ds ++ es) := by
  induction ds generalizing vs with
  | nil =>
    cases h1
    exact h2
  | cons d ds ih =>
    cases h1 with
    | cons ha hb => exact .cons ha (ih hb)

theorem Own.mono (e : Ex G G') (h : Own K mg G H sh v d S) (k : ∀ a, S a → H' a = H a) : Own K mg G' H' sh v d S := by
  induction h with
  | exc h => exact .exc h
  | fz h => exact .fz (dp_ex e _ _ h)
  | lst Sk hp sp hl hs hn hd hc ih => exact .lst Sk ((k _ sp).trans hp) sp hl hs hn hd fun j v d h1 h2 => ih j v d h1 h2 fun a ha => k a (hs j a ha)
  | dct Sk hp sp hl nd hs hn hd hk hc ih => exact .dct Sk ((k _ sp).trans hp) sp hl nd hs hn hd hk fun j v d h1 h2 => ih j v d h1 h2 fun a ha => k a (hs j a ha)
  | tup Sk hp hl hl2 hs hd hc ih => exact .tup Sk (ex_t e hp) hl hl2 hs hd fun j s v d h0 h1 h2 => ih j s v d h0 h1 h2 fun a ha => k a (hs j a ha)
  | ins Sk hm hp hx sp sx hl hl2 hs hn hd hk hc ih => exact .ins Sk hm ((k _ sp).trans hp) ((k _ sx).trans hx) sp sx hl hl2 hs hn hd hk fun j f v d h0 h1 h2 => ih j f v d h0 h1 h2 fun a ha => k a (hs j a ha)

/-- an own list of frozen items -/
theorem own_lst {p : Addr} {vs : List V} {ds : List D} (hp : H p = some (.lst vs)) (sp : S p) (h : DpAll K G vs ds) : Own K mg G H (.lst .fz) (.ref p) (.list ds) S :=
  .lst (fun _ _ => False) hp sp (dps_len _ _ h) (fun _ _ z => z.elim) (fun _ z => z) (fun _ _ _ z => z.elim) fun k v d h1 h2 => .fz (dps_at _ _ h k v d h1 h2)
theorem own_lst_inv (h : Own K mg G H (.lst .fz) v d S) : ∃ p vs ds, v = .ref p ∧ d = .list ds ∧ H p = some (.lst vs) ∧ S p ∧ DpAll K G vs ds := by
  cases h with
  | lst Sk hp sp hl hs hn hd hc =>
    refine ⟨_, _, _, rfl, rfl, hp, sp, dps_of _ _ hl fun k v d h1 h2 => ?_⟩
    cases hc k v d h1 h2 with
    | fz h => exact h
theorem own_fz_inv (h : Own K mg G H .fz v d S) : Dp K G v d := by
  cases h with
  | fz h => exact h
end

/-- what is fixed through a def's body: the slots' shapes, the parameters' number and values, the heaps at the entry (frozen part, whole), what the parameters own -/
structure Ct where
  Tg : List Sh
  np : Nat
  vs0 : List V
  G0 : Hp
  H0 : Hp
  S0 : ASet
  lk : List (Nat × V)
/-- slot i is not locked -/
def lkFree (l : List (Nat × V)) (i : Nat) : Bool := l.all fun q => !(q.1 == i)
theorem lkFree_ne {l : List (Nat × V)} {i : Nat} (h : lkFree l i = true) : ∀ q, q ∈ l → q.1 ≠ i := fun q hq e => by
  unfold lkFree at h
  rw [List.all_eq_true] at h
  have := h q hq
  rw [e] at this
  simp at this

structure Good (K : Frag) (mg : MG) (C : Ct) (G H : Hp) (σ : L2.St) (e : Env) (Sg : Nat → ASet) : Prop where
  ls : σ.length = C.Tg.length
  le : e.length = C.Tg.length
  slot : ∀ (i : Nat) sh d, C.Tg[i]? = some sh → e[i]? = some (some d) → ∃ v, σ[i]? = some (some v) ∧ Own K mg G H sh v d (Sg i)
  dis : ∀ i j a, Sg i a → Sg j a → i = j
  gs : ∀ i a, Sg i a → G a = none ∧ H a ≠ none ∧ (C.H0 a = none ∨ C.S0 a)
  gh : Ex G H
  g0 : Ex C.G0 G
  fr : ∀ a o, C.H0 a = some o → ¬ C.S0 a → H a = some o
  al : ∀ a, C.H0 a ≠ none → H a ≠ none
  gn : ∀ a, G a ≠ none → C.G0 a ≠ none ∨ C.H0 a = none ∨ C.S0 a
  pin : ∀ (i : Nat) sh, i < C.np → C.Tg[i]? = some sh → sh ≠ .fz → σ[i]? = (C.vs0[i]?).map some
  par : ∀ (i : Nat) sh, i < C.np → C.Tg[i]? = some sh → sh ≠ .fz → ∃ d, e[i]? = some (some d)
  lock : ∀ q, q ∈ C.lk → σ[q.1]? = some (some q.2)

/-- an owned thing on the way: nobody else's -/
structure Lone (C : Ct) (G H : Hp) (Sg : Nat → ASet) (S : ASet) : Prop where
  own : ∀ a, S a → G a = none ∧ H a ≠ none ∧ (C.H0 a = none ∨ C.S0 a)
  apart : ∀ i a, S a → ¬ Sg i a
theorem Lone.no {C : Ct} {G H : Hp} {Sg : Nat → ASet} : Lone C G H Sg (fun _ => False) := ⟨fun _ z => z.elim, fun _ _ z => z.elim⟩

theorem ex_upd {H : Hp} {p : Addr} {o : HO} (h : H p = none) : Ex H (upd H p o) := Ex.new h
theorem get_set {α : Type} {l : List α} {i j : Nat} {x y : α} (h : (l.set i x)[j]? = some y) : (j = i ∧ y = x ∧ i < l.length) ∨ (j ≠ i ∧ l[j]? = some y) := by
  by_cases hj : j = i
  · subst hj
    by_cases hi : j < l.length
    · rw [List.getElem?_set_self hi] at h
      cases h
      exact .inl ⟨rfl, rfl, hi⟩
    · rw [List.getElem?_eq_none (by simpa using hi)] at h
      cases h
  · rw [List.getElem?_set_ne (Ne.symm hj)] at h
    exact .inr ⟨hj, h⟩

section
variable {K : Frag} {mg : MG} {C : Ct} {G G' H H' : Hp} {σ : L2.St} {e : Env} {Sg : Nat → ASet} {S : ASet} {sh : Sh} {v : V} {d : D} {p : Addr} {i : Nat}

/-- a new object, not frozen, nobody's -/
theorem Good.new (g : Good K mg C G H σ e Sg) {o : HO} (hp : H p = none) : Good K mg C G (upd H p o) σ e Sg := by
  have np : ∀ a, H a ≠ none → a ≠ p := fun a h z => h (by rw [z]; exact hp)
  refine ⟨g.ls, g.le, fun i sh d h1 h2 => ?_, g.dis, fun i a h => ?_, g.gh.trans (ex_upd hp), g.g0, fun a o h1 h2 => ?_, fun a h => ?_, g.gn, g.pin, g.par, g.lock⟩
  · obtain ⟨v, h3, h4⟩ := g.slot i sh d h1 h2
    exact ⟨v, h3, h4.mono (Ex.refl _) fun a ha => upd_ne (np a (g.gs i a ha).2.1)⟩
  · obtain ⟨h1, h2, h3⟩ := g.gs i a h
    exact ⟨h1, by rw [upd_ne (np a h2)]; exact h2, h3⟩
  · have := g.fr a o h1 h2
    rw [upd_ne (np a (by rw [this]; simp))]
    exact this
  · have := g.al a h
    rw [upd_ne (np a this)]
    exact this
/-- a new object, frozen at once -/
theorem Good.newf (g : Good K mg C G H σ e Sg) {o : HO} (hp : H p = none) : Good K mg C (upd G p o) (upd H p o) σ e Sg := by
  have gp : G p = none := by
    cases q : G p with
    | none => rfl
    | some u =>
      have := g.gh p u q
      rw [hp] at this
      cases this
  have g1 := g.new (o := o) hp
  refine ⟨g.ls, g.le, fun i sh d h1 h2 => ?_, g.dis, fun i a h => ?_, fun a u q => ?_, g.g0.trans (ex_upd gp), g1.fr, g1.al, fun a h => ?_, g.pin, g.par, g.lock⟩
  · obtain ⟨v, h3, h4⟩ := g1.slot i sh d h1 h2
    exact ⟨v, h3, h4.mono (ex_upd gp) fun _ _ => rfl⟩
  · obtain ⟨h1, h2, h3⟩ := g1.gs i a h
    refine ⟨?_, h2, h3⟩
    have : a ≠ p := fun z => (g.gs i a h).2.1 (by rw [z]; exact hp)
    rw [upd_ne this]
    exact h1
  · by_cases ha : a = p
    · subst ha
      rw [upd_same] at q ⊢
      exact q
    · rw [upd_ne ha] at q ⊢
      exact g.gh a u q
  · by_cases ha : a = p
    · subst ha
      right
      left
      cases q : C.H0 a with
      | none => rfl
      | some u => exact absurd hp (g.al a (by rw [q]; simp))
    · rw [upd_ne ha] at h
      exact g.gn a h
/-- the object of a lone thing is written -/
theorem Good.free (g : Good K mg C G H σ e Sg) (hf : C.H0 p = none ∨ C.S0 p) (hG : G p = none) (hH : H p ≠ none) (ha : ∀ i, ¬ Sg i p) {o : HO} : Good K mg C G (upd H p o) σ e Sg := by
  refine ⟨g.ls, g.le, fun i sh d h1 h2 => ?_, g.dis, fun i a h => ?_, fun a u q => ?_, g.g0, fun a u h1 h2 => ?_, fun a h => ?_, g.gn, g.pin, g.par, g.lock⟩
  · obtain ⟨v, h3, h4⟩ := g.slot i sh d h1 h2
    refine ⟨v, h3, h4.mono (Ex.refl _) fun a hh => upd_ne fun z => ?_⟩
    subst z
    exact ha i hh
  · obtain ⟨h1, h2, h3⟩ := g.gs i a h
    have z : a ≠ p := fun z => ha i (by rw [← z]; exact h)
    refine ⟨h1, ?_, h3⟩
    rw [upd_ne z]
    exact h2
  · have z : a ≠ p := fun z => by rw [z, hG] at q; cases q
    rw [upd_ne z]
    exact g.gh a u q
  · by_cases hap : a = p
    · subst hap
      rcases hf with z | z
      · rw [z] at h1; cases h1
      · exact absurd z h2
    · rw [upd_ne hap]
      exact g.fr a u h1 h2
  · by_cases hap : a = p
    · subst hap
      rw [upd_same]
      simp
    · rw [upd_ne hap]
      exact g.al a h
/-- a slot gets a value -/
theorem Good.set (g : Good K mg C G H σ e Sg) (ht : C.Tg[i]? = some sh) (hk : lkFree C.lk i = true) (hpn : C.np ≤ i ∨ sh = .fz) (hv : Own K mg G H sh v d S) (l : Lone C G H Sg S) :
    Good K mg C G H (σ.set i (some v)) (e.set i (some d)) (fun j => if j = i then S else Sg j) := by
  refine ⟨by rw [List.length_set]; exact g.ls, by rw [List.length_set]; exact g.le, fun j sh' d' h1 h2 => ?_, fun j k a h1 h2 => ?_, fun j a h => ?_, g.gh, g.g0, g.fr, g.al, g.gn, fun j sh' h1 h2 h3 => ?_, fun j sh' h1 h2 h3 => ?_, fun q hq => ?_⟩
  · by_cases hj : j = i
    · subst hj
      rw [ht] at h1
      cases h1
      have hlt : j < e.length := by rw [g.le]; exact (List.getElem?_eq_some_iff.mp ht).1
      rw [List.getElem?_set_self hlt] at h2
      cases h2
      exact ⟨v, by rw [List.getElem?_set_self (by rw [g.ls, ← g.le]; exact hlt)], by simpa using hv⟩
    · rw [List.getElem?_set_ne (Ne.symm hj)] at h2
      obtain ⟨w, h3, h4⟩ := g.slot j sh' d' h1 h2
      exact ⟨w, by rw [List.getElem?_set_ne (Ne.symm hj)]; exact h3, by simpa [hj] using h4⟩
  · by_cases hj : j = i
    · by_cases hk : k = i
      · rw [hj, hk]
      · simp only [hj, hk, if_true, if_false] at h1 h2
        exact absurd h2 (l.apart k a h1)
    · by_cases hk : k = i
      · simp only [hj, hk, if_true, if_false] at h1 h2
        exact absurd h1 (l.apart j a h2)
      · simp only [hj, hk, if_false] at h1 h2
        exact g.dis j k a h1 h2
  · by_cases hj : j = i
    · simp only [hj, if_true] at h
      exact l.own a h
    · simp only [hj, if_false] at h
      exact g.gs j a h
  · by_cases hj : j = i
    · subst hj
      rw [ht] at h2
      cases h2
      rcases hpn with z | z
      · omega
      · exact absurd z h3
    · rw [List.getElem?_set_ne (Ne.symm hj)]
      exact g.pin j sh' h1 h2 h3
  · by_cases hj : j = i
    · subst hj
      have hlt : j < e.length := by rw [g.le]; exact (List.getElem?_eq_some_iff.mp ht).1
      exact ⟨d, by rw [List.getElem?_set_self hlt]⟩
    · rw [List.getElem?_set_ne (Ne.symm hj)]
      exact g.par j sh' h1 h2 h3
  · rw [List.getElem?_set_ne (Ne.symm (lkFree_ne hk q hq))]
    exact g.lock q hq
/-- a slot is emptied -/
theorem Good.clear (g : Good K mg C G H σ e Sg) (i : Nat) (hi : C.np ≤ i ∨ C.Tg[i]? = some .fz) : Good K mg C G H σ (e.set i none) (fun j => if j = i then (fun _ => False) else Sg j) := by
  refine ⟨g.ls, by rw [List.length_set]; exact g.le, fun j sh' d' h1 h2 => ?_, fun j k a h1 h2 => ?_, fun j a h => ?_, g.gh, g.g0, g.fr, g.al, g.gn, g.pin, fun j sh' h1 h2 h3 => ?_, g.lock⟩
  · rcases get_set h2 with ⟨_, z, _⟩ | ⟨hj, h2⟩
    · cases z
    · obtain ⟨w, h3, h4⟩ := g.slot j sh' d' h1 h2
      exact ⟨w, h3, by simpa [hj] using h4⟩
  · by_cases hj : j = i
    · simp only [hj, if_true] at h1
    · by_cases hk : k = i
      · simp only [hk, if_true] at h2
      · simp only [hj, hk, if_false] at h1 h2
        exact g.dis j k a h1 h2
  · by_cases hj : j = i
    · simp only [hj, if_true] at h
    · simp only [hj, if_false] at h
      exact g.gs j a h
  · have hj : j ≠ i := by
      rintro rfl
      rcases hi with z | z
      · omega
      · rw [z] at h2
        cases h2
        exact h3 rfl
    rw [List.getElem?_set_ne (Ne.symm hj)]
    exact g.par j sh' h1 h2 h3
/-- the slots' values may be forgotten where the data are -/
theorem Good.slots (g : Good K mg C G H σ e Sg) {σ' : L2.St} (hl : σ'.length = σ.length) (h : ∀ (i : Nat) sh d, C.Tg[i]? = some sh → e[i]? = some (some d) → σ'[i]? = σ[i]?) (hp : ∀ (i : Nat) sh, i < C.np → C.Tg[i]? = some sh → sh ≠ .fz → σ'[i]? = σ[i]?) (hk : ∀ q, q ∈ C.lk → σ'[q.1]? = σ[q.1]?) : Good K mg C G H σ' e Sg :=
  ⟨hl.trans g.ls, g.le, fun i sh d h1 h2 => let ⟨v, h3, h4⟩ := g.slot i sh d h1 h2; ⟨v, (h i sh d h1 h2).trans h3, h4⟩, g.dis, g.gs, g.gh, g.g0, g.fr, g.al, g.gn, fun i sh h1 h2 h3 => (hp i sh h1 h2 h3).trans (g.pin i sh h1 h2 h3), g.par, fun q hq => (hk q hq).trans (g.lock q hq)⟩
/-- a lone thing over a new object -/
theorem Good.lone (g : Good K mg C G H σ e Sg) {o : HO} (hp : H p = none) : Lone C G (upd H p o) Sg (fun a => a = p) := by
  refine ⟨fun a z => ?_, fun i a z h => ?_⟩
  · subst z
    refine ⟨?_, by rw [upd_same]; simp, .inl ?_⟩
    · cases q : G a with
      | none => rfl
      | some u =>
        have := g.gh a u q
        rw [hp] at this
        cases this
    · cases q : C.H0 a with
      | none => rfl
      | some u => exact absurd hp (g.al a (by rw [q]; simp))
  · subst z
    exact (g.gs i a h).2.1 hp
end

/-! ### wishes about exceptions -/
def XE (mg : MG) (E : XK) (x : Exc) (H : Hp) : Prop := ∀ C, mg x.cls = some (.ref C) → match x.fld with
  | none => E (.ref C) none H
  | some (f, v) => ∀ p, H p = some (.xd [(f, v)]) → E (.ref C) (some p) H
abbrev XW (mg : MG) (W : WX) (x : Exc) (σ : L2.St) (H : Hp) : Prop := XE mg (fun c d H => W c d σ H) x H

/-! ### canonical readings -/
def Post {α : Type} (K : Frag) (mg : MG) (C : Ct) (W : WX) (G : Hp) (σ : L2.St) (r : R α) (k : α → Env → Hp → Hp → (Nat → ASet) → Prop) : Prop := match r with
  | .ok a e' => ∀ G' H' Sg', Good K mg C G' H' σ e' Sg' → Ex G G' → k a e' G' H' Sg'
  | .ex x e' => ∀ G' H' Sg', Good K mg C G' H' σ e' Sg' → Ex G G' → XW mg W x σ H'
  | .st => False
section
variable {α β : Type} {K : Frag} {mg : MG} {C : Ct} {W : WX} {G G' H : Hp} {σ : L2.St} {r : R α} {f : α → Env → R β} {k k' : α → Env → Hp → Hp → (Nat → ASet) → Prop} {q : β → Env → Hp → Hp → (Nat → ASet) → Prop}
theorem Post.mono (x : Ex G G') (h : Post K mg C W G σ r k) : Post K mg C W G' σ r k := by
  cases r with
  | ok a e => exact fun G2 H2 S2 g y => h G2 H2 S2 g (x.trans y)
  | ex a e => exact fun G2 H2 S2 g y => h G2 H2 S2 g (x.trans y)
  | st => exact h
theorem Post.imp (h : Post K mg C W G σ r k) (i : ∀ a e' G' H' Sg', r = .ok a e' → Good K mg C G' H' σ e' Sg' → Ex G G' → k a e' G' H' Sg' → k' a e' G' H' Sg') : Post K mg C W G σ r k' := by
  cases r with
  | ok a e => exact fun G2 H2 S2 g y => i a e G2 H2 S2 rfl g y (h G2 H2 S2 g y)
  | ex a e => exact h
  | st => exact h
theorem Post.bind (h : Post K mg C W G σ (r.bind f) q) : Post K mg C W G σ r fun a e' G' H' Sg' => Post K mg C W G' σ (f a e') q := by
  cases r with
  | ok a e => exact fun G2 H2 S2 g y => Post.mono y h
  | ex a e => exact h
  | st => exact h
theorem Post.out {a : α} {e' : Env} (h : Post K mg C W G σ (.ok a e') k) : ∀ G' H' Sg', Good K mg C G' H' σ e' Sg' → Ex G G' → k a e' G' H' Sg' := h
end
/-- a value's denotation -/
def RL (K : Frag) (C : Ct) (G : Hp) (σ : L2.St) (v : V) : Lv → Prop
  | .val d => Dp K G v d
  | .plc i => σ[i]? = some (some v) ∧ C.Tg[i]? = some (.lst .fz)
  | .own i => σ[i]? = some (some v) ∧ ∃ sh, C.Tg[i]? = some sh ∧ sh ≠ .fz
theorem RL.mono {K : Frag} {C : Ct} {G G' : Hp} {σ : L2.St} {v : V} {l : Lv} (x : Ex G G') (h : RL K C G σ v l) : RL K C G' σ v l := by
  cases l with
  | val d => exact dp_ex x _ _ h
  | plc i => exact h
  | own i => exact h
inductive RLs (K : Frag) (C : Ct) (G : Hp) (σ : L2.St) : List V → List Lv → Prop
  | nil : RLs K C G σ [] []
  | cons {v vs l ls} : RL K C G σ v l → RLs K C G σ vs ls → RLs K C G σ (v :: vs) (l :: ls)
theorem RLs.mono {K : Frag} {C : Ct} {G G' : Hp} {σ : L2.St} (x : Ex G G') : ∀ {vs : List V} {ls : List Lv}, RLs K C G σ vs ls → RLs K C G' σ vs ls
  | _, _, .nil => .nil
  | _, _, .cons a b => .cons (a.mono x) (b.mono x)

/-- a view of a value: frozen data, or an own list of frozen items -/
inductive Vw (K : Frag) (G H : Hp) : V → D → Prop
  | fz {v d} : Dp K G v d → Vw K G H v d
  | lst {p vs ds} : H p = some (.lst vs) → DpAll K G vs ds → Vw K G H (.ref p) (.list ds)
section
variable {K : Frag} {mg : MG} {C : Ct} {G H : Hp} {σ : L2.St} {e : Env} {Sg : Nat → ASet} {v : V} {d : D} {l : Lv}
theorem RL.view (g : Good K mg C G H σ e Sg) (h : RL K C G σ v l) (hd : l.get e = some d) : Vw K G H v d := by
  cases l with
  | val d' =>
    have z : d' = d := Option.some.inj hd
    subst z
    exact .fz h
  | plc i =>
    have hd : e.getD i none = some d := hd
    have he : e[i]? = some (some d) := by
      rw [List.getD_eq_getElem?_getD] at hd
      cases q : e[i]? with
      | none => rw [q] at hd; cases hd
      | some z => rw [q] at hd; exact congrArg some hd
    obtain ⟨w, h3, h4⟩ := g.slot i _ d h.2 he
    rw [h.1] at h3
    cases h3
    obtain ⟨p, vs, ds, rfl, rfl, hp, _, ha⟩ := own_lst_inv h4
    exact .lst hp ha
  | own i => cases hd
theorem Vw.dp (x : Ex G H) (h : Vw K G H v d) : Dp K H v d := by
  cases h with
  | fz h => exact dp_ex x _ _ h
  | lst hp ha => exact .lst (.inl (.inl hp)) (dps_ex x _ _ ha)
/-- a list or tuple, its items frozen -/
theorem Vw.lst_inv {ds : List D} (x : Ex G H) (h : Vw K G H v (.list ds)) : ∃ a vs, v = .ref a ∧ SqL K H a vs ∧ DpAll K G vs ds := by
  cases h with
  | fz h =>
    cases h with
    | lst h1 h2 => exact ⟨_, _, rfl, ex_l x h1, h2⟩
  | lst hp ha => exact ⟨_, _, rfl, .inl (.inl hp), ha⟩
theorem Vw.tup_inv {ds : List D} (x : Ex G H) (h : Vw K G H v (.tuple ds)) : ∃ a vs, v = .ref a ∧ SqT K H a vs ∧ DpAll K G vs ds := by
  cases h with
  | fz h =>
    cases h with
    | tup h1 h2 => exact ⟨_, _, rfl, ex_t x h1, h2⟩
theorem Vw.int_inv {i : Int} (h : Vw K G H v (.int i)) : v = .int i := by
  cases h with
  | fz h => cases h; rfl
theorem Vw.str_inv {x : Str} (h : Vw K G H v (.str x)) : v = .str x := by
  cases h with
  | fz h => cases h; rfl
theorem Vw.bl_inv {b : Bool} (h : Vw K G H v (.bool b)) : v = .bl b := by
  cases h with
  | fz h => cases h; rfl
theorem Vw.non_inv (h : Vw K G H v .none) : v = .non := by
  cases h with
  | fz h => cases h; rfl
end

def NVp (K : Frag) (G H : Hp) (Q : VK) : NV → Prop
  | .sc d => ∀ v, Dp K G v d → Q v H
  | .nl ds => ∀ p vs, H p = none → DpAll K G vs ds → Q (.ref p) (upd H p (.lst vs))
  | .nt ds => ∀ p vs, H p = none → DpAll K G vs ds → Q (.ref p) (upd H p (.tup vs))
def NV.d : NV → D
  | .sc d => d
  | .nl ds => .list ds
  | .nt ds => .tuple ds

/-- the canonical readings: a value; what an operation gives; a thing of one's own; a test; arguments -/
def tE (K : Frag) (mg : MG) (C : Ct) (W : WX) (c : Env → R Lv) : TE := fun σ H Q => ∃ G e Sg, Good K mg C G H σ e Sg ∧ Post K mg C W G σ (c e) fun l _ G' H' _ => ∀ v, RL K C G' σ v l → Q v H'
def tN (K : Frag) (mg : MG) (C : Ct) (W : WX) (c : Env → R NV) : TE := fun σ H Q => ∃ G e Sg, Good K mg C G H σ e Sg ∧ Post K mg C W G σ (c e) fun n _ G' H' _ => NVp K G' H' Q n
def tO (K : Frag) (mg : MG) (C : Ct) (W : WX) (sh : Sh) (c : Env → R D) : TE := fun σ H Q => ∃ G e Sg, Good K mg C G H σ e Sg ∧ Post K mg C W G σ (c e) fun d _ G' H' Sg' => ∀ v S, Own K mg G' H' sh v d S → Lone C G' H' Sg' S → Q v H'
def tT (K : Frag) (mg : MG) (C : Ct) (W : WX) (c : Env → R Bool) : TT := fun σ H Q => ∃ G e Sg, Good K mg C G H σ e Sg ∧ Post K mg C W G σ (c e) fun b _ _ H' _ => Q b H'
def tAs (K : Frag) (mg : MG) (C : Ct) (W : WX) (c : Env → R (List Lv)) : TA := fun σ H Q => ∃ G e Sg, Good K mg C G H σ e Sg ∧ Post K mg C W G σ (c e) fun ls _ G' H' _ => ∀ vs, RLs K C G' σ vs ls → Q vs H'
/-- behind a statement -/
def PostS (K : Frag) (mg : MG) (C : Ct) (W : WX) (rsh : Sh) (G : Hp) (r : R Fl) (Dn : Ends) : Prop := match r with
  | .ok fl e' => ∀ G' H' σ' Sg', Good K mg C G' H' σ' e' Sg' → Ex G G' → (match fl with
    | .nx => Dn.nx σ' H'
    | .bk => Dn.bk σ' H'
    | .ct => Dn.ct σ' H'
    | .rt d => ∀ v S, Own K mg G' H' rsh v d S → Lone C G' H' Sg' S → Dn.rt v H')
  | .ex x e' => ∀ G' H' σ' Sg', Good K mg C G' H' σ' e' Sg' → Ex G G' → XW mg W x σ' H'
  | .st => False
def tS (K : Frag) (mg : MG) (C : Ct) (W : WX) (rsh : Sh) (c : Env → R Fl) : TS := fun Dn σ H => ∃ G e Sg, Good K mg C G H σ e Sg ∧ PostS K mg C W rsh G (c e) Dn
end DL

/-! Operators over data. -/
namespace DL
open PySem PySem.Spec PyProof.Rows L2
open Evl (Ex ex_l ex_t ex_rd)

/-! ### lists that are only known to be readable -/
section
variable {X : Cx}
def rCatS (K : Frag) : R2 := fun x y H Q => ∃ l b xs zs, x = .ref l ∧ y = .ref b ∧ SqL K H l xs ∧ SqL K H b zs ∧ xs.length + zs.length ≤ sizeLine ∧ ∀ p, H p = none → Q (.ref p) (upd H p (.lst (xs ++ zs)))
theorem op_catS : OpR X (binaryOp .Add) (rCatS X.K) := by
  intro pins s σ H x y v u Q I rx ry h
  obtain ⟨l, b, xs, zs, rfl, rfl, hH, hB, hz, q⟩ := h
  cases rx
  cases ry
  obtain ⟨its, r, p1, _⟩ := I.list hH
  obtain ⟨its2, r2, p2, _⟩ := I.list hB
  have hl := r.length
  have hl2 := r2.length
  obtain ⟨⟨cls, dd, data, sl⟩, ho, hc, n, hd⟩ := p1.isList
  obtain ⟨⟨cls2, dd2, data2, sl2⟩, ho2, hc2, n2, hd2⟩ := p2.isList
  simp only at hc hd hc2 hd2
  subst hc hd hc2 hd2
  have e : its.toArray ++ its2.toArray = (its ++ its2).toArray := by simp
  refine concat_meets ⟨_, ho, rfl⟩ ⟨_, ho2, rfl⟩ noFill_list_add seq_list_add PySem.F.slot_list_add PySem.F.entry_list_add (PySem.F.args_list_add_2 _ _) (list_addW l b its.toArray its2.toArray n n2 dd dd2 sl sl2 (by simp; omega)) ⟨ho, ho2, ?_⟩
  rw [e]
  exact ⟨.ref _, _, I.lnew (t' := s.toks) (r.append r2) (by rw [List.length_append]; omega), rfl, q _ I.fresh⟩
def rRepS (K : Frag) : R2 := fun x y H Q => ∃ l k xs, x = .ref l ∧ y = .int k ∧ SqL K H l xs ∧ -(2 ^ 63) ≤ k ∧ k < 2 ^ 63 ∧ xs.length * k.toNat ≤ sizeLine ∧
  ∀ p, H p = none → Q (.ref p) (upd H p (.lst (List.replicate k.toNat xs).flatten))
theorem op_repS : OpR X (binaryOp .Mult) (rRepS X.K) := by
  intro pins s σ H x y v u Q I rx ry h
  obtain ⟨l, k, xs, rfl, rfl, hH, h1, h2, hz, q⟩ := h
  cases rx
  obtain ⟨t, rfl⟩ := ry
  obtain ⟨its, r, p1, _⟩ := I.list hH
  have hl := r.length
  obtain ⟨⟨cls, dd, data, sl⟩, ho, hc, n, hd⟩ := p1.isList
  simp only at hc hd
  subst hc hd
  have hsz' : its.toArray.size * k.toNat ≤ 2 ^ 24 := by
    have : sizeLine = 2 ^ 24 := sizeLine_eq
    rw [List.size_toArray, ← hl, ← this]
    exact hz
  refine wpAny_binaryOp_repeat_ref (T := "list") (U := "int") (by decide) ⟨_, ho, rfl⟩ (fun s' => typeIs_int s' k t) noFill_list_mul F.fills_int_mul F.slot_int_rmul repeat_list F.slot_int_index.lookup
    (call_meets F.slot_int_rmul (typeIs_int s k t) F.entry_int_rmul (F.args_int_rmul_2 _ _) (lm_int_rmul_list_any k t l its.toArray n dd sl)
      ⟨ho, rfl, ⟨_, ho, rfl⟩, call_meets F.slot_list_mul ⟨_, ho, rfl⟩ F.entry_list_mul (F.args_list_mul_2 _ _)
        (lm_list_mul_any l its.toArray n dd sl k t (by simp [Builtin.List.listFitsIndex]; omega) (by omega) (by simp [Builtin.List.listTooLong, sizeLine]; omega))
        ⟨ho, ?_⟩⟩)
  rw [listMul_foldl_if]
  exact ⟨.ref _, _, I.lnew (t' := s.toks) (r.rep k.toNat) (by rw [PyProof.Rows.lm_len_rep_flat, Nat.mul_comm]; exact hz), rfl, q _ I.fresh⟩
end

/-! ### an operation, by data -/
structure Op2 (X : Cx) (K : Frag) (fop : Value → Value → Sem Value) (f : D → D → Option NV) : Prop where
  run : ∃ r : R2, OpR X fop r ∧ ∀ (G H : Hp) (x y : V) (dx dy : D) (nv : NV) (Q : VK), Ex G H → Vw K G H x dx → Vw K G H y dy → f dx dy = some nv → NVp K G H Q nv → r x y H Q
theorem dp_nv {K : Frag} {G H : Hp} {Q : VK} {d : D} {v : V} (h : NVp K G H Q (.sc d)) (hd : Dp K G v d) : Q v H := h v hd

def small (i : Int) : Bool := decide (-(2 ^ 64) < i) && decide (i < 2 ^ 64)
theorem small_iff {i : Int} : small i = true ↔ (-(2 ^ 64) < i ∧ i < 2 ^ 64) := by
  unfold small
  simp [Bool.and_eq_true]
def fits (n : Nat) : Bool := decide (n ≤ sizeLine)
theorem fits_iff {n : Nat} : fits n = true ↔ n ≤ sizeLine := by
  unfold fits
  simp

def dAdd : D → D → Option NV
  | .int i, .int j => some (.sc (.int (i + j)))
  | .str a, .str b => if fits (a.length + b.length) = true then some (.sc (.str (a ++ b))) else none
  | .list a, .list b => if fits (a.length + b.length) = true then some (.nl (a ++ b)) else none
  | .tuple a, .tuple b => if fits (a.length + b.length) = true then (if a = [] then some (.sc (.tuple b)) else if b = [] then some (.sc (.tuple a)) else some (.nt (a ++ b))) else none
  | _, _ => none
def dSub : D → D → Option NV
  | .int i, .int j => some (.sc (.int (i - j)))
  | _, _ => none
def dMul : D → D → Option NV
  | .int i, .int j => if (small i || small j) = true then some (.sc (.int (i * j))) else none
  | .list a, .int k => if (decide (-(2 ^ 63) ≤ k) && decide (k < 2 ^ 63) && fits (a.length * k.toNat)) = true then some (.nl (List.replicate k.toNat a).flatten) else none
  | _, _ => none
def dDiv : D → D → Option NV
  | .int i, .int j => if (decide (0 < j) && decide (j < 1073741824)) = true then some (.sc (.int (i / j))) else none
  | _, _ => none
def dMod : D → D → Option NV
  | .int i, .int j => if decide (0 < j) = true then some (.sc (.int (i % j))) else none
  | _, _ => none
def dPow : D → D → Option NV
  | .int i, .int j => if (decide (0 ≤ j) && decide (j ≤ 1000) && decide (i.natAbs < 2 ^ 64)) = true then some (.sc (.int (i ^ j.toNat))) else none
  | _, _ => none
def dXor : D → D → Option NV
  | .int i, .int j => some (.sc (.int (Builtin.bitXor i j)))
  | _, _ => none
def dShaped (d : D) : Bool := d.plain && decide (d.depth ≤ 64)
def dEq : D → D → Option NV
  | .int i, .int j => some (.sc (.bool (decide (i = j))))
  | .str i, .str j => some (.sc (.bool (decide (i = j))))
  | x, y => if (dShaped x && dShaped y) = true then some (.sc (.bool (PyData.eqv x y))) else none
def dNe : D → D → Option NV
  | .int i, .int j => some (.sc (.bool (!decide (i = j))))
  | .str i, .str j => some (.sc (.bool (!decide (i = j))))
  | x, y => if (dShaped x && dShaped y) = true then some (.sc (.bool (!PyData.eqv x y))) else none
def dLt : D → D → Option NV
  | .int i, .int j => some (.sc (.bool (decide (i < j))))
  | .str i, .str j => some (.sc (.bool (decide (i.cps.toList < j.cps.toList))))
  | _, _ => none
def dLe : D → D → Option NV
  | .int i, .int j => some (.sc (.bool (decide (i ≤ j))))
  | _, _ => none
def dGt : D → D → Option NV
  | .int i, .int j => some (.sc (.bool (decide (j < i))))
  | _, _ => none
def dGe : D → D → Option NV
  | .int i, .int j => some (.sc (.bool (decide (j ≤ i))))
  | _, _ => none
def isNone : D → Bool
  | .none => true
  | _ => false
def dIs : D → D → Option NV
  | x, .none => some (.sc (.bool (isNone x)))
  | .bool a, .bool b => some (.sc (.bool (a == b)))
  | _, _ => none
def dIsNot : D → D → Option NV
  | x, .none => some (.sc (.bool (!isNone x)))
  | .bool a, .bool b => some (.sc (.bool (!(a == b))))
  | _, _ => none
/-- x in a list (any data), in a tuple of scalars, a sign or text in a text -/
def inL (x : D) (ds : List D) : Bool := ds.any fun z => PyData.eqv z x
def inS (x z : Str) : Bool := !(Builtin.Str.occurrences z x 0 z.length 1).isEmpty
def dIn : D → D → Option NV
  | .str x, .str z => some (.sc (.bool (inS x z)))
  | x, .list ds => if (dShaped x && dShaped (.list ds)) = true then some (.sc (.bool (inL x ds))) else none
  | x, .tuple ds => if (dShaped x && dShaped (.tuple ds)) = true then some (.sc (.bool (inL x ds))) else none
  | _, _ => none
def dNotIn : D → D → Option NV
  | .str x, .str z => some (.sc (.bool (!inS x z)))
  | x, .list ds => if (dShaped x && dShaped (.list ds)) = true then some (.sc (.bool (!inL x ds))) else none
  | x, .tuple ds => if (dShaped x && dShaped (.tuple ds)) = true then some (.sc (.bool (!inL x ds))) else none
  | _, _ => none

section
variable {X : Cx}
theorem vals_nil_iff {K : Frag} {G : Hp} {vs : List V} {ds : List D} (h : DpAll K G vs ds) : vs = [] ↔ ds = [] := by
  have := dps_len _ _ h
  constructor
  · rintro rfl
    exact List.length_eq_zero_iff.mp this.symm
  · rintro rfl
    exact List.length_eq_zero_iff.mp this
theorem op2_add : Op2 X X.K (binaryOp .Add) dAdd := by
  refine ⟨_, ((op_add.or op_add_str).or op_catS).or op_catA, ?_⟩
  intro G H x y dx dy nv Q xg hx hy hf hq
  unfold dAdd at hf
  split at hf
  · cases hf
    rw [hx.int_inv, hy.int_inv]
    exact .inl (.inl (.inl ⟨_, _, rfl, rfl, hq _ (.int _)⟩))
  · split at hf
    · rename_i hz
      cases hf
      rw [hx.str_inv, hy.str_inv]
      exact .inl (.inl (.inr ⟨_, _, rfl, rfl, fits_iff.mp hz, hq _ (.str _)⟩))
    · cases hf
  · split at hf
    · rename_i hz
      cases hf
      obtain ⟨a, vs, rfl, h1, h2⟩ := hx.lst_inv xg
      obtain ⟨b, ws, rfl, h3, h4⟩ := hy.lst_inv xg
      have e1 := dps_len _ _ h2
      have e2 := dps_len _ _ h4
      exact .inl (.inr ⟨a, b, vs, ws, rfl, rfl, h1, h3, by rw [e1, e2]; exact fits_iff.mp hz, fun p hp => hq p _ hp (dps_append h2 h4)⟩)
    · cases hf
  · split at hf
    · rename_i hz
      obtain ⟨a, vs, rfl, h1, h2⟩ := hx.tup_inv xg
      obtain ⟨b, ws, rfl, h3, h4⟩ := hy.tup_inv xg
      have e1 := dps_len _ _ h2
      have e2 := dps_len _ _ h4
      refine .inr ⟨a, b, vs, ws, rfl, rfl, h1, h3, by rw [e1, e2]; exact fits_iff.mp hz, fun z => ?_, fun z z2 => ?_, fun z z2 p hp => ?_⟩
      · rw [if_pos ((vals_nil_iff h2).mp z)] at hf
        cases hf
        cases hy with
        | fz hd => exact hq _ hd
      · rw [if_neg fun q => z ((vals_nil_iff h2).mpr q), if_pos ((vals_nil_iff h4).mp z2)] at hf
        cases hf
        cases hx with
        | fz hd => exact hq _ hd
      · rw [if_neg fun q => z ((vals_nil_iff h2).mpr q), if_neg fun q => z2 ((vals_nil_iff h4).mpr q)] at hf
        cases hf
        exact hq p _ hp (dps_append h2 h4)
    · cases hf
  · cases hf
theorem op2_sub : Op2 X X.K (binaryOp .Sub) dSub := by
  refine ⟨_, op_sub, ?_⟩
  intro G H x y dx dy nv Q xg hx hy hf hq
  unfold dSub at hf
  split at hf
  · cases hf
    rw [hx.int_inv, hy.int_inv]
    exact ⟨_, _, rfl, rfl, hq _ (.int _)⟩
  · cases hf
theorem dps_rep {K : Frag} {G : Hp} {vs : List V} {ds : List D} (h : DpAll K G vs ds) : ∀ k : Nat, DpAll K G (List.replicate k vs).flatten (List.replicate k ds).flatten
  | 0 => .nil
  | k + 1 => by
    rw [List.replicate_succ, List.replicate_succ, List.flatten_cons, List.flatten_cons]
    exact dps_append h (dps_rep h k)
theorem op2_mul : Op2 X X.K (binaryOp .Mult) dMul := by
  refine ⟨_, op_mul.or op_repS, ?_⟩
  intro G H x y dx dy nv Q xg hx hy hf hq
  unfold dMul at hf
  split at hf
  · split at hf
    · rename_i hz
      cases hf
      rw [hx.int_inv, hy.int_inv]
      refine .inl ⟨_, _, rfl, rfl, ?_, hq _ (.int _)⟩
      rw [Bool.or_eq_true] at hz
      exact hz.imp small_iff.mp small_iff.mp
    · cases hf
  · split at hf
    · rename_i hz
      cases hf
      simp only [Bool.and_eq_true, decide_eq_true_eq] at hz
      obtain ⟨a, vs, rfl, h1, h2⟩ := hx.lst_inv xg
      rw [hy.int_inv]
      exact .inr ⟨a, _, vs, rfl, rfl, h1, hz.1.1, hz.1.2, by rw [dps_len _ _ h2]; exact fits_iff.mp hz.2, fun p hp => hq p _ hp (dps_rep h2 _)⟩
    · cases hf
  · cases hf
theorem op2_div : Op2 X X.K (binaryOp .FloorDiv) dDiv := by
  refine ⟨_, op_fdiv, ?_⟩
  intro G H x y dx dy nv Q xg hx hy hf hq
  unfold dDiv at hf
  split at hf
  · split at hf
    · rename_i hz
      cases hf
      simp only [Bool.and_eq_true, decide_eq_true_eq] at hz
      rw [hx.int_inv, hy.int_inv]
      exact ⟨_, _, rfl, rfl, hz, hq _ (.int _)⟩
    · cases hf
  · cases hf
theorem op2_mod : Op2 X X.K (binaryOp .Mod) dMod := by
  refine ⟨_, op_mod, ?_⟩
  intro G H x y dx dy nv Q xg hx hy hf hq
  unfold dMod at hf
  split at hf
  · split at hf
    · rename_i hz
      cases hf
      simp only [decide_eq_true_eq] at hz
      rw [hx.int_inv, hy.int_inv]
      exact ⟨_, _, rfl, rfl, hz, hq _ (.int _)⟩
    · cases hf
  · cases hf
theorem op2_pow : Op2 X X.K (binaryOp .Pow) dPow := by
  refine ⟨_, op_pow, ?_⟩
  intro G H x y dx dy nv Q xg hx hy hf hq
  unfold dPow at hf
  split at hf
  · split at hf
    · rename_i hz
      cases hf
      simp only [Bool.and_eq_true, decide_eq_true_eq] at hz
      rw [hx.int_inv, hy.int_inv]
      exact ⟨_, _, rfl, rfl, ⟨hz.1.1, by omega, hz.2⟩, hq _ (.int _)⟩
    · cases hf
  · cases hf
theorem op2_xor : Op2 X X.K (binaryOp .BitXor) dXor := by
  refine ⟨_, op_xor, ?_⟩
  intro G H x y dx dy nv Q xg hx hy hf hq
  unfold dXor at hf
  split at hf
  · cases hf
    rw [hx.int_inv, hy.int_inv]
    exact ⟨_, _, rfl, rfl, hq _ (.int _)⟩
  · cases hf
theorem beq_int {i j : Int} : (i == j) = decide (i = j) := by
  rw [Bool.eq_iff_iff]
  simp
theorem beq_str {i j : Str} : (i == j) = decide (i = j) := by
  rw [Bool.eq_iff_iff]
  simp
theorem shp_d {d : D} (h : dShaped d = true) : d.plain = true ∧ d.depth ≤ 64 := by
  unfold dShaped at h
  rw [Bool.and_eq_true, decide_eq_true_eq] at h
  exact h
def rEqQ (K : Frag) (k : Bool) : R2 := fun x y H Q => ∃ d e, Dp K H x d ∧ Dp K H y e ∧ dShaped d = true ∧ dShaped e = true ∧ Q (.bl (if k then PyData.eqv d e else !PyData.eqv d e)) H
theorem op_eqQ (hu : X.A.units + 64 < cLine) : OpR X (compareOp .Eq) (rEqQ X.K true) := by
  intro pins s σ H x y v u Q I rx ry h
  obtain ⟨d, e, hd, he, sd, se, q⟩ := h
  obtain ⟨as, r1⟩ := Dp.reads I d x v hd rx
  obtain ⟨bs, r2⟩ := Dp.reads I e y u he ry
  have h1 : min d.depth e.depth ≤ d.depth := Nat.min_le_left _ _
  have h2 := (shp_d sd).2
  exact SeqAt.eq_plain r1 r2 (shp_d sd).1 (shp_d se).1 (by omega) ⟨.bl _, H, I, rfl, q⟩
theorem op_neQ (hu : X.A.units + 64 < cLine) : OpR X (compareOp .NotEq) (rEqQ X.K false) := by
  intro pins s σ H x y v u Q I rx ry h
  obtain ⟨d, e, hd, he, sd, se, q⟩ := h
  obtain ⟨as, r1⟩ := Dp.reads I d x v hd rx
  obtain ⟨bs, r2⟩ := Dp.reads I e y u he ry
  have h1 : min d.depth e.depth ≤ d.depth := Nat.min_le_left _ _
  have h2 := (shp_d sd).2
  exact SeqAt.ne_plain r1 r2 (shp_d sd).1 (shp_d se).1 (by omega) ⟨.bl _, H, I, rfl, q⟩
theorem op2_eq (hu : X.A.units + 64 < cLine) : Op2 X X.K (compareOp .Eq) dEq := by
  refine ⟨_, op_eq.or (op_eqQ hu), ?_⟩
  intro G H x y dx dy nv Q xg hx hy hf hq
  have gen : ∀ {dx dy : D}, Vw X.K G H x dx → Vw X.K G H y dy → dShaped dx = true → dShaped dy = true → Q (.bl (PyData.eqv dx dy)) H → rEqQ X.K true x y H Q :=
    fun h1 h2 h3 h4 h5 => ⟨_, _, h1.dp xg, h2.dp xg, h3, h4, h5⟩
  unfold dEq at hf
  split at hf
  · cases hf
    rw [hx.int_inv, hy.int_inv]
    refine .inl ⟨rfl, ?_⟩
    rw [dec_int, beq_int]
    exact hq _ (.bl _)
  · cases hf
    rw [hx.str_inv, hy.str_inv]
    refine .inl ⟨rfl, ?_⟩
    rw [dec_str, beq_str]
    exact hq _ (.bl _)
  · split at hf
    · rename_i hz
      cases hf
      rw [Bool.and_eq_true] at hz
      exact .inr (gen hx hy hz.1 hz.2 (hq _ (.bl _)))
    · cases hf
theorem op2_ne (hu : X.A.units + 64 < cLine) : Op2 X X.K (compareOp .NotEq) dNe := by
  refine ⟨_, op_ne.or (op_neQ hu), ?_⟩
  intro G H x y dx dy nv Q xg hx hy hf hq
  have gen : ∀ {dx dy : D}, Vw X.K G H x dx → Vw X.K G H y dy → dShaped dx = true → dShaped dy = true → Q (.bl (!PyData.eqv dx dy)) H → rEqQ X.K false x y H Q :=
    fun h1 h2 h3 h4 h5 => ⟨_, _, h1.dp xg, h2.dp xg, h3, h4, h5⟩
  unfold dNe at hf
  split at hf
  · cases hf
    rw [hx.int_inv, hy.int_inv]
    refine .inl ⟨rfl, ?_⟩
    rw [dec_int, beq_int]
    exact hq _ (.bl _)
  · cases hf
    rw [hx.str_inv, hy.str_inv]
    refine .inl ⟨rfl, ?_⟩
    rw [dec_str, beq_str]
    exact hq _ (.bl _)
  · split at hf
    · rename_i hz
      cases hf
      rw [Bool.and_eq_true] at hz
      exact .inr (gen hx hy hz.1 hz.2 (hq _ (.bl _)))
    · cases hf
theorem op2_lt : Op2 X X.K (compareOp .Lt) dLt := by
  refine ⟨_, op_lt.or op_lt_str, ?_⟩
  intro G H x y dx dy nv Q xg hx hy hf hq
  unfold dLt at hf
  split at hf
  · cases hf
    rw [hx.int_inv, hy.int_inv]
    exact .inl ⟨_, _, rfl, rfl, hq _ (.bl _)⟩
  · cases hf
    rw [hx.str_inv, hy.str_inv]
    exact .inr ⟨_, _, rfl, rfl, hq _ (.bl _)⟩
  · cases hf
theorem op2_le : Op2 X X.K (compareOp .LtE) dLe := by
  refine ⟨_, op_le, ?_⟩
  intro G H x y dx dy nv Q xg hx hy hf hq
  unfold dLe at hf
  split at hf
  · cases hf
    rw [hx.int_inv, hy.int_inv]
    exact ⟨_, _, rfl, rfl, hq _ (.bl _)⟩
  · cases hf
theorem op2_gt : Op2 X X.K (compareOp .Gt) dGt := by
  refine ⟨_, op_gt, ?_⟩
  intro G H x y dx dy nv Q xg hx hy hf hq
  unfold dGt at hf
  split at hf
  · cases hf
    rw [hx.int_inv, hy.int_inv]
    exact ⟨_, _, rfl, rfl, hq _ (.bl _)⟩
  · cases hf
theorem op2_ge : Op2 X X.K (compareOp .GtE) dGe := by
  refine ⟨_, op_ge, ?_⟩
  intro G H x y dx dy nv Q xg hx hy hf hq
  unfold dGe at hf
  split at hf
  · cases hf
    rw [hx.int_inv, hy.int_inv]
    exact ⟨_, _, rfl, rfl, hq _ (.bl _)⟩
  · cases hf
theorem isNone_dec {K : Frag} {G H : Hp} {v : V} {d : D} (h : Vw K G H v d) : decide (v = .non) = isNone d := by
  cases h with
  | fz h => cases h <;> simp [isNone]
  | lst hp ha => simp [isNone]
theorem op2_is : Op2 X X.K (compareOp .Is) dIs := by
  refine ⟨_, op_isN.or op_is_bl, ?_⟩
  intro G H x y dx dy nv Q xg hx hy hf hq
  unfold dIs at hf
  split at hf
  · cases hf
    refine .inl ⟨hy.non_inv, ?_⟩
    rw [isNone_dec hx]
    exact hq _ (.bl _)
  · cases hf
    rw [hx.bl_inv, hy.bl_inv]
    refine .inr ⟨_, _, rfl, rfl, ?_⟩
    have e : ∀ a b : Bool, decide (a = b) = (a == b) := by decide
    rw [e]
    exact hq _ (.bl _)
  · cases hf
theorem op2_isNot : Op2 X X.K (compareOp .IsNot) dIsNot := by
  refine ⟨_, op_notN.or op_isnot_bl, ?_⟩
  intro G H x y dx dy nv Q xg hx hy hf hq
  unfold dIsNot at hf
  split at hf
  · cases hf
    refine .inl ⟨hy.non_inv, ?_⟩
    rw [isNone_dec hx]
    exact hq _ (.bl _)
  · cases hf
    rw [hx.bl_inv, hy.bl_inv]
    refine .inr ⟨_, _, rfl, rfl, ?_⟩
    have e : ∀ a b : Bool, (!decide (a = b)) = (!(a == b)) := by decide
    rw [e]
    exact hq _ (.bl _)
  · cases hf
theorem pl_list {ds : List D} (h : dShaped (.list ds) = true) : PyData.plainAll ds = true := by have := (shp_d h).1; simpa [PyData.plain] using this
theorem pl_tup {ds : List D} (h : dShaped (.tuple ds) = true) : PyData.plainAll ds = true := by have := (shp_d h).1; simpa [PyData.plain] using this
theorem rm_in {d : D} {n : Nat} (sd : dShaped d = true) (hu : X.A.units + 65 < cLine) : X.A.units + 1 + min n d.depth < cLine := by
  have h1 : min n d.depth ≤ d.depth := Nat.min_le_right _ _
  have h2 := (shp_d sd).2
  omega
def rInT (K : Frag) (k : Bool) : R2 := fun x y H Q => ∃ d ds, Dp K H x d ∧ Dp K H y (.tuple ds) ∧ dShaped d = true ∧ dShaped (.tuple ds) = true ∧ Q (.bl (if k then (ds.any fun z => PyData.eqv z d) else !ds.any fun z => PyData.eqv z d)) H
theorem op_inT (hu : X.A.units + 65 < cLine) : OpR X (compareOp .In) (rInT X.K true) := by
  intro pins s σ H x y v u Q I rx ry h
  obtain ⟨d, ds, hd, he, sd, se, q⟩ := h
  obtain ⟨as, r1⟩ := Dp.reads I d x v hd rx
  obtain ⟨bs, r2⟩ := Dp.reads I (.tuple ds) y u he ry
  exact SeqAt.in_tuple_data r2 r1 (pl_tup se) (shp_d sd).1 (rm_in sd hu) ⟨.bl _, H, I, rfl, q⟩
theorem op_notInT (hu : X.A.units + 65 < cLine) : OpR X (compareOp .NotIn) (rInT X.K false) := by
  intro pins s σ H x y v u Q I rx ry h
  obtain ⟨d, ds, hd, he, sd, se, q⟩ := h
  obtain ⟨as, r1⟩ := Dp.reads I d x v hd rx
  obtain ⟨bs, r2⟩ := Dp.reads I (.tuple ds) y u he ry
  exact SeqAt.notIn_tuple_data r2 r1 (pl_tup se) (shp_d sd).1 (rm_in sd hu) ⟨.bl _, H, I, rfl, q⟩
def rInQ (K : Frag) (k : Bool) : R2 := fun x y H Q => ∃ d ds, Dp K H x d ∧ Dp K H y (.list ds) ∧ dShaped d = true ∧ dShaped (.list ds) = true ∧ Q (.bl (if k then (ds.any fun z => PyData.eqv z d) else !ds.any fun z => PyData.eqv z d)) H
theorem op_inQ (hu : X.A.units + 65 < cLine) : OpR X (compareOp .In) (rInQ X.K true) := by
  intro pins s σ H x y v u Q I rx ry h
  obtain ⟨d, ds, hd, he, sd, se, q⟩ := h
  obtain ⟨as, r1⟩ := Dp.reads I d x v hd rx
  obtain ⟨bs, r2⟩ := Dp.reads I (.list ds) y u he ry
  exact SeqAt.in_list_data r2 r1 (pl_list se) (shp_d sd).1 (rm_in sd hu) ⟨.bl _, H, I, rfl, q⟩
theorem op_notInQ (hu : X.A.units + 65 < cLine) : OpR X (compareOp .NotIn) (rInQ X.K false) := by
  intro pins s σ H x y v u Q I rx ry h
  obtain ⟨d, ds, hd, he, sd, se, q⟩ := h
  obtain ⟨as, r1⟩ := Dp.reads I d x v hd rx
  obtain ⟨bs, r2⟩ := Dp.reads I (.list ds) y u he ry
  exact SeqAt.notIn_list_data r2 r1 (pl_list se) (shp_d sd).1 (rm_in sd hu) ⟨.bl _, H, I, rfl, q⟩
theorem op2_in (hu : X.A.units + 65 < cLine) : Op2 X X.K (compareOp .In) dIn := by
  refine ⟨_, (op_in_str.or (op_inQ hu)).or (op_inT hu), ?_⟩
  intro G H x y dx dy nv Q xg hx hy hf hq
  unfold dIn at hf
  split at hf
  · cases hf
    rw [hx.str_inv, hy.str_inv]
    exact .inl (.inl ⟨_, _, rfl, rfl, hq _ (.bl _)⟩)
  · split at hf
    · rename_i hz
      cases hf
      rw [Bool.and_eq_true] at hz
      exact .inl (.inr ⟨_, _, hx.dp xg, hy.dp xg, hz.1, hz.2, hq _ (.bl _)⟩)
    · cases hf
  · split at hf
    · rename_i hz
      cases hf
      rw [Bool.and_eq_true] at hz
      exact .inr ⟨_, _, hx.dp xg, hy.dp xg, hz.1, hz.2, hq _ (.bl _)⟩
    · cases hf
  · cases hf
theorem op2_notIn (hu : X.A.units + 65 < cLine) : Op2 X X.K (compareOp .NotIn) dNotIn := by
  refine ⟨_, (op_notin_str.or (op_notInQ hu)).or (op_notInT hu), ?_⟩
  intro G H x y dx dy nv Q xg hx hy hf hq
  unfold dNotIn at hf
  split at hf
  · cases hf
    rw [hx.str_inv, hy.str_inv]
    exact .inl (.inl ⟨_, _, rfl, rfl, hq _ (.bl _)⟩)
  · split at hf
    · rename_i hz
      cases hf
      rw [Bool.and_eq_true] at hz
      exact .inl (.inr ⟨_, _, hx.dp xg, hy.dp xg, hz.1, hz.2, hq _ (.bl _)⟩)
    · cases hf
  · split at hf
    · rename_i hz
      cases hf
      rw [Bool.and_eq_true] at hz
      exact .inr ⟨_, _, hx.dp xg, hy.dp xg, hz.1, hz.2, hq _ (.bl _)⟩
    · cases hf
  · cases hf
end
end DL

/-! Expressions, tests, displays, built-in calls over data. -/
namespace DL
open PySem PySem.Spec PyProof.Rows L2
open Evl (Ex ex_l ex_t ex_rd)

section
variable {X : Cx}
theorem PE.to {e : Expr} {t t' : TE} (h : PE X e t) (i : ∀ σ H Q, t' σ H Q → t σ H Q) : PE X e t' := ⟨fun pins s σ H Q I q => h.run pins s σ H Q I (i σ H Q q)⟩
theorem PT.to {e : Expr} {t t' : TT} (h : PT X e t) (i : ∀ σ H Q, t' σ H Q → t σ H Q) : PT X e t' := ⟨fun pins s σ H Q I q => h.run pins s σ H Q I (i σ H Q q)⟩
theorem PW.to {e : Expr} {t t' : TT} (h : PW X e t) (i : ∀ σ H Q, t' σ H Q → t σ H Q) : PW X e t' := ⟨fun w pins s σ H Q I q => h.run w pins s σ H Q I (i σ H Q q)⟩
theorem PA.to {e : List Expr} {t t' : TA} (h : PA X e t) (i : ∀ σ H Q, t' σ H Q → t σ H Q) : PA X e t' := ⟨fun pos pins s σ H Q I q => h.run pos pins s σ H Q I (i σ H Q q)⟩
theorem PS.to {e : Stmt} {t t' : TS} (h : PS X e t) (i : ∀ Dn σ H, t' Dn σ H → t Dn σ H) : PS X e t' := ⟨fun pins s σ H D I q => h.run pins s σ H D I (i D σ H q)⟩
theorem PSs.to {e : List Stmt} {t t' : TS} (h : PSs X e t) (i : ∀ Dn σ H, t' Dn σ H → t Dn σ H) : PSs X e t' := ⟨fun pins s σ H D I q => h.run pins s σ H D I (i D σ H q)⟩
end

/-! ### combinators -/
def ofO {α : Type} (o : Option α) (e : Env) : R α := match o with
  | some a => .ok a e
  | none => .st
def cK (d : D) : Env → R Lv := fun e => .ok (.val d) e
def cVar (i : Nat) : Env → R Lv := fun e => match e.getD i none with
  | some d => .ok (.val d) e
  | none => .st
def cPlc (i : Nat) : Env → R Lv := fun e => match e.getD i none with
  | some _ => .ok (.plc i) e
  | none => .st
def c2 (f : D → D → Option NV) (a b : Env → R Lv) : Env → R NV := fun e => (a e).bind fun l e1 => (b e1).bind fun m e2 => ofO ((l.get e2).bind fun x => (m.get e2).bind fun y => f x y) e2
/-- what an operation gave, frozen; kept as one's own -/
def cFrz (c : Env → R NV) : Env → R Lv := fun e => (c e).bind fun n e1 => .ok (.val n.d) e1
def cOwn (c : Env → R NV) : Env → R D := fun e => (c e).bind fun n e1 => match n with
  | .nl ds => .ok (.list ds) e1
  | _ => .st
/-- one's own list, frozen -/
def cMelt (c : Env → R D) : Env → R Lv := fun e => (c e).bind fun d e1 => .ok (.val d) e1
def dTru : D → Option Bool
  | .none => some false
  | .bool b => some b
  | .int i => some (i != 0)
  | .str x => if fits x.length = true then some ((x.length : Int) != 0) else none
  | .list ds => some (!ds.isEmpty)
  | .tuple ds => some (!ds.isEmpty)
  | .dict _ => none
def dBool : D → Option Bool
  | .bool b => some b
  | _ => none
def cTru (c : Env → R Lv) : Env → R Bool := fun e => (c e).bind fun l e1 => ofO ((l.get e1).bind dTru) e1
def cTst (c : Env → R NV) : Env → R Bool := fun e => (c e).bind fun n e1 => ofO (dBool n.d) e1
def cAnd (a b : Env → R Bool) : Env → R Bool := fun e => (a e).bind fun t e1 => match t with
  | true => b e1
  | false => .ok false e1
def cOr (a b : Env → R Bool) : Env → R Bool := fun e => (a e).bind fun t e1 => match t with
  | true => .ok true e1
  | false => b e1
def cNot (a : Env → R Bool) : Env → R Bool := fun e => (a e).bind fun t e1 => .ok (!t) e1
def cIf {α : Type} (t : Env → R Bool) (a b : Env → R α) : Env → R α := fun e => (t e).bind fun k e1 => match k with
  | true => a e1
  | false => b e1
def cAndV (a b : Env → R Lv) : Env → R Lv := fun e => (a e).bind fun l e1 => match l with
  | .val (.bool true) => b e1
  | .val (.bool false) => .ok (.val (.bool false)) e1
  | _ => .st
def cOrV (a b : Env → R Lv) : Env → R Lv := fun e => (a e).bind fun l e1 => match l with
  | .val (.bool true) => .ok (.val (.bool true)) e1
  | .val (.bool false) => b e1
  | _ => .st
def cNotV (a : Env → R Lv) : Env → R Lv := fun e => (a e).bind fun l e1 => match l with
  | .val (.bool t) => .ok (.val (.bool (!t))) e1
  | _ => .st
def vals : List Lv → Option (List D)
  | [] => some []
  | .val d :: r => (vals r).map (d :: ·)
  | .plc _ :: _ => none
  | .own _ :: _ => none
def gets : List Lv → Env → Option (List D)
  | [], _ => some []
  | l :: r, e => (l.get e).bind fun d => (gets r e).map (d :: ·)
def cNil : Env → R (List Lv) := fun e => .ok [] e
def cCons (a : Env → R Lv) (r : Env → R (List Lv)) : Env → R (List Lv) := fun e => (a e).bind fun l e1 => (r e1).bind fun ls e2 => .ok (l :: ls) e2
def cLst (a : Env → R (List Lv)) : Env → R NV := fun e => (a e).bind fun ls e1 => ofO ((vals ls).bind fun ds => if fits ds.length = true then some (.nl ds) else none) e1
def cTup (a : Env → R (List Lv)) : Env → R NV := fun e => (a e).bind fun ls e1 => ofO ((vals ls).bind fun ds => if fits ds.length = true then some (.nt ds) else none) e1
/-- a built-in's call -/
def cB (g : List D → Option NV) (a : Env → R (List Lv)) : Env → R NV := fun e => (a e).bind fun ls e1 => ofO ((gets ls e1).bind g) e1
/-- a built-in's method -/
def cM (g : D → List D → Option NV) (o : Env → R Lv) (a : Env → R (List Lv)) : Env → R NV := fun e => (o e).bind fun l e1 => (a e1).bind fun ls e2 => ofO ((l.get e2).bind fun x => (gets ls e2).bind fun ds => g x ds) e2
def dIx : D → D → Option NV
  | .list ds, .int i => (atI ds i).map .sc
  | .tuple ds, .int i => (atI ds i).map .sc
  | .str z, .int i => if fits z.length = true then (atI z.cps.toList i).map fun c => .sc (.str ⟨#[c]⟩) else none
  | _, _ => none
def dCut {α : Type} (xs : List α) (lo hi : Option Int) : List α := (xs.drop (HT.sIx xs.length 0 lo)).take (HT.sIx xs.length xs.length hi - HT.sIx xs.length 0 lo)
def dSl : D → Option Int → Option Int → Option NV
  | .list ds, lo, hi => some (.nl (dCut ds lo hi))
  | .tuple ds, lo, hi => if (decide (HT.sIx ds.length 0 lo = 0) && decide (HT.sIx ds.length ds.length hi = ds.length)) = true then none else some (.nt (dCut ds lo hi))
  | .str z, lo, hi => if fits z.length = true then some (.sc (.str (cutS z lo hi))) else none
  | _, _, _ => none
def dInt : D → Option Int
  | .int i => some i
  | _ => none
def cPartN : Env → R (Option Int) := fun e => .ok none e
def cPart (c : Env → R Lv) : Env → R (Option Int) := fun e => (c e).bind fun l e1 => ofO ((l.get e1).bind fun d => (dInt d).map some) e1
def cSl (o : Env → R Lv) (lo hi : Env → R (Option Int)) : Env → R NV := fun e => (o e).bind fun l e1 => (lo e1).bind fun x e2 => (hi e2).bind fun y e3 => ofO ((l.get e3).bind fun d => dSl d x y) e3

/-! ### soundness -/
section
variable {X : Cx} {K : Frag} {mg : MG} {C : Ct} {W : WX}
theorem Post.ofO {α : Type} {G : Hp} {σ : L2.St} {o : Option α} {e : Env} {k : α → Env → Hp → Hp → (Nat → ASet) → Prop} (h : Post K mg C W G σ (ofO o e) k) : ∃ a, o = some a ∧ Post K mg C W G σ (.ok a e) k := by
  cases o with
  | none => exact False.elim h
  | some a => exact ⟨a, rfl, h⟩
theorem Good.getD {G H : Hp} {σ : L2.St} {e : Env} {Sg : Nat → ASet} {i : Nat} {d : D} (h : e.getD i none = some d) : e[i]? = some (some d) := by
  rw [List.getD_eq_getElem?_getD] at h
  cases q : e[i]? with
  | none => rw [q] at h; cases h
  | some z => rw [q] at h; exact congrArg some h
theorem de_k {e : Expr} {v : V} {d : D} (h : PE X e (tC v)) (hd : ∀ G, Dp K G v d) : PE X e (tE K mg C W (cK d)) :=
  PE.to h fun σ H Q ⟨G, e, Sg, g, p⟩ => p G H Sg g (Ex.refl G) v (hd G)
theorem de_int {i j pos} : PE X (.Constant (.int i) j pos) (tE K mg C W (cK (.int i))) := de_k pe_int fun _ => .int i
theorem de_bl {i j pos} : PE X (.Constant (.bool i) j pos) (tE K mg C W (cK (.bool i))) := de_k pe_bl fun _ => .bl i
theorem de_str {i j pos} : PE X (.Constant (.str i) j pos) (tE K mg C W (cK (.str i))) := de_k pe_str fun _ => .str i
theorem de_non {j pos} : PE X (.Constant .none j pos) (tE K mg C W (cK .none)) := de_k pe_non fun _ => .non
/-- a module's constant -/
theorem de_globI {x : Str} {i : Int} {u : Tok} {pos : Pos} (hg : Gl X x) (hm : X.mg x = some (.int i u)) (hd : (x == ("__debug__" : Str)) = false := by decide) : PE X (.Name x pos) (tE K mg C W (cK (.int i))) := de_k (pe_glob (v := .int i) hg hm ⟨u, rfl⟩ hd) fun _ => .int i
theorem de_globS {x z : Str} {u : Tok} {pos : Pos} (hg : Gl X x) (hm : X.mg x = some (.str z u)) (hd : (x == ("__debug__" : Str)) = false := by decide) : PE X (.Name x pos) (tE K mg C W (cK (.str z))) := de_k (pe_glob (v := .str z) hg hm ⟨u, rfl⟩ hd) fun _ => .str z
theorem de_var (i : Nat) {x : Str} {pos : Pos} (ht : C.Tg[i]? = some .fz := by rfl) (hN : X.N[i]? = some x := by rfl) (hv : Vis X.env.scope x := by first | exact Or.inl rfl | exact Or.inr (Or.inl rfl) | exact Or.inr (Or.inr rfl)) (hd : (x == ("__debug__" : Str)) = false := by decide)
    (hcd : (x == ("__classdict__" : Str)) = false := by decide) : PE X (.Name x pos) (tE K mg C W (cVar i)) :=
  PE.to (pe_var hN hv hd hcd) fun σ H Q ⟨G, e, Sg, g, p⟩ => by
    unfold cVar at p
    split at p
    · rename_i d he
      obtain ⟨v, h1, h2⟩ := g.slot i _ d ht (Good.getD (G := G) (H := H) (σ := σ) (Sg := Sg) he)
      exact ⟨v, h1, p G H Sg g (Ex.refl G) v (own_fz_inv h2)⟩
    · exact False.elim p
theorem de_plc (i : Nat) {x : Str} {pos : Pos} (ht : C.Tg[i]? = some (.lst .fz) := by rfl) (hN : X.N[i]? = some x := by rfl) (hv : Vis X.env.scope x := by first | exact Or.inl rfl | exact Or.inr (Or.inl rfl) | exact Or.inr (Or.inr rfl)) (hd : (x == ("__debug__" : Str)) = false := by decide)
    (hcd : (x == ("__classdict__" : Str)) = false := by decide) : PE X (.Name x pos) (tE K mg C W (cPlc i)) :=
  PE.to (pe_var hN hv hd hcd) fun σ H Q ⟨G, e, Sg, g, p⟩ => by
    unfold cPlc at p
    split at p
    · rename_i d he
      obtain ⟨v, h1, h2⟩ := g.slot i _ d ht (Good.getD (G := G) (H := H) (σ := σ) (Sg := Sg) he)
      exact ⟨v, h1, p G H Sg g (Ex.refl G) v ⟨h1, ht⟩⟩
    · exact False.elim p

/-- two operands, then what is made of both -/
theorem two {ca cb : Env → R Lv} {f : D → D → Option NV} {σ : L2.St} {H : Hp} {Q : VK} (h : tN K mg C W (c2 f ca cb) σ H Q) :
    tE K mg C W ca σ H fun x H1 => tE K mg C W cb σ H1 fun y H2 => ∃ G dx dy nv, Ex G H2 ∧ Vw K G H2 x dx ∧ Vw K G H2 y dy ∧ f dx dy = some nv ∧ NVp K G H2 Q nv := by
  obtain ⟨G, e, Sg, g, p⟩ := h
  refine ⟨G, e, Sg, g, (Post.bind p).imp fun l e1 G1 H1 S1 _ g1 _ p1 x hx => ?_⟩
  refine ⟨G1, e1, S1, g1, (Post.bind p1).imp fun m e2 G2 H2 S2 _ g2 x2 p2 y hy => ?_⟩
  obtain ⟨nv, h1, h2⟩ := Post.ofO p2
  cases hl : l.get e2 with
  | none => rw [hl] at h1; cases h1
  | some dx =>
    cases hm : m.get e2 with
    | none => rw [hl, hm] at h1; cases h1
    | some dy =>
      rw [hl, hm] at h1
      exact ⟨G2, dx, dy, nv, g2.gh, (hx.mono x2).view g2 hl, hy.view g2 hm, h1, h2 G2 H2 S2 g2 (Ex.refl G2)⟩
theorem dn_op {a b : Expr} {op : Operator} {pos : Pos} {f : D → D → Option NV} {ca cb : Env → R Lv} (h : Op2 X K (binaryOp op) f) (ha : PE X a (tE K mg C W ca)) (hb : PE X b (tE K mg C W cb)) : PE X (.BinOp a op b pos) (tN K mg C W (c2 f ca cb)) := by
  obtain ⟨r, hr, hs⟩ := h.run
  refine PE.to (pe_op hr ha hb) fun σ H Q q => ?_
  obtain ⟨G, e, Sg, g, p⟩ := two q
  refine ⟨G, e, Sg, g, p.imp fun l e1 G1 H1 S1 _ g1 _ p1 x hx => ?_⟩
  obtain ⟨G', e', Sg', g', p'⟩ := p1 x hx
  refine ⟨G', e', Sg', g', p'.imp fun m e2 G2 H2 S2 _ g2 _ p2 y hy => ?_⟩
  obtain ⟨G3, dx, dy, nv, h1, h2, h3, h4, h5⟩ := p2 y hy
  exact hs G3 H2 x y dx dy nv Q h1 h2 h3 h4 h5
theorem dn_cmp {a b : Expr} {op : CmpOp} {pos : Pos} {f : D → D → Option NV} {ca cb : Env → R Lv} (h : Op2 X K (compareOp op) f) (ha : PE X a (tE K mg C W ca)) (hb : PE X b (tE K mg C W cb)) (hm : behindInMarks op b = false) : PE X (.Compare a [op] [b] pos) (tN K mg C W (c2 f ca cb)) := by
  obtain ⟨r, hr, hs⟩ := h.run
  refine PE.to (pe_cmpR hr ha hb hm) fun σ H Q q => ?_
  obtain ⟨G, e, Sg, g, p⟩ := two q
  refine ⟨G, e, Sg, g, p.imp fun l e1 G1 H1 S1 _ g1 _ p1 x hx => ?_⟩
  obtain ⟨G', e', Sg', g', p'⟩ := p1 x hx
  refine ⟨G', e', Sg', g', p'.imp fun m e2 G2 H2 S2 _ g2 _ p2 y hy => ?_⟩
  obtain ⟨G3, dx, dy, nv, h1, h2, h3, h4, h5⟩ := p2 y hy
  exact hs G3 H2 x y dx dy nv Q h1 h2 h3 h4 h5

/-! from what an operation gives to a value -/
theorem de_n {e : Expr} {c : Env → R NV} (h : PE X e (tN K mg C W c)) : PE X e (tE K mg C W (cFrz c)) :=
  PE.to h fun σ H Q ⟨G, e, Sg, g, p⟩ => ⟨G, e, Sg, g, (Post.bind p).imp fun n e1 G1 H1 S1 _ g1 x1 p1 => by
    cases n with
    | sc d => exact fun v hv => p1 G1 H1 S1 g1 (Ex.refl G1) v hv
    | nl ds =>
      refine fun a vs ha hd => p1 (upd G1 a (.lst vs)) (upd H1 a (.lst vs)) S1 (g1.newf ha) (ex_upd ?_) (.ref a) ?_
      · cases q : G1 a with
        | none => rfl
        | some u => have := g1.gh a u q; rw [ha] at this; cases this
      · exact .lst (.inl (.inl upd_same)) (dps_ex (ex_upd (by
          cases q : G1 a with
          | none => rfl
          | some u => have := g1.gh a u q; rw [ha] at this; cases this)) _ _ hd)
    | nt ds =>
      refine fun a vs ha hd => p1 (upd G1 a (.tup vs)) (upd H1 a (.tup vs)) S1 (g1.newf ha) (ex_upd ?_) (.ref a) ?_
      · cases q : G1 a with
        | none => rfl
        | some u => have := g1.gh a u q; rw [ha] at this; cases this
      · exact .tup (.inl (.inl upd_same)) (dps_ex (ex_upd (by
          cases q : G1 a with
          | none => rfl
          | some u => have := g1.gh a u q; rw [ha] at this; cases this)) _ _ hd)⟩
theorem dO_n {e : Expr} {c : Env → R NV} (h : PE X e (tN K mg C W c)) : PE X e (tO K mg C W (.lst .fz) (cOwn c)) :=
  PE.to h fun σ H Q ⟨G, e, Sg, g, p⟩ => ⟨G, e, Sg, g, (Post.bind p).imp fun n e1 G1 H1 S1 _ g1 x1 p1 => by
    cases n with
    | sc d => exact False.elim p1
    | nl ds => exact fun a vs ha hd => p1 G1 (upd H1 a (.lst vs)) S1 (g1.new ha) (Ex.refl G1) (.ref a) (fun b => b = a) (own_lst upd_same rfl hd) (g1.lone ha)
    | nt ds => exact False.elim p1⟩
/-- an own list of frozen items, frozen -/
theorem de_o {e : Expr} {c : Env → R D} (h : PE X e (tO K mg C W (.lst .fz) c)) : PE X e (tE K mg C W (cMelt c)) :=
  PE.to h fun σ H Q ⟨G, e, Sg, g, p⟩ => ⟨G, e, Sg, g, (Post.bind p).imp fun d e1 G1 H1 S1 _ g1 x1 p1 v S ho hl => by
    obtain ⟨a, vs, ds, rfl, rfl, hp, sp, hd⟩ := own_lst_inv ho
    obtain ⟨h1, h2, h3⟩ := hl.own a sp
    have xg : Ex G1 (upd G1 a (.lst vs)) := ex_upd h1
    have g2 : Good K mg C (upd G1 a (.lst vs)) H1 σ e1 S1 := by
      refine ⟨g1.ls, g1.le, fun i sh d q1 q2 => ?_, g1.dis, fun i b q => ?_, fun b u q => ?_, g1.g0.trans xg, g1.fr, g1.al, fun b q => ?_, g1.pin, g1.par, g1.lock⟩
      · obtain ⟨w, q3, q4⟩ := g1.slot i sh d q1 q2
        exact ⟨w, q3, q4.mono xg fun _ _ => rfl⟩
      · obtain ⟨q1, q2, q3⟩ := g1.gs i b q
        refine ⟨?_, q2, q3⟩
        have z : b ≠ a := fun z => hl.apart i a sp (by rw [← z]; exact q)
        rw [upd_ne z]
        exact q1
      · by_cases hb : b = a
        · subst hb
          rw [upd_same] at q
          cases q
          exact hp
        · rw [upd_ne hb] at q
          exact g1.gh b u q
      · by_cases hb : b = a
        · subst hb
          rcases h3 with z | z
          · exact .inr (.inl z)
          · exact .inr (.inr z)
        · rw [upd_ne hb] at q
          exact g1.gn b q
    exact p1 (upd G1 a (.lst vs)) H1 S1 g2 xg (.ref a) (.lst (.inl (.inl upd_same)) (dps_ex xg _ _ hd))⟩

/-! tests -/
theorem dTru_ok {G H : Hp} {x : V} {d : D} {k : Bool} (xg : Ex G H) (h : Vw K G H x d) (hd : dTru d = some k) : TruV K x H k := by
  cases d with
  | none => rw [h.non_inv]; cases hd; rfl
  | bool b => rw [h.bl_inv]; cases hd; rfl
  | int i => rw [h.int_inv]; cases hd; rfl
  | str z =>
    rw [h.str_inv]
    unfold dTru at hd
    dsimp only at hd
    split at hd
    · rename_i hz
      cases hd
      exact ⟨fits_iff.mp hz, rfl⟩
    · cases hd
  | list ds =>
    obtain ⟨a, vs, rfl, h1, h2⟩ := h.lst_inv xg
    cases hd
    refine .inl ⟨vs, h1, ?_⟩
    have := dps_len _ _ h2
    cases vs <;> cases ds <;> simp_all
  | tuple ds =>
    obtain ⟨a, vs, rfl, h1, h2⟩ := h.tup_inv xg
    cases hd
    refine .inr (.inl ⟨vs, h1, ?_⟩)
    have := dps_len _ _ h2
    cases vs <;> cases ds <;> simp_all
  | dict kvs => cases hd
theorem dt_tru {e : Expr} {c : Env → R Lv} (h : PE X e (tE X.K mg C W c)) (he : ∀ whole, isTrue e X.env whole = (do let v ← whole; standAt e.pos; holding [v] (truthy v)) := by intro _; rfl) : PT X e (tT X.K mg C W (cTru c)) :=
  PT.to (pt_truth h he) fun σ H Q ⟨G, e, Sg, g, p⟩ => ⟨G, e, Sg, g, (Post.bind p).imp fun l e1 G1 H1 S1 _ g1 x1 p1 x hx => by
    obtain ⟨k, h1, h2⟩ := Post.ofO p1
    cases hl : l.get e1 with
    | none => rw [hl] at h1; cases h1
    | some d =>
      rw [hl] at h1
      exact ⟨k, dTru_ok g1.gh (hx.view g1 hl) h1, h2 G1 H1 S1 g1 (Ex.refl G1)⟩⟩
/-- an operation that gives True or False, as a test -/
theorem dt_n {e : Expr} {c : Env → R NV} (h : PE X e (tN K mg C W c)) (he : ∀ whole, isTrue e X.env whole = (do let v ← whole; standAt e.pos; holding [v] (truthy v)) := by intro _; rfl) : PT X e (tT K mg C W (cTst c)) :=
  PT.to (pt_val h he) fun σ H Q ⟨G, e, Sg, g, p⟩ => ⟨G, e, Sg, g, (Post.bind p).imp fun n e1 G1 H1 S1 _ g1 x1 p1 => by
    obtain ⟨k, h1, h2⟩ := Post.ofO p1
    cases n with
    | sc d =>
      have h1 : dBool d = some k := h1
      cases d with
      | bool b =>
        cases h1
        intro v hv
        cases hv
        exact ⟨_, rfl, h2 G1 H1 S1 g1 (Ex.refl G1)⟩
      | _ => cases h1
    | nl ds => cases h1
    | nt ds => cases h1⟩
theorem pt_cmp1 {a b : Expr} {op : CmpOp} {pos : Pos} {f : D → D → Option NV} {ca cb : Env → R Lv} (h : Op2 X K (compareOp op) f) (ha : PE X a (tE K mg C W ca)) (hb : PE X b (tE K mg C W cb)) (hm : behindInMarks op b = false) : PT X (.Compare a [op] [b] pos) (tT K mg C W (cTst (c2 f ca cb))) := by
  obtain ⟨r, hr, hs⟩ := h.run
  refine PT.to (pt_cmpR hr ha hb hm) fun σ H Q ⟨G, e, Sg, g, p⟩ => ?_
  have q : tN K mg C W (c2 f ca cb) σ H fun v H1 => ∃ k, v = .bl k ∧ Q k H1 := ⟨G, e, Sg, g, (Post.bind p).imp fun n e1 G1 H1 S1 _ g1 x1 p1 => by
    obtain ⟨k, h1, h2⟩ := Post.ofO p1
    cases n with
    | sc d =>
      have h1 : dBool d = some k := h1
      cases d with
      | bool b =>
        cases h1
        intro v hv
        cases hv
        exact ⟨_, rfl, h2 G1 H1 S1 g1 (Ex.refl G1)⟩
      | _ => cases h1
    | nl ds => cases h1
    | nt ds => cases h1⟩
  obtain ⟨G, e, Sg, g, p⟩ := two q
  refine ⟨G, e, Sg, g, p.imp fun l e1 G1 H1 S1 _ g1 _ p1 x hx => ?_⟩
  obtain ⟨G', e', Sg', g', p'⟩ := p1 x hx
  refine ⟨G', e', Sg', g', p'.imp fun m e2 G2 H2 S2 _ g2 _ p2 y hy => ?_⟩
  obtain ⟨G3, dx, dy, nv, h1, h2, h3, h4, h5⟩ := p2 y hy
  exact hs G3 H2 x y dx dy nv _ h1 h2 h3 h4 h5
theorem dw_and1 {a : Expr} {pos : Pos} {c : Env → R Bool} (ha : PT X a (tT K mg C W c)) : PW X (.BoolOp .And [a] pos) (tT K mg C W c) := pw_and1 ha
theorem dw_or1 {a : Expr} {pos : Pos} {c : Env → R Bool} (ha : PT X a (tT K mg C W c)) : PW X (.BoolOp .Or [a] pos) (tT K mg C W c) := pw_or1 ha
theorem dw_and {a b : Expr} {rest : List Expr} {pos : Pos} {c d : Env → R Bool} (ha : PT X a (tT K mg C W c)) (hb : PW X (.BoolOp .And (b :: rest) pos) (tT K mg C W d)) : PW X (.BoolOp .And (a :: b :: rest) pos) (tT K mg C W (cAnd c d)) :=
  PW.to (pw_and ha hb) fun σ H Q ⟨G, e, Sg, g, p⟩ => ⟨G, e, Sg, g, (Post.bind p).imp fun t e1 G1 H1 S1 _ g1 x1 p1 => by
    cases t with
    | true =>
      rw [if_pos rfl]
      exact ⟨G1, e1, S1, g1, p1⟩
    | false =>
      rw [if_neg Bool.false_ne_true]
      exact p1 G1 H1 S1 g1 (Ex.refl G1)⟩
theorem dw_or {a b : Expr} {rest : List Expr} {pos : Pos} {c d : Env → R Bool} (ha : PT X a (tT K mg C W c)) (hb : PW X (.BoolOp .Or (b :: rest) pos) (tT K mg C W d)) : PW X (.BoolOp .Or (a :: b :: rest) pos) (tT K mg C W (cOr c d)) :=
  PW.to (pw_or ha hb) fun σ H Q ⟨G, e, Sg, g, p⟩ => ⟨G, e, Sg, g, (Post.bind p).imp fun t e1 G1 H1 S1 _ g1 x1 p1 => by
    cases t with
    | true =>
      rw [if_pos rfl]
      exact p1 G1 H1 S1 g1 (Ex.refl G1)
    | false =>
      rw [if_neg Bool.false_ne_true]
      exact ⟨G1, e1, S1, g1, p1⟩⟩
theorem dt_w {e : Expr} {c : Env → R Bool} (h : PW X e (tT K mg C W c)) : PT X e (tT K mg C W c) := h.pt
theorem dt_not {a : Expr} {pos : Pos} {c : Env → R Bool} (ha : PT X a (tT K mg C W c)) : PT X (.UnaryOp .Not a pos) (tT K mg C W (cNot c)) :=
  PT.to (pt_not ha) fun σ H Q ⟨G, e, Sg, g, p⟩ => ⟨G, e, Sg, g, (Post.bind p).imp fun t e1 G1 H1 S1 _ g1 x1 p1 => p1 G1 H1 S1 g1 (Ex.refl G1)⟩
theorem de_if {c a b : Expr} {pos : Pos} {cc : Env → R Bool} {ca cb : Env → R Lv} (hc : PT X c (tT K mg C W cc)) (ha : PE X a (tE K mg C W ca)) (hb : PE X b (tE K mg C W cb)) : PE X (.IfExp c a b pos) (tE K mg C W (cIf cc ca cb)) :=
  PE.to (pe_ifExp hc ha hb) fun σ H Q ⟨G, e, Sg, g, p⟩ => ⟨G, e, Sg, g, (Post.bind p).imp fun t e1 G1 H1 S1 _ g1 x1 p1 => by
    cases t with
    | true =>
      rw [if_pos rfl]
      exact ⟨G1, e1, S1, g1, p1⟩
    | false =>
      rw [if_neg Bool.false_ne_true]
      exact ⟨G1, e1, S1, g1, p1⟩⟩
theorem dO_if {c a b : Expr} {pos : Pos} {sh : Sh} {cc : Env → R Bool} {ca cb : Env → R D} (hc : PT X c (tT K mg C W cc)) (ha : PE X a (tO K mg C W sh ca)) (hb : PE X b (tO K mg C W sh cb)) : PE X (.IfExp c a b pos) (tO K mg C W sh (cIf cc ca cb)) :=
  PE.to (pe_ifExp hc ha hb) fun σ H Q ⟨G, e, Sg, g, p⟩ => ⟨G, e, Sg, g, (Post.bind p).imp fun t e1 G1 H1 S1 _ g1 x1 p1 => by
    cases t with
    | true =>
      rw [if_pos rfl]
      exact ⟨G1, e1, S1, g1, p1⟩
    | false =>
      rw [if_neg Bool.false_ne_true]
      exact ⟨G1, e1, S1, g1, p1⟩⟩
theorem bl_of {G : Hp} {σ : L2.St} {v : V} {b : Bool} (h : RL K C G σ v (.val (.bool b))) : v = .bl b := by
  have h : Dp K G v (.bool b) := h
  cases h
  rfl
theorem de_one {op : PySem.BoolOp} {a : Expr} {pos : Pos} {c : Env → R Lv} (ha : PE X a (tE K mg C W c)) : PE X (.BoolOp op [a] pos) (tE K mg C W c) := pe_one ha
theorem de_and {a b : Expr} {rest : List Expr} {pos : Pos} {c d : Env → R Lv} (ha : PE X a (tE K mg C W c)) (hb : PE X (.BoolOp .And (b :: rest) pos) (tE K mg C W d)) : PE X (.BoolOp .And (a :: b :: rest) pos) (tE K mg C W (cAndV c d)) :=
  PE.to (pe_and ha hb) fun σ H Q ⟨G, e, Sg, g, p⟩ => ⟨G, e, Sg, g, (Post.bind p).imp fun l e1 G1 H1 S1 _ g1 x1 p1 v hv => by
    split at p1
    · obtain rfl := bl_of hv
      refine ⟨true, rfl, ?_⟩
      rw [if_pos rfl]
      exact ⟨G1, e1, S1, g1, p1⟩
    · obtain rfl := bl_of hv
      refine ⟨false, rfl, ?_⟩
      rw [if_neg Bool.false_ne_true]
      exact p1 G1 H1 S1 g1 (Ex.refl G1) _ hv
    · exact False.elim p1⟩
theorem de_or {a b : Expr} {rest : List Expr} {pos : Pos} {c d : Env → R Lv} (ha : PE X a (tE K mg C W c)) (hb : PE X (.BoolOp .Or (b :: rest) pos) (tE K mg C W d)) : PE X (.BoolOp .Or (a :: b :: rest) pos) (tE K mg C W (cOrV c d)) :=
  PE.to (pe_or ha hb) fun σ H Q ⟨G, e, Sg, g, p⟩ => ⟨G, e, Sg, g, (Post.bind p).imp fun l e1 G1 H1 S1 _ g1 x1 p1 v hv => by
    split at p1
    · obtain rfl := bl_of hv
      refine ⟨true, rfl, ?_⟩
      rw [if_pos rfl]
      exact p1 G1 H1 S1 g1 (Ex.refl G1) _ hv
    · obtain rfl := bl_of hv
      refine ⟨false, rfl, ?_⟩
      rw [if_neg Bool.false_ne_true]
      exact ⟨G1, e1, S1, g1, p1⟩
    · exact False.elim p1⟩
theorem de_not {a : Expr} {pos : Pos} {c : Env → R Lv} (ha : PE X a (tE K mg C W c)) : PE X (.UnaryOp .Not a pos) (tE K mg C W (cNotV c)) :=
  PE.to (pe_not ha) fun σ H Q ⟨G, e, Sg, g, p⟩ => ⟨G, e, Sg, g, (Post.bind p).imp fun l e1 G1 H1 S1 _ g1 x1 p1 v hv => by
    split at p1
    · obtain rfl := bl_of hv
      exact ⟨_, rfl, p1 G1 H1 S1 g1 (Ex.refl G1) _ (.bl _)⟩
    · exact False.elim p1⟩

/-! arguments, displays -/
theorem da_nil : PA X [] (tAs K mg C W cNil) := PA.to pa_nil fun σ H Q ⟨G, e, Sg, g, p⟩ => p G H Sg g (Ex.refl G) [] .nil
theorem da_cons {a : Expr} {es : List Expr} {c : Env → R Lv} {d : Env → R (List Lv)} (ha : PE X a (tE K mg C W c)) (hr : PA X es (tAs K mg C W d)) (hs : starEach (a :: es) X.env = (false, eval a X.env) :: starEach es X.env := by rfl) : PA X (a :: es) (tAs K mg C W (cCons c d)) :=
  PA.to (pa_cons ha hr hs) fun σ H Q ⟨G, e, Sg, g, p⟩ => ⟨G, e, Sg, g, (Post.bind p).imp fun l e1 G1 H1 S1 _ g1 x1 p1 v hv =>
    ⟨G1, e1, S1, g1, (Post.bind p1).imp fun ls e2 G2 H2 S2 _ g2 x2 p2 vs hvs => p2 G2 H2 S2 g2 (Ex.refl G2) (v :: vs) (.cons (hv.mono x2) hvs)⟩⟩
theorem RLs.vals {G : Hp} {σ : L2.St} : ∀ {vs : List V} {ls : List Lv} {ds : List D}, RLs K C G σ vs ls → DL.vals ls = some ds → DpAll K G vs ds
  | _, _, _, .nil, h => by
    cases h
    exact .nil
  | _, _, _, .cons (l := l) (ls := ls) a b, h => by
    cases l with
    | plc i => cases h
    | own i => cases h
    | val d =>
      have h : (DL.vals ls).map (d :: ·) = some _ := h
      cases q : DL.vals ls with
      | none => rw [q] at h; cases h
      | some es =>
        rw [q] at h
        cases h
        exact .cons a (RLs.vals b q)
inductive Vws (K : Frag) (G H : Hp) : List V → List D → Prop
  | nil : Vws K G H [] []
  | cons {v d vs ds} : Vw K G H v d → Vws K G H vs ds → Vws K G H (v :: vs) (d :: ds)
theorem RLs.views {G H : Hp} {σ : L2.St} {e : Env} {Sg : Nat → ASet} (g : Good K mg C G H σ e Sg) : ∀ {vs : List V} {ls : List Lv} {ds : List D}, RLs K C G σ vs ls → gets ls e = some ds → Vws K G H vs ds
  | _, _, _, .nil, h => by
    cases h
    exact .nil
  | _, _, _, .cons (l := l) (ls := ls) a b, h => by
    have h : (l.get e).bind (fun d => (gets ls e).map (d :: ·)) = some _ := h
    cases q : l.get e with
    | none => rw [q] at h; cases h
    | some d =>
      cases q2 : gets ls e with
      | none => rw [q, q2] at h; cases h
      | some ds =>
        rw [q, q2] at h
        cases h
        exact .cons (a.view g q) (RLs.views g b q2)
theorem dn_lst {es : List Expr} {pos : Pos} {c : Env → R (List Lv)} (h : PA X es (tAs K mg C W c)) : PE X (.List es pos) (tN K mg C W (cLst c)) :=
  PE.to (pe_lst h) fun σ H Q ⟨G, e, Sg, g, p⟩ => ⟨G, e, Sg, g, (Post.bind p).imp fun ls e1 G1 H1 S1 _ g1 x1 p1 vs hv => by
    obtain ⟨nv, h1, h2⟩ := Post.ofO p1
    cases q : DL.vals ls with
    | none => rw [q] at h1; cases h1
    | some ds =>
      rw [q] at h1
      have h1 : (if fits ds.length = true then some (NV.nl ds) else none) = some nv := h1
      split at h1
      · rename_i hz
        cases h1
        have hd := hv.vals q
        exact ⟨by rw [dps_len _ _ hd]; exact fits_iff.mp hz, fun a ha => h2 G1 H1 S1 g1 (Ex.refl G1) a vs ha hd⟩
      · cases h1⟩
theorem dn_tup {es : List Expr} {k : Nat} {pos : Pos} {c : Env → R (List Lv)} (h : PA X es (tAs K mg C W c)) : PE X (.Tuple es k pos) (tN K mg C W (cTup c)) :=
  PE.to (pe_tup h) fun σ H Q ⟨G, e, Sg, g, p⟩ => ⟨G, e, Sg, g, (Post.bind p).imp fun ls e1 G1 H1 S1 _ g1 x1 p1 vs hv => by
    obtain ⟨nv, h1, h2⟩ := Post.ofO p1
    cases q : DL.vals ls with
    | none => rw [q] at h1; cases h1
    | some ds =>
      rw [q] at h1
      have h1 : (if fits ds.length = true then some (NV.nt ds) else none) = some nv := h1
      split at h1
      · rename_i hz
        cases h1
        have hd := hv.vals q
        exact ⟨by rw [dps_len _ _ hd]; exact fits_iff.mp hz, fun a ha => h2 G1 H1 S1 g1 (Ex.refl G1) a vs ha hd⟩
      · cases h1⟩

/-! built-in calls and methods -/
structure CalN (X : Cx) (K : Frag) (f : Value) (g : List D → Option NV) : Prop where
  run : ∃ r : List V → Hp → VK → Prop, CallR X f r ∧ ∀ (G H : Hp) (xs : List V) (ds : List D) (nv : NV) (Q : VK), Ex G H → Vws K G H xs ds → g ds = some nv → NVp K G H Q nv → r xs H Q
structure MetN (X : Cx) (K : Frag) (id T : String) (g : D → List D → Option NV) : Prop where
  run : ∃ r : V → List V → Hp → VK → Prop, MtR X id r ∧ ∀ (G H : Hp) (x : V) (xs : List V) (dx : D) (ds : List D) (nv : NV) (Q : VK), Ex G H → Vw K G H x dx → Vws K G H xs ds → g dx ds = some nv → NVp K G H Q nv → r x xs H Q
theorem dn_callB {x : Str} {p pos : Pos} {a : Expr} {es : List Expr} {id : String} {g : List D → Option NV} {c : Env → R (List Lv)} (hc : CalN X K (.builtin id) g) (hg : Gl X x) (hm : X.mg x = none) (hv : bootBuiltins x = some (.builtin id)) (ha : PA X (a :: es) (tAs K mg C W c)) (hn : x ≠ "__name__" := by decide) (hdb : (x == ("__debug__" : Str)) = false := by decide)
    (he : starEach (a :: es) X.env = (false, eval a X.env) :: starEach es X.env := by rfl) (hpl : (backTo pos (starEach es X.env)).any (·.1) = false := by rfl) : PE X (.Call (.Name x p) (a :: es) [] pos) (tN K mg C W (cB g c)) := by
  obtain ⟨r, hr, hs⟩ := hc.run
  refine PE.to (pe_callB hr hg hm hv ha hn hdb he hpl) fun σ H Q ⟨G, e, Sg, g, p⟩ => ⟨G, e, Sg, g, (Post.bind p).imp fun ls e1 G1 H1 S1 _ g1 x1 p1 vs hvs => ?_⟩
  obtain ⟨nv, h1, h2⟩ := Post.ofO p1
  cases q : gets ls e1 with
  | none => rw [q] at h1; cases h1
  | some ds =>
    rw [q] at h1
    exact hs G1 H1 vs ds nv Q g1.gh (hvs.views g1 q) h1 (h2 G1 H1 S1 g1 (Ex.refl G1))
theorem dn_callTy {x : Str} {p pos : Pos} {a : Expr} {es : List Expr} {T : String} {g : List D → Option NV} {c : Env → R (List Lv)} (hc : CalN X K (.type T) g) (hg : Gl X x) (hm : X.mg x = none) (hv : bootBuiltins x = some (.type T)) (ha : PA X (a :: es) (tAs K mg C W c)) (hn : x ≠ "__name__" := by decide) (hdb : (x == ("__debug__" : Str)) = false := by decide)
    (he : starEach (a :: es) X.env = (false, eval a X.env) :: starEach es X.env := by rfl) (hpl : (backTo pos (starEach es X.env)).any (·.1) = false := by rfl) : PE X (.Call (.Name x p) (a :: es) [] pos) (tN K mg C W (cB g c)) := by
  obtain ⟨r, hr, hs⟩ := hc.run
  refine PE.to (pe_callTy hr hg hm hv ha hn hdb he hpl) fun σ H Q ⟨G, e, Sg, g, p⟩ => ⟨G, e, Sg, g, (Post.bind p).imp fun ls e1 G1 H1 S1 _ g1 x1 p1 vs hvs => ?_⟩
  obtain ⟨nv, h1, h2⟩ := Post.ofO p1
  cases q : gets ls e1 with
  | none => rw [q] at h1; cases h1
  | some ds =>
    rw [q] at h1
    exact hs G1 H1 vs ds nv Q g1.gh (hvs.views g1 q) h1 (h2 G1 H1 S1 g1 (Ex.refl G1))
/-- which built-in type a datum is of -/
def dTy : D → String
  | .str _ => "str"
  | .int _ => "int"
  | .list _ => "list"
  | _ => ""
theorem dTy_ok {G H : Hp} {x : V} {d : D} {T : String} (xg : Ex G H) (h : Vw K G H x d) (hT : dTy d = T) (ht : T ≠ "") : tyV K T x H := by
  subst hT
  cases d with
  | str z => rw [h.str_inv]; rfl
  | int i => rw [h.int_inv]; rfl
  | list ds =>
    obtain ⟨a, vs, rfl, h1, _⟩ := h.lst_inv xg
    exact .inl ⟨rfl, vs, h1⟩
  | _ => exact absurd rfl ht
/-- o.name(..): the receiver's type is asked ahead of the arguments -/
def cMt (T : String) (g : D → List D → Option NV) (o : Env → R Lv) (a : Env → R (List Lv)) : Env → R NV := fun e => (o e).bind fun l e1 =>
  (ofO ((l.get e1).bind fun x => if dTy x = T then some () else none) e1).bind fun _ e2 => (a e2).bind fun ls e3 => ofO ((l.get e3).bind fun x => (gets ls e3).bind fun ds => g x ds) e3
section
variable {o a : Expr} {es : List Expr} {name : Str} {apos cpos : Pos} {T id : String} {g : D → List D → Option NV} {co : Env → R Lv} {c : Env → R (List Lv)}
theorem dn_met (pa : PlainAttrs T) (slot : Slot T name id) (hty : typeOf (.builtin id) = pure (.type "method_descriptor")) (hm : MetN X X.K id T g) (hT : T ≠ "") (ho : PE X o (tE X.K mg C W co)) (ha : PA X (a :: es) (tAs X.K mg C W c))
    (hbase : attributeBase o name X.env (eval o X.env) = eval o X.env := by rfl)
    (hfew : ((backTo cpos (starEach (a :: es) X.env)).all (fun x => !x.1) && (backToKw cpos (keywordEach [] X.env)).all (fun x => x.1.isSome)
      && decide ((a :: es).length + ([] : List Keyword).length + (if ([] : List Keyword).isEmpty then 0 else 1) < 30)) = true := by rfl)
    (hline : (apos.endLine == cpos.line) = true := by rfl) (hs : starEach (a :: es) X.env = (false, eval a X.env) :: starEach es X.env := by rfl) (hplain : (backTo cpos (starEach es X.env)).any (·.1) = false := by rfl) :
    PE X (.Call (.Attribute o name apos) (a :: es) [] cpos) (tN X.K mg C W (cMt T g co c)) := by
  obtain ⟨r, hr, hs'⟩ := hm.run
  refine PE.to (pe_bm pa slot hty hr ho ha hbase hfew hline hs hplain) fun σ H Q ⟨G, e, Sg, g, p⟩ => ⟨G, e, Sg, g, (Post.bind p).imp fun l e1 G1 H1 S1 _ g1 x1 p1 x hx => ?_⟩
  have p1 := Post.bind p1
  obtain ⟨_, h1, p1⟩ := Post.ofO p1
  have p1 := p1 G1 H1 S1 g1 (Ex.refl G1)
  cases q : l.get e1 with
  | none => rw [q] at h1; cases h1
  | some d =>
    rw [q] at h1
    have h1 : (if dTy d = T then some () else none) = some _ := h1
    split at h1
    · rename_i hd
      refine ⟨dTy_ok g1.gh (hx.view g1 q) hd hT, G1, e1, S1, g1, (Post.bind p1).imp fun ls e3 G3 H3 S3 _ g3 x3 p3 vs hvs => ?_⟩
      obtain ⟨nv, h5, h6⟩ := Post.ofO p3
      cases q3 : l.get e3 with
      | none => rw [q3] at h5; cases h5
      | some d3 =>
        cases q4 : gets ls e3 with
        | none => rw [q3, q4] at h5; cases h5
        | some ds =>
          rw [q3, q4] at h5
          exact hs' G3 H3 x vs d3 ds nv Q g3.gh ((hx.mono x3).view g3 q3) (hvs.views g3 q4) h5 (h6 G3 H3 S3 g3 (Ex.refl G3))
    · cases h1
theorem dn_met0 (pa : PlainAttrs T) (slot : Slot T name id) (hty : typeOf (.builtin id) = pure (.type "method_descriptor")) (hm : MetN X X.K id T g) (hT : T ≠ "") (ho : PE X o (tE X.K mg C W co))
    (hbase : attributeBase o name X.env (eval o X.env) = eval o X.env := by rfl) (hline : (apos.endLine == cpos.line) = true := by rfl) : PE X (.Call (.Attribute o name apos) [] [] cpos) (tN X.K mg C W (cMt T g co cNil)) := by
  obtain ⟨r, hr, hs'⟩ := hm.run
  refine PE.to (pe_bm0 pa slot hty hr ho hbase hline) fun σ H Q ⟨G, e, Sg, g, p⟩ => ⟨G, e, Sg, g, (Post.bind p).imp fun l e1 G1 H1 S1 _ g1 x1 p1 x hx => ?_⟩
  have p1 := Post.bind p1
  obtain ⟨_, h1, p1⟩ := Post.ofO p1
  have p1 := p1 G1 H1 S1 g1 (Ex.refl G1)
  cases q : l.get e1 with
  | none => rw [q] at h1; cases h1
  | some d =>
    rw [q] at h1
    have h1 : (if dTy d = T then some () else none) = some _ := h1
    split at h1
    · rename_i hd
      refine ⟨dTy_ok g1.gh (hx.view g1 q) hd hT, ?_⟩
      obtain ⟨nv, h5, h6⟩ := Post.ofO (Post.bind p1 G1 H1 S1 g1 (Ex.refl G1))
      rw [q] at h5
      exact hs' G1 H1 x [] d [] nv Q g1.gh (hx.view g1 q) .nil h5 (h6 G1 H1 S1 g1 (Ex.refl G1))
    · cases h1
end

/-! subscripts, slices -/
theorem atI_dp {G : Hp} {vs : List V} {ds : List D} {i : Int} {d : D} (h : DpAll K G vs ds) (hd : atI ds i = some d) : ∃ v, atI vs i = some v ∧ Dp K G v d := by
  have hl := dps_len _ _ h
  unfold atI at hd ⊢
  rw [hl]
  cases q : ixN ds.length i with
  | none => rw [q] at hd; cases hd
  | some j =>
    rw [q] at hd
    have hd : ds[j]? = some d := hd
    have hj := (List.getElem?_eq_some_iff.mp hd).1
    have hv : vs[j]? = some vs[j] := List.getElem?_eq_getElem (by omega)
    exact ⟨vs[j], hv, dps_at _ _ h j _ _ hv hd⟩
theorem dn_ix {a b : Expr} {pos : Pos} {ca cb : Env → R Lv} (ha : PE X a (tE X.K mg C W ca)) (hb : PE X b (tE X.K mg C W cb)) (hs : PlainIx b := by exact fun _ _ => rfl) : PE X (.Subscript a b pos) (tN X.K mg C W (c2 dIx ca cb)) := by
  refine PE.to (pe_ix ix_seq ha hb hs) fun σ H Q q => ?_
  obtain ⟨G, e, Sg, g, p⟩ := two q
  refine ⟨G, e, Sg, g, p.imp fun l e1 G1 H1 S1 _ g1 _ p1 x hx => ?_⟩
  obtain ⟨G', e', Sg', g', p'⟩ := p1 x hx
  refine ⟨G', e', Sg', g', p'.imp fun m e2 G2 H2 S2 _ g2 _ p2 y hy => ?_⟩
  obtain ⟨G3, dx, dy, nv, xg, hx, hy, hf, hq⟩ := p2 y hy
  unfold dIx at hf
  split at hf
  · rename_i ds i
    cases q : atI ds i with
    | none => rw [q] at hf; cases hf
    | some d =>
      rw [q] at hf
      cases hf
      obtain ⟨a, vs, rfl, h1, h2⟩ := hx.lst_inv xg
      obtain ⟨v, h3, h4⟩ := atI_dp h2 q
      rw [hy.int_inv]
      exact .inl ⟨a, vs, i, v, rfl, rfl, h1, h3, hq v h4⟩
  · rename_i ds i
    cases q : atI ds i with
    | none => rw [q] at hf; cases hf
    | some d =>
      rw [q] at hf
      cases hf
      obtain ⟨a, vs, rfl, h1, h2⟩ := hx.tup_inv xg
      obtain ⟨v, h3, h4⟩ := atI_dp h2 q
      rw [hy.int_inv]
      exact .inr (.inl ⟨a, vs, i, v, rfl, rfl, h1, h3, hq v h4⟩)
  · rename_i z i
    split at hf
    · rename_i hz
      cases q : atI z.cps.toList i with
      | none => rw [q] at hf; cases hf
      | some ch =>
        rw [q] at hf
        cases hf
        rw [hx.str_inv, hy.int_inv]
        exact .inr (.inr ⟨z, i, ch, rfl, rfl, fits_iff.mp hz, q, hq _ (.str _)⟩)
    · cases hf
  · cases hf
theorem dps_drop {G : Hp} : ∀ {vs : List V} {ds : List D} (n : Nat), DpAll K G vs ds → DpAll K G (vs.drop n) (ds.drop n)
  | _, _, 0, h => h
  | _, _, n + 1, .nil => .nil
  | _, _, n + 1, .cons _ t => dps_drop n t
theorem dps_take {G : Hp} : ∀ {vs : List V} {ds : List D} (n : Nat), DpAll K G vs ds → DpAll K G (vs.take n) (ds.take n)
  | _, _, 0, _ => .nil
  | _, _, n + 1, .nil => .nil
  | _, _, n + 1, .cons h t => .cons h (dps_take n t)
theorem do_none : PO X none tNoPart := po_none
/-- a part of a slice -/
def tP (K : Frag) (mg : MG) (C : Ct) (W : WX) (c : Env → R (Option Int)) : TO := fun σ H Q => ∃ G e Sg, Good K mg C G H σ e Sg ∧ Post K mg C W G σ (c e) fun o _ _ H' _ => Q o H'
theorem PO.to {e : Option Expr} {t t' : TO} (h : PO X e t) (i : ∀ σ H Q, t' σ H Q → t σ H Q) : PO X e t' := ⟨fun pins s σ H Q I q => h.run pins s σ H Q I (i σ H Q q)⟩
theorem dp_none : PO X none (tP K mg C W cPartN) := PO.to po_none fun σ H Q ⟨G, e, Sg, g, p⟩ => p G H Sg g (Ex.refl G)
theorem dp_some {a : Expr} {c : Env → R Lv} (h : PE X a (tE K mg C W c)) : PO X (some a) (tP K mg C W (cPart c)) :=
  PO.to (po_some h) fun σ H Q ⟨G, e, Sg, g, p⟩ => ⟨G, e, Sg, g, (Post.bind p).imp fun l e1 G1 H1 S1 _ g1 x1 p1 v hv => by
    obtain ⟨k, h1, h2⟩ := Post.ofO p1
    cases q : l.get e1 with
    | none => rw [q] at h1; cases h1
    | some d =>
      rw [q] at h1
      have h1 : (dInt d).map some = some k := h1
      cases d with
      | int i =>
        cases h1
        exact ⟨i, (hv.view g1 q).int_inv, h2 G1 H1 S1 g1 (Ex.refl G1)⟩
      | _ => cases h1⟩
theorem dn_sl {a : Expr} {lo hi : Option Expr} {p2 pos : Pos} {ca : Env → R Lv} {cl ch : Env → R (Option Int)} (ha : PE X a (tE X.K mg C W ca)) (hl : PO X lo (tP X.K mg C W cl)) (hh : PO X hi (tP X.K mg C W ch)) :
    PE X (.Subscript a (.Slice lo hi none p2) pos) (tN X.K mg C W (cSl ca cl ch)) := by
  refine PE.to (pe_slice ((sl_list.or sl_tup).or sl_str) ha hl hh) fun σ H Q ⟨G, e, Sg, g, p⟩ => ⟨G, e, Sg, g, (Post.bind p).imp fun l e1 G1 H1 S1 _ g1 x1 p1 x hx => ?_⟩
  refine ⟨G1, e1, S1, g1, (Post.bind p1).imp fun o1 e2 G2 H2 S2 _ g2 x2 p2 => ⟨G2, e2, S2, g2, (Post.bind p2).imp fun o2 e3 G3 H3 S3 _ g3 x3 p3 => ?_⟩⟩
  obtain ⟨nv, h1, h2⟩ := Post.ofO p3
  cases q : l.get e3 with
  | none => rw [q] at h1; cases h1
  | some d =>
    rw [q] at h1
    have h1 : dSl d o1 o2 = some nv := h1
    have hx := ((hx.mono x2).mono x3).view g3 q
    have h2 := h2 G3 H3 S3 g3 (Ex.refl G3)
    unfold dSl at h1
    split at h1
    · rename_i ds _ _
      cases h1
      obtain ⟨b, vs, rfl, q1, q2⟩ := hx.lst_inv g3.gh
      refine .inl (.inl ⟨b, vs, rfl, q1, fun p hp => h2 p _ hp ?_⟩)
      unfold cutV dCut
      rw [dps_len _ _ q2]
      exact dps_take _ (dps_drop _ q2)
    · rename_i ds _ _
      split at h1
      · cases h1
      · rename_i hn
        cases h1
        obtain ⟨b, vs, rfl, q1, q2⟩ := hx.tup_inv g3.gh
        refine .inl (.inr ⟨b, vs, rfl, q1, fun z => hn ?_, fun p hp => h2 p _ hp ?_⟩)
        · rw [dps_len _ _ q2] at z
          simp [z.1, z.2]
        · unfold cutV dCut
          rw [dps_len _ _ q2]
          exact dps_take _ (dps_drop _ q2)
    · split at h1
      · rename_i hz
        cases h1
        rw [hx.str_inv]
        exact .inr ⟨_, rfl, fits_iff.mp hz, h2 _ (.str _)⟩
      · cases h1
    · cases h1
end
end DL

/-! Statements, targets, loops. -/
namespace DL
open PySem PySem.Spec PyProof.Rows L2
open Evl (Ex ex_l ex_t ex_rd)

/-! ### combinators -/
def cNx : Env → R Fl := fun e => .ok .nx e
def cBk : Env → R Fl := fun e => .ok .bk e
def cCt : Env → R Fl := fun e => .ok .ct e
def cSeq (a b : Env → R Fl) : Env → R Fl := fun e => match a e with
  | .ok .nx e1 => b e1
  | .ok .bk e1 => .ok .bk e1
  | .ok .ct e1 => .ok .ct e1
  | .ok (.rt d) e1 => .ok (.rt d) e1
  | .ex x e1 => .ex x e1
  | .st => .st
def cRet (c : Env → R Lv) : Env → R Fl := fun e => (c e).bind fun l e1 => match l with
  | .val d => .ok (.rt d) e1
  | _ => .st
def cRetO (c : Env → R D) : Env → R Fl := fun e => (c e).bind fun d e1 => .ok (.rt d) e1
def cRetN : Env → R Fl := fun e => .ok (.rt .none) e
def cAsg (c : Env → R Lv) (f : D → Env → Option Env) : Env → R Fl := fun e => (c e).bind fun l e1 => match l with
  | .val d => (match f d e1 with
    | some e2 => .ok .nx e2
    | none => .st)
  | _ => .st
def cSetO (i : Nat) (c : Env → R D) : Env → R Fl := fun e => (c e).bind fun d e1 => .ok .nx (e1.set i (some d))
def cDrop (c : Env → R Lv) : Env → R Fl := fun e => (c e).bind fun _ e1 => .ok .nx e1
def cRaise (cn : Str) (c : Env → R Lv) : Env → R Fl := fun e => (c e).bind fun _ e1 => .ex ⟨cn, none⟩ e1
def fSet (i : Nat) : D → Env → Option Env := fun d e => some (e.set i (some d))
def fNil : List D → Env → Option Env := fun ds e => match ds with
  | [] => some e
  | _ => none
def fCons (f : D → Env → Option Env) (g : List D → Env → Option Env) : List D → Env → Option Env := fun ds e => match ds with
  | d :: r => (f d e).bind fun e1 => g r e1
  | [] => none
def fTup (n : Nat) (g : List D → Env → Option Env) : D → Env → Option Env := fun d e => match d with
  | .tuple ds => if ds.length = n then g ds e else none
  | .list ds => if ds.length = n then g ds e else none
  | _ => none
def forL (f : D → Env → Option Env) (b : Env → R Fl) : List D → Env → R Fl
  | [], e => .ok .nx e
  | d :: r, e => match f d e with
    | none => .st
    | some e1 => match b e1 with
      | .ok .nx e2 => forL f b r e2
      | .ok .ct e2 => forL f b r e2
      | .ok .bk e2 => .ok .nx e2
      | .ok (.rt v) e2 => .ok (.rt v) e2
      | .ex x e2 => .ex x e2
      | .st => .st
def cFor (c : Env → R (List D)) (f : D → Env → Option Env) (b : Env → R Fl) : Env → R Fl := fun e => (c e).bind fun ds e1 => forL f b ds e1
def whileL (t : Env → R Bool) (b : Env → R Fl) : Nat → Env → R Fl
  | 0, _ => .st
  | n + 1, e => (t e).bind fun k e1 => match k with
    | false => .ok .nx e1
    | true => match b e1 with
      | .ok .nx e2 => whileL t b n e2
      | .ok .ct e2 => whileL t b n e2
      | .ok .bk e2 => .ok .nx e2
      | .ok (.rt v) e2 => .ok (.rt v) e2
      | .ex x e2 => .ex x e2
      | .st => .st
/-- what is walked -/
def seqOf : D → Option (List D)
  | .list ds => some ds
  | .tuple ds => some ds
  | .str z => some (z.cps.toList.map fun c => .str ⟨#[c]⟩)
  | _ => none
def cItS (c : Env → R Lv) : Env → R (List D) := fun e => (c e).bind fun l e1 => match l with
  | .val d => ofO (seqOf d) e1
  | _ => .st
def intsFrom (lo : Int) (n : Nat) : List D := (List.range n).map fun i => .int (lo + (i : Nat))
def inR (i : Int) : Bool := decide (-(2 ^ 62) ≤ i) && decide (i < 2 ^ 62)
def cItR1 (c : Env → R (List Lv)) : Env → R (List D) := fun e => (c e).bind fun ls e1 => match gets ls e1 with
  | some [.int j] => if inR j = true then .ok (intsFrom 0 j.toNat) e1 else .st
  | _ => .st
def cItR2 (c : Env → R (List Lv)) : Env → R (List D) := fun e => (c e).bind fun ls e1 => match gets ls e1 with
  | some [.int i, .int j] => if (inR i && inR j) = true then .ok (intsFrom i (j - i).toNat) e1 else .st
  | _ => .st
def cItRev (c : Env → R Lv) : Env → R (List D) := fun e => (c e).bind fun l e1 => match l with
  | .val (.list ds) => .ok ds.reverse e1
  | _ => .st

/-! ### soundness -/
section
variable {X : Cx} {K : Frag} {mg : MG} {C : Ct} {W : WX} {rsh : Sh}

/-! statements -/
theorem PostS.mono {G G' : Hp} {r : R Fl} {Dn : Ends} (x : Ex G G') (h : PostS K mg C W rsh G r Dn) : PostS K mg C W rsh G' r Dn := by
  cases r with
  | ok a e => exact fun G2 H2 σ2 S2 g y => h G2 H2 σ2 S2 g (x.trans y)
  | ex a e => exact fun G2 H2 σ2 S2 g y => h G2 H2 σ2 S2 g (x.trans y)
  | st => exact h
theorem PostS.bind {α : Type} {G : Hp} {σ : L2.St} {r : R α} {f : α → Env → R Fl} {Dn : Ends} (h : PostS K mg C W rsh G (r.bind f) Dn) : Post K mg C W G σ r fun a e' G' H' Sg' => PostS K mg C W rsh G' (f a e') Dn := by
  cases r with
  | ok a e => exact fun G2 H2 S2 g y => PostS.mono y h
  | ex x e => exact fun G2 H2 S2 g y => h G2 H2 σ S2 g y
  | st => exact h
theorem dss_nil : PSs X [] (tS K mg C W rsh cNx) := PSs.to pss_nil fun Dn σ H ⟨G, e, Sg, g, p⟩ => p G H σ Sg g (Ex.refl G)
theorem dss_cons {st : Stmt} {rest : List Stmt} {a b : Env → R Fl} (h1 : PS X st (tS K mg C W rsh a)) (h2 : PSs X rest (tS K mg C W rsh b)) : PSs X (st :: rest) (tS K mg C W rsh (cSeq a b)) :=
  PSs.to (pss_cons h1 h2) fun Dn σ H ⟨G, e, Sg, g, p⟩ => ⟨G, e, Sg, g, by
    unfold cSeq at p
    cases q : a e with
    | ok fl e1 =>
      rw [q] at p
      cases fl with
      | nx => exact fun G' H' σ' Sg' g' x => ⟨G', e1, Sg', g', PostS.mono x p⟩
      | bk => exact p
      | ct => exact p
      | rt d => exact p
    | ex x e1 => rw [q] at p; exact p
    | st => rw [q] at p; exact p⟩
theorem dss_one {st : Stmt} {a : Env → R Fl} (h1 : PS X st (tS K mg C W rsh a)) : PSs X [st] (tS K mg C W rsh a) := pss_one h1
theorem ds_pass {pos : Pos} : PS X (.Pass pos) (tS K mg C W rsh cNx) := PS.to ps_pass fun Dn σ H ⟨G, e, Sg, g, p⟩ => p G H σ Sg g (Ex.refl G)
theorem ds_break {pos : Pos} : PS X (.Break pos) (tS K mg C W rsh cBk) := PS.to ps_break fun Dn σ H ⟨G, e, Sg, g, p⟩ => p G H σ Sg g (Ex.refl G)
theorem ds_continue {pos : Pos} : PS X (.Continue pos) (tS K mg C W rsh cCt) := PS.to ps_continue fun Dn σ H ⟨G, e, Sg, g, p⟩ => p G H σ Sg g (Ex.refl G)
theorem ds_if {c : Expr} {a b : List Stmt} {pos : Pos} {cc : Env → R Bool} {ca cb : Env → R Fl} (hc : PT X c (tT K mg C W cc)) (ha : PSs X a (tS K mg C W rsh ca)) (hb : PSs X b (tS K mg C W rsh cb)) : PS X (.If c a b pos) (tS K mg C W rsh (cIf cc ca cb)) :=
  PS.to (ps_if hc ha hb) fun Dn σ H ⟨G, e, Sg, g, p⟩ => ⟨G, e, Sg, g, (PostS.bind p).imp fun t e1 G1 H1 S1 _ g1 x1 p1 => by
    cases t with
    | true =>
      rw [if_pos rfl]
      exact ⟨G1, e1, S1, g1, p1⟩
    | false =>
      rw [if_neg Bool.false_ne_true]
      exact ⟨G1, e1, S1, g1, p1⟩⟩
theorem ds_ret {e : Expr} {pos : Pos} {c : Env → R Lv} (h : PE X e (tE K mg C W c)) : PS X (.Return (some e) pos) (tS K mg C W .fz (cRet c)) :=
  PS.to (ps_ret h) fun Dn σ H ⟨G, e, Sg, g, p⟩ => ⟨G, e, Sg, g, (PostS.bind p).imp fun l e1 G1 H1 S1 _ g1 x1 p1 v hv => by
    cases l with
    | val d => exact p1 G1 H1 σ S1 g1 (Ex.refl G1) v (fun _ => False) (.fz hv) .no
    | plc i => exact False.elim p1
    | own i => exact False.elim p1⟩
theorem ds_retO {e : Expr} {pos : Pos} {c : Env → R D} (h : PE X e (tO K mg C W rsh c)) : PS X (.Return (some e) pos) (tS K mg C W rsh (cRetO c)) :=
  PS.to (ps_ret h) fun Dn σ H ⟨G, e, Sg, g, p⟩ => ⟨G, e, Sg, g, (PostS.bind p).imp fun d e1 G1 H1 S1 _ g1 x1 p1 v S ho hl => p1 G1 H1 σ S1 g1 (Ex.refl G1) v S ho hl⟩
theorem ds_retN {pos : Pos} : PS X (.Return none pos) (tS K mg C W .fz cRetN) :=
  PS.to ps_retN fun Dn σ H ⟨G, e, Sg, g, p⟩ => p G H σ Sg g (Ex.refl G) .non (fun _ => False) (.fz .non) .no
theorem ds_expr {e : Expr} {pos : Pos} {c : Env → R Lv} (h : PE X e (tE K mg C W c)) (hs : swapsWith e none pos.line X.env = pure false := by rfl) : PS X (.Expr e pos) (tS K mg C W rsh (cDrop c)) :=
  PS.to (ps_expr h hs) fun Dn σ H ⟨G, e, Sg, g, p⟩ => ⟨G, e, Sg, g, (PostS.bind p).imp fun l e1 G1 H1 S1 _ g1 x1 p1 v hv => p1 G1 H1 σ S1 g1 (Ex.refl G1)⟩

/-! targets -/
/-- but for the slots ws the slots' values stay -/
def SameBut (ws : List Nat) (σ σ' : L2.St) : Prop := σ'.length = σ.length ∧ ∀ i, i ∉ ws → σ'[i]? = σ[i]?
theorem SameBut.refl {ws : List Nat} {σ : L2.St} : SameBut ws σ σ := ⟨rfl, fun _ _ => rfl⟩
theorem SameBut.trans {ws ws' : List Nat} {σ σ' σ2 : L2.St} (a : SameBut ws σ σ') (b : SameBut ws' σ' σ2) : SameBut (ws ++ ws') σ σ2 :=
  ⟨b.1.trans a.1, fun i h => by rw [List.mem_append, not_or] at h; exact (b.2 i h.2).trans (a.2 i h.1)⟩
def tG (K : Frag) (mg : MG) (C : Ct) (ws : List Nat) (f : D → Env → Option Env) : TG := fun v σ H Q => ∃ G e Sg d e', Good K mg C G H σ e Sg ∧ Dp K G v d ∧ f d e = some e' ∧ ∀ σ' Sg', Good K mg C G H σ' e' Sg' → SameBut ws σ σ' → Q σ' H
def tGs (K : Frag) (mg : MG) (C : Ct) (ws : List Nat) (f : List D → Env → Option Env) : TGs := fun vs σ H Q => ∃ G e Sg ds e', Good K mg C G H σ e Sg ∧ DpAll K G vs ds ∧ f ds e = some e' ∧ ∀ σ' Sg', Good K mg C G H σ' e' Sg' → SameBut ws σ σ' → Q σ' H
theorem PG.to {e : Expr} {t t' : TG} (h : PG X e t) (i : ∀ v σ H Q, t' v σ H Q → t v σ H Q) : PG X e t' := ⟨fun pins s σ H v u Q I r q => h.run pins s σ H v u Q I r (i v σ H Q q)⟩
theorem PGs.to {e : List Expr} {t t' : TGs} (h : PGs X e t) (i : ∀ v σ H Q, t' v σ H Q → t v σ H Q) : PGs X e t' := ⟨fun pins s σ H v u Q I r q => h.run pins s σ H v u Q I r (i v σ H Q q)⟩
theorem PG.or {e : Expr} {t t' : TG} (h : PG X e t) (h' : PG X e t') : PG X e (fun v σ H Q => t v σ H Q ∨ t' v σ H Q) := ⟨fun pins s σ H v u Q I r q => q.elim (h.run pins s σ H v u Q I r) (h'.run pins s σ H v u Q I r)⟩
theorem dg_name (i : Nat) {x : Str} {pos : Pos} (nd : X.N.Nodup) (ht : C.Tg[i]? = some .fz := by rfl) (hi : X.N[i]? = some x := by rfl) (hx : Loc X.env.scope x := by first | exact Or.inl rfl | exact Or.inr rfl) (hf : X.fn x = true ∨ X.env.scope.names.lookup x = some .local := by first | exact .inl rfl | exact .inr rfl) (hlk : lkFree C.lk i = true := by rfl) :
    PG X (.Name x pos) (tG K mg C [i] (fSet i)) :=
  PG.to (pg_name nd hi hx hf) fun v σ H Q ⟨G, e, Sg, d, e', g, hd, hf, k⟩ => by
    have hf : some (e.set i (some d)) = some e' := hf
    cases hf
    exact k _ _ (g.set ht hlk (.inr rfl) (.fz hd) .no) ⟨by simp, fun j hj => List.getElem?_set_ne (fun z => hj (by simp [z]))⟩
theorem dgs_nil : PGs X [] (tGs K mg C [] fNil) := PGs.to pgs_nil fun vs σ H Q ⟨G, e, Sg, ds, e', g, hd, hf, k⟩ => by
  cases hd with
  | nil =>
    have hf : some e = some e' := hf
    cases hf
    exact ⟨rfl, k _ _ g .refl⟩
  | cons => cases hf
theorem dgs_cons {a : Expr} {es : List Expr} {w1 w2 : List Nat} {f : D → Env → Option Env} {fs : List D → Env → Option Env} (h1 : PG X a (tG K mg C w1 f)) (h2 : PGs X es (tGs K mg C w2 fs))
    (hs : (assignEach (a :: es) X.env).map (·.2) = assign a X.env :: (assignEach es X.env).map (·.2) := by rfl) : PGs X (a :: es) (tGs K mg C (w1 ++ w2) (fCons f fs)) :=
  PGs.to (pgs_cons h1 h2 hs) fun vs σ H Q ⟨G, e, Sg, ds, e', g, hd, hf, k⟩ => by
    cases hd with
    | nil => cases hf
    | @cons v vs d ds h1 h2 =>
      have hf : (f d e).bind (fun e1 => fs ds e1) = some e' := hf
      cases q : f d e with
      | none => rw [q] at hf; cases hf
      | some e1 =>
        rw [q] at hf
        exact ⟨v, vs, rfl, G, e, Sg, d, e1, g, h1, q, fun σ' Sg' g' s1 => ⟨G, e1, Sg', ds, e', g', h2, hf, fun σ2 Sg2 g2 s2 => k σ2 Sg2 g2 (s1.trans s2)⟩⟩
theorem dg_tup {es : List Expr} {j : Nat} {pos : Pos} {n : Nat} {ws : List Nat} {fs : List D → Env → Option Env} (hc : X.calm = true) (h : PGs X es (tGs X.K mg C ws fs)) (hn : (assignEach es X.env).length = n := by rfl) (hst : (assignEach es X.env).findIdx? (·.1) = none := by rfl) :
    PG X (.Tuple es j pos) (tG X.K mg C ws (fTup n fs)) :=
  PG.to (PG.or (pg_tup hc h hn hst) (pg_lst hc h hn hst)) fun v σ H Q ⟨G, e, Sg, d, e', g, hd, hf, k⟩ => by
    unfold fTup at hf
    cases d with
    | tuple ds =>
      dsimp only at hf
      split at hf
      · rename_i hl
        cases hd with
        | tup h1 h2 => exact Or.inl ⟨_, _, rfl, ex_t g.gh h1, by rw [dps_len _ _ h2]; exact hl, G, e, Sg, ds, e', g, h2, hf, k⟩
      · cases hf
    | list ds =>
      dsimp only at hf
      split at hf
      · rename_i hl
        cases hd with
        | lst h1 h2 => exact Or.inr ⟨_, _, rfl, ex_l g.gh h1, by rw [dps_len _ _ h2]; exact hl, G, e, Sg, ds, e', g, h2, hf, k⟩
      · cases hf
    | _ => cases hf
theorem ds_asg {tg e : Expr} {pos : Pos} {ws : List Nat} {c : Env → R Lv} {f : D → Env → Option Env} (he : PE X e (tE K mg C W c)) (hg : PG X tg (tG K mg C ws f)) (hs : swapsWithSole [tg] e pos.line X.env = pure false := by rfl) (hw : swappedStores [tg] e X.env = pure none := by rfl)
    (h1 : (assignEach [tg] X.env).map (·.2) = [assign tg X.env] := by rfl) : PS X (.Assign [tg] e pos) (tS K mg C W rsh (cAsg c f)) :=
  PS.to (ps_asg he hg hs hw h1) fun Dn σ H ⟨G, e, Sg, g, p⟩ => ⟨G, e, Sg, g, (PostS.bind p).imp fun l e1 G1 H1 S1 _ g1 x1 p1 v hv => by
    cases l with
    | val d =>
      dsimp only at p1
      cases q : f d e1 with
      | none => rw [q] at p1; exact False.elim p1
      | some e2 =>
        rw [q] at p1
        exact ⟨G1, e1, S1, d, e2, g1, hv, q, fun σ' Sg' g' _ => p1 G1 H1 σ' Sg' g' (Ex.refl G1)⟩
    | plc i => exact False.elim p1
    | own i => exact False.elim p1⟩
theorem ds_setO (i : Nat) {x : Str} {e : Expr} {p pos : Pos} {sh : Sh} {c : Env → R D} (nd : X.N.Nodup) (he : PE X e (tO K mg C W sh c)) (ht : C.Tg[i]? = some sh := by rfl) (hpn : C.np ≤ i := by exact Nat.le_of_ble_eq_true rfl) (hi : X.N[i]? = some x := by rfl) (hx : Loc X.env.scope x := by first | exact Or.inl rfl | exact Or.inr rfl) (hf : X.fn x = true ∨ X.env.scope.names.lookup x = some .local := by first | exact .inl rfl | exact .inr rfl)
    (hs : swapsWithSole [.Name x p] e pos.line X.env = pure false := by rfl) (hw : swappedStores [.Name x p] e X.env = pure none := by rfl)
    (h1 : (assignEach [.Name x p] X.env).map (·.2) = [assign (.Name x p) X.env] := by rfl) (hlk : lkFree C.lk i = true := by rfl) : PS X (.Assign [.Name x p] e pos) (tS K mg C W rsh (cSetO i c)) :=
  PS.to (ps_asg he (pg_name nd hi hx hf) hs hw h1) fun Dn σ H ⟨G, e, Sg, g, p⟩ => ⟨G, e, Sg, g, (PostS.bind p).imp fun d e1 G1 H1 S1 _ g1 x1 p1 v S ho hl => p1 G1 H1 _ _ (g1.set ht hlk (.inl hpn) ho hl) (Ex.refl G1)⟩
/-- a name's own thing handed on -/
def cMove (i : Nat) : Env → R D := fun e => match e.getD i none with
  | some d => .ok d (e.set i none)
  | none => .st
theorem dO_move (i : Nat) {x : Str} {pos : Pos} {sh : Sh} (ht : C.Tg[i]? = some sh := by rfl) (hpn : C.np ≤ i := by exact Nat.le_of_ble_eq_true rfl) (hN : X.N[i]? = some x := by rfl) (hv : Vis X.env.scope x := by first | exact Or.inl rfl | exact Or.inr (Or.inl rfl) | exact Or.inr (Or.inr rfl)) (hd : (x == ("__debug__" : Str)) = false := by decide)
    (hcd : (x == ("__classdict__" : Str)) = false := by decide) : PE X (.Name x pos) (tO K mg C W sh (cMove i)) :=
  PE.to (pe_var hN hv hd hcd) fun σ H Q ⟨G, e, Sg, g, p⟩ => by
    unfold cMove at p
    split at p
    · rename_i d he
      obtain ⟨v, h1, h2⟩ := g.slot i _ d ht (Good.getD (G := G) (H := H) (σ := σ) (Sg := Sg) he)
      refine ⟨v, h1, p G H _ (g.clear i (.inl hpn)) (Ex.refl G) v (Sg i) h2 ⟨fun a ha => g.gs i a ha, fun j a h3 h4 => ?_⟩⟩
      by_cases hj : j = i
      · simp only [hj, if_true] at h4
      · simp only [hj, if_false] at h4
        exact hj (g.dis j i a h4 h3)
    · exact False.elim p

/-! what a loop walks -/
structure ItD (K : Frag) (G : Hp) (J : It) (ds : List D) : Prop where
  go : ∀ (i : Nat) H, i < ds.length → Ex G H → J.go i H
  yld : ∀ (i : Nat) x H H', i < ds.length → Ex G H → J.yld i H x H' → H' = H ∧ ∃ d, ds[i]? = some d ∧ Dp K G x d
  stop : ∀ (i : Nat) H, ds.length ≤ i → Ex G H → J.stop i H
theorem ItD.mono {G G' : Hp} {J : It} {ds : List D} (x : Ex G G') (h : ItD K G J ds) : ItD K G' J ds :=
  ⟨fun i H l y => h.go i H l (x.trans y), fun i v H H' l y q => let ⟨h1, d, h2, h3⟩ := h.yld i v H H' l (x.trans y) q; ⟨h1, d, h2, dp_ex x _ _ h3⟩, fun i H l y => h.stop i H l (x.trans y)⟩
theorem itd_list {G : Hp} {a : Addr} {vs : List V} {ds : List D} (h1 : SqL K G a vs) (h2 : DpAll K G vs ds) : ItD K G (Itl K a) ds := by
  have hl := dps_len _ _ h2
  refine ⟨fun i H l x => ⟨vs, vs[i], ex_l x h1, by simp⟩, fun i x H H' l y q => ?_, fun i H l x => ⟨vs, ex_l x h1, by omega⟩⟩
  obtain ⟨rfl, q⟩ := q
  have hx := q vs (ex_l y h1)
  exact ⟨rfl, ds[i], List.getElem?_eq_getElem l, dps_at _ _ h2 i _ _ hx (List.getElem?_eq_getElem l)⟩
theorem itd_tup {G : Hp} {a : Addr} {vs : List V} {ds : List D} (h1 : SqT K G a vs) (h2 : DpAll K G vs ds) : ItD K G (Itt K a) ds := by
  have hl := dps_len _ _ h2
  refine ⟨fun i H l x => ⟨vs, vs[i], ex_t x h1, by simp⟩, fun i x H H' l y q => ?_, fun i H l x => ⟨vs, ex_t x h1, by omega⟩⟩
  obtain ⟨rfl, q⟩ := q
  have hx := q vs (ex_t y h1)
  exact ⟨rfl, ds[i], List.getElem?_eq_getElem l, dps_at _ _ h2 i _ _ hx (List.getElem?_eq_getElem l)⟩
theorem itd_rev {G : Hp} {a : Addr} {vs : List V} {ds : List D} (h1 : SqL K G a vs) (h2 : DpAll K G vs ds) : ItD K G (Itv K a vs.length) ds.reverse := by
  have hl := dps_len _ _ h2
  refine ⟨fun i H l x => ?_, fun i x H H' l y q => ?_, fun i H l x => ?_⟩
  · have l : i < ds.length := by simpa using l
    exact ⟨by omega, vs, vs[vs.length - 1 - i], ex_l x h1, by simp⟩
  · have l : i < ds.length := by simpa using l
    obtain ⟨rfl, q⟩ := q
    have hx := q vs (ex_l y h1)
    refine ⟨rfl, ds[ds.length - 1 - i], ?_, ?_⟩
    · rw [List.getElem?_reverse l]
      simp
    · rw [hl] at hx
      exact dps_at _ _ h2 _ _ _ hx (by simp)
  · have l : ds.length ≤ i := by simpa using l
    show vs.length ≤ i
    omega
theorem itd_range {G : Hp} {lo : Int} {n : Nat} : ItD K G (Itr lo n) (intsFrom lo n) := by
  have hl : (intsFrom lo n).length = n := by simp [intsFrom]
  refine ⟨fun i H l x => by rw [hl] at l; exact l, fun i x H H' l y q => ?_, fun i H l x => by rw [hl] at l; exact l⟩
  obtain ⟨rfl, rfl⟩ := q
  rw [hl] at l
  exact ⟨rfl, .int (lo + (i : Nat)), by simp [intsFrom, l], .int _⟩
theorem itd_str {G : Hp} {z : Str} : ItD K G (Its z) (z.cps.toList.map fun c => .str ⟨#[c]⟩) := by
  refine ⟨fun i H l x => ?_, fun i x H H' l y q => ?_, fun i H l x => ?_⟩
  · show i < z.cps.size
    simpa using l
  · obtain ⟨rfl, c, hc, rfl⟩ := q
    exact ⟨rfl, .str ⟨#[c]⟩, by simp [hc], .str _⟩
  · show z.cps.size ≤ i
    simpa using l
def tI (K : Frag) (mg : MG) (C : Ct) (W : WX) (c : Env → R (List D)) : TI := fun σ H Rr => ∃ G e Sg, Good K mg C G H σ e Sg ∧ Post K mg C W G σ (c e) fun ds _ G' H' _ => ∀ J, ItD K G' J ds → Rr J H'
theorem PI.to {tg e : Expr} {t t' : TI} (h : PI X tg e t) (i : ∀ σ H Q, t' σ H Q → t σ H Q) : PI X tg e t' := ⟨fun pins s σ H Q I q => h.run pins s σ H Q I (i σ H Q q)⟩
def iSeq (K : Frag) (tl : TE) : TI := fun σ H Rr => tl σ H fun x H1 => (∃ a xs, x = .ref a ∧ SqL K H1 a xs ∧ Rr (Itl K a) H1) ∨ (∃ a xs, x = .ref a ∧ SqT K H1 a xs ∧ Rr (Itt K a) H1) ∨ ∃ z, x = .str z ∧ Rr (Its z) H1
theorem pi_seq {tg l : Expr} {tl : TE} (hl : PE X l tl) : PI X tg l (iSeq X.K tl) := by
  refine ⟨fun pins s σ H Rr I h => ?_⟩
  refine thn (hl.run pins s σ H _ I h) fun v s1 ⟨x, H1, I1, r1, q1⟩ => ?_
  rcases q1 with ⟨a, xs, rfl, hq, q⟩ | ⟨a, xs, rfl, hq, q⟩ | ⟨z, rfl, q⟩
  · cases r1
    obtain ⟨its, rv, p, hz⟩ := I1.list hq
    refine wpAny_pyIter_list p.isList ?_
    refine ⟨s1.heap.objs.size, [s1.heap.objs.size], _, _, H1, rfl, I1.kept (t' := s1.toks) fun b o e => Heap.get?_push_of_some _ e, turn_list a _, ⟨_, Heap.get?_push_size _ rfl, rfl, rfl⟩, fun b hb => ?_, q⟩
    have e : b = s1.heap.objs.size := by simpa using hb
    subst e
    exact I1.fpOk (Nat.le_refl _) (I1.hok.fresh (Nat.le_refl _))
  · cases r1
    obtain ⟨its, rv, p, hz⟩ := I1.tuple hq
    refine wpAny_pyIter_tuple (show s1.heap.IsTuple a its.toArray from p) ?_
    refine ⟨s1.heap.objs.size, [s1.heap.objs.size], _, _, H1, rfl, I1.kept (t' := s1.toks) fun b o e => Heap.get?_push_of_some _ e, turn_tuple a _, ⟨_, Heap.get?_push_size _ rfl, rfl, rfl⟩, fun b hb => ?_, q⟩
    have e : b = s1.heap.objs.size := by simpa using hb
    subst e
    exact I1.fpOk (Nat.le_refl _) (I1.hok.fresh (Nat.le_refl _))
  · obtain ⟨t, rfl⟩ := r1
    cases ha : z.cps.all (· < 128)
    · exact wpAny_pyIter_wide ha (pi_one (tk := s1.toks) I1 _ (turn_str _ z t "str_iterator" (.inr rfl)) ⟨_, Heap.get?_push_size _ rfl, rfl, rfl⟩ q)
    · exact wpAny_pyIter_ascii ha (pi_one (tk := s1.toks) I1 _ (turn_str _ z t "str_ascii_iterator" (.inl rfl)) ⟨_, Heap.get?_push_size _ rfl, rfl, rfl⟩ q)
theorem di_seq {tg l : Expr} {c : Env → R Lv} (h : PE X l (tE X.K mg C W c)) : PI X tg l (tI X.K mg C W (cItS c)) :=
  PI.to (pi_seq h) fun σ H Rr ⟨G, e, Sg, g, p⟩ => ⟨G, e, Sg, g, (Post.bind p).imp fun l e1 G1 H1 S1 _ g1 x1 p1 v hv => by
    cases l with
    | val d =>
      obtain ⟨ds, h1, h2⟩ := Post.ofO p1
      have h2 := h2 G1 H1 S1 g1 (Ex.refl G1)
      have hv : Dp X.K G1 v d := hv
      cases hv with
      | lst q1 q2 =>
        cases h1
        exact .inl ⟨_, _, rfl, ex_l g1.gh q1, h2 _ (itd_list q1 q2)⟩
      | tup q1 q2 =>
        cases h1
        exact .inr (.inl ⟨_, _, rfl, ex_t g1.gh q1, h2 _ (itd_tup q1 q2)⟩)
      | str z =>
        cases h1
        exact .inr (.inr ⟨z, rfl, h2 _ itd_str⟩)
      | _ => cases h1
    | plc i => exact False.elim p1
    | own i => exact False.elim p1⟩
theorem inR_iff {i : Int} : inR i = true ↔ (-(2 ^ 62) ≤ i ∧ i < 2 ^ 62) := by
  unfold inR
  simp [Bool.and_eq_true]
theorem di_range1 {tg a : Expr} {p pos : Pos} {c : Env → R (List Lv)} (hm : X.mg "range" = none) (h : PA X [a] (tAs K mg C W c)) (hg : Gl X "range" := by rfl) (hs : starEach [a] X.env = [(false, eval a X.env)] := by rfl) : PI X tg (.Call (.Name "range" p) [a] [] pos) (tI K mg C W (cItR1 c)) :=
  PI.to (pi_range1 hg hm h hs) fun σ H Rr ⟨G, e, Sg, g, p⟩ => ⟨G, e, Sg, g, (Post.bind p).imp fun ls e1 G1 H1 S1 _ g1 x1 p1 vs hv => by
    split at p1
    · rename_i j q
      have hv := hv.views g1 q
      split at p1
      · rename_i hz
        have p1 := p1 G1 H1 S1 g1 (Ex.refl G1)
        cases hv with
        | cons a b =>
          cases b
          have := inR_iff.mp hz
          rw [a.int_inv]
          exact ⟨j, rfl, this.1, this.2, p1 _ itd_range⟩
      · exact False.elim p1
    · exact False.elim p1⟩
theorem di_range2 {tg a b : Expr} {p pos : Pos} {c : Env → R (List Lv)} (hm : X.mg "range" = none) (h : PA X [a, b] (tAs K mg C W c)) (hg : Gl X "range" := by rfl) (hs : starEach [a, b] X.env = [(false, eval a X.env), (false, eval b X.env)] := by rfl) (hs2 : starEach [b] X.env = [(false, eval b X.env)] := by rfl) : PI X tg (.Call (.Name "range" p) [a, b] [] pos) (tI K mg C W (cItR2 c)) :=
  PI.to (pi_range2 hg hm h hs hs2) fun σ H Rr ⟨G, e, Sg, g, p⟩ => ⟨G, e, Sg, g, (Post.bind p).imp fun ls e1 G1 H1 S1 _ g1 x1 p1 vs hv => by
    split at p1
    · rename_i i j q
      have hv := hv.views g1 q
      split at p1
      · rename_i hz
        have p1 := p1 G1 H1 S1 g1 (Ex.refl G1)
        rw [Bool.and_eq_true] at hz
        cases hv with
        | cons a b =>
          cases b with
          | cons b c =>
            cases c
            have h1 := inR_iff.mp hz.1
            have h2 := inR_iff.mp hz.2
            rw [a.int_inv, b.int_inv]
            exact ⟨i, j, rfl, ⟨h1.1, h1.2, h2.1, h2.2⟩, p1 _ itd_range⟩
      · exact False.elim p1
    · exact False.elim p1⟩
def iRev1 (K : Frag) (te : TE) : TI := iRev K (tCons te tNil)
theorem di_rev {tg a : Expr} {p pos : Pos} {c : Env → R Lv} (hm : X.mg "reversed" = none) (h : PE X a (tE X.K mg C W c)) (hg : Gl X "reversed" := by rfl) (hs : starEach [a] X.env = [(false, eval a X.env)] := by rfl) : PI X tg (.Call (.Name "reversed" p) [a] [] pos) (tI X.K mg C W (cItRev c)) :=
  PI.to (pi_reversed hg hm (pa_cons h pa_nil hs) hs) fun σ H Rr ⟨G, e, Sg, g, p⟩ => ⟨G, e, Sg, g, (Post.bind p).imp fun l e1 G1 H1 S1 _ g1 x1 p1 v hv => by
    cases l with
    | val d =>
      cases d with
      | list ds =>
        have p1 := p1 G1 H1 S1 g1 (Ex.refl G1)
        have hv : Dp X.K G1 v (.list ds) := hv
        cases hv with
        | lst q1 q2 => exact ⟨_, _, rfl, ex_l g1.gh q1, p1 _ (itd_rev q1 q2)⟩
      | _ => exact False.elim p1
    | plc i => exact False.elim p1
    | own i => exact False.elim p1⟩

/-! for -/
theorem ds_for {tg iter : Expr} {body : List Stmt} {pos : Pos} {ws : List Nat} {c : Env → R (List D)} {f : D → Env → Option Env} {b : Env → R Fl} (hp : PassesOwn (model X.prog X.w) X.A X.env X.xe) (hc : X.calm = true) (hi : PI X tg iter (tI K mg C W c)) (hg : PG X tg (tG K mg C ws f)) (hb : PSs X body (tS K mg C W rsh b))
    (hs : ∀ x, foldedSetIterable iter X.env x = pure x := by intro _; rfl) : PS X (.For tg iter body [] pos) (tS K mg C W rsh (cFor c f b)) :=
  PS.to (ps_for hp hc hi hg hb hs) fun Dn σ H ⟨G, e, Sg, g, p⟩ => ⟨G, e, Sg, g, (PostS.bind p).imp fun ds e1 G1 H1 S1 _ g1 x1 p1 J hJ => by
    refine ⟨fun i m σ' H' => m = ds.length - i ∧ i ≤ ds.length ∧ ∃ G' e' Sg', Good K mg C G' H' σ' e' Sg' ∧ Ex G1 G' ∧ PostS K mg C W rsh G' (forL f b (ds.drop i) e') Dn, ⟨ds.length, by simp, Nat.zero_le _, G1, e1, S1, g1, Ex.refl G1, by simpa using p1⟩, ?_⟩
    rintro i m σ' H' ⟨rfl, hi, G', e', Sg', g', x', q⟩
    by_cases hlt : i < ds.length
    · refine .inr ⟨(hJ.mono x').go i H' hlt g'.gh, fun σ2 H2 => ∃ G2 e2 Sg2, Good K mg C G2 H2 σ2 e2 Sg2 ∧ Ex G1 G2 ∧ PostS K mg C W rsh G2 (forL f b (ds.drop (i + 1)) e2) Dn,
        fun σ2 H2 ⟨G2, e2, Sg2, g2, x2, q2⟩ => ⟨ds.length - (i + 1), by omega, rfl, hlt, G2, e2, Sg2, g2, x2, q2⟩, fun x H2 y => ?_⟩
      obtain ⟨rfl, d, hd, hv⟩ := (hJ.mono x').yld i x H' H2 hlt g'.gh y
      have hdr : ds.drop i = d :: ds.drop (i + 1) := by
        rw [List.drop_eq_getElem_cons hlt]
        rw [List.getElem?_eq_getElem hlt] at hd
        rw [Option.some.inj hd]
      rw [hdr] at q
      unfold forL at q
      cases qf : f d e' with
      | none => rw [qf] at q; exact False.elim q
      | some e2 =>
        rw [qf] at q
        dsimp only at q
        refine ⟨G', e', Sg', d, e2, g', hv, qf, fun σ2 Sg2 g2 _ => ⟨G', e2, Sg2, g2, ?_⟩⟩
        cases qb : b e2 with
        | ok fl e3 =>
          rw [qb] at q
          cases fl with
          | nx => exact fun G3 H3 σ3 S3 g3 x3 => ⟨G3, e3, S3, g3, x'.trans x3, PostS.mono x3 q⟩
          | ct => exact fun G3 H3 σ3 S3 g3 x3 => ⟨G3, e3, S3, g3, x'.trans x3, PostS.mono x3 q⟩
          | bk => exact q
          | rt v => exact q
        | ex x e3 => rw [qb] at q; exact q
        | st => rw [qb] at q; exact q
    · have e0 : i = ds.length := by omega
      subst e0
      rw [List.drop_length] at q
      exact .inl ⟨(hJ.mono x').stop _ H' (Nat.le_refl _) g'.gh, q G' H' σ' Sg' g' (Ex.refl G')⟩⟩
theorem ds_while {c : Expr} {body : List Stmt} {pos : Pos} {t : Env → R Bool} {b : Env → R Fl} (n : Nat) (hp : PassesOwn (model X.prog X.w) X.A X.env X.xe) (hc : PT X c (tT K mg C W t)) (hb : PSs X body (tS K mg C W rsh b)) : PS X (.While c body [] pos) (tS K mg C W rsh (whileL t b n)) :=
  PS.to (ps_while hp hc hb) fun Dn σ H ⟨G, e, Sg, g, p⟩ => by
    refine ⟨fun m σ' H' => ∃ G' e' Sg', Good K mg C G' H' σ' e' Sg' ∧ PostS K mg C W rsh G' (whileL t b m e') Dn, ⟨n, G, e, Sg, g, p⟩, ?_⟩
    rintro m σ' H' ⟨G', e', Sg', g', q⟩
    cases m with
    | zero => exact False.elim q
    | succ m =>
      unfold whileL at q
      refine ⟨G', e', Sg', g', (PostS.bind q).imp fun k e1 G1 H1 S1 _ g1 x1 p1 => ?_⟩
      cases k with
      | false =>
        rw [if_neg Bool.false_ne_true]
        exact p1 G1 H1 σ' S1 g1 (Ex.refl G1)
      | true =>
        rw [if_pos rfl]
        dsimp only at p1
        refine ⟨fun σ2 H2 => ∃ G2 e2 Sg2, Good K mg C G2 H2 σ2 e2 Sg2 ∧ PostS K mg C W rsh G2 (whileL t b m e2) Dn, fun σ2 H2 h => ⟨m, Nat.lt_succ_self m, h⟩, G1, e1, S1, g1, ?_⟩
        cases qb : b e1 with
        | ok fl e3 =>
          rw [qb] at p1
          cases fl with
          | nx => exact fun G3 H3 σ3 S3 g3 x3 => ⟨G3, e3, S3, g3, PostS.mono x3 p1⟩
          | ct => exact fun G3 H3 σ3 S3 g3 x3 => ⟨G3, e3, S3, g3, PostS.mono x3 p1⟩
          | bk => exact p1
          | rt v => exact p1
        | ex x e3 => rw [qb] at p1; exact p1
        | st => rw [qb] at p1; exact p1

/-! raise -/
structure ExcK (K : Frag) (mg : MG) (cn : Str) (Cc : Addr) : Prop where
  gP : mg cn = some (.ref Cc)
  xP : PySem.W.excIn K Cc [.type "ValueError", .type "Exception", .type "BaseException", .type "object"] "ValueError.__new__" = true
  kP : PySem.W.keepIn K (.ref Cc) = true
  bP : PySem.W.subIn K (.ref Cc) (.type "BaseException") = some true
  tP : PySem.W.typeIn K (.ref Cc) = some (.type "type")
theorem pmkN {C : Addr} {bmB : List Value} {B newId initId : String} {x : Str} {e : Expr} {ta : TE} {p pos : Pos} (F : ExcBaseFacts B newId initId bmB) (q : PySem.W.excIn X.K C bmB newId = true) (gC : X.mg x = some (.ref C)) (kC : PySem.W.keepIn X.K (.ref C) = true) (r : Raises X (.ref C)) (hg : Gl X x)
    (he : PE X e ta) (hs : starEach [e] X.env = (false, eval e X.env) :: starEach [] X.env := by rfl) (hdb : (x == ("__debug__" : Str)) = false := by decide) :
    L2N.PMk X (.Call (.Name x p) [e] [] pos) (fun σ H Q => ta σ H fun _ H1 => Q (.ref C) none H1) := by
  intro pins s σ H Q I h
  refine wpAny_Call_Name_kw (ld_glob I hg gC ?_ hdb)
  refine PySem.W.callWith_K (h₀ := X.base) I.ok.mod.kin kC ?_ hs (by rfl)
  rw [hs]
  show wpAny _ _ (spliced ((false, eval e X.env) :: backTo pos (starEach [] X.env))) _ _ s
  refine Calls.spliced_cons (thn (he.run pins s σ H _ I h) fun u s1 ⟨v, H1, I1, r1, q1⟩ => Calls.spliced_nil ⟨I1.kIn, ?_⟩)
  show wpAny _ _ (call (.ref C) [u]) _ _ _
  obtain ⟨bm, N, nm, qn, bs, hdct, sn, sub, ab, col, dd, k0, k1, k2, k3, k5, mN, hC, hN, hni, T⟩ := exc_obj I1.kIn q
  exact wpAny_call_exc_subT F T hC hN hni (fun h' e hm => L2N.mk_of I1 hm r q1 (I1.hok.gone hm.new)) (by show 1 ≤ sizeLine; rw [sizeLine_eq]; omega)
theorem ds_raise {cn : Str} {Cc : Addr} {a : Expr} {p pos pos' : Pos} {c : Env → R Lv} (hc : X.calm = true) (tk : L2N.Takes X W) (T : ExcK X.K X.mg cn Cc) (ha : PE X a (tE X.K X.mg C W c)) (hg : Gl X cn := by rfl) (hdb : (cn == ("__debug__" : Str)) = false := by decide)
    (he : starEach [a] X.env = [(false, eval a X.env)] := by rfl) : PS X (.Raise (some (.Call (.Name cn p) [a] [] pos)) none pos') (tS X.K X.mg C W rsh (cRaise cn c)) :=
  PS.to (L2N.ps_raise hc tk (pmkN PySem.F.excBase_ValueError T.xP T.gP T.kP (raises_own T.bP T.tP) hg ha he hdb)) fun Dn σ H ⟨G, e, Sg, g, p⟩ => ⟨G, e, Sg, g, (PostS.bind p).imp fun l e1 G1 H1 S1 _ g1 x1 p1 v hv => p1 G1 H1 σ S1 g1 (Ex.refl G1) Cc T.gP⟩
end
end DL

/-! Defs and calls. -/
namespace DL
open PySem PySem.Spec PyProof.Rows L2
open Evl (Ex ex_l ex_t ex_rd)

/-! ### what a def promises -/
structure Back (K : Frag) (mg : MG) (modes : List Sh) (vs : List V) (G H : Hp) (S0 : ASet) (outs : List D) (G' H' : Hp) (Sa : Nat → ASet) : Prop where
  own : ∀ (i : Nat) sh v d, modes[i]? = some sh → sh ≠ .fz → vs[i]? = some v → outs[i]? = some d → Own K mg G' H' sh v d (Sa i)
  len : outs.length = modes.length
  dis : ∀ i j a, Sa i a → Sa j a → i = j
  gs : ∀ i a, Sa i a → G' a = none ∧ H' a ≠ none ∧ (H a = none ∨ S0 a)
  gg : Ex G G'
  gh : Ex G' H'
  fr : ∀ a o, H a = some o → ¬ S0 a → H' a = some o
  al : ∀ a, H a ≠ none → H' a ≠ none
  gn : ∀ a, G' a ≠ none → G a ≠ none ∨ H a = none ∨ S0 a
def spF (K : Frag) (mg : MG) (modes : List Sh) (rsh : Sh) (m : List D → FR) : Sp := fun vs H Q E => ∃ (G : Hp) (ds : List D) (Sa : Nat → ASet), vs.length = modes.length ∧ ds.length = modes.length ∧
  (∀ (i : Nat) sh v d, modes[i]? = some sh → vs[i]? = some v → ds[i]? = some d → Own K mg G H sh v d (Sa i)) ∧ (∀ i j a, Sa i a → Sa j a → i = j) ∧ (∀ i a, Sa i a → G a = none ∧ H a ≠ none) ∧
  (∀ i a, Sa i a → i < modes.length) ∧ Ex G H ∧ match m ds with
    | .ok r outs => ∀ G' H' Sa' v S, Back K mg modes vs G H (fun a => ∃ i, Sa i a) outs G' H' Sa' → Own K mg G' H' rsh v r S → (∀ a, S a → G' a = none ∧ H' a ≠ none ∧ (H a = none ∨ ∃ i, Sa i a)) → (∀ i a, S a → ¬ Sa' i a) → Q v H'
    | .ex x outs => ∀ G' H' Sa', Back K mg modes vs G H (fun a => ∃ i, Sa i a) outs G' H' Sa' → XE mg E x H'
    | .st => False
def outsOf (np : Nat) (e : Env) : List D := (e.take np).map fun o => o.getD .none
def runF (rz : Bool) (b : Env → R Fl) (np n : Nat) : List D → FR := fun ds => match b (ds.map some ++ List.replicate (n - np) none) with
  | .ok (.rt d) e => .ok d (outsOf np e)
  | .ok .nx e => if rz = true then .ok .none (outsOf np e) else .st
  | .ok .bk _ => .st
  | .ok .ct _ => .st
  | .ex x e => .ex x (outsOf np e)
  | .st => .st

section
variable {K : Frag} {mg : MG}
theorem Good.back {C : Ct} {G H : Hp} {σ : L2.St} {e : Env} {Sg : Nat → ASet} (g : Good K mg C G H σ e Sg) {modes locs : List Sh} (hT : C.Tg = modes ++ locs) (hn : C.np = modes.length) (hv : C.vs0.length = modes.length) :
    Back K mg modes C.vs0 C.G0 C.H0 C.S0 (outsOf C.np e) G H (fun i a => i < C.np ∧ Sg i a) := by
  have hlen : (outsOf C.np e).length = modes.length := by
    unfold outsOf
    rw [List.length_map, List.length_take, g.le, hT, List.length_append]
    omega
  refine ⟨fun i sh v d h1 h2 h3 h4 => ?_, hlen, fun i j a h1 h2 => g.dis i j a h1.2 h2.2, fun i a h => g.gs i a h.2, g.g0, g.gh, g.fr, g.al, g.gn⟩
  have hi : i < modes.length := (List.getElem?_eq_some_iff.mp h1).1
  have hTi : C.Tg[i]? = some sh := by
    rw [hT, List.getElem?_append_left hi]
    exact h1
  obtain ⟨d', hd'⟩ := g.par i sh (by omega) hTi h2
  obtain ⟨w, h5, h6⟩ := g.slot i sh d' hTi hd'
  have h7 := g.pin i sh (by omega) hTi h2
  rw [h3, h5] at h7
  have h7 : w = v := by simpa using h7
  subst h7
  have h8 : (outsOf C.np e)[i]? = some d' := by
    unfold outsOf
    rw [List.getElem?_map, List.getElem?_take_of_lt (by omega), hd']
    rfl
  rw [h8] at h4
  cases h4
  have eq : (fun a => i < C.np ∧ Sg i a) = Sg i := by
    funext a
    simp only [eq_iff_iff, and_iff_right_iff_imp]
    intro _
    omega
  rw [eq]
  exact h6
end

section
variable {P : Program} {w : World} {K : Frag} {mg : MG} {base : Heap}
theorem start_get {N : List Str} {vs : List V} {i : Nat} (h : i < vs.length) : (L2.start N vs)[i]? = (vs[i]?).map some := by
  unfold L2.start
  rw [List.getElem?_append_left (by simpa using h), List.getElem?_map]
theorem env_get {ds : List D} {n i : Nat} {d : D} (h : (ds.map some ++ List.replicate n none)[i]? = some (some d)) : ds[i]? = some d := by
  by_cases hi : i < ds.length
  · rw [List.getElem?_append_left (by simpa using hi), List.getElem?_map] at h
    cases q : ds[i]? with
    | none => rw [q] at h; cases h
    | some z => rw [q] at h; cases h; rfl
  · rw [List.getElem?_append_right (by simpa using hi), List.getElem?_replicate] at h
    split at h <;> cases h
theorem fn_pre {N : List Str} {modes locs : List Sh} {rsh : Sh} {rz : Bool} {b : Env → R Fl} (hN : N.length = (modes ++ locs).length) (hz : rz = true → rsh = .fz) {vs : List V} {H : Hp} {Q : VK} {E : XK}
    (h : spF K mg modes rsh (runF rz b modes.length N.length) vs H Q E) : ∃ G S0, tS K mg ⟨modes ++ locs, modes.length, vs, G, H, S0, []⟩ (fun c d _ H => E c d H) rsh b { nx := fun _ H' => Q .non H', rt := Q } (L2.start N vs) H := by
  obtain ⟨G, ds, Sa, hv, hd, ho, hdis, hgs, hlt, xg, hm⟩ := h
  refine ⟨G, fun a => ∃ i, Sa i a, ?_⟩
  have hNl : N.length = modes.length + locs.length := by rw [hN, List.length_append]
  have g0 : Good K mg ⟨modes ++ locs, modes.length, vs, G, H, fun a => ∃ i, Sa i a, []⟩ G H (L2.start N vs) (ds.map some ++ List.replicate (N.length - modes.length) none) Sa := by
    refine ⟨?_, ?_, fun i sh d h1 h2 => ?_, hdis, fun i a h => ⟨(hgs i a h).1, (hgs i a h).2, .inr ⟨i, h⟩⟩, xg, Ex.refl _, fun a o h _ => h, fun a h => h, fun a h => .inl h, fun i sh h1 h2 h3 => ?_, fun i sh h1 h2 h3 => ?_, fun q hq => by cases hq⟩
    · unfold L2.start
      simp only [List.length_append, List.length_map, List.length_replicate]
      omega
    · simp only [List.length_append, List.length_map, List.length_replicate]
      omega
    · have hd' := env_get h2
      have hi : i < ds.length := (List.getElem?_eq_some_iff.mp hd').1
      have h1 : modes[i]? = some sh := by
        rw [List.getElem?_append_left (by omega)] at h1
        exact h1
      have hvi : vs[i]? = some vs[i] := List.getElem?_eq_getElem (by omega)
      exact ⟨vs[i], by rw [start_get (by omega), hvi]; rfl, ho i sh _ d h1 hvi hd'⟩
    · exact start_get (by rw [hv]; exact h1)
    · have hi : i < ds.length := by rw [hd]; exact h1
      refine ⟨ds[i], ?_⟩
      rw [List.getElem?_append_left (by simpa using hi), List.getElem?_map, List.getElem?_eq_getElem hi]
      rfl
  refine ⟨G, _, Sa, g0, ?_⟩
  unfold runF at hm
  have bk : ∀ {G' H' : Hp} {σ' : L2.St} {e : Env} {Sg' : Nat → ASet}, Good K mg ⟨modes ++ locs, modes.length, vs, G, H, fun a => ∃ i, Sa i a, []⟩ G' H' σ' e Sg' → Back K mg modes vs G H (fun a => ∃ i, Sa i a) (outsOf modes.length e) G' H' (fun i a => i < modes.length ∧ Sg' i a) :=
    fun g => g.back rfl rfl hv
  cases q : b (ds.map some ++ List.replicate (N.length - modes.length) none) with
  | ok fl e =>
    rw [q] at hm
    cases fl with
    | nx =>
      intro G' H' σ' Sg' g' _
      cases rz with
      | true =>
        have := hz rfl
        subst this
        exact hm G' H' _ .non (fun _ => False) (bk g') (.fz .non) (fun _ z => z.elim) (fun _ _ z => z.elim)
      | false => exact False.elim hm
    | bk => exact False.elim hm
    | ct => exact False.elim hm
    | rt d =>
      intro G' H' σ' Sg' g' _ v S hvo hl
      exact hm G' H' _ v S (bk g') hvo (fun a ha => let ⟨h1, h2, h3⟩ := hl.own a ha; ⟨h1, h2, h3⟩) (fun i a ha hb => hl.apart i a ha hb.2)
  | ex x e =>
    rw [q] at hm
    exact fun G' H' σ' Sg' g' _ => hm G' H' _ (bk g')
  | st =>
    rw [q] at hm
    exact False.elim hm
/-- THE RULE for a def -/
theorem fnD {x qual : Str} {params : Arguments} {body : List Stmt} {scope : Scope} {dvs : List V} {kws : List (Str × V)} {f : Addr} {fd : FuncData} {N ps : List Str} {k : Nat} {modes locs : List Sh} {rsh : Sh} {rz : Bool} {b : Env → R Fl}
    (F : FunD K x qual params body scope dvs kws f fd) (S : FnScope N ps scope) (hps : ps.length = modes.length) (hN : N.length = (modes ++ locs).length) (hz : rz = true → rsh = .fz)
    (hb : ∀ (cdv : Value) (A : Around) (outer : List PySem.Env) (s : Shared) (G0 H0 : Hp) (vs : List V) (S0 : ASet) (E : XK), Room k (A.deeper (envOfC qual scope s.heap.objs.size f cdv)) →
      PSs (cxOf (L2N.CX P w) P w K mg base N qual scope f cdv A outer s H0 E) body (tS K mg ⟨modes ++ locs, modes.length, vs, G0, H0, S0, []⟩ (fun c d _ H => E c d H) rsh b)) :
    FnOk P w K mg base (L2N.CX P w) (k + 1) f fd ps (spF K mg modes rsh (runF rz b modes.length N.length)) :=
  F.ok S (fun vs H Q E ⟨_, _, _, h, _⟩ => by rw [h, hps]) fun cdv A outer s H vs Q E hr h => let ⟨G, S0, q⟩ := fn_pre (locs := locs) hN hz h; ⟨_, hb cdv A outer s G H vs S0 E hr, q⟩
end

/-! ### calls -/
/-! data without lists or dicts within -/
mutual
def noL : D → Bool
  | .list _ => false
  | .dict _ => false
  | .tuple ds => noLs ds
  | _ => true
def noLs : List D → Bool
  | [] => true
  | d :: r => noL d && noLs r
end
def indep : Sh → D → Bool
  | .fz, d => noL d
  | .lst .fz, .list ds => noLs ds
  | _, _ => false
/-- a heap without what is borrowed -/
noncomputable def cut (G : Hp) (B : ASet) : Hp := fun a => @ite _ (B a) (Classical.propDecidable _) none (G a)
theorem cut_no {G : Hp} {B : ASet} {a : Addr} (h : ¬ B a) : cut G B a = G a := by
  unfold cut
  rw [if_neg h]
theorem cut_yes {G : Hp} {B : ASet} {a : Addr} (h : B a) : cut G B a = none := by
  unfold cut
  rw [if_pos h]
section
variable {K : Frag} {mg : MG}
theorem sqT_cut {G : Hp} {B : ASet} {a : Addr} {vs : List V} (hB : ∀ a, B a → ∃ vs, G a = some (.lst vs)) (h : SqT K G a vs) : SqT K (cut G B) a vs := by
  rcases h with (h | ⟨o, h⟩) | h
  · refine .inl (.inl ?_)
    rw [cut_no fun z => ?_]
    · exact h
    · obtain ⟨ws, e⟩ := hB a z
      rw [h] at e
      cases e
  · refine .inl (.inr ⟨o, ?_⟩)
    rw [cut_no fun z => ?_]
    · exact h
    · obtain ⟨ws, e⟩ := hB a z
      rw [h] at e
      cases e
  · exact .inr h
mutual
theorem dp_cut {G : Hp} {B : ASet} (hB : ∀ a, B a → ∃ vs, G a = some (.lst vs)) : ∀ (d : D) (v : V), noL d = true → Dp K G v d → Dp K (cut G B) v d
  | .none, _, _, h => by cases h; exact .non
  | .bool b, _, _, h => by cases h; exact .bl b
  | .int i, _, _, h => by cases h; exact .int i
  | .str x, _, _, h => by cases h; exact .str x
  | .list ds, _, n, _ => by cases n
  | .dict ds, _, n, _ => by cases n
  | .tuple ds, _, n, h => by
    cases h with
    | tup h1 h2 => exact .tup (sqT_cut hB h1) (dps_cut hB ds _ (by rw [noL] at n; exact n) h2)
theorem dps_cut {G : Hp} {B : ASet} (hB : ∀ a, B a → ∃ vs, G a = some (.lst vs)) : ∀ (ds : List D) (vs : List V), noLs ds = true → DpAll K G vs ds → DpAll K (cut G B) vs ds
  | [], _, _, h => by cases h; exact .nil
  | d :: ds, _, n, h => by
    rw [noLs, Bool.and_eq_true] at n
    cases h with
    | cons h1 h2 => exact .cons (dp_cut hB d _ n.1 h1) (dps_cut hB ds _ n.2 h2)
end
end
def Lv.getA (l : Lv) (e : Env) : Option D := match l with
  | .val d => some d
  | .plc i => e.getD i none
  | .own i => e.getD i none
def getsA : List Lv → Env → Option (List D)
  | [], _ => some []
  | l :: r, e => (l.getA e).bind fun d => (getsA r e).map (d :: ·)
/-- the slot that an argument hands over -/
def Lv.slot : Lv → Option Nat
  | .val _ => none
  | .plc i => some i
  | .own i => some i
def isFz : Sh → Bool
  | .fz => true
  | _ => false
/-- the slots handed over (ks: which argument is which slot's thing), against the parameters' shapes -/
inductive OkS (Tg : List Sh) : List Sh → List (Option Nat) → Nat → Prop
  | nil : OkS Tg [] [] 0
  | dfl {ms n} : OkS Tg ms [] n → OkS Tg (.fz :: ms) [] (n + 1)
  | val {ms ks n} : OkS Tg ms ks n → OkS Tg (.fz :: ms) (none :: ks) n
  | brw {ms ks n i} : Tg[i]? = some (.lst .fz) → some i ∉ ks → OkS Tg ms ks n → OkS Tg (.fz :: ms) (some i :: ks) n
  | own {m ms ks n i} : Tg[i]? = some m → m ≠ .fz → some i ∉ ks → OkS Tg ms ks n → OkS Tg (m :: ms) (some i :: ks) n
def borrows : List Sh → List (Option Nat) → Bool
  | m :: ms, k :: ks => (isFz m && k.isSome) || borrows ms ks
  | _, _ => false
def putB : List Sh → List (Option Nat) → List D → Env → Env
  | m :: ms, k :: ks, d :: ds, e => putB ms ks ds (match isFz m, k with
    | false, some i => e.set i (some d)
    | _, _ => e)
  | _, _, _, e => e
def indeps : List Sh → List D → Bool
  | m :: ms, d :: ds => (isFz m || indep m d) && indeps ms ds
  | _, _ => true
/-- f(..): the parameters' shapes, the slots handed over, the def's mirror, its defaults, the arguments -/
def cCall (modes : List Sh) (ks : List (Option Nat)) (rsh : Sh) (m : List D → FR) (dd : List D) (ca : Env → R (List Lv)) : Env → R D := fun e => (ca e).bind fun ls e1 =>
  if ls.map Lv.slot = ks then
    match getsA ls e1 with
    | none => .st
    | some ds => match m (ds ++ dd) with
      | .ok r outs => if (!borrows modes ks || (indep rsh r && indeps modes outs)) = true then .ok r (putB modes ks outs e1) else .st
      | .ex x outs => if (!borrows modes ks || indeps modes outs) = true then .ex x (putB modes ks outs e1) else .st
      | .st => .st
  else .st
theorem indeps_at : ∀ {ms : List Sh} {ds : List D}, indeps ms ds = true → ∀ (k : Nat) m d, ms[k]? = some m → ds[k]? = some d → m ≠ .fz → indep m d = true
  | [], _, _, k, m, d, h1, _, _ => by simp at h1
  | _ :: _, [], _, k, m, d, _, h2, _ => by simp at h2
  | m0 :: ms, d0 :: ds, h, k, m, d, h1, h2, h3 => by
    unfold indeps at h
    rw [Bool.and_eq_true, Bool.or_eq_true] at h
    cases k with
    | zero =>
      simp at h1 h2
      subst h1 h2
      rcases h.1 with z | z
      · cases m0 <;> simp [isFz] at z h3
      · exact z
    | succ k => exact indeps_at h.2 k m d (by simpa using h1) (by simpa using h2) h3
theorem isFz_iff {m : Sh} : isFz m = true ↔ m = .fz := by cases m <;> simp [isFz]
theorem isFz_not {m : Sh} : isFz m = false ↔ m ≠ .fz := by cases m <;> simp [isFz]

section
variable {Tg : List Sh}
theorem OkS.len : ∀ {ms : List Sh} {ks : List (Option Nat)} {n : Nat}, OkS Tg ms ks n → ks.length + n = ms.length
  | _, _, _, .nil => rfl
  | _, _, _, .dfl h => by have := h.len; simp only [List.length_nil, List.length_cons] at this ⊢; omega
  | _, _, _, .val h => by have := h.len; simp only [List.length_cons] at this ⊢; omega
  | _, _, _, .brw _ _ h => by have := h.len; simp only [List.length_cons] at this ⊢; omega
  | _, _, _, .own _ _ _ h => by have := h.len; simp only [List.length_cons] at this ⊢; omega
theorem OkS.arg : ∀ {ms : List Sh} {ks : List (Option Nat)} {n : Nat}, OkS Tg ms ks n → ∀ (k : Nat) m o, ms[k]? = some m → ks[k]? = some o →
    (o = none ∧ m = .fz) ∨ (∃ i, o = some i ∧ m = .fz ∧ Tg[i]? = some (.lst .fz)) ∨ ∃ i, o = some i ∧ m ≠ .fz ∧ Tg[i]? = some m
  | _, _, _, .nil, k, m, o, h1, _ => by simp at h1
  | _, _, _, .dfl _, k, m, o, _, h2 => by simp at h2
  | _, _, _, .val h, k, m, o, h1, h2 => by
    cases k with
    | zero => simp at h1 h2; exact .inl ⟨h2.symm, h1.symm⟩
    | succ k => exact h.arg k m o (by simpa using h1) (by simpa using h2)
  | _, _, _, .brw (i := i) ht _ h, k, m, o, h1, h2 => by
    cases k with
    | zero => simp at h1 h2; exact .inr (.inl ⟨i, h2.symm, h1.symm, ht⟩)
    | succ k => exact h.arg k m o (by simpa using h1) (by simpa using h2)
  | _, _, _, .own (i := i) ht hn _ h, k, m, o, h1, h2 => by
    cases k with
    | zero => simp at h1 h2; subst h1; exact .inr (.inr ⟨i, h2.symm, hn, ht⟩)
    | succ k => exact h.arg k m o (by simpa using h1) (by simpa using h2)
theorem OkS.dflt : ∀ {ms : List Sh} {ks : List (Option Nat)} {n : Nat}, OkS Tg ms ks n → ∀ (k : Nat) m, ks.length ≤ k → ms[k]? = some m → m = .fz
  | _, _, _, .nil, k, m, _, h1 => by simp at h1
  | _, _, _, .dfl h, k, m, h0, h1 => by
    cases k with
    | zero => simp at h1; exact h1.symm
    | succ k => exact h.dflt k m (Nat.zero_le _) (by simpa using h1)
  | _, _, _, .val h, k, m, h0, h1 => by
    cases k with
    | zero => simp at h0
    | succ k => exact h.dflt k m (by simpa using h0) (by simpa using h1)
  | _, _, _, .brw _ _ h, k, m, h0, h1 => by
    cases k with
    | zero => simp at h0
    | succ k => exact h.dflt k m (by simpa using h0) (by simpa using h1)
  | _, _, _, .own _ _ _ h, k, m, h0, h1 => by
    cases k with
    | zero => simp at h0
    | succ k => exact h.dflt k m (by simpa using h0) (by simpa using h1)
theorem OkS.dis : ∀ {ms : List Sh} {ks : List (Option Nat)} {n : Nat}, OkS Tg ms ks n → ∀ (j k : Nat) i, ks[j]? = some (some i) → ks[k]? = some (some i) → j = k
  | _, _, _, .nil, j, k, i, h1, _ => by simp at h1
  | _, _, _, .dfl _, j, k, i, h1, _ => by simp at h1
  | _, _, _, .val h, j, k, i, h1, h2 => by
    cases j with
    | zero => simp at h1
    | succ j =>
      cases k with
      | zero => simp at h2
      | succ k => rw [h.dis j k i (by simpa using h1) (by simpa using h2)]
  | _, _, _, .brw _ hn h, j, k, i, h1, h2 => by
    cases j with
    | zero =>
      cases k with
      | zero => rfl
      | succ k =>
        simp at h1 h2
        subst h1
        exact absurd (List.mem_of_getElem? h2) hn
    | succ j =>
      cases k with
      | zero =>
        simp at h1 h2
        subst h2
        exact absurd (List.mem_of_getElem? h1) hn
      | succ k => rw [h.dis j k i (by simpa using h1) (by simpa using h2)]
  | _, _, _, .own _ _ hn h, j, k, i, h1, h2 => by
    cases j with
    | zero =>
      cases k with
      | zero => rfl
      | succ k =>
        simp at h1 h2
        subst h1
        exact absurd (List.mem_of_getElem? h2) hn
    | succ j =>
      cases k with
      | zero =>
        simp at h1 h2
        subst h2
        exact absurd (List.mem_of_getElem? h1) hn
      | succ k => rw [h.dis j k i (by simpa using h1) (by simpa using h2)]
end
theorem borrows_no : ∀ {ms : List Sh} {ks : List (Option Nat)}, borrows ms ks = false → ∀ (k : Nat) i, ms[k]? = some .fz → ks[k]? = some (some i) → False
  | [], _, _, k, i, h1, _ => by simp at h1
  | _ :: _, [], _, k, i, _, h2 => by simp at h2
  | m :: ms, o :: ks, h, k, i, h1, h2 => by
    unfold borrows at h
    rw [Bool.or_eq_false_iff] at h
    cases k with
    | zero =>
      simp at h1 h2
      subst h1 h2
      simp [isFz] at h
    | succ k => exact borrows_no h.2 k i (by simpa using h1) (by simpa using h2)
theorem putB_len : ∀ {ms : List Sh} {ks : List (Option Nat)} {ds : List D} {e : Env}, (putB ms ks ds e).length = e.length
  | [], _, _, _ => by simp [putB]
  | _ :: _, [], _, _ => by simp [putB]
  | _ :: _, _ :: _, [], _ => by simp [putB]
  | m :: ms, o :: ks, d :: ds, e => by
    unfold putB
    rw [putB_len]
    split <;> simp
/-- a slot that is no own argument stays -/
theorem putB_out : ∀ {ms : List Sh} {ks : List (Option Nat)} {ds : List D} {e : Env} {i : Nat}, (∀ (k : Nat) m, ms[k]? = some m → ks[k]? = some (some i) → m = .fz) → (putB ms ks ds e)[i]? = e[i]?
  | [], _, _, _, _, _ => by simp [putB]
  | _ :: _, [], _, _, _, _ => by simp [putB]
  | _ :: _, _ :: _, [], _, _, _ => by simp [putB]
  | m :: ms, o :: ks, d :: ds, e, i, h => by
    unfold putB
    rw [putB_out fun k m' h1 h2 => h (k + 1) m' (by simpa using h1) (by simpa using h2)]
    split
    · rename_i j hm
      have hj : j ≠ i := by
        rintro rfl
        exact isFz_not.mp hm (h 0 m rfl rfl)
      rw [List.getElem?_set_ne hj]
    · rfl
theorem putB_in {Tg : List Sh} : ∀ {ms : List Sh} {ks : List (Option Nat)} {n : Nat} {ds : List D} {e : Env} {i k : Nat} {m : Sh} {d : D}, OkS Tg ms ks n → ms[k]? = some m → m ≠ .fz → ks[k]? = some (some i) → ds[k]? = some d → i < e.length → (putB ms ks ds e)[i]? = some (some d)
  | [], _, _, _, _, _, k, _, _, _, h1, _, _, _, _ => by simp at h1
  | _ :: _, [], _, _, _, _, k, _, _, _, _, _, h2, _, _ => by simp at h2
  | _ :: _, _ :: _, _, [], _, _, k, _, _, _, _, _, _, h3, _ => by simp at h3
  | m0 :: ms, o :: ks, n, d0 :: ds, e, i, k, m, d, ok, h1, hm, h2, h3, hi => by
    unfold putB
    cases k with
    | zero =>
      simp at h1 h2 h3
      subst h1 h2 h3
      have hz : isFz m0 = false := isFz_not.mpr hm
      rw [hz]
      dsimp only
      have hn : ∀ (k : Nat), ks[k]? ≠ some (some i) := fun k hk => by
        have := ok.dis 0 (k + 1) i rfl (by simpa using hk)
        omega
      rw [putB_out fun k m' _ h => absurd h (hn k), List.getElem?_set_self hi]
    | succ k =>
      have ok' : OkS Tg ms ks n := by
        cases ok with
        | val h => exact h
        | brw _ _ h => exact h
        | own _ _ _ h => exact h
      refine putB_in ok' (by simpa using h1) hm (by simpa using h2) (by simpa using h3) ?_
      split <;> simpa using hi
end DL

/-! Calls are sound. -/
namespace DL
open PySem PySem.Spec PyProof.Rows L2
open Evl (Ex ex_l ex_t ex_rd)

section
variable {X : Cx} {C : Ct} {W : WX}
theorem RLs.len {K : Frag} {G : Hp} {σ : L2.St} : ∀ {vs : List V} {ls : List Lv}, RLs K C G σ vs ls → vs.length = ls.length
  | _, _, .nil => rfl
  | _, _, .cons _ b => by simp [b.len]
theorem RLs.at {K : Frag} {G : Hp} {σ : L2.St} : ∀ {vs : List V} {ls : List Lv}, RLs K C G σ vs ls → ∀ (k : Nat) v l, vs[k]? = some v → ls[k]? = some l → RL K C G σ v l
  | _, _, .nil, k, v, l, h1, _ => by simp at h1
  | _, _, .cons a b, k, v, l, h1, h2 => by
    cases k with
    | zero => simp at h1 h2; subst h1 h2; exact a
    | succ k => exact b.at k v l (by simpa using h1) (by simpa using h2)
theorem getsA_len : ∀ {ls : List Lv} {e : Env} {ds : List D}, getsA ls e = some ds → ds.length = ls.length
  | [], _, _, h => by cases h; rfl
  | l :: ls, e, ds, h => by
    have h : (l.getA e).bind (fun d => (getsA ls e).map (d :: ·)) = some ds := h
    cases q : l.getA e with
    | none => rw [q] at h; cases h
    | some d =>
      cases q2 : getsA ls e with
      | none => rw [q, q2] at h; cases h
      | some es =>
        rw [q, q2] at h
        cases h
        simp [getsA_len q2]
theorem getsA_at : ∀ {ls : List Lv} {e : Env} {ds : List D}, getsA ls e = some ds → ∀ (k : Nat) l d, ls[k]? = some l → ds[k]? = some d → l.getA e = some d
  | [], _, _, h, k, l, d, h1, _ => by simp at h1
  | l0 :: ls, e, ds, h, k, l, d, h1, h2 => by
    have h : (l0.getA e).bind (fun d => (getsA ls e).map (d :: ·)) = some ds := h
    cases q : l0.getA e with
    | none => rw [q] at h; cases h
    | some d0 =>
      cases q2 : getsA ls e with
      | none => rw [q, q2] at h; cases h
      | some es =>
        rw [q, q2] at h
        cases h
        cases k with
        | zero => simp at h1 h2; subst h1 h2; exact q
        | succ k => exact getsA_at q2 k l d (by simpa using h1) (by simpa using h2)

/-- what stands around a call -/
structure CallAt (K : Frag) (mg : MG) (C : Ct) (G H : Hp) (σ : L2.St) (e : Env) (Sg : Nat → ASet) (modes : List Sh) (ks : List (Option Nat)) (n : Nat) : Prop where
  g : Good K mg C G H σ e Sg
  ok : OkS C.Tg modes ks n
section
variable {K : Frag} {mg : MG} {G H : Hp} {σ : L2.St} {e : Env} {Sg : Nat → ASet} {modes : List Sh} {ks : List (Option Nat)} {n : Nat}
/-- slot i is an own argument; a borrowed one -/
def OwnA (modes : List Sh) (ks : List (Option Nat)) (i : Nat) : Prop := ∃ (k : Nat) (m : Sh), ks[k]? = some (some i) ∧ modes[k]? = some m ∧ m ≠ .fz
def BrwA (modes : List Sh) (ks : List (Option Nat)) (i : Nat) : Prop := ∃ (k : Nat), ks[k]? = some (some i) ∧ modes[k]? = some .fz
theorem CallAt.apart (c : CallAt K mg C G H σ e Sg modes ks n) {i : Nat} (h1 : OwnA modes ks i) (h2 : BrwA modes ks i) : False := by
  obtain ⟨k, m, a1, a2, a3⟩ := h1
  obtain ⟨j, b1, b2⟩ := h2
  have := c.ok.dis k j i a1 b1
  subst this
  rw [a2] at b2
  cases b2
  exact a3 rfl
abbrev Bset (modes : List Sh) (ks : List (Option Nat)) (Sg : Nat → ASet) (H : Hp) : ASet := fun a => ∃ i, BrwA modes ks i ∧ Sg i a ∧ ∃ vs, H a = some (.lst vs)
noncomputable def gIn (G H : Hp) (B : ASet) : Hp := fun a => @ite _ (B a) (Classical.propDecidable _) (H a) (G a)
theorem gIn_yes {B : ASet} {a : Addr} (h : B a) : gIn G H B a = H a := by
  unfold gIn
  rw [if_pos h]
theorem gIn_no {B : ASet} {a : Addr} (h : ¬ B a) : gIn G H B a = G a := by
  unfold gIn
  rw [if_neg h]
theorem CallAt.exIn (c : CallAt K mg C G H σ e Sg modes ks n) : Ex G (gIn G H (Bset modes ks Sg H)) := fun a o h => by
  have nb : ¬ Bset modes ks Sg H a := fun ⟨i, _, z, _⟩ => by
    have := (c.g.gs i a z).1
    rw [h] at this
    cases this
  rw [gIn_no nb]
  exact h
theorem CallAt.inH (c : CallAt K mg C G H σ e Sg modes ks n) : Ex (gIn G H (Bset modes ks Sg H)) H := fun a o h => by
  by_cases hb : Bset modes ks Sg H a
  · rw [gIn_yes hb] at h
    exact h
  · rw [gIn_no hb] at h
    exact c.g.gh a o h
abbrev Sa (modes : List Sh) (ks : List (Option Nat)) (Sg : Nat → ASet) : Nat → ASet := fun k a => ∃ i m, ks[k]? = some (some i) ∧ modes[k]? = some m ∧ m ≠ .fz ∧ Sg i a
theorem CallAt.sa_own (c : CallAt K mg C G H σ e Sg modes ks n) {k : Nat} {a : Addr} (h : Sa modes ks Sg k a) : ∃ i, OwnA modes ks i ∧ Sg i a := by
  obtain ⟨i, m, h1, h2, h3, h4⟩ := h
  exact ⟨i, ⟨k, m, h1, h2, h3⟩, h4⟩
theorem CallAt.notB (c : CallAt K mg C G H σ e Sg modes ks n) {i : Nat} {a : Addr} (h : Sg i a) (hi : ¬ BrwA modes ks i) : ¬ Bset modes ks Sg H a := fun ⟨j, hj, z, _⟩ => by
  have := c.g.dis i j a h z
  subst this
  exact hi hj
/-- the callee's arguments -/
theorem CallAt.args (c : CallAt K mg C G H σ e Sg modes ks n) {vs : List V} {ls : List Lv} {ds : List D} {dvs : List V} {dd : List D} (hr : RLs K C G σ vs ls) (hls : ls.map Lv.slot = ks) (hd : getsA ls e = some ds) (hv : DpAll K (gIn G H (Bset modes ks Sg H)) dvs dd) :
    ∀ (k : Nat) sh v d, modes[k]? = some sh → (vs ++ dvs)[k]? = some v → (ds ++ dd)[k]? = some d → Own K mg (gIn G H (Bset modes ks Sg H)) H sh v d (Sa modes ks Sg k) := by
  intro k sh v d h1 h2 h3
  have l1 := hr.len
  have l2 := getsA_len hd
  have l3 : ks.length = ls.length := by rw [← hls]; simp
  by_cases hk : k < ls.length
  · rw [List.getElem?_append_left (by omega)] at h2 h3
    have hl : ls[k]? = some ls[k] := List.getElem?_eq_getElem hk
    have hrl := hr.at k v _ h2 hl
    have hga := getsA_at hd k _ d hl h3
    have hks : ks[k]? = some (ls[k]).slot := by
      rw [← hls, List.getElem?_map, hl]
      rfl
    have eqS : ∀ {i : Nat}, ks[k]? = some (some i) → sh ≠ .fz → Sa modes ks Sg k = Sg i := fun {i} q1 q2 => by
      funext a
      refine propext ⟨fun ⟨j, m, a1, a2, a3, a4⟩ => ?_, fun z => ⟨i, sh, q1, h1, q2, z⟩⟩
      rw [q1] at a1
      cases a1
      exact a4
    -- a slot's thing
    have slotCase : ∀ i, (ls[k]).slot = some i → σ[i]? = some (some v) → e.getD i none = some d → Own K mg (gIn G H (Bset modes ks Sg H)) H sh v d (Sa modes ks Sg k) := fun i q1 q2 q3 => by
      have q4 : e[i]? = some (some d) := Good.getD (G := G) (H := H) (σ := σ) (Sg := Sg) q3
      rw [q1] at hks
      rcases c.ok.arg k sh _ h1 hks with ⟨z, _⟩ | ⟨j, z, rfl, ht⟩ | ⟨j, z, hn, ht⟩
      · cases z
      · cases z
        obtain ⟨w, q5, q6⟩ := c.g.slot i _ d ht q4
        rw [q2] at q5
        cases q5
        obtain ⟨p, ws, es, rfl, rfl, hp, sp, ha⟩ := own_lst_inv q6
        refine .fz (.lst (.inl (.inl ?_)) (dps_ex c.exIn _ _ ha))
        rw [gIn_yes ⟨i, ⟨k, hks, h1⟩, sp, _, hp⟩]
        exact hp
      · cases z
        obtain ⟨w, q5, q6⟩ := c.g.slot i _ d ht q4
        rw [q2] at q5
        cases q5
        rw [eqS hks hn]
        exact q6.mono c.exIn fun _ _ => rfl
    cases q : ls[k] with
    | val d' =>
      rw [q] at hrl hga hks
      cases hga
      rcases c.ok.arg k sh _ h1 hks with ⟨_, rfl⟩ | ⟨j, z, _⟩ | ⟨j, z, _⟩
      · exact .fz (dp_ex c.exIn _ _ hrl)
      · cases z
      · cases z
    | plc i =>
      rw [q] at hrl hga
      exact slotCase i (by rw [q]; rfl) hrl.1 hga
    | own i =>
      rw [q] at hrl hga
      exact slotCase i (by rw [q]; rfl) hrl.1 hga
  · rw [List.getElem?_append_right (by omega)] at h2 h3
    have := c.ok.dflt k sh (by omega) h1
    subst this
    rw [l1] at h2
    rw [l2] at h3
    exact .fz (dps_at _ _ hv _ _ _ h2 h3)
theorem own_cut {G H : Hp} {B : ASet} {sh : Sh} {v : V} {d : D} {S : ASet} (hB : ∀ a, B a → ∃ vs, G a = some (.lst vs)) (h : Own K mg G H sh v d S) (hi : (∀ a, ¬ B a) ∨ indep sh d = true) : Own K mg (cut G B) H sh v d S := by
  rcases hi with hi | hi
  · have : cut G B = G := by
      funext a
      exact cut_no (hi a)
    rw [this]
    exact h
  · unfold indep at hi
    split at hi
    · exact .fz (dp_cut hB _ _ hi (own_fz_inv h))
    · obtain ⟨p, vs, es, rfl, e2, hp, sp, ha⟩ := own_lst_inv h
      cases e2
      exact own_lst hp sp (dps_cut hB _ _ hi ha)
    · cases hi
/-- behind the call -/
theorem CallAt.back (c : CallAt K mg C G H σ e Sg modes ks n) {vs : List V} {ls : List Lv} {dvs : List V} {outs : List D} {G' H' : Hp} {Sb : Nat → ASet} (hr : RLs K C G σ vs ls) (hls : ls.map Lv.slot = ks) (hn : ls.length + dvs.length = modes.length) (hin : borrows modes ks = false ∨ indeps modes outs = true)
    (b : Back K mg modes (vs ++ dvs) (gIn G H (Bset modes ks Sg H)) H (fun a => ∃ k, Sa modes ks Sg k a) outs G' H' Sb) :
    ∃ Sg', Good K mg C (cut G' (Bset modes ks Sg H)) H' σ (putB modes ks outs e) Sg' ∧ Ex G (cut G' (Bset modes ks Sg H)) ∧
      (∀ S : ASet, (∀ a, S a → G' a = none ∧ H' a ≠ none ∧ (H a = none ∨ ∃ k, Sa modes ks Sg k a)) → (∀ k a, S a → ¬ Sb k a) → Lone C (cut G' (Bset modes ks Sg H)) H' Sg' S) ∧
      (∀ (rsh : Sh) v r S, Own K mg G' H' rsh v r S → borrows modes ks = false ∨ indep rsh r = true → Own K mg (cut G' (Bset modes ks Sg H)) H' rsh v r S) := by
  have hB : ∀ a, Bset modes ks Sg H a → ∃ vs, G' a = some (.lst vs) := fun a hb => by
    obtain ⟨_, _, _, vs, hv⟩ := id hb
    refine ⟨vs, b.gg a _ ?_⟩
    rw [gIn_yes hb]
    exact hv
  have noB : borrows modes ks = false → ∀ a, ¬ Bset modes ks Sg H a := fun hbr a ⟨i, ⟨k, q1, q2⟩, _⟩ => borrows_no hbr k i q2 q1
  have l1 := hr.len
  have l3 : ks.length = ls.length := by rw [← hls]; simp
  have exg : Ex G (cut G' (Bset modes ks Sg H)) := fun a o h => by
    have nb : ¬ Bset modes ks Sg H a := fun ⟨i, _, z, _⟩ => by
      have := (c.g.gs i a z).1
      rw [h] at this
      cases this
    rw [cut_no nb]
    refine b.gg a o ?_
    rw [gIn_no nb]
    exact h
  have outG : ∀ {i : Nat} {a : Addr}, Sg i a → ¬ OwnA modes ks i → cut G' (Bset modes ks Sg H) a = none := fun {i a} h hno => by
    by_cases hb : Bset modes ks Sg H a
    · exact cut_yes hb
    · rw [cut_no hb]
      cases q : G' a with
      | none => rfl
      | some o =>
        rcases b.gn a (by rw [q]; simp) with z | z | ⟨k, z⟩
        · rw [gIn_no hb] at z
          exact absurd (c.g.gs i a h).1 z
        · exact absurd z (c.g.gs i a h).2.1
        · obtain ⟨j, hj, z⟩ := c.sa_own z
          have := c.g.dis i j a h z
          subst this
          exact absurd hj hno
  have keepH : ∀ {i : Nat} {a : Addr}, Sg i a → ¬ OwnA modes ks i → H' a = H a := fun {i a} h hno => by
    cases q : H a with
    | none => exact absurd q (c.g.gs i a h).2.1
    | some o =>
      refine b.fr a o q fun ⟨k, z⟩ => ?_
      obtain ⟨j, hj, z⟩ := c.sa_own z
      have := c.g.dis i j a h z
      subst this
      exact hno hj
  have fromS : ∀ {k : Nat} {a : Addr}, Sa modes ks Sg k a → C.H0 a = none ∨ C.S0 a := fun {k a} h => by
    obtain ⟨i, _, z⟩ := c.sa_own h
    exact (c.g.gs i a z).2.2
  have noneC : ∀ {a : Addr}, H a = none → C.H0 a = none := fun {a} h => by
    cases q : C.H0 a with
    | none => rfl
    | some o => exact absurd h (c.g.al a (by rw [q]; simp))
  let Sg' : Nat → ASet := fun i a => (∃ (k : Nat) (m : Sh), ks[k]? = some (some i) ∧ modes[k]? = some m ∧ m ≠ .fz ∧ Sb k a) ∨ (¬ OwnA modes ks i ∧ Sg i a)
  have sgOwn : ∀ {i k : Nat} {m : Sh}, ks[k]? = some (some i) → modes[k]? = some m → m ≠ .fz → Sg' i = Sb k := fun {i k m} h1 h2 h3 => by
    funext a
    refine propext ⟨fun z => ?_, fun z => .inl ⟨k, m, h1, h2, h3, z⟩⟩
    rcases z with ⟨j, m', a1, a2, a3, a4⟩ | ⟨z, _⟩
    · have := c.ok.dis j k i a1 h1
      subst this
      exact a4
    · exact absurd ⟨k, m, h1, h2, h3⟩ z
  have sgOut : ∀ {i : Nat}, ¬ OwnA modes ks i → Sg' i = Sg i := fun {i} hno => by
    funext a
    refine propext ⟨fun z => ?_, fun z => .inr ⟨hno, z⟩⟩
    rcases z with ⟨j, m', a1, a2, a3, a4⟩ | ⟨_, z⟩
    · exact absurd ⟨j, m', a1, a2, a3⟩ hno
    · exact z
  have outE : ∀ {i : Nat}, ¬ OwnA modes ks i → (putB modes ks outs e)[i]? = e[i]? := fun {i} hno => putB_out fun k m h1 h2 => by
    cases m with
    | fz => rfl
    | _ => exact absurd ⟨k, _, h2, h1, by simp⟩ hno
  have inE : ∀ {i k : Nat} {m : Sh} {d : D}, ks[k]? = some (some i) → modes[k]? = some m → m ≠ .fz → outs[k]? = some d → (putB modes ks outs e)[i]? = some (some d) := fun {i k m d} h1 h2 h3 h4 => by
    refine putB_in c.ok h2 h3 h1 h4 ?_
    rcases c.ok.arg k m _ h2 h1 with ⟨z, _⟩ | ⟨j, z, ht⟩ | ⟨j, z, _, ht⟩
    · cases z
    · exact absurd ht.1 h3
    · cases z
      rw [c.g.le]
      exact (List.getElem?_eq_some_iff.mp ht).1
  refine ⟨Sg', ⟨c.g.ls, by rw [putB_len]; exact c.g.le, fun i sh d h1 h2 => ?_, fun i j a h1 h2 => ?_, fun i a h => ?_, fun a o h => ?_, c.g.g0.trans exg, fun a o h1 h2 => ?_, fun a h => b.al a (c.g.al a h), fun a h => ?_, c.g.pin, fun i sh h1 h2 h3 => ?_, c.g.lock⟩, exg, fun S hS hb => ⟨fun a ha => ?_, fun i a ha hs => ?_⟩, fun rsh v r S hS hb => own_cut hB hS (hb.imp noB id)⟩
  · by_cases ho : OwnA modes ks i
    · obtain ⟨k, m, a1, a2, a3⟩ := ho
      have hk : k < outs.length := by
        rw [b.len]
        exact (List.getElem?_eq_some_iff.mp a2).1
      have hok : outs[k]? = some outs[k] := List.getElem?_eq_getElem hk
      rw [inE a1 a2 a3 hok] at h2
      cases h2
      rcases c.ok.arg k m _ a2 a1 with ⟨z, _⟩ | ⟨j, z, ht⟩ | ⟨j, z, _, ht⟩
      · cases z
      · exact absurd ht.1 a3
      · cases z
        rw [h1] at ht
        cases ht
        have hkl : k < ls.length := by
          rw [← l3]
          exact (List.getElem?_eq_some_iff.mp a1).1
        have hl : ls[k]? = some ls[k] := List.getElem?_eq_getElem hkl
        have hv : vs[k]? = some vs[k] := List.getElem?_eq_getElem (by omega)
        have hsl : (ls[k]).slot = some i := by
          rw [← hls, List.getElem?_map, hl] at a1
          simpa using a1
        have hrl := hr.at k _ _ hv hl
        have hσ : σ[i]? = some (some vs[k]) := by
          cases q : ls[k] with
          | val d => rw [q] at hsl; cases hsl
          | plc j => rw [q] at hsl hrl; cases hsl; exact hrl.1
          | own j => rw [q] at hsl hrl; cases hsl; exact hrl.1
        refine ⟨vs[k], hσ, ?_⟩
        rw [sgOwn a1 a2 a3]
        have q := b.own k sh (vs[k]) (outs[k]) a2 a3 (by rw [List.getElem?_append_left (by omega)]; exact hv) hok
        exact own_cut hB q (hin.imp noB fun z => indeps_at z k sh _ a2 hok a3)
    · rw [outE ho] at h2
      obtain ⟨v, h3, h4⟩ := c.g.slot i sh d h1 h2
      refine ⟨v, h3, ?_⟩
      rw [sgOut ho]
      exact h4.mono exg fun a ha => keepH ha ho
  · rcases h1 with ⟨k, m, a1, a2, a3, a4⟩ | ⟨hno, h1⟩
    · rcases h2 with ⟨k', m', b1, b2, b3, b4⟩ | ⟨hno', h2⟩
      · have := b.dis k k' a a4 b4
        subst this
        rw [a1] at b1
        exact Option.some.inj (Option.some.inj b1)
      · exfalso
        obtain ⟨q1, q2, q3⟩ := b.gs k a a4
        rcases q3 with z | ⟨k2, z⟩
        · exact (c.g.gs j a h2).2.1 z
        · obtain ⟨i2, hi2, z⟩ := c.sa_own z
          have := c.g.dis j i2 a h2 z
          subst this
          exact hno' hi2
    · rcases h2 with ⟨k', m', b1, b2, b3, b4⟩ | ⟨hno', h2⟩
      · exfalso
        obtain ⟨q1, q2, q3⟩ := b.gs k' a b4
        rcases q3 with z | ⟨k2, z⟩
        · exact (c.g.gs i a h1).2.1 z
        · obtain ⟨i2, hi2, z⟩ := c.sa_own z
          have := c.g.dis i i2 a h1 z
          subst this
          exact hno hi2
      · exact c.g.dis i j a h1 h2
  · rcases h with ⟨k, m, a1, a2, a3, a4⟩ | ⟨hno, h⟩
    · obtain ⟨q1, q2, q3⟩ := b.gs k a a4
      refine ⟨?_, q2, q3.elim (fun z => .inl (noneC z)) fun ⟨k2, z⟩ => fromS z⟩
      by_cases hb : Bset modes ks Sg H a
      · exact cut_yes hb
      · rw [cut_no hb]
        exact q1
    · refine ⟨outG h hno, ?_, (c.g.gs i a h).2.2⟩
      rw [keepH h hno]
      exact (c.g.gs i a h).2.1
  · by_cases hb : Bset modes ks Sg H a
    · rw [cut_yes hb] at h
      cases h
    · rw [cut_no hb] at h
      exact b.gh a o h
  · refine b.fr a o (c.g.fr a o h1 h2) fun ⟨k, z⟩ => ?_
    rcases fromS z with q | q
    · rw [h1] at q
      cases q
    · exact h2 q
  · by_cases hb : Bset modes ks Sg H a
    · rw [cut_yes hb] at h
      exact absurd rfl h
    · rw [cut_no hb] at h
      rcases b.gn a h with z | z | ⟨k, z⟩
      · rw [gIn_no hb] at z
        exact c.g.gn a z
      · exact .inr (.inl (noneC z))
      · rcases fromS z with q | q
        · exact .inr (.inl q)
        · exact .inr (.inr q)
  · by_cases ho : OwnA modes ks i
    · obtain ⟨k, m, a1, a2, a3⟩ := ho
      have hk : k < outs.length := by
        rw [b.len]
        exact (List.getElem?_eq_some_iff.mp a2).1
      exact ⟨outs[k], inE a1 a2 a3 (List.getElem?_eq_getElem hk)⟩
    · rw [outE ho]
      exact c.g.par i sh h1 h2 h3
  · obtain ⟨q1, q2, q3⟩ := hS a ha
    refine ⟨?_, q2, q3.elim (fun z => .inl (noneC z)) fun ⟨k2, z⟩ => fromS z⟩
    by_cases hbb : Bset modes ks Sg H a
    · exact cut_yes hbb
    · rw [cut_no hbb]
      exact q1
  · rcases hs with ⟨k, m, a1, a2, a3, a4⟩ | ⟨hno, h⟩
    · exact hb k a ha a4
    · obtain ⟨q1, q2, q3⟩ := hS a ha
      rcases q3 with z | ⟨k2, z⟩
      · exact (c.g.gs i a h).2.1 z
      · obtain ⟨i2, hi2, z⟩ := c.sa_own z
        have := c.g.dis i i2 a h z
        subst this
        exact hno hi2
end
/-- f(e, ..) -/
theorem dO_call {x : Str} {f : Addr} {fd : FuncData} {ps : List Str} {dvs : List V} {ds' : List Value} {k : Nat} {modes : List Sh} {rsh : Sh} {m : List D → FR} {dd : List D} {ks : List (Option Nat)} {a : Expr} {es : List Expr} {p pos : Pos} {ca : Env → R (List Lv)}
    (F : FnOk X.prog X.w X.K X.mg X.base (L2N.CX X.prog X.w) k f fd ps (spF X.K X.mg modes rsh m)) (hr : Room k X.A) (hm : X.mg x = some (.ref f)) (hk : PySem.W.keepIn X.K (.ref f) = true) (hb : Binds X.K fd ps ds') (hd : Vals dvs ds') (hdd : ∀ G, DpAll X.K G dvs dd)
    (ok : OkS C.Tg modes ks dd.length) (tk : L2N.Takes X W) (ha : PA X (a :: es) (tAs X.K X.mg C W ca)) (hg : Gl X x := by rfl) (hdb : (x == ("__debug__" : Str)) = false := by decide)
    (he : starEach (a :: es) X.env = (false, eval a X.env) :: starEach es X.env := by rfl) (hpl : (backTo pos (starEach es X.env)).any (·.1) = false := by rfl) :
    PE X (.Call (.Name x p) (a :: es) [] pos) (tO X.K X.mg C W rsh (cCall modes ks rsh m dd ca)) := by
  refine PE.to (pe_callSD (E := WE W) F hr hg hm hk hb hd (fun σ => L2N.passAt tk σ) ha hdb he hpl) fun σ H Q ⟨G, e, Sg, g, q⟩ => ⟨G, e, Sg, g, (Post.bind q).imp fun ls e1 G1 H1 S1 _ g1 _ p1 vs hvs => ?_⟩
  split at p1
  · rename_i hls
    split at p1
    · exact False.elim p1
    · rename_i ds hga
      have c : CallAt X.K X.mg C G1 H1 σ e1 S1 modes ks dd.length := ⟨g1, ok⟩
      have l1 := hvs.len
      have l2 := getsA_len hga
      have l3 : ks.length = ls.length := by rw [← hls]; simp
      have l4 := ok.len
      have l5 : dvs.length = dd.length := dps_len _ _ (hdd G1)
      have base : ∀ R : Prop, R → R := fun _ h => h
      refine ⟨gIn G1 H1 (Bset modes ks S1 H1), ds ++ dd, Sa modes ks S1, by simp; omega, by simp; omega, c.args hvs hls hga (hdd _), fun i j b h1 h2 => ?_, fun i b h => ?_, fun i b h => ?_, c.inH, ?_⟩
      · obtain ⟨i1, m1, a1, a2, a3, a4⟩ := h1
        obtain ⟨i2, m2, b1, b2, b3, b4⟩ := h2
        have := g1.dis i1 i2 b a4 b4
        subst this
        exact ok.dis i j i1 a1 b1
      · obtain ⟨i1, ho, z⟩ := c.sa_own h
        refine ⟨?_, (g1.gs i1 b z).2.1⟩
        rw [gIn_no (c.notB z fun hbr => c.apart ho hbr)]
        exact (g1.gs i1 b z).1
      · obtain ⟨i1, m1, a1, a2, a3, a4⟩ := h
        exact (List.getElem?_eq_some_iff.mp a2).1
      · cases qm : m (ds ++ dd) with
        | ok r outs =>
          rw [qm] at p1
          dsimp only at p1
          split at p1
          · rename_i hin
            have hin : borrows modes ks = false ∨ (indep rsh r = true ∧ indeps modes outs = true) := by simpa using hin
            intro G' H' Sb v S bk ho hS hSb
            obtain ⟨Sg', g', x', lone, cutr⟩ := c.back hvs hls (by omega) (hin.imp id And.right) bk
            exact p1 _ H' Sg' g' x' v S (cutr rsh v r S ho (hin.imp id And.left)) (lone S hS hSb)
          · exact False.elim p1
        | ex xx outs =>
          rw [qm] at p1
          dsimp only at p1
          split at p1
          · rename_i hin
            have hin : borrows modes ks = false ∨ indeps modes outs = true := by simpa using hin
            intro G' H' Sb bk
            obtain ⟨Sg', g', x', _, _⟩ := c.back hvs hls (by omega) hin bk
            exact p1 _ H' Sg' g' x'
          · exact False.elim p1
        | st =>
          rw [qm] at p1
          exact False.elim p1
  · exact False.elim p1
/-- a frozen result as a value -/
theorem de_oz {K : Frag} {mg : MG} {e : Expr} {c : Env → R D} (h : PE X e (tO K mg C W .fz c)) : PE X e (tE K mg C W (cMelt c)) :=
  PE.to h fun σ H Q ⟨G, e, Sg, g, p⟩ => ⟨G, e, Sg, g, (Post.bind p).imp fun d e1 G1 H1 S1 _ g1 x1 p1 v S ho hl => p1 G1 H1 S1 g1 (Ex.refl G1) v (own_fz_inv ho)⟩
/-- a name of a thing that one's own def changes, as an argument -/
def cOwnV (i : Nat) : Env → R Lv := fun e => match e.getD i none with
  | some _ => .ok (.own i) e
  | none => .st
theorem de_own (i : Nat) {K : Frag} {mg : MG} {x : Str} {pos : Pos} {sh : Sh} (ht : C.Tg[i]? = some sh := by rfl) (hs : sh ≠ .fz := by intro z; cases z) (hN : X.N[i]? = some x := by rfl) (hv : Vis X.env.scope x := by first | exact Or.inl rfl | exact Or.inr (Or.inl rfl) | exact Or.inr (Or.inr rfl)) (hd : (x == ("__debug__" : Str)) = false := by decide)
    (hcd : (x == ("__classdict__" : Str)) = false := by decide) : PE X (.Name x pos) (tE K mg C W (cOwnV i)) :=
  PE.to (pe_var hN hv hd hcd) fun σ H Q ⟨G, e, Sg, g, p⟩ => by
    unfold cOwnV at p
    split at p
    · rename_i d he
      obtain ⟨v, h1, h2⟩ := g.slot i _ d ht (Good.getD (G := G) (H := H) (σ := σ) (Sg := Sg) he)
      exact ⟨v, h1, p G H Sg g (Ex.refl G) v ⟨h1, sh, ht, hs⟩⟩
    · exact False.elim p
end
end DL

/-! Comprehensions. -/
namespace DL
open PySem PySem.Spec PyProof.Rows L2
open Evl (Ex ex_l ex_t ex_rd)

def clearE (vs : List Nat) (e : Env) : Env := vs.foldl (fun e j => e.set j none) e
def restoreE (vs : List Nat) (e0 e : Env) : Env := vs.foldl (fun e j => e.set j (e0.getD j none)) e
def compL (vs : List Nat) (f : D → Env → Option Env) (t : Env → R Bool) (c : Env → R Lv) : List D → Env → R (List D)
  | [], e => .ok [] e
  | d :: r, e => match f d (clearE vs e) with
    | none => .st
    | some e1 => match t e1 with
      | .ok false e2 => compL vs f t c r e2
      | .ok true e2 => (match c e2 with
        | .ok (.val x) e3 => (match compL vs f t c r e3 with
          | .ok xs e4 => .ok (x :: xs) e4
          | _ => .st)
        | _ => .st)
      | _ => .st
def cYes : Env → R Bool := fun e => .ok true e
def cComp (vs : List Nat) (ci : Env → R (List D)) (f : D → Env → Option Env) (t : Env → R Bool) (c : Env → R Lv) : Env → R NV := fun e => (ci e).bind fun ds e1 =>
  if fits ds.length = true then
    match compL vs f t c ds e1 with
    | .ok xs e2 => .ok (.nl xs) (restoreE vs e1 e2)
    | _ => .st
  else .st

theorem clearE_len : ∀ {vs : List Nat} {e : Env}, (clearE vs e).length = e.length
  | [], _ => rfl
  | j :: vs, e => by
    show (clearE vs (e.set j none)).length = _
    rw [clearE_len, List.length_set]
theorem clearE_out : ∀ {vs : List Nat} {e : Env} {i : Nat}, i ∉ vs → (clearE vs e)[i]? = e[i]?
  | [], _, _, _ => rfl
  | j :: vs, e, i, h => by
    rw [List.mem_cons, not_or] at h
    show (clearE vs (e.set j none))[i]? = _
    rw [clearE_out h.2, List.getElem?_set_ne (fun z => h.1 z.symm)]
theorem clearE_none {vs : List Nat} {e : Env} {i : Nat} : ∀ {d : D}, i ∈ vs → (clearE vs e)[i]? ≠ some (some d) := by
  induction vs generalizing e with
  | nil => intro d h; simp at h
  | cons j vs ih =>
    intro d h
    show (clearE vs (e.set j none))[i]? ≠ _
    by_cases hv : i ∈ vs
    · exact ih hv
    · have : i = j := by
        rcases List.mem_cons.mp h with z | z
        · exact z
        · exact absurd z hv
      subst this
      rw [clearE_out hv]
      intro z
      rcases get_set z with ⟨_, z, _⟩ | ⟨z, _⟩
      · cases z
      · exact z rfl
theorem restoreE_len : ∀ {vs : List Nat} {e0 e : Env}, (restoreE vs e0 e).length = e.length
  | [], _, _ => rfl
  | j :: vs, e0, e => by
    show (restoreE vs e0 (e.set j (e0.getD j none))).length = _
    rw [restoreE_len, List.length_set]
theorem restoreE_out : ∀ {vs : List Nat} {e0 e : Env} {i : Nat}, i ∉ vs → (restoreE vs e0 e)[i]? = e[i]?
  | [], _, _, _, _ => rfl
  | j :: vs, e0, e, i, h => by
    rw [List.mem_cons, not_or] at h
    show (restoreE vs e0 (e.set j _))[i]? = _
    rw [restoreE_out h.2, List.getElem?_set_ne (fun z => h.1 z.symm)]
theorem restoreE_in : ∀ {vs : List Nat} {e0 e : Env} {i : Nat} {d : D}, i ∈ vs → (restoreE vs e0 e)[i]? = some (some d) → e0.getD i none = some d
  | [], _, _, _, _, h, _ => by simp at h
  | j :: vs, e0, e, i, d, h, q => by
    have q : (restoreE vs e0 (e.set j (e0.getD j none)))[i]? = some (some d) := q
    by_cases hv : i ∈ vs
    · exact restoreE_in hv q
    · have : i = j := by
        rcases List.mem_cons.mp h with z | z
        · exact z
        · exact absurd z hv
      subst this
      rw [restoreE_out hv] at q
      rcases get_set q with ⟨_, z, _⟩ | ⟨z, _⟩
      · exact z.symm
      · exact absurd rfl z

section
variable {K : Frag} {mg : MG} {C : Ct} {G G' H H' : Hp} {σ σ' : L2.St} {e e' : Env} {Sg Sg' : Nat → ASet}
theorem wipe_in : ∀ {vs : List Nat} {σ : L2.St} {i : Nat}, i ∈ vs → i < σ.length → (wipe σ vs)[i]? = some none
  | [], _, _, h, _ => by simp at h
  | j :: vs, σ, i, h, l => by
    unfold wipe
    by_cases hj : i = j
    · subst hj
      rw [List.getElem?_set_self (by rw [wipe_length]; exact l)]
    · rw [List.getElem?_set_ne (fun z => hj z.symm)]
      exact wipe_in ((List.mem_cons.mp h).resolve_left hj) l
theorem wipe_same {vs ws : List Nat} (hw : ∀ i ∈ ws, i ∈ vs) (s : SameBut ws (wipe σ vs) σ') : wipe σ' vs = wipe σ vs := by
  have l1 : σ'.length = σ.length := by rw [s.1, wipe_length]
  apply List.ext_getElem?
  intro i
  by_cases hi : i ∈ vs
  · by_cases hl : i < σ.length
    · rw [wipe_in hi (by omega), wipe_in hi hl]
    · rw [List.getElem?_eq_none (by rw [wipe_length]; omega), List.getElem?_eq_none (by rw [wipe_length]; omega)]
  · rw [wipe_out hi, s.2 i fun z => hi (hw i z)]
/-- the same place, the context newly begun -/
theorem Good.renew (g : Good K mg C G H σ e Sg) : Good K mg ⟨C.Tg, C.np, C.vs0, G, H, fun a => ∃ i, Sg i a, C.lk⟩ G H σ e Sg :=
  ⟨g.ls, g.le, g.slot, g.dis, fun i a h => ⟨(g.gs i a h).1, (g.gs i a h).2.1, .inr ⟨i, h⟩⟩, g.gh, Ex.refl _, fun _ _ h _ => h, fun _ h => h, fun _ h => .inl h, g.pin, g.par, g.lock⟩
theorem Good.trans (g : Good K mg C G H σ e Sg) (g' : Good K mg ⟨C.Tg, C.np, C.vs0, G, H, fun a => ∃ i, Sg i a, C.lk⟩ G' H' σ' e' Sg') : Good K mg C G' H' σ' e' Sg' := by
  have noneC : ∀ {a : Addr}, H a = none → C.H0 a = none := fun {a} h => by
    cases q : C.H0 a with
    | none => rfl
    | some o => exact absurd h (g.al a (by rw [q]; simp))
  refine ⟨g'.ls, g'.le, g'.slot, g'.dis, fun i a h => ?_, g'.gh, g.g0.trans g'.g0, fun a o h1 h2 => ?_, fun a h => g'.al a (g.al a h), fun a h => ?_, g'.pin, g'.par, g'.lock⟩
  · obtain ⟨h1, h2, h3⟩ := g'.gs i a h
    refine ⟨h1, h2, ?_⟩
    rcases h3 with z | ⟨j, z⟩
    · exact .inl (noneC z)
    · exact (g.gs j a z).2.2
  · refine g'.fr a o (g.fr a o h1 h2) fun ⟨j, z⟩ => ?_
    rcases (g.gs j a z).2.2 with q | q
    · rw [h1] at q
      cases q
    · exact h2 q
  · rcases g'.gn a h with z | z | ⟨j, z⟩
    · exact g.gn a z
    · exact .inr (.inl (noneC z))
    · rcases (g.gs j a z).2.2 with q | q
      · exact .inr (.inl q)
      · exact .inr (.inr q)
/-- an object that is nobody's stands through -/
theorem Good.stays (g : Good K mg C G H σ e Sg) (g' : Good K mg ⟨C.Tg, C.np, C.vs0, G, H, fun a => ∃ i, Sg i a, C.lk⟩ G' H' σ' e' Sg') {p : Addr} {o : HO} (hp : H p = some o) (hG : G p = none) (hs : ∀ i, ¬ Sg i p) : H' p = some o ∧ G' p = none ∧ ∀ i, ¬ Sg' i p := by
  refine ⟨g'.fr p o hp fun ⟨j, z⟩ => hs j z, ?_, fun i h => ?_⟩
  · cases q : G' p with
    | none => rfl
    | some u =>
      rcases g'.gn p (by rw [q]; simp) with z | z | ⟨j, z⟩
      · exact absurd hG z
      · have z : H p = none := z
        rw [hp] at z
        cases z
      · exact absurd z (hs j)
  · rcases (g'.gs i p h).2.2 with z | ⟨j, z⟩
    · have z : H p = none := z
      rw [hp] at z
      cases z
    · exact hs j z
/-- an object that is nobody's, dropped from the view -/
theorem Good.drop (g : Good K mg C G H σ e Sg) {p : Addr} (hG : G p = none) (hs : ∀ i, ¬ Sg i p) (h0 : C.H0 p = none) : Good K mg C G (fun a => if a = p then none else H a) σ e Sg := by
  have at' : ∀ {a : Addr}, a ≠ p → (fun a => if a = p then none else H a) a = H a := fun {a} h => by simp [h]
  refine ⟨g.ls, g.le, fun i sh d h1 h2 => ?_, g.dis, fun i a h => ?_, fun a o h => ?_, g.g0, fun a o h1 h2 => ?_, fun a h => ?_, g.gn, g.pin, g.par, g.lock⟩
  · obtain ⟨v, h3, h4⟩ := g.slot i sh d h1 h2
    exact ⟨v, h3, h4.mono (Ex.refl _) fun a ha => at' fun z => hs i (by rw [← z]; exact ha)⟩
  · obtain ⟨h1, h2, h3⟩ := g.gs i a h
    have z : a ≠ p := fun z => hs i (by rw [← z]; exact h)
    exact ⟨h1, by rw [if_neg z]; exact h2, h3⟩
  · have : a ≠ p := fun z => by rw [z, hG] at h; cases h
    rw [if_neg this]
    exact g.gh a o h
  · have : a ≠ p := fun z => by rw [z, h0] at h1; cases h1
    rw [if_neg this]
    exact g.fr a o h1 h2
  · have : a ≠ p := fun z => h (by rw [z, h0])
    rw [if_neg this]
    exact g.al a h
/-- into a block: its own slots forgotten -/
theorem Good.wiped (g : Good K mg C G H σ e Sg) {vs : List Nat} (hv : ∀ i ∈ vs, C.Tg[i]? = some .fz) (hk : ∀ i ∈ vs, lkFree C.lk i = true) {σ' : L2.St} (hw : wipe σ' vs = wipe σ vs) (hl : σ'.length = σ.length) : ∃ Sg', Good K mg C G H (wipe σ' vs) (clearE vs e) Sg' ∧ ∀ i a, Sg' i a → Sg i a := by
  rw [hw]
  refine ⟨fun i a => i ∉ vs ∧ Sg i a, ⟨by rw [wipe_length]; exact g.ls, by rw [clearE_len]; exact g.le, fun i sh d h1 h2 => ?_, fun i j a h1 h2 => g.dis i j a h1.2 h2.2, fun i a h => g.gs i a h.2, g.gh, g.g0, g.fr, g.al, g.gn, fun i sh h1 h2 h3 => ?_, fun i sh h1 h2 h3 => ?_, fun q hq => ?_⟩, fun i a h => h.2⟩
  · by_cases hi : i ∈ vs
    · exact absurd h2 (clearE_none hi)
    · rw [clearE_out hi] at h2
      obtain ⟨v, h3, h4⟩ := g.slot i sh d h1 h2
      refine ⟨v, by rw [wipe_out hi]; exact h3, ?_⟩
      have : (fun a => i ∉ vs ∧ Sg i a) = Sg i := by
        funext a
        simp [hi]
      rw [this]
      exact h4
  · have hi : i ∉ vs := fun z => by
      rw [hv i z] at h2
      cases h2
      exact h3 rfl
    rw [wipe_out hi]
    exact g.pin i sh h1 h2 h3
  · have hi : i ∉ vs := fun z => by
      rw [hv i z] at h2
      cases h2
      exact h3 rfl
    rw [clearE_out hi]
    exact g.par i sh h1 h2 h3
  · rw [wipe_out fun z => lkFree_ne (hk _ z) q hq rfl]
    exact g.lock q hq
/-- out of the block -/
theorem Good.unwiped {vs : List Nat} {e0 : Env} {G0 H0 : Hp} {Sg0 : Nat → ASet} (g0 : Good K mg C G0 H0 σ e0 Sg0) (x : Ex G0 G) (g : Good K mg C G H (wipe σ vs) (clearE vs e) Sg) (hv : ∀ i ∈ vs, C.Tg[i]? = some .fz) : Good K mg C G H σ (restoreE vs e0 e) Sg := by
  refine ⟨g0.ls, by rw [restoreE_len, ← clearE_len (vs := vs)]; exact g.le, fun i sh d h1 h2 => ?_, g.dis, g.gs, g.gh, g.g0, g.fr, g.al, g.gn, g0.pin, fun i sh h1 h2 h3 => ?_, g0.lock⟩
  · by_cases hi : i ∈ vs
    · have h3 := restoreE_in hi h2
      obtain ⟨v, h4, h5⟩ := g0.slot i sh d h1 (Good.getD (G := G0) (H := H0) (σ := σ) (Sg := Sg0) h3)
      rw [hv i hi] at h1
      cases h1
      exact ⟨v, h4, .fz (dp_ex x _ _ (own_fz_inv h5))⟩
    · rw [restoreE_out hi, ← clearE_out (vs := vs) hi] at h2
      obtain ⟨v, h3, h4⟩ := g.slot i sh d h1 h2
      rw [wipe_out hi] at h3
      exact ⟨v, h3, h4⟩
  · have hi : i ∉ vs := fun z => by
      rw [hv i z] at h2
      cases h2
      exact h3 rfl
    rw [restoreE_out hi, ← clearE_out (vs := vs) hi]
    exact g.par i sh h1 h2 h3
end

/-- no exception leaves a block -/
abbrev W0 : WX := fun _ _ _ _ => False
section
variable {X : Cx} {K : Frag} {mg : MG} {C : Ct} {W : WX} {rsh : Sh}
theorem PE.ex {ι : Type} {e : Expr} {t : ι → TE} (h : ∀ c, PE X e (t c)) : PE X e (fun σ H Q => ∃ c, t c σ H Q) := ⟨fun pins s σ H Q I ⟨c, q⟩ => (h c).run pins s σ H Q I q⟩
theorem PTs.ex {ι : Type} {e : List Expr} {t : ι → TT} (h : ∀ c, PTs X e (t c)) : PTs X e (fun σ H Q => ∃ c, t c σ H Q) := ⟨fun pins s σ H Q I ⟨c, q⟩ => (h c).run pins s σ H Q I q⟩
theorem PG.ex {ι : Type} {e : Expr} {t : ι → TG} (h : ∀ c, PG X e (t c)) : PG X e (fun v σ H Q => ∃ c, t c v σ H Q) := ⟨fun pins s σ H v u Q I r ⟨c, q⟩ => (h c).run pins s σ H v u Q I r q⟩
/-- the block's readings, whatever the context -/
def bE (K : Frag) (mg : MG) (Tg : List Sh) (np : Nat) (lk : List (Nat × V)) (c : Env → R Lv) : TE := fun σ H Q => ∃ p : List V × Hp × Hp × ASet, tE K mg ⟨Tg, np, p.1, p.2.1, p.2.2.1, p.2.2.2, lk⟩ W0 c σ H Q
def bT (K : Frag) (mg : MG) (Tg : List Sh) (np : Nat) (lk : List (Nat × V)) (c : Env → R Bool) : TT := fun σ H Q => ∃ p : List V × Hp × Hp × ASet, tT K mg ⟨Tg, np, p.1, p.2.1, p.2.2.1, p.2.2.2, lk⟩ W0 c σ H Q
def bG (K : Frag) (mg : MG) (Tg : List Sh) (np : Nat) (lk : List (Nat × V)) (ws : List Nat) (f : D → Env → Option Env) : TG := fun v σ H Q => ∃ p : List V × Hp × Hp × ASet, tG K mg ⟨Tg, np, p.1, p.2.1, p.2.2.1, p.2.2.2, lk⟩ ws f v σ H Q
theorem fits_lt {n m : Nat} (h : fits n = true) (l : m < n) : m < sizeLine := Nat.lt_of_lt_of_le l (fits_iff.mp h)
/-- what a loop walks, as long as the context is good -/
structure ItG (K : Frag) (mg : MG) (C : Ct) (G : Hp) (J : It) (ds : List D) : Prop where
  go : ∀ (i : Nat) G' H' σ e Sg, i < ds.length → Good K mg C G' H' σ e Sg → Ex G G' → J.go i H'
  yld : ∀ (i : Nat) x G' H' H2 σ e Sg, i < ds.length → Good K mg C G' H' σ e Sg → Ex G G' → J.yld i H' x H2 → H2 = H' ∧ ∃ d, ds[i]? = some d ∧ Dp K G' x d
  stop : ∀ (i : Nat) G' H' σ e Sg, ds.length ≤ i → Good K mg C G' H' σ e Sg → Ex G G' → J.stop i H'
theorem ItD.good {G : Hp} {J : It} {ds : List D} (h : ItD K G J ds) : ItG K mg C G J ds :=
  ⟨fun i G' H' _ _ _ l g x => (h.mono x).go i H' l g.gh, fun i v G' H' H2 _ _ _ l g x y => (h.mono x).yld i v H' H2 l g.gh y, fun i G' H' _ _ _ l g x => (h.mono x).stop i H' l g.gh⟩
theorem lc_body {vs ws : List Nat} {f : D → Env → Option Env} {t : Env → R Bool} {c : Env → R Lv} (hv : ∀ i ∈ vs, C.Tg[i]? = some .fz) (hk : ∀ i ∈ vs, lkFree C.lk i = true) (hw : ∀ i ∈ ws, i ∈ vs) {σ : L2.St} {Q : VK} {G1 H1 : Hp} {e1 : Env} {S1 : Nat → ASet} {ds : List D} {J : It}
    (g1 : Good K mg C G1 H1 σ e1 S1) (hJ : ItG K mg C G1 J ds) (p1 : Post K mg C W G1 σ (if fits ds.length = true then (match compL vs f t c ds e1 with | .ok xs e2 => R.ok (NV.nl xs) (restoreE vs e1 e2) | _ => .st) else .st) fun n _ G' H' _ => NVp K G' H' Q n) :
    tLc (fun _ _ Rr => Rr J H1) (bG K mg C.Tg C.np C.lk ws f) (bT K mg C.Tg C.np C.lk t) (bE K mg C.Tg C.np C.lk c) vs σ H1 Q := by
  intro Da hD
  split at p1
  · rename_i hfit
    -- the rest of the loop, from an env and what is made so far
    let Rest : Nat → List D → Env → Hp → Prop := fun i acc e' G' => match compL vs f t c (ds.drop i) e' with
      | .ok xs e2 => ∀ G2 H2 S2, Good K mg C G2 H2 σ (restoreE vs e1 e2) S2 → Ex G' G2 → NVp K G2 H2 Q (.nl (acc ++ xs))
      | _ => False
    have noD : ∀ {u : HO}, G1 Da ≠ some u := fun {u} z => by
      have := g1.gh Da u z
      rw [hD] at this
      cases this
    have gD : G1 Da = none := by
      cases q : G1 Da with
      | none => rfl
      | some u => exact absurd q noD
    have sD : ∀ i, ¬ S1 i Da := fun i z => (g1.gs i Da z).2.1 hD
    have hD0 : C.H0 Da = none := by
      cases q : C.H0 Da with
      | none => rfl
      | some o => exact absurd hD (g1.al Da (by rw [q]; simp))
    have g2 := g1.new (p := Da) (o := .lst []) hD
    obtain ⟨Sw, gw, subw⟩ := g2.wiped hv hk (σ' := σ) rfl rfl
    have rest0 : Rest 0 [] e1 G1 := by
      show match compL vs f t c (ds.drop 0) e1 with | .ok xs e2 => _ | _ => False
      rw [List.drop_zero]
      cases q : compL vs f t c ds e1 with
      | ok xs e2 =>
        rw [q] at p1
        exact fun G2 H2 S2 g' x' => p1 G2 H2 S2 g' x'
      | ex x e2 => rw [q] at p1; exact False.elim p1
      | st => rw [q] at p1; exact False.elim p1
    refine ⟨fun i m H' => m = ds.length - i ∧ i ≤ ds.length ∧ ∃ G' e' Sg' acc vacc, Good K mg C G' H' (wipe σ vs) (clearE vs e') Sg' ∧ Ex G1 G' ∧ H' Da = some (.lst vacc) ∧ DpAll K G' vacc acc ∧ acc.length ≤ i ∧ G' Da = none ∧ (∀ i, ¬ Sg' i Da) ∧ Rest i acc e' G',
      ⟨ds.length, by simp, Nat.zero_le _, G1, e1, Sw, [], [], gw, Ex.refl _, upd_same, .nil, Nat.zero_le _, gD, fun i z => sD i (subw i Da z), rest0⟩, ?_⟩
    rintro i m H' ⟨rfl, hi, G', e', Sg', acc, vacc, g', x', hDa, hacc, hal, gD', sD', rest⟩
    by_cases hlt : i < ds.length
    · refine .inr ⟨hJ.go i G' H' _ _ _ hlt g' x', fun H2 => ∃ G2 e2 Sg2 acc2 vacc2, Good K mg C G2 H2 (wipe σ vs) (clearE vs e2) Sg2 ∧ Ex G1 G2 ∧ H2 Da = some (.lst vacc2) ∧ DpAll K G2 vacc2 acc2 ∧ acc2.length ≤ i + 1 ∧ G2 Da = none ∧ (∀ i, ¬ Sg2 i Da) ∧ Rest (i + 1) acc2 e2 G2,
        fun H2 h2 => ⟨ds.length - (i + 1), by omega, rfl, hlt, h2⟩, fun x H2 y => ?_⟩
      obtain ⟨rfl, d, hd, hdp⟩ := hJ.yld i x G' H' H2 _ _ _ hlt g' x' y
      have hdr : ds.drop i = d :: ds.drop (i + 1) := by
        rw [List.drop_eq_getElem_cons hlt]
        rw [List.getElem?_eq_getElem hlt] at hd
        rw [Option.some.inj hd]
      have rest : (match compL vs f t c (ds.drop i) e' with | .ok xs e2 => ∀ G2 H2 S2, Good K mg C G2 H2 σ (restoreE vs e1 e2) S2 → Ex G' G2 → NVp K G2 H2 Q (.nl (acc ++ xs)) | _ => False) := rest
      rw [hdr] at rest
      unfold compL at rest
      cases qf : f d (clearE vs e') with
      | none => rw [qf] at rest; exact False.elim rest
      | some e2 =>
        rw [qf] at rest
        dsimp only at rest
        -- the turn in a context of its own
        have gr := g'.renew
        refine ⟨(C.vs0, G', H2, fun a => ∃ i, Sg' i a), G', clearE vs e', Sg', d, e2, gr, hdp, qf, fun σ2 Sg2 g2 sb => ⟨wipe_same hw sb, ?_⟩⟩
        have l2 : σ2.length = σ.length := by rw [sb.1, wipe_length]
        have wsame := wipe_same hw sb
        refine ⟨(C.vs0, G', H2, fun a => ∃ i, Sg' i a), G', e2, Sg2, g2, ?_⟩
        cases qt : t e2 with
        | ex xx e3 => rw [qt] at rest; exact False.elim rest
        | st => rw [qt] at rest; exact False.elim rest
        | ok b e3 =>
          rw [qt] at rest
          intro G3 H3 S3 g3 x3
          obtain ⟨st1, st2, st3⟩ := g'.stays g3 hDa gD' sD'
          have g3C := g'.trans g3
          cases b with
          | false =>
            rw [if_neg Bool.false_ne_true]
            obtain ⟨S4, g4, sub4⟩ := g3C.wiped hv hk (σ' := σ2) rfl rfl
            rw [wsame] at g4
            refine ⟨G3, e3, S4, acc, vacc, g4, x'.trans x3, st1, dps_ex x3 _ _ hacc, by omega, st2, fun i z => st3 i (sub4 i Da z), ?_⟩
            show match compL vs f t c (ds.drop (i + 1)) e3 with | .ok xs e2 => _ | _ => False
            dsimp only at rest
            cases q : compL vs f t c (ds.drop (i + 1)) e3 with
            | ok xs e4 =>
              rw [q] at rest
              exact fun G5 H5 S5 g5 x5 => rest G5 H5 S5 g5 (x3.trans x5)
            | ex xx e4 => rw [q] at rest; exact False.elim rest
            | st => rw [q] at rest; exact False.elim rest
          | true =>
            rw [if_pos rfl]
            dsimp only at rest
            have gr3 := g3C.renew
            refine ⟨(C.vs0, G3, H3, fun a => ∃ i, S3 i a), G3, e3, S3, gr3, ?_⟩
            cases qc : c e3 with
            | ex xx e4 => rw [qc] at rest; exact False.elim rest
            | st => rw [qc] at rest; exact False.elim rest
            | ok l e4 =>
              rw [qc] at rest
              cases l with
              | plc i => exact False.elim rest
              | own i => exact False.elim rest
              | val x =>
                dsimp only at rest
                intro G4 H4 S4 g4 x4 v hv4
                obtain ⟨t1, t2, t3⟩ := g3C.stays g4 st1 st2 st3
                have g4C := g3C.trans g4
                have lacc : vacc.length = acc.length := dps_len _ _ hacc
                refine ⟨vacc, t1, fits_lt hfit (by omega), ?_⟩
                have g5 := g4C.free (p := Da) (o := .lst (vacc ++ [v])) (.inl hD0) t2 (by rw [t1]; simp) t3
                obtain ⟨S6, g6, sub6⟩ := g5.wiped hv hk (σ' := σ2) rfl rfl
                rw [wsame] at g6
                have hv4 : Dp K G4 v x := hv4
                refine ⟨G4, e4, S6, acc ++ [x], vacc ++ [v], g6, (x'.trans x3).trans x4, upd_same, dps_append (dps_ex x4 _ _ (dps_ex x3 _ _ hacc)) (.cons hv4 .nil), by simp; omega, t2, fun i z => t3 i (sub6 i Da z), ?_⟩
                show match compL vs f t c (ds.drop (i + 1)) e4 with | .ok xs e2 => _ | _ => False
                cases q : compL vs f t c (ds.drop (i + 1)) e4 with
                | ok xs e5 =>
                  rw [q] at rest
                  dsimp only at rest
                  refine fun G5 H5 S5 g5 x5 => ?_
                  have := rest G5 H5 S5 g5 ((x3.trans x4).trans x5)
                  rw [List.append_assoc]
                  exact this
                | ex xx e5 => rw [q] at rest; exact False.elim rest
                | st => rw [q] at rest; exact False.elim rest
    · have e0 : i = ds.length := by omega
      subst e0
      refine .inl ⟨hJ.stop _ G' H' _ _ _ (Nat.le_refl _) g' x', ?_⟩
      have rest : (match compL vs f t c (ds.drop ds.length) e' with | .ok xs e2 => ∀ G2 H2 S2, Good K mg C G2 H2 σ (restoreE vs e1 e2) S2 → Ex G' G2 → NVp K G2 H2 Q (.nl (acc ++ xs)) | _ => False) := rest
      rw [List.drop_length] at rest
      have rest : ∀ G2 H2 S2, Good K mg C G2 H2 σ (restoreE vs e1 e') S2 → Ex G' G2 → NVp K G2 H2 Q (.nl (acc ++ [])) := rest
      have gu := Good.unwiped g1 x' g' hv
      have gd := gu.drop gD' sD' hD0
      have q := rest G' _ Sg' gd (Ex.refl _) Da vacc (by simp) (by rw [List.append_nil]; exact hacc)
      have eq : upd (fun a => if a = Da then none else H' a) Da (.lst vacc) = H' := by
        funext a
        unfold upd
        by_cases ha : a = Da
        · subst ha
          simp [hDa]
        · simp [ha]
      rw [eq] at q
      exact q
  · exact False.elim p1

theorem lc_sound {vs ws : List Nat} {ci : Env → R (List D)} {f : D → Env → Option Env} {t : Env → R Bool} {c : Env → R Lv} (hv : ∀ i ∈ vs, C.Tg[i]? = some .fz) (hk : ∀ i ∈ vs, lkFree C.lk i = true) (hw : ∀ i ∈ ws, i ∈ vs) {σ : L2.St} {H : Hp} {Q : VK} (h : tN K mg C W (cComp vs ci f t c) σ H Q) :
    tLc (tI K mg C W ci) (bG K mg C.Tg C.np C.lk ws f) (bT K mg C.Tg C.np C.lk t) (bE K mg C.Tg C.np C.lk c) vs σ H Q := by
  obtain ⟨G, e, Sg, g, p⟩ := h
  exact ⟨G, e, Sg, g, (Post.bind p).imp fun ds e1 G1 H1 S1 _ g1 x1 p1 J hJ => lc_body hv hk hw g1 hJ.good p1⟩
theorem bE_of {Xb : Cx} {e : Expr} {Tg : List Sh} {np : Nat} {lk : List (Nat × V)} {c : Env → R Lv} (h : ∀ vs0 G0 H0 S0, PE Xb e (tE K mg ⟨Tg, np, vs0, G0, H0, S0, lk⟩ W0 c)) : PE Xb e (bE K mg Tg np lk c) := PE.ex fun p => h p.1 p.2.1 p.2.2.1 p.2.2.2
theorem bT_of {Xb : Cx} {e : Expr} {Tg : List Sh} {np : Nat} {lk : List (Nat × V)} {c : Env → R Bool} (h : ∀ vs0 G0 H0 S0, PT Xb e (tT K mg ⟨Tg, np, vs0, G0, H0, S0, lk⟩ W0 c)) : PTs Xb [e] (bT K mg Tg np lk c) := PTs.ex fun p => pts_one (h p.1 p.2.1 p.2.2.1 p.2.2.2)
theorem bT_nil {Xb : Cx} {Tg : List Sh} {np : Nat} {lk : List (Nat × V)} : PTs Xb [] (bT K mg Tg np lk cYes) := PTs.ex fun p => ⟨fun pins s σ H Q I ⟨G, e, Sg, g, q⟩ => pts_nil.run pins s σ H Q I (q G H Sg g (Ex.refl G))⟩
theorem bG_of {Xb : Cx} {e : Expr} {Tg : List Sh} {np : Nat} {lk : List (Nat × V)} {ws : List Nat} {f : D → Env → Option Env} (h : ∀ vs0 G0 H0 S0, PG Xb e (tG K mg ⟨Tg, np, vs0, G0, H0, S0, lk⟩ ws f)) : PG Xb e (bG K mg Tg np lk ws f) := PG.ex fun p => h p.1 p.2.1 p.2.2.1 p.2.2.2
/-- [elt for tg in iter if ..] -/
theorem dn_lc {elt tg iter : Expr} {ifs : List Expr} {scope : Scope} (own : List (Str × Nat)) {pos : Pos} {ws : List Nat} {ci : Env → R (List D)} {f : D → Env → Option Env} {t : Env → R Bool} {c : Env → R Lv} (hc : X.calm = true) (hN : X.N.Nodup) (hi : PI X tg iter (tI K mg C W ci)) (ok : BlkOk X.N X.env.scope scope own)
    (hv : ∀ i ∈ own.map (·.2), C.Tg[i]? = some .fz) (hk : ∀ i ∈ own.map (·.2), lkFree C.lk i = true) (hw : ∀ i ∈ ws, i ∈ own.map (·.2))
    (hg : ∀ (s : Shared) (H : Hp) (Cc : Addr) (cl : List (Str × Addr)) (fp : List Addr), PG (X.blk s H scope (compEnvC scope cl Cc X.env) fp) tg (bG K mg C.Tg C.np C.lk ws f)) (ht : ∀ (s : Shared) (H : Hp) (Cc : Addr) (cl : List (Str × Addr)) (fp : List Addr), PTs (X.blk s H scope (compEnvC scope cl Cc X.env) fp) ifs (bT K mg C.Tg C.np C.lk t))
    (he : ∀ (s : Shared) (H : Hp) (Cc : Addr) (cl : List (Str × Addr)) (fp : List Addr), PE (X.blk s H scope (compEnvC scope cl Cc X.env) fp) elt (bE K mg C.Tg C.np C.lk c)) (hs : ∀ x, foldedSetIterable iter X.env x = pure x := by intro _; rfl) :
    PE X (.ListComp elt [⟨tg, iter, ifs, 0⟩] scope pos) (tN K mg C W (cComp (own.map (·.2)) ci f t c)) :=
  PE.to (pe_lc hc hN hi ok hg ht he hs) fun σ H Q q => lc_sound hv hk hw q
/-- x = [..], kept as one's own; frozen -/
theorem ds_setLcO (i : Nat) {y : Str} {py : Pos} {elt tg iter : Expr} {ifs : List Expr} {scope : Scope} (own : List (Str × Nat)) {pos spos : Pos} {ws : List Nat} {ci : Env → R (List D)} {f : D → Env → Option Env} {t : Env → R Bool} {c : Env → R Lv} (hc : X.calm = true) (hN : X.N.Nodup) (hyl : X.env.scope.names.lookup y = some .local)
    (hsw : swapsWith (.ListComp elt [⟨tg, iter, ifs, 0⟩] scope pos) (some (.Name y py)) spos.line X.env = pure true) (hi : PI X tg iter (tI K mg C W ci)) (ok : BlkOk X.N X.env.scope scope own)
    (hv : ∀ i ∈ own.map (·.2), C.Tg[i]? = some .fz) (hk : ∀ i ∈ own.map (·.2), lkFree C.lk i = true) (hw : ∀ i ∈ ws, i ∈ own.map (·.2))
    (hg : ∀ (s : Shared) (H : Hp) (Cc : Addr) (cl : List (Str × Addr)) (fp : List Addr), PG (X.blk s H scope (compEnvC scope cl Cc X.env) fp) tg (bG K mg C.Tg C.np C.lk ws f)) (ht : ∀ (s : Shared) (H : Hp) (Cc : Addr) (cl : List (Str × Addr)) (fp : List Addr), PTs (X.blk s H scope (compEnvC scope cl Cc X.env) fp) ifs (bT K mg C.Tg C.np C.lk t))
    (he : ∀ (s : Shared) (H : Hp) (Cc : Addr) (cl : List (Str × Addr)) (fp : List Addr), PE (X.blk s H scope (compEnvC scope cl Cc X.env) fp) elt (bE K mg C.Tg C.np C.lk c)) (hT : C.Tg[i]? = some (.lst .fz) := by rfl) (hpn : C.np ≤ i := by exact Nat.le_of_ble_eq_true rfl) (hy : X.N[i]? = some y := by rfl) (hs : ∀ x, foldedSetIterable iter X.env x = pure x := by intro _; rfl) (hlk : lkFree C.lk i = true := by rfl) :
    PS X (.Assign [.Name y py] (.ListComp elt [⟨tg, iter, ifs, 0⟩] scope pos) spos) (tS K mg C W rsh (cSetO i (cOwn (cComp (own.map (·.2)) ci f t c)))) :=
  PS.to (ps_setLc hc hN hy hyl hsw hi ok hg ht he hs) fun Dn σ H ⟨G, e, Sg, g, p⟩ => by
    refine lc_sound hv hk hw (Q := fun x H1 => gName i x σ H1 Dn.nx) ⟨G, e, Sg, g, (Post.bind (PostS.bind p)).imp fun n e1 G1 H1 S1 _ g1 x1 p1 => ?_⟩
    cases n with
    | sc d => exact False.elim p1
    | nl ds => exact fun a vs ha hd => p1 G1 (upd H1 a (.lst vs)) S1 (g1.new ha) (Ex.refl G1) G1 (upd H1 a (.lst vs)) _ _ ((g1.new ha).set (S := fun b => b = a) hT hlk (.inl hpn) (own_lst upd_same rfl hd) (g1.lone ha)) (Ex.refl G1)
    | nt ds => exact False.elim p1
theorem ds_setLc (i : Nat) {y : Str} {py : Pos} {elt tg iter : Expr} {ifs : List Expr} {scope : Scope} (own : List (Str × Nat)) {pos spos : Pos} {ws : List Nat} {ci : Env → R (List D)} {f : D → Env → Option Env} {t : Env → R Bool} {c : Env → R Lv} (hc : X.calm = true) (hN : X.N.Nodup) (hyl : X.env.scope.names.lookup y = some .local)
    (hsw : swapsWith (.ListComp elt [⟨tg, iter, ifs, 0⟩] scope pos) (some (.Name y py)) spos.line X.env = pure true) (hi : PI X tg iter (tI K mg C W ci)) (ok : BlkOk X.N X.env.scope scope own)
    (hv : ∀ i ∈ own.map (·.2), C.Tg[i]? = some .fz) (hk : ∀ i ∈ own.map (·.2), lkFree C.lk i = true) (hw : ∀ i ∈ ws, i ∈ own.map (·.2))
    (hg : ∀ (s : Shared) (H : Hp) (Cc : Addr) (cl : List (Str × Addr)) (fp : List Addr), PG (X.blk s H scope (compEnvC scope cl Cc X.env) fp) tg (bG K mg C.Tg C.np C.lk ws f)) (ht : ∀ (s : Shared) (H : Hp) (Cc : Addr) (cl : List (Str × Addr)) (fp : List Addr), PTs (X.blk s H scope (compEnvC scope cl Cc X.env) fp) ifs (bT K mg C.Tg C.np C.lk t))
    (he : ∀ (s : Shared) (H : Hp) (Cc : Addr) (cl : List (Str × Addr)) (fp : List Addr), PE (X.blk s H scope (compEnvC scope cl Cc X.env) fp) elt (bE K mg C.Tg C.np C.lk c)) (hT : C.Tg[i]? = some .fz := by rfl) (hy : X.N[i]? = some y := by rfl) (hs : ∀ x, foldedSetIterable iter X.env x = pure x := by intro _; rfl) (hlk : lkFree C.lk i = true := by rfl) :
    PS X (.Assign [.Name y py] (.ListComp elt [⟨tg, iter, ifs, 0⟩] scope pos) spos) (tS K mg C W rsh (cAsg (cFrz (cComp (own.map (·.2)) ci f t c)) (fSet i))) :=
  PS.to (ps_setLc hc hN hy hyl hsw hi ok hg ht he hs) fun Dn σ H ⟨G, e, Sg, g, p⟩ => by
    refine lc_sound hv hk hw (Q := fun x H1 => gName i x σ H1 Dn.nx) ⟨G, e, Sg, g, (Post.bind (PostS.bind p)).imp fun n e1 G1 H1 S1 _ g1 x1 p1 => ?_⟩
    have newf : ∀ {a : Addr} {o : HO} {d : D}, H1 a = none → Dp K (upd G1 a o) (.ref a) d → n.d = d → gName i (.ref a) σ (upd H1 a o) Dn.nx := fun {a o d} ha hd hn => by
      have xg : Ex G1 (upd G1 a o) := ex_upd (by
        cases q : G1 a with
        | none => rfl
        | some u => have := g1.gh a u q; rw [ha] at this; cases this)
      subst hn
      exact p1 (upd G1 a o) (upd H1 a o) S1 (g1.newf ha) xg (upd G1 a o) (upd H1 a o) _ _ ((g1.newf ha).set hT hlk (.inr rfl) (.fz hd) .no) (Ex.refl _)
    have xg : ∀ {a : Addr} {o : HO}, H1 a = none → Ex G1 (upd G1 a o) := fun {a o} ha => ex_upd (by
        cases q : G1 a with
        | none => rfl
        | some u => have := g1.gh a u q; rw [ha] at this; cases this)
    cases n with
    | sc d => exact fun v hv => p1 G1 H1 S1 g1 (Ex.refl G1) G1 H1 _ _ (g1.set hT hlk (.inr rfl) (.fz hv) .no) (Ex.refl G1)
    | nl ds => exact fun a vs ha hd => newf ha (.lst (.inl (.inl upd_same)) (dps_ex (xg ha) _ _ hd)) rfl
    | nt ds => exact fun a vs ha hd => newf ha (.tup (.inl (.inl upd_same)) (dps_ex (xg ha) _ _ hd)) rfl
end
end DL

/-! Built-in functions, types of data, methods that write an own list. -/
namespace DL
open PySem PySem.Spec PyProof.Rows L2
open Evl (Ex ex_l ex_t ex_rd)

/-! ### mirrors of built-ins -/
def asI : List D → Option (List Int)
  | [] => some []
  | .int i :: r => (asI r).map (i :: ·)
  | _ :: _ => none
def asS : List D → Option (List Str)
  | [] => some []
  | .str i :: r => (asS r).map (i :: ·)
  | _ :: _ => none
def asB : List D → Option (List Bool)
  | [] => some []
  | .bool i :: r => (asB r).map (i :: ·)
  | _ :: _ => none
def maxI : List Int → Option Int
  | [] => none
  | a :: r => some (r.foldl (fun x y => if y > x then y else x) a)
def minI : List Int → Option Int
  | [] => none
  | a :: r => some (r.foldl (fun x y => if y < x then y else x) a)
def dLen : List D → Option NV
  | [.list ds] => some (.sc (.int ds.length))
  | [.tuple ds] => some (.sc (.int ds.length))
  | [.str z] => if fits z.length = true then some (.sc (.int z.length)) else none
  | _ => none
def dAbs : List D → Option NV
  | [.int i] => some (.sc (.int (if i < 0 then -i else i)))
  | _ => none
def dIntOf : List D → Option NV
  | [.int i] => some (.sc (.int i))
  | [.bool k] => some (.sc (.int (if k then 1 else 0)))
  | _ => none
def dBoolOf : List D → Option NV
  | [.int i] => some (.sc (.bool (i != 0)))
  | [.bool k] => some (.sc (.bool k))
  | _ => none
def dStrOf : List D → Option NV
  | [.int i] => if i.natAbs.log2 < 1920 then some (.sc (.str (toString i))) else none
  | [.str z] => some (.sc (.str z))
  | _ => none
def dRepr : List D → Option NV
  | [.int i] => if i.natAbs.log2 < 1920 then some (.sc (.str (toString i))) else none
  | _ => none
def dSum : List D → Option NV
  | [.list ds] => (asI ds).map fun ns => .sc (.int ns.sum)
  | _ => none
def dMax : List D → Option NV
  | [.list ds] => ((asI ds).bind maxI).map fun m => .sc (.int m)
  | [.int i, .int j] => some (.sc (.int (if j > i then j else i)))
  | _ => none
def dMin : List D → Option NV
  | [.list ds] => ((asI ds).bind minI).map fun m => .sc (.int m)
  | [.int i, .int j] => some (.sc (.int (if j < i then j else i)))
  | _ => none
def dList : List D → Option NV
  | [.list ds] => some (.nl ds)
  | [.tuple ds] => some (.nl ds)
  | _ => none
def dTuple : List D → Option NV
  | [.list ds] => some (.nt ds)
  | [.tuple ds] => some (.sc (.tuple ds))
  | _ => none
def dAny : List D → Option NV
  | [.list ds] => (asB ds).map fun bs => .sc (.bool (bs.any id))
  | _ => none
def dAll : List D → Option NV
  | [.list ds] => (asB ds).map fun bs => .sc (.bool (bs.all id))
  | _ => none
def likes (ds : List D) : Bool := ds.all fun d => ds.all fun d' => PySem.W.alike d d'
def isTupC : D → Bool
  | .tuple (_ :: _) => true
  | _ => false
def isOthC : D → Bool
  | .none => false
  | .tuple _ => false
  | _ => true
def sortable (ds : List D) : Bool := ds.all isTupC || ds.all isOthC
def okSort (ds : List D) : Bool := likes ds && sortable ds && fits ds.length && ds.all fun d => decide (d.depth < 60)
def sortD (rev : Bool) (ds : List D) : List D := ds.mergeSort (PySem.W.dataLe rev id)
def dSorted : List D → Option NV
  | [.list ds] => if okSort ds = true then some (.nl (sortD false ds)) else none
  | _ => none

section
variable {X : Cx} {K : Frag} {mg : MG} {C : Ct} {W : WX}
theorem Vws.one {G H : Hp} {xs : List V} {d : D} (h : Vws K G H xs [d]) : ∃ x, xs = [x] ∧ Vw K G H x d := by
  cases h with
  | cons h t =>
    cases t
    exact ⟨_, rfl, h⟩
theorem Vws.two {G H : Hp} {xs : List V} {d e : D} (h : Vws K G H xs [d, e]) : ∃ x y, xs = [x, y] ∧ Vw K G H x d ∧ Vw K G H y e := by
  cases h with
  | cons h t =>
    obtain ⟨y, rfl, h2⟩ := t.one
    exact ⟨_, _, rfl, h, h2⟩
theorem asI_vs {G : Hp} : ∀ {ds : List D} {vs : List V} {ns : List Int}, DpAll K G vs ds → asI ds = some ns → vs = ns.map V.int
  | [], _, ns, h, e => by
    cases h
    cases e
    rfl
  | d :: ds, _, ns, h, e => by
    cases h with
    | cons h1 h2 =>
      cases d with
      | int i =>
        have e : (asI ds).map (i :: ·) = some ns := e
        cases q : asI ds with
        | none => rw [q] at e; cases e
        | some ms =>
          rw [q] at e
          cases e
          cases h1
          rw [asI_vs h2 q]
          rfl
      | _ => cases e
theorem asS_vs {G : Hp} : ∀ {ds : List D} {vs : List V} {ns : List Str}, DpAll K G vs ds → asS ds = some ns → vs = ns.map V.str
  | [], _, ns, h, e => by
    cases h
    cases e
    rfl
  | d :: ds, _, ns, h, e => by
    cases h with
    | cons h1 h2 =>
      cases d with
      | str i =>
        have e : (asS ds).map (i :: ·) = some ns := e
        cases q : asS ds with
        | none => rw [q] at e; cases e
        | some ms =>
          rw [q] at e
          cases e
          cases h1
          rw [asS_vs h2 q]
          rfl
      | _ => cases e
theorem asB_vs {G : Hp} : ∀ {ds : List D} {vs : List V} {ns : List Bool}, DpAll K G vs ds → asB ds = some ns → vs = ns.map V.bl
  | [], _, ns, h, e => by
    cases h
    cases e
    rfl
  | d :: ds, _, ns, h, e => by
    cases h with
    | cons h1 h2 =>
      cases d with
      | bool i =>
        have e : (asB ds).map (i :: ·) = some ns := e
        cases q : asB ds with
        | none => rw [q] at e; cases e
        | some ms =>
          rw [q] at e
          cases e
          cases h1
          rw [asB_vs h2 q]
          rfl
      | _ => cases e
theorem maxI_is : ∀ {ns : List Int} {m : Int}, maxI ns = some m → m ∈ ns ∧ ∀ y, y ∈ ns → y ≤ m := by
  have go : ∀ (r : List Int) (a : Int), (r.foldl (fun x y => if y > x then y else x) a = a ∨ r.foldl (fun x y => if y > x then y else x) a ∈ r) ∧ a ≤ r.foldl (fun x y => if y > x then y else x) a ∧ ∀ y, y ∈ r → y ≤ r.foldl (fun x y => if y > x then y else x) a := by
    intro r
    induction r with
    | nil => intro a; exact ⟨.inl rfl, Int.le_refl _, fun y h => by cases h⟩
    | cons b r ih =>
      intro a
      rw [List.foldl_cons]
      obtain ⟨h1, h2, h3⟩ := ih (if b > a then b else a)
      refine ⟨?_, ?_, fun y hy => ?_⟩
      · rcases h1 with h1 | h1
        · by_cases hb : b > a
          · rw [if_pos hb] at h1 ⊢
            right
            rw [h1]
            exact List.mem_cons_self
          · rw [if_neg hb] at h1 ⊢
            exact .inl h1
        · exact .inr (List.mem_cons_of_mem _ h1)
      · refine Int.le_trans ?_ h2
        split <;> omega
      · rcases List.mem_cons.mp hy with rfl | hy
        · refine Int.le_trans ?_ h2
          split <;> omega
        · exact h3 y hy
  intro ns m h
  cases ns with
  | nil => cases h
  | cons a r =>
    cases h
    obtain ⟨h1, h2, h3⟩ := go r a
    refine ⟨?_, fun y hy => ?_⟩
    · rcases h1 with h1 | h1
      · rw [h1]; exact List.mem_cons_self
      · exact List.mem_cons_of_mem _ h1
    · rcases List.mem_cons.mp hy with rfl | hy
      · exact h2
      · exact h3 y hy
theorem minI_is : ∀ {ns : List Int} {m : Int}, minI ns = some m → m ∈ ns ∧ ∀ y, y ∈ ns → m ≤ y := by
  have go : ∀ (r : List Int) (a : Int), (r.foldl (fun x y => if y < x then y else x) a = a ∨ r.foldl (fun x y => if y < x then y else x) a ∈ r) ∧ r.foldl (fun x y => if y < x then y else x) a ≤ a ∧ ∀ y, y ∈ r → r.foldl (fun x y => if y < x then y else x) a ≤ y := by
    intro r
    induction r with
    | nil => intro a; exact ⟨.inl rfl, Int.le_refl _, fun y h => by cases h⟩
    | cons b r ih =>
      intro a
      rw [List.foldl_cons]
      obtain ⟨h1, h2, h3⟩ := ih (if b < a then b else a)
      refine ⟨?_, ?_, fun y hy => ?_⟩
      · rcases h1 with h1 | h1
        · by_cases hb : b < a
          · rw [if_pos hb] at h1 ⊢
            right
            rw [h1]
            exact List.mem_cons_self
          · rw [if_neg hb] at h1 ⊢
            exact .inl h1
        · exact .inr (List.mem_cons_of_mem _ h1)
      · refine Int.le_trans h2 ?_
        split <;> omega
      · rcases List.mem_cons.mp hy with rfl | hy
        · refine Int.le_trans h2 ?_
          split <;> omega
        · exact h3 y hy
  intro ns m h
  cases ns with
  | nil => cases h
  | cons a r =>
    cases h
    obtain ⟨h1, h2, h3⟩ := go r a
    refine ⟨?_, fun y hy => ?_⟩
    · rcases h1 with h1 | h1
      · rw [h1]; exact List.mem_cons_self
      · exact List.mem_cons_of_mem _ h1
    · rcases List.mem_cons.mp hy with rfl | hy
      · exact h2
      · exact h3 y hy
theorem lmem_max {ns : List Int} {m k : Int} (h : maxI ns = some m) (hk : k ∈ ns) (hm : ∀ y, y ∈ ns → y ≤ k) : k = m := by
  obtain ⟨h1, h2⟩ := maxI_is h
  have := h2 k hk
  have := hm m h1
  omega
theorem lmem_min {ns : List Int} {m k : Int} (h : minI ns = some m) (hk : k ∈ ns) (hm : ∀ y, y ∈ ns → k ≤ y) : k = m := by
  obtain ⟨h1, h2⟩ := minI_is h
  have := h2 k hk
  have := hm m h1
  omega
theorem maxI_ne {ns : List Int} {m : Int} (h : maxI ns = some m) : 0 < ns.length := by
  cases ns with
  | nil => cases h
  | cons => simp
theorem minI_ne {ns : List Int} {m : Int} (h : minI ns = some m) : 0 < ns.length := by
  cases ns with
  | nil => cases h
  | cons => simp

/-! ### the calls -/
theorem cn_len : CalN X X.K (.builtin "len") dLen := ⟨⟨_, CallR.or call_len_seq call_len_str, fun G H xs ds nv Q xg hv hg hq => by
  unfold dLen at hg
  split at hg
  · cases hg
    obtain ⟨x, rfl, hx⟩ := hv.one
    obtain ⟨a, vs, rfl, h1, h2⟩ := hx.lst_inv xg
    refine .inl ⟨a, vs, rfl, .inl h1, ?_⟩
    rw [dps_len _ _ h2]
    exact hq _ (.int _)
  · cases hg
    obtain ⟨x, rfl, hx⟩ := hv.one
    obtain ⟨a, vs, rfl, h1, h2⟩ := hx.tup_inv xg
    refine .inl ⟨a, vs, rfl, .inr h1, ?_⟩
    rw [dps_len _ _ h2]
    exact hq _ (.int _)
  · split at hg
    · rename_i hz
      cases hg
      obtain ⟨x, rfl, hx⟩ := hv.one
      rw [hx.str_inv]
      exact .inr ⟨_, rfl, fits_iff.mp hz, hq _ (.int _)⟩
    · cases hg
  · cases hg⟩⟩
theorem cn_abs : CalN X X.K (.builtin "abs") dAbs := ⟨⟨_, call_abs, fun G H xs ds nv Q xg hv hg hq => by
  unfold dAbs at hg
  split at hg
  · cases hg
    obtain ⟨x, rfl, hx⟩ := hv.one
    rw [hx.int_inv]
    exact ⟨_, rfl, hq _ (.int _)⟩
  · cases hg⟩⟩
theorem cn_int : CalN X X.K (.type "int") dIntOf := ⟨⟨_, call_int1, fun G H xs ds nv Q xg hv hg hq => by
  unfold dIntOf at hg
  split at hg
  · cases hg
    obtain ⟨x, rfl, hx⟩ := hv.one
    rw [hx.int_inv]
    exact .inl ⟨_, rfl, hq _ (.int _)⟩
  · cases hg
    obtain ⟨x, rfl, hx⟩ := hv.one
    rw [hx.bl_inv]
    exact .inr ⟨_, rfl, hq _ (.int _)⟩
  · cases hg⟩⟩
theorem cn_bool : CalN X X.K (.type "bool") dBoolOf := ⟨⟨_, call_bool1, fun G H xs ds nv Q xg hv hg hq => by
  unfold dBoolOf at hg
  split at hg
  · cases hg
    obtain ⟨x, rfl, hx⟩ := hv.one
    rw [hx.int_inv]
    exact .inl ⟨_, rfl, hq _ (.bl _)⟩
  · cases hg
    obtain ⟨x, rfl, hx⟩ := hv.one
    rw [hx.bl_inv]
    exact .inr ⟨_, rfl, hq _ (.bl _)⟩
  · cases hg⟩⟩
theorem cn_str : CalN X X.K (.type "str") dStrOf := ⟨⟨_, CallR.or call_str_int SkE.call_str_str, fun G H xs ds nv Q xg hv hg hq => by
  unfold dStrOf at hg
  split at hg
  · split at hg
    · rename_i hz
      cases hg
      obtain ⟨x, rfl, hx⟩ := hv.one
      rw [hx.int_inv]
      exact .inl ⟨_, rfl, hz, hq _ (.str _)⟩
    · cases hg
  · cases hg
    obtain ⟨x, rfl, hx⟩ := hv.one
    rw [hx.str_inv]
    exact .inr ⟨_, rfl, hq _ (.str _)⟩
  · cases hg⟩⟩
theorem cn_repr : CalN X X.K (.builtin "repr") dRepr := ⟨⟨_, SkE.call_repr_int, fun G H xs ds nv Q xg hv hg hq => by
  unfold dRepr at hg
  split at hg
  · split at hg
    · rename_i hz
      cases hg
      obtain ⟨x, rfl, hx⟩ := hv.one
      rw [hx.int_inv]
      exact ⟨_, rfl, hz, hq _ (.str _)⟩
    · cases hg
  · cases hg⟩⟩
theorem cn_sum (hc : X.calm = true) : CalN X X.K (.builtin "sum") dSum := ⟨⟨_, cr_sum hc, fun G H xs ds nv Q xg hv hg hq => by
  unfold dSum at hg
  split at hg
  · rename_i es
    cases q : asI es with
    | none => rw [q] at hg; cases hg
    | some ns =>
      rw [q] at hg
      cases hg
      obtain ⟨x, rfl, hx⟩ := hv.one
      obtain ⟨a, vs, rfl, h1, h2⟩ := hx.lst_inv xg
      have := asI_vs h2 q
      subst this
      exact ⟨a, ns, rfl, h1, hq _ (.int _)⟩
  · cases hg⟩⟩
theorem cn_max (hc : X.calm = true) : CalN X X.K (.builtin "max") dMax := ⟨⟨_, CallR.or (cr_max hc) (call_max2 hc), fun G H xs ds nv Q xg hv hg hq => by
  unfold dMax at hg
  split at hg
  · rename_i es
    cases q : asI es with
    | none => rw [q] at hg; cases hg
    | some ns =>
      cases q2 : maxI ns with
      | none => rw [q] at hg; simp [q2] at hg
      | some m =>
        rw [q] at hg
        simp [q2] at hg
        subst hg
        obtain ⟨x, rfl, hx⟩ := hv.one
        obtain ⟨a, vs, rfl, h1, h2⟩ := hx.lst_inv xg
        have := asI_vs h2 q
        subst this
        refine .inl ⟨a, ns, rfl, h1, maxI_ne q2, fun k hk hm => ?_⟩
        rw [lmem_max q2 hk hm]
        exact hq _ (.int _)
  · cases hg
    obtain ⟨x, y, rfl, hx, hy⟩ := hv.two
    rw [hx.int_inv, hy.int_inv]
    exact .inr ⟨_, _, rfl, hq _ (.int _)⟩
  · cases hg⟩⟩
theorem cn_min (hc : X.calm = true) : CalN X X.K (.builtin "min") dMin := ⟨⟨_, CallR.or (cr_min hc) (call_min2 hc), fun G H xs ds nv Q xg hv hg hq => by
  unfold dMin at hg
  split at hg
  · rename_i es
    cases q : asI es with
    | none => rw [q] at hg; cases hg
    | some ns =>
      cases q2 : minI ns with
      | none => rw [q] at hg; simp [q2] at hg
      | some m =>
        rw [q] at hg
        simp [q2] at hg
        subst hg
        obtain ⟨x, rfl, hx⟩ := hv.one
        obtain ⟨a, vs, rfl, h1, h2⟩ := hx.lst_inv xg
        have := asI_vs h2 q
        subst this
        refine .inl ⟨a, ns, rfl, h1, minI_ne q2, fun k hk hm => ?_⟩
        rw [lmem_min q2 hk hm]
        exact hq _ (.int _)
  · cases hg
    obtain ⟨x, y, rfl, hx, hy⟩ := hv.two
    rw [hx.int_inv, hy.int_inv]
    exact .inr ⟨_, _, rfl, hq _ (.int _)⟩
  · cases hg⟩⟩
theorem cn_list : CalN X X.K (.type "list") dList := ⟨⟨_, call_list_of, fun G H xs ds nv Q xg hv hg hq => by
  unfold dList at hg
  split at hg
  · cases hg
    obtain ⟨x, rfl, hx⟩ := hv.one
    obtain ⟨a, vs, rfl, h1, h2⟩ := hx.lst_inv xg
    exact ⟨a, vs, rfl, .inl h1, fun l hl => hq l vs hl h2⟩
  · cases hg
    obtain ⟨x, rfl, hx⟩ := hv.one
    obtain ⟨a, vs, rfl, h1, h2⟩ := hx.tup_inv xg
    exact ⟨a, vs, rfl, .inr h1, fun l hl => hq l vs hl h2⟩
  · cases hg⟩⟩
theorem cn_tuple : CalN X X.K (.type "tuple") dTuple := ⟨⟨_, call_tuple_of, fun G H xs ds nv Q xg hv hg hq => by
  unfold dTuple at hg
  split at hg
  · cases hg
    obtain ⟨x, rfl, hx⟩ := hv.one
    obtain ⟨a, vs, rfl, h1, h2⟩ := hx.lst_inv xg
    exact ⟨a, vs, rfl, .inl ⟨h1, fun l hl => hq l vs hl h2⟩⟩
  · cases hg
    obtain ⟨x, rfl, hx⟩ := hv.one
    cases hx with
    | fz hx =>
      cases hx with
      | tup h1 h2 => exact ⟨_, _, rfl, .inr ⟨ex_t xg h1, hq _ (.tup h1 h2)⟩⟩
  · cases hg⟩⟩
theorem cn_any (hc : X.calm = true) : CalN X X.K (.builtin "any") dAny := ⟨⟨_, cr_any hc, fun G H xs ds nv Q xg hv hg hq => by
  unfold dAny at hg
  split at hg
  · rename_i es
    cases q : asB es with
    | none => rw [q] at hg; cases hg
    | some ns =>
      rw [q] at hg
      cases hg
      obtain ⟨x, rfl, hx⟩ := hv.one
      obtain ⟨a, vs, rfl, h1, h2⟩ := hx.lst_inv xg
      have := asB_vs h2 q
      subst this
      exact ⟨a, ns, rfl, h1, hq _ (.bl _)⟩
  · cases hg⟩⟩
theorem cn_all (hc : X.calm = true) : CalN X X.K (.builtin "all") dAll := ⟨⟨_, cr_all hc, fun G H xs ds nv Q xg hv hg hq => by
  unfold dAll at hg
  split at hg
  · rename_i es
    cases q : asB es with
    | none => rw [q] at hg; cases hg
    | some ns =>
      rw [q] at hg
      cases hg
      obtain ⟨x, rfl, hx⟩ := hv.one
      obtain ⟨a, vs, rfl, h1, h2⟩ := hx.lst_inv xg
      have := asB_vs h2 q
      subst this
      exact ⟨a, ns, rfl, h1, hq _ (.bl _)⟩
  · cases hg⟩⟩

/-! ### sorted -/
theorem likes_of {ds : List D} (h : likes ds = true) : PySem.W.AllAlike (ds.map id) := by
  rw [List.map_id]
  intro d hd d' hd'
  unfold likes at h
  rw [List.all_eq_true] at h
  have := h d hd
  rw [List.all_eq_true] at this
  exact this d' hd'
theorem sortable_of {ds : List D} (h : sortable ds = true) : PySem.W.Sortable (ds.map id) := by
  rw [List.map_id]
  unfold sortable at h
  rw [Bool.or_eq_true, List.all_eq_true, List.all_eq_true] at h
  rcases h with h | h
  · left
    intro d hd
    have := h d hd
    unfold isTupC at this
    split at this
    · exact ⟨_, _, rfl⟩
    · cases this
  · right
    intro d hd
    have := h d hd
    unfold isOthC at this
    split at this
    · cases this
    · cases this
    · rename_i h1 h2
      exact ⟨h1, h2⟩
/-- values that stand for data, both in the two heaps -/
theorem each_of_dps {pins : List (Addr × Obj)} {σ : L2.St} {G H : Hp} {s : Shared} (I : Inv X pins σ H s) (xg : Ex G H) : ∀ {vs : List V} {us : List Value} {ds : List D}, Vals vs us → DpAll X.K G vs ds →
    PySem.W.EachIs (fun u d => ∃ v, RelV v u ∧ Dp X.K G v d) us ds ∧ PySem.W.EachIs (fun u d => ∃ as, Reads s.heap u (id d) as) us ds
  | _, _, _, .nil, h => by
    cases h
    exact ⟨.nil, .nil⟩
  | _, _, _, .cons r t, h => by
    cases h with
    | cons h1 h2 =>
      obtain ⟨a, b⟩ := each_of_dps I xg t h2
      exact ⟨.cons ⟨_, r, h1⟩ a, .cons (Dp.reads I _ _ _ (dp_ex xg _ _ h1) r) b⟩
theorem dps_of_each {G : Hp} : ∀ {us : List Value} {ds : List D}, PySem.W.EachIs (fun u d => ∃ v, RelV v u ∧ Dp K G v d) us ds → ∃ vs, Vals vs us ∧ DpAll K G vs ds
  | _, _, .nil => ⟨[], .nil, .nil⟩
  | _, _, .cons ⟨v, h1, h2⟩ t => by
    obtain ⟨vs, a, b⟩ := dps_of_each t
    exact ⟨v :: vs, .cons h1 a, .cons h2 b⟩
def rSortedD (K : Frag) : List V → Hp → VK → Prop := fun xs H Q => ∃ G a vs ds, xs = [V.ref a] ∧ Ex G H ∧ SqL K H a vs ∧ DpAll K G vs ds ∧ okSort ds = true ∧ ∀ p vs', H p = none → DpAll K G vs' (sortD false ds) → Q (.ref p) (upd H p (.lst vs'))
theorem cr_sortedD (hu : X.A.units + 64 < cLine) : CallR X (.builtin "sorted") (rSortedD X.K) := by
  intro pins s σ H xs us Q I r h
  obtain ⟨G, a, vs, ds, rfl, xg, hs, hd, ok, q⟩ := h
  unfold okSort at ok
  rw [Bool.and_eq_true, Bool.and_eq_true, Bool.and_eq_true] at ok
  obtain ⟨⟨⟨o1, o2⟩, o3⟩, o4⟩ := ok
  obtain ⟨its, rv, hl, hz⟩ := I.list hs
  rw [Vals.ref1 r]
  obtain ⟨e1, e2⟩ := each_of_dps I xg rv hd
  refine PySem.W.sorted_data (enc := id) hl.isList e1 e2 (likes_of o1) (sortable_of o2) (fits_iff.mp o3) (fun b hb => ?_) fun out ho eo => ?_
  · rw [List.all_eq_true] at o4
    have := of_decide_eq_true (o4 b hb)
    show X.A.units + 2 + b.depth < cLine
    omega
  · obtain ⟨vs', r', d'⟩ := dps_of_each eo
    obtain ⟨ep, he'⟩ := PyProof.Rows.sortedAll_at s.heap its out.toArray
    have hlen : vs'.length ≤ sizeLine := by
      rw [r'.length, ho]
      exact fits_iff.mp o3
    exact ⟨.ref _, upd H (s.heap.objs.size + 1) (.lst vs'), I.laid (t' := s.toks) (fun _ _ => PyProof.Rows.sortedAll_old) (Nat.le_succ _) ⟨hlen, out, ep, r', he'⟩, rfl, q _ _ (I.hok.fresh (Nat.le_succ _)) d'⟩
theorem cn_sorted (hu : X.A.units + 64 < cLine) : CalN X X.K (.builtin "sorted") dSorted := ⟨⟨_, cr_sortedD hu, fun G H xs ds nv Q xg hv hg hq => by
  unfold dSorted at hg
  split at hg
  · split at hg
    · rename_i ok
      cases hg
      obtain ⟨x, rfl, hx⟩ := hv.one
      obtain ⟨a, vs, rfl, h1, h2⟩ := hx.lst_inv xg
      exact ⟨G, a, vs, _, rfl, xg, h1, h2, ok, fun p vs' hp hd => hq p vs' hp hd⟩
    · cases hg
  · cases hg⟩⟩

/-! ### isinstance -/
def tyD : D → String
  | .none => "NoneType"
  | .bool _ => "bool"
  | .int _ => "int"
  | .str _ => "str"
  | .list _ => "list"
  | .tuple _ => "tuple"
  | .dict _ => "dict"
def isD (T : String) (d : D) : Bool := tyD d == T || (tyD d == "bool" && T == "int")
def cIsi (f : D → Bool) (c : Env → R Lv) : Env → R NV := fun e => (c e).bind fun l e1 => ofO ((l.get e1).map fun d => .sc (.bool (f d))) e1
/-- what isinstance says of data, for one built-in type -/
def KitT (T : String) : Prop := kitB "NoneType" T = some ("NoneType" == T) ∧ kitB "bool" T = some ("bool" == T || T == "int") ∧ kitB "int" T = some ("int" == T) ∧ kitB "str" T = some ("str" == T) ∧ kitB "list" T = some ("list" == T) ∧ kitB "tuple" T = some ("tuple" == T)
theorem kt_bool : KitT "bool" := by refine ⟨?_, ?_, ?_, ?_, ?_, ?_⟩ <;> decide +kernel
theorem kt_int : KitT "int" := by refine ⟨?_, ?_, ?_, ?_, ?_, ?_⟩ <;> decide +kernel
theorem kt_str : KitT "str" := by refine ⟨?_, ?_, ?_, ?_, ?_, ?_⟩ <;> decide +kernel
theorem kt_list : KitT "list" := by refine ⟨?_, ?_, ?_, ?_, ?_, ?_⟩ <;> decide +kernel
theorem kt_tuple : KitT "tuple" := by refine ⟨?_, ?_, ?_, ?_, ?_, ?_⟩ <;> decide +kernel
theorem kt_dict : KitT "dict" := by refine ⟨?_, ?_, ?_, ?_, ?_, ?_⟩ <;> decide +kernel
theorem kit_view {G H : Hp} {x : V} {d : D} (xg : Ex G H) (h : Vw K G H x d) : ∃ t, TyX K H x t ∧ ∀ T, KitT T → PySem.W.kitOne K t (.type T) = some (isD T d) := by
  cases d with
  | none => rw [h.non_inv]; refine ⟨_, .base .non, fun T ⟨k1, k2, k3, k4, k5, k6⟩ => ?_⟩; rw [kit_ty k1]; simp [isD, tyD]
  | bool b => rw [h.bl_inv]; refine ⟨_, .base (.bl b), fun T ⟨k1, k2, k3, k4, k5, k6⟩ => ?_⟩; rw [kit_ty k2]; simp [isD, tyD]
  | int i => rw [h.int_inv]; refine ⟨_, .base (.int i), fun T ⟨k1, k2, k3, k4, k5, k6⟩ => ?_⟩; rw [kit_ty k3]; simp [isD, tyD]
  | str z => rw [h.str_inv]; refine ⟨_, .base (.str z), fun T ⟨k1, k2, k3, k4, k5, k6⟩ => ?_⟩; rw [kit_ty k4]; simp [isD, tyD]
  | list ds =>
    obtain ⟨a, vs, rfl, h1, _⟩ := h.lst_inv xg
    have e : ∀ T, KitT T → PySem.W.kitOne K (.type "list") (.type T) = some (isD T (.list ds)) := fun T ⟨k1, k2, k3, k4, k5, k6⟩ => by rw [kit_ty k5]; simp [isD, tyD]
    rcases h1 with (h1 | ⟨o, h1⟩) | ⟨o, n, us, h1, h2, h3, h4, h5⟩
    · exact ⟨_, .base (.lst h1), e⟩
    · exact ⟨_, .base (.frz h1), e⟩
    · exact ⟨_, .kList h1 h2, e⟩
  | tuple ds =>
    obtain ⟨a, vs, rfl, h1, _⟩ := h.tup_inv xg
    have e : ∀ T, KitT T → PySem.W.kitOne K (.type "tuple") (.type T) = some (isD T (.tuple ds)) := fun T ⟨k1, k2, k3, k4, k5, k6⟩ => by rw [kit_ty k6]; simp [isD, tyD]
    rcases h1 with (h1 | ⟨o, h1⟩) | ⟨o, n, us, h1, h2, h3, h4⟩
    · exact ⟨_, .base (.tup h1), e⟩
    · exact ⟨_, .fTuple h1, e⟩
    · exact ⟨_, .kTuple h1 h2, e⟩
  | dict ds =>
    cases h with
    | fz h => cases h
/-- isinstance(x, T), T a built-in type -/
theorem dn_isi (T : String) {a : Expr} {x : Str} {p px pos : Pos} {ca : Env → R Lv} (k : KitT T) (ha : PE X a (tE X.K mg C W ca)) (hm : X.mg "isinstance" = none) (hmx : X.mg x = none) (hbx : bootBuiltins x = some (.type T)) (hg : Gl X "isinstance" := by rfl) (hgx : Gl X x := by rfl)
    (hn : x ≠ "__name__" := by decide) (hdb : (x == ("__debug__" : Str)) = false := by decide)
    (he : starEach [a, .Name x px] X.env = (false, eval a X.env) :: starEach [.Name x px] X.env := by rfl) (he2 : starEach [.Name x px] X.env = (false, eval (.Name x px) X.env) :: starEach [] X.env := by rfl) (hpl : (backTo pos (starEach [.Name x px] X.env)).any (·.1) = false := by rfl) :
    PE X (.Call (.Name "isinstance" p) [a, .Name x px] [] pos) (tN X.K mg C W (cIsi (isD T) ca)) :=
  PE.to (pe_callB call_isi hg hm PyProof.Rows.boot_isinstance (pa_cons ha (pa_cons (pe_bltn (v := .ty T) hgx hmx hbx rfl hn hdb) pa_nil he2) he) (by decide) (by decide) he hpl) fun σ H Q ⟨G, e, Sg, g, p⟩ => ⟨G, e, Sg, g, (Post.bind p).imp fun l e1 G1 H1 S1 _ g1 x1 p1 v hv => by
    obtain ⟨nv, h1, h2⟩ := Post.ofO p1
    cases q : l.get e1 with
    | none => rw [q] at h1; cases h1
    | some d =>
      rw [q] at h1
      cases h1
      obtain ⟨t, ht, hk⟩ := kit_view g1.gh (hv.view g1 q)
      exact ⟨v, .ty T, t, .type T, isD T d, rfl, .ty T, ht, hk T k, h2 G1 H1 S1 g1 (Ex.refl G1) _ (.bl _)⟩⟩
def tTy (Ts : List String) : TA := fun _ H Q => Q (Ts.map V.ty) H
theorem ta_nil : PA X [] (tTy []) := pa_nil
theorem ta_cons {T : String} {Ts : List String} {x : Str} {px : Pos} {es : List Expr} (hgx : Gl X x) (hmx : X.mg x = none) (hbx : bootBuiltins x = some (.type T)) (h : PA X es (tTy Ts)) (hn : x ≠ "__name__" := by decide) (hdb : (x == ("__debug__" : Str)) = false := by decide)
    (hs : starEach (.Name x px :: es) X.env = (false, eval (.Name x px) X.env) :: starEach es X.env := by rfl) : PA X (.Name x px :: es) (tTy (T :: Ts)) :=
  pa_cons (pe_bltn (v := .ty T) hgx hmx hbx rfl hn hdb) h hs
theorem kitAny_of {t : Value} {d : D} : ∀ {Ts : List String}, (∀ T, T ∈ Ts → PySem.W.kitOne K t (.type T) = some (isD T d)) → PySem.W.kitAny K t (Ts.map Value.type) = some (Ts.any fun T => isD T d)
  | [], _ => rfl
  | T :: Ts, h => by
    have ih := kitAny_of (Ts := Ts) fun T' h' => h T' (List.mem_cons_of_mem _ h')
    refine kitAny_cons (h T List.mem_cons_self) (fun z => ?_) (fun z => ?_)
    · rw [List.any_cons, z, Bool.false_or]
      exact ih
    · rw [List.any_cons, z, Bool.true_or]
theorem clsVs : ∀ (Ts : List String), Paired ClsV (Ts.map V.ty) (Ts.map Value.type)
  | [] => .nil
  | T :: Ts => .cons (.ty T) (clsVs Ts)
/-- isinstance(x, (T1, T2, ..)) -/
theorem dn_isiT (Ts : List String) {a : Expr} {es : List Expr} {kk : Nat} {p px pos : Pos} {ca : Env → R Lv} (k : ∀ T, T ∈ Ts → KitT T) (hz : Ts.length ≤ sizeLine) (ha : PE X a (tE X.K mg C W ca)) (hes : PA X es (tTy Ts)) (hm : X.mg "isinstance" = none) (hg : Gl X "isinstance" := by rfl)
    (he : starEach [a, .Tuple es kk px] X.env = (false, eval a X.env) :: starEach [.Tuple es kk px] X.env := by rfl) (he2 : starEach [.Tuple es kk px] X.env = (false, eval (.Tuple es kk px) X.env) :: starEach [] X.env := by rfl) (hpl : (backTo pos (starEach [.Tuple es kk px] X.env)).any (·.1) = false := by rfl) :
    PE X (.Call (.Name "isinstance" p) [a, .Tuple es kk px] [] pos) (tN X.K mg C W (cIsi (fun d => Ts.any fun T => isD T d) ca)) :=
  PE.to (pe_callB call_isiT hg hm PyProof.Rows.boot_isinstance (pa_cons ha (pa_cons (pe_tup hes) pa_nil he2) he) (by decide) (by decide) he hpl) fun σ H Q ⟨G, e, Sg, g, p⟩ => ⟨G, e, Sg, g, (Post.bind p).imp fun l e1 G1 H1 S1 _ g1 x1 p1 v hv => by
    obtain ⟨nv, h1, h2⟩ := Post.ofO p1
    cases q : l.get e1 with
    | none => rw [q] at h1; cases h1
    | some d =>
      rw [q] at h1
      cases h1
      refine ⟨by rw [List.length_map]; exact hz, fun tp htp => ?_⟩
      have g2 := g1.new (p := tp) (o := .tup (Ts.map V.ty)) htp
      have hv2 : Vw X.K G1 (upd H1 tp (.tup (Ts.map V.ty))) v d := hv.view g2 q
      obtain ⟨t, ht, hk⟩ := kit_view g2.gh hv2
      exact ⟨v, tp, _, t, _, _, rfl, upd_same, clsVs Ts, ht, kitAny_of fun T hT => hk T (k T hT), h2 G1 _ S1 g2 (Ex.refl G1) _ (.bl _)⟩⟩
end
end DL

/-! Writes to own lists, methods. -/
namespace DL
open PySem PySem.Spec PyProof.Rows L2
open Evl (Ex ex_l ex_t ex_rd)

/-! ### mirrors -/
/-- x.method(..) that writes the list that slot i owns -/
def cMut (i : Nat) (g : List D → List D → Option (D × List D)) (ca : Env → R (List Lv)) : Env → R Lv := fun e => match e.getD i none with
  | some (.list _) => (ca e).bind fun ls e1 => match e1.getD i none, vals ls with
    | some (.list ds), some as => (match g ds as with
      | some (r, ds') => .ok (.val r) (e1.set i (some (.list ds')))
      | none => .st)
    | _, _ => .st
  | _ => .st
/-- x[..] = .. of the list that slot i owns -/
def cStore (i : Nat) (cv ci : Env → R Lv) : Env → R Fl := fun e => (cv e).bind fun l e1 => match l with
  | .val d => (match e1.getD i none with
    | some _ => (ci e1).bind fun m e2 => (match e2.getD i none, m.get e2 with
      | some (.list ds), some (.int k) => (match ixN ds.length k with
        | some j => .ok .nx (e2.set i (some (.list (ds.set j d))))
        | none => .st)
      | _, _ => .st)
    | none => .st)
  | _ => .st
def gApp : List D → List D → Option (D × List D)
  | ds, [d] => if fits (ds.length + 1) = true then some (.none, ds ++ [d]) else none
  | _, _ => none
def gExt : List D → List D → Option (D × List D)
  | ds, [.list es] => if fits (ds.length + es.length) = true then some (.none, ds ++ es) else none
  | _, _ => none
def gPop : List D → List D → Option (D × List D)
  | ds, [] => (ds[ds.length - 1]?).map fun d => (d, ds.dropLast)
  | ds, [.int i] => if inR i = true then ((seqIndex? i ds.length).bind fun k => (ds[k]?).map fun d => (d, ds.eraseIdx k)) else none
  | _, _ => none
def gRev : List D → List D → Option (D × List D)
  | ds, [] => some (.none, ds.reverse)
  | _, _ => none
def gIns : List D → List D → Option (D × List D)
  | ds, [.int i, d] => if (fits (ds.length + 1) && decide (0 ≤ i) && inR i) = true then some (.none, ds.take i.toNat ++ [d] ++ ds.drop i.toNat) else none
  | _, _ => none

section
variable {X : Cx} {K : Frag} {mg : MG} {C : Ct} {W : WX} {rsh : Sh}
/-- an own list is written where it lies -/
theorem Good.write {G H : Hp} {σ : L2.St} {e : Env} {Sg : Nat → ASet} {i : Nat} {ds : List D} (g : Good K mg C G H σ e Sg) (ht : C.Tg[i]? = some (.lst .fz)) (he : e.getD i none = some (.list ds)) :
    ∃ p xs, σ[i]? = some (some (.ref p)) ∧ H p = some (.lst xs) ∧ DpAll K G xs ds ∧ ∀ xs' ds', DpAll K G xs' ds' → Good K mg C G (upd H p (.lst xs')) σ (e.set i (some (.list ds'))) Sg := by
  have he := Good.getD (G := G) (H := H) (σ := σ) (Sg := Sg) he
  obtain ⟨v, h1, h2⟩ := g.slot i _ _ ht he
  obtain ⟨p, xs, es, rfl, e2, hp, sp, hd⟩ := own_lst_inv h2
  cases e2
  refine ⟨p, xs, h1, hp, hd, fun xs' ds' hd' => ?_⟩
  obtain ⟨p1, p2, p3⟩ := g.gs i p sp
  refine ⟨g.ls, by rw [List.length_set]; exact g.le, fun j sh d q1 q2 => ?_, g.dis, fun j a q => ?_, fun a u q => ?_, g.g0, fun a u q1 q2 => ?_, fun a q => ?_, g.gn, g.pin, fun j sh q1 q2 q3 => ?_, g.lock⟩
  · rcases get_set q2 with ⟨rfl, z, _⟩ | ⟨hj, q2⟩
    · cases z
      rw [ht] at q1
      cases q1
      exact ⟨.ref p, h1, own_lst upd_same sp hd'⟩
    · obtain ⟨w, q3, q4⟩ := g.slot j sh d q1 q2
      refine ⟨w, q3, q4.mono (Ex.refl _) fun a ha => upd_ne fun z => ?_⟩
      subst z
      exact hj (g.dis j i a ha sp)
  · obtain ⟨q1, q2, q3⟩ := g.gs j a q
    refine ⟨q1, ?_, q3⟩
    by_cases ha : a = p
    · subst ha
      rw [upd_same]
      simp
    · rw [upd_ne ha]
      exact q2
  · have z : a ≠ p := fun z => by rw [z, p1] at q; cases q
    rw [upd_ne z]
    exact g.gh a u q
  · by_cases ha : a = p
    · subst ha
      rcases p3 with z | z
      · rw [z] at q1; cases q1
      · exact absurd z q2
    · rw [upd_ne ha]
      exact g.fr a u q1 q2
  · by_cases ha : a = p
    · subst ha
      rw [upd_same]
      simp
    · rw [upd_ne ha]
      exact g.al a q
  · by_cases hj : j = i
    · subst hj
      have hlt : j < e.length := (List.getElem?_eq_some_iff.mp he).1
      exact ⟨_, by rw [List.getElem?_set_self hlt]⟩
    · rw [List.getElem?_set_ne (Ne.symm hj)]
      exact g.par j sh q1 q2 q3

structure MutN (X : Cx) (K : Frag) (id : String) (g : List D → List D → Option (D × List D)) : Prop where
  run : ∃ r : V → List V → Hp → VK → Prop, MtM X id r ∧ ∀ (G H : Hp) (p : Addr) (xs : List V) (ds : List D) (vs : List V) (as : List D) (r' : D) (ds' : List D) (Q : VK), Ex G H → H p = some (.lst xs) → DpAll K G xs ds → DpAll K G vs as → g ds as = some (r', ds') →
    (∀ v xs', Dp K G v r' → DpAll K G xs' ds' → Q v (upd H p (.lst xs'))) → r (.ref p) vs H Q
section
variable {i : Nat} {a : Expr} {es : List Expr} {x name : Str} {p apos cpos : Pos} {id : String} {g : List D → List D → Option (D × List D)} {c : Env → R (List Lv)}
theorem de_mut (i : Nat) (pa : PlainAttrs "list") (slot : Slot "list" name id) (hty : typeOf (.builtin id) = pure (.type "method_descriptor")) (hm : MutN X X.K id g) (ha : PA X (a :: es) (tAs X.K mg C W c))
    (ht : C.Tg[i]? = some (.lst .fz) := by rfl) (hN : X.N[i]? = some x := by rfl) (hv : Vis X.env.scope x := by first | exact Or.inl rfl | exact Or.inr (Or.inl rfl) | exact Or.inr (Or.inr rfl)) (hd : (x == ("__debug__" : Str)) = false := by decide) (hcd : (x == ("__classdict__" : Str)) = false := by decide)
    (hbase : attributeBase (.Name x p) name X.env (eval (.Name x p) X.env) = eval (.Name x p) X.env := by rfl)
    (hfew : ((backTo cpos (starEach (a :: es) X.env)).all (fun x => !x.1) && (backToKw cpos (keywordEach [] X.env)).all (fun x => x.1.isSome)
      && decide ((a :: es).length + ([] : List Keyword).length + (if ([] : List Keyword).isEmpty then 0 else 1) < 30)) = true := by rfl)
    (hline : (apos.endLine == cpos.line) = true := by rfl) (hs : starEach (a :: es) X.env = (false, eval a X.env) :: starEach es X.env := by rfl) (hplain : (backTo cpos (starEach es X.env)).any (·.1) = false := by rfl) :
    PE X (.Call (.Attribute (.Name x p) name apos) (a :: es) [] cpos) (tE X.K mg C W (cMut i g c)) := by
  obtain ⟨r, hr, hs'⟩ := hm.run
  refine PE.to (pe_bm pa slot hty hr (pe_var hN hv hd hcd) ha hbase hfew hline hs hplain) fun σ H Q ⟨G, e, Sg, gd, p⟩ => ?_
  unfold cMut at p
  split at p
  · rename_i ds0 he0
    obtain ⟨l0, xs0, h1, h2, h3, _⟩ := gd.write ht he0
    refine ⟨.ref l0, h1, .inl ⟨rfl, xs0, .inl (.inl h2)⟩, G, e, Sg, gd, (Post.bind p).imp fun ls e1 G1 H1 S1 _ g1 x1 p1 vs hvs => ?_⟩
    split at p1
    · rename_i ds as he1 hls
      split at p1
      · rename_i r' ds' hg
        obtain ⟨l1, xs1, q1, q2, q3, q4⟩ := g1.write ht he1
        rw [h1] at q1
        cases q1
        exact hs' G1 H1 l0 xs1 ds vs as r' ds' Q g1.gh q2 q3 (hvs.vals hls) hg fun v xs' hv' hx' => p1 G1 _ S1 (q4 xs' ds' hx') (Ex.refl G1) v hv'
      · exact False.elim p1
    · exact False.elim p1
  · exact False.elim p
theorem de_mut0 (i : Nat) (pa : PlainAttrs "list") (slot : Slot "list" name id) (hty : typeOf (.builtin id) = pure (.type "method_descriptor")) (hm : MutN X X.K id g)
    (ht : C.Tg[i]? = some (.lst .fz) := by rfl) (hN : X.N[i]? = some x := by rfl) (hv : Vis X.env.scope x := by first | exact Or.inl rfl | exact Or.inr (Or.inl rfl) | exact Or.inr (Or.inr rfl)) (hd : (x == ("__debug__" : Str)) = false := by decide) (hcd : (x == ("__classdict__" : Str)) = false := by decide)
    (hbase : attributeBase (.Name x p) name X.env (eval (.Name x p) X.env) = eval (.Name x p) X.env := by rfl) (hline : (apos.endLine == cpos.line) = true := by rfl) :
    PE X (.Call (.Attribute (.Name x p) name apos) [] [] cpos) (tE X.K mg C W (cMut i g cNil)) := by
  obtain ⟨r, hr, hs'⟩ := hm.run
  refine PE.to (pe_bm0 pa slot hty hr (pe_var hN hv hd hcd) hbase hline) fun σ H Q ⟨G, e, Sg, gd, p⟩ => ?_
  unfold cMut at p
  split at p
  · rename_i ds0 he0
    obtain ⟨l0, xs0, h1, h2, h3, _⟩ := gd.write ht he0
    have p1 := (Post.bind p) G H Sg gd (Ex.refl G)
    dsimp only at p1
    split at p1
    · rename_i ds as he1 hls
      split at p1
      · rename_i r' ds' hg
        obtain ⟨l1, xs1, q1, q2, q3, q4⟩ := gd.write ht he1
        rw [h1] at q1
        cases q1
        have : as = [] := by
          have hls : some [] = some as := hls
          exact (Option.some.inj hls).symm
        subst this
        exact ⟨.ref l0, h1, .inl ⟨rfl, xs0, .inl (.inl h2)⟩, hs' G H l0 xs1 ds [] [] r' ds' Q gd.gh q2 q3 .nil hg fun v xs' hv' hx' => p1 G _ Sg (q4 xs' ds' hx') (Ex.refl G) v hv'⟩
      · exact False.elim p1
    · exact False.elim p1
  · exact False.elim p
end
theorem dps_set {G : Hp} : ∀ {vs : List V} {ds : List D} {v : V} {d : D} (j : Nat), DpAll K G vs ds → Dp K G v d → DpAll K G (vs.set j v) (ds.set j d)
  | _, _, _, _, _, .nil, _ => .nil
  | _, _, _, _, 0, .cons a b, h => .cons h b
  | _, _, _, _, j + 1, .cons a b, h => .cons a (dps_set j b h)
theorem ds_store (i : Nat) {x : Str} {ie ve : Expr} {p p2 pos : Pos} {cv ci : Env → R Lv} (he : PE X ve (tE K mg C W cv)) (hi : PE X ie (tE K mg C W ci))
    (ht : C.Tg[i]? = some (.lst .fz) := by rfl) (hN : X.N[i]? = some x := by rfl) (hv : Vis X.env.scope x := by first | exact Or.inl rfl | exact Or.inr (Or.inl rfl) | exact Or.inr (Or.inr rfl)) (hd : (x == ("__debug__" : Str)) = false := by decide) (hcd : (x == ("__classdict__" : Str)) = false := by decide)
    (ha : ∀ v, assign (.Subscript (.Name x p) ie p2) X.env v = (do
      let ov ← holding [v] (eval (.Name x p) X.env)
      let iv ← holding [v, ov] (eval ie X.env)
      standAt p2
      holding [v, ov, iv] (setItem ov iv v)
      release [v, ov, iv] []) := by intro _; rfl)
    (hs : swapsWithSole [.Subscript (.Name x p) ie p2] ve pos.line X.env = pure false := by rfl) (hw : swappedStores [.Subscript (.Name x p) ie p2] ve X.env = pure none := by rfl)
    (h1 : (assignEach [.Subscript (.Name x p) ie p2] X.env).map (·.2) = [assign (.Subscript (.Name x p) ie p2) X.env] := by rfl) : PS X (.Assign [.Subscript (.Name x p) ie p2] ve pos) (tS K mg C W rsh (cStore i cv ci)) :=
  PS.to (ps_asg he (pg_sub (pe_var hN hv hd hcd) hi set_list ha) hs hw h1) fun Dn σ H ⟨G, e, Sg, g, p⟩ => ⟨G, e, Sg, g, (PostS.bind p).imp fun l e1 G1 H1 S1 _ g1 x1 p1 v hv => by
    cases l with
    | plc i => exact False.elim p1
    | own i => exact False.elim p1
    | val d =>
      dsimp only at p1
      split at p1
      · rename_i d0 he0
        obtain ⟨w, q1, q2⟩ := g1.slot i _ d0 ht (Good.getD (G := G1) (H := H1) (σ := σ) (Sg := S1) he0)
        refine ⟨w, q1, G1, e1, S1, g1, (PostS.bind p1).imp fun m e2 G2 H2 S2 _ g2 x2 p2 iv hiv => ?_⟩
        split at p2
        · rename_i ds k he2 hm
          split at p2
          · rename_i j hj
            obtain ⟨l1, xs1, r1, r2, r3, r4⟩ := g2.write ht he2
            rw [q1] at r1
            cases r1
            have hv' : Dp K G1 v d := hv
            refine ⟨l1, xs1, k, j, rfl, (hiv.view g2 hm).int_inv, r2, by rw [dps_len _ _ r3]; exact hj, ?_⟩
            exact p2 G2 _ σ S2 (r4 _ _ (dps_set j r3 (dp_ex x2 _ _ hv'))) (Ex.refl G2)
          · exact False.elim p2
        · exact False.elim p2
      · exact False.elim p1⟩

/-! ### the methods -/
theorem mu_append : MutN X X.K "list.append" gApp := ⟨⟨_, mt_append, fun G H p xs ds vs as r' ds' Q xg hp hd ha hg q => by
  unfold gApp at hg
  split at hg
  · split at hg
    · rename_i hz
      cases hg
      cases ha with
      | cons h1 h2 =>
        cases h2
        refine ⟨p, xs, _, rfl, rfl, hp, ?_, q _ _ .non (dps_append hd (.cons h1 .nil))⟩
        rw [dps_len _ _ hd]
        have := fits_iff.mp hz
        omega
    · cases hg
  · cases hg⟩⟩
theorem dps_dropLast {G : Hp} : ∀ {vs : List V} {ds : List D}, DpAll K G vs ds → DpAll K G vs.dropLast ds.dropLast := fun h => by
  have := dps_len _ _ h
  rw [List.dropLast_eq_take, List.dropLast_eq_take, this]
  exact dps_take _ h
theorem dps_erase {G : Hp} : ∀ {vs : List V} {ds : List D} (j : Nat), DpAll K G vs ds → DpAll K G (vs.eraseIdx j) (ds.eraseIdx j)
  | _, _, _, .nil => .nil
  | _, _, 0, .cons a b => b
  | _, _, j + 1, .cons a b => .cons a (dps_erase j b)
theorem dps_rev {G : Hp} : ∀ {vs : List V} {ds : List D}, DpAll K G vs ds → DpAll K G vs.reverse ds.reverse
  | _, _, .nil => .nil
  | _, _, .cons a b => by
    rw [List.reverse_cons, List.reverse_cons]
    exact dps_append (dps_rev b) (.cons a .nil)
theorem dps_get {G : Hp} {vs : List V} {ds : List D} {j : Nat} {d : D} (h : DpAll K G vs ds) (hd : ds[j]? = some d) : ∃ v, vs[j]? = some v ∧ Dp K G v d := by
  have hl := dps_len _ _ h
  have hj := (List.getElem?_eq_some_iff.mp hd).1
  have hv : vs[j]? = some vs[j] := List.getElem?_eq_getElem (by omega)
  exact ⟨_, hv, dps_at _ _ h j _ _ hv hd⟩
def rPopB : V → List V → Hp → VK → Prop := fun x xs H Q => rPop x xs H Q ∨ rPopAt x xs H Q
theorem mt_popB : MtM X "list.pop" rPopB := fun pins s σ H x xs v us Q I rx rs q => q.elim (mt_pop pins s σ H x xs v us Q I rx rs) (mt_popAt pins s σ H x xs v us Q I rx rs)
theorem mu_pop : MutN X X.K "list.pop" gPop := ⟨⟨_, mt_popB, fun G H p xs ds vs as r' ds' Q xg hp hd ha hg q => by
  unfold gPop at hg
  have hl := dps_len _ _ hd
  split at hg
  · cases q1 : ds[ds.length - 1]? with
    | none => rw [q1] at hg; cases hg
    | some d =>
      rw [q1] at hg
      cases hg
      cases ha
      obtain ⟨v, hv, hdp⟩ := dps_get hd q1
      refine .inl ⟨p, xs, v, rfl, rfl, hp, by rw [hl]; exact hv, q _ _ hdp (dps_dropLast hd)⟩
  · rename_i i
    split at hg
    · rename_i hz
      have hz := inR_iff.mp hz
      cases q1 : seqIndex? i ds.length with
      | none => rw [q1] at hg; cases hg
      | some k =>
        cases q2 : ds[k]? with
        | none => rw [q1] at hg; simp [q2] at hg
        | some d =>
          rw [q1] at hg
          simp [q2] at hg
          obtain ⟨rfl, rfl⟩ := hg
          cases ha with
          | cons h1 h2 =>
            cases h2
            cases h1
            obtain ⟨v, hv, hdp⟩ := dps_get hd q2
            exact .inr ⟨p, xs, i, k, v, rfl, rfl, hp, by omega, by omega, by rw [hl]; exact q1, hv, q _ _ hdp (dps_erase k hd)⟩
    · cases hg
  · cases hg⟩⟩
theorem mu_reverse : MutN X X.K "list.reverse" gRev := ⟨⟨_, mt_reverse, fun G H p xs ds vs as r' ds' Q xg hp hd ha hg q => by
  unfold gRev at hg
  split at hg
  · cases hg
    cases ha
    exact ⟨p, xs, rfl, rfl, hp, q _ _ .non (dps_rev hd)⟩
  · cases hg⟩⟩
theorem mu_insert : MutN X X.K "list.insert" gIns := ⟨⟨_, mt_insert, fun G H p xs ds vs as r' ds' Q xg hp hd ha hg q => by
  unfold gIns at hg
  split at hg
  · split at hg
    · rename_i hz
      rw [Bool.and_eq_true, Bool.and_eq_true, decide_eq_true_iff] at hz
      obtain ⟨⟨z1, z2⟩, z3⟩ := hz
      have z3 := inR_iff.mp z3
      have z1 := fits_iff.mp z1
      cases hg
      cases ha with
      | cons h1 h2 =>
        cases h2 with
        | cons h2 h3 =>
          cases h3
          cases h1
          refine ⟨p, xs, _, _, rfl, rfl, hp, by rw [dps_len _ _ hd]; omega, z2, by omega, q _ _ .non (dps_append (dps_append (dps_take _ hd) (.cons h2 .nil)) (dps_drop _ hd))⟩
    · cases hg
  · cases hg⟩⟩
theorem list_extW (l : Addr) (its : Array Value) (n : Nat) (b : Addr) (its2 : Array Value) (n2 : Nat) (dd2 : Option Addr) (sl2 : Array (Option Value)) (hc0 : ¬(!its.isEmpty && Builtin.List.listTooLong (its.size + its2.size)) = true) (hc1 : its.size ≤ sizeLine) (hs2 : its.size + its2.size ≤ sizeLine + 1) :
    Meets (Builtin.«list.extend» ⟨[.ref l, .ref b], []⟩) (fun _ R s => s.heap.get? l = some { cls := .type "list", dict := none, data := .seq its n, slots := #[] } ∧ s.heap.get? b = some { cls := .type "list", dict := dd2, data := .seq its2 n2, slots := sl2 } ∧ R (.ok (.ret Value.none)) { s with heap := s.heap.update l (Obj.mapSeq fun x => x ++ its2), toks := s.toks }) :=
  .of_wp fun prog w A R s h => by
    obtain ⟨hp, g, d, tk, os⟩ := s
    obtain ⟨hl, hb, h⟩ := h
    have f1 := AutoSeq1.idx_int
    have f2 := AutoSeq1.sub_tuple_tuple
    have f3 := AutoSeq1.sub_list_list
    have f4 := AutoSeq1.sub_tuple_list
    have f5 := AutoSeq1.sub_list_tuple
    have hz' : (its ++ its2).size ≤ sizeLine + 1 := by rw [Array.size_append]; exact hs2
    wp_walk using (wpAny_updateSeq hl rfl (hz := hc1) (_hz' := hz')), wpAny_loadPart' hl, wpAny_loadPart' hb
    exact ⟨_, rfl, h⟩
def rExtS (K : Frag) : V → List V → Hp → VK → Prop := fun x vs H Q => ∃ l b xs zs, x = .ref l ∧ vs = [.ref b] ∧ H l = some (.lst xs) ∧ SqL K H b zs ∧ xs.length + zs.length ≤ sizeLine ∧ Q .non (upd H l (.lst (xs ++ zs)))
theorem mt_extS : MtM X "list.extend" (rExtS X.K) := by
  intro pins s σ H x vs v us Q I rx rv h
  obtain ⟨l, b, xs, zs, rfl, rfl, hH, hB, hz, q⟩ := h
  cases rx
  obtain ⟨u, rfl, ru⟩ := rv.one
  cases ru
  obtain ⟨z, its, n, r, hl, e⟩ := I.lstM hH
  obtain ⟨its2, r2, ⟨⟨cls, dd, data, sls⟩, n2, e2, hc, hdn, hdt⟩, _⟩ := I.list hB
  simp only at hc hdt
  subst hc hdt
  have hl2 := r2.length
  have hsz : its.toArray.size + its2.toArray.size ≤ sizeLine := by rw [List.size_toArray, List.size_toArray]; omega
  have hlong : ¬ (!its.toArray.isEmpty && Builtin.List.listTooLong (its.toArray.size + its2.toArray.size)) = true := by
    rw [notLongL hsz, Bool.and_false]
    exact Bool.false_ne_true
  refine call_meets PySem.F.slot_list_extend ⟨_, e, rfl⟩ PySem.F.entry_list_extend (PySem.F.args_list_extend_2 _ _) (list_extW l its.toArray n b its2.toArray n2 dd sls hlong (by rw [List.size_toArray]; omega) (by omega)) ⟨e, e2, ?_⟩
  refine ⟨.non, _, I.lset (its' := its ++ its2) hH e (by simp) (r.append r2) ?_, rfl, q⟩
  rw [List.length_append]
  omega
theorem mu_extend : MutN X X.K "list.extend" gExt := ⟨⟨_, mt_extS, fun G H p xs ds vs as r' ds' Q xg hp hd ha hg q => by
  unfold gExt at hg
  split at hg
  · split at hg
    · rename_i hz
      cases hg
      cases ha with
      | cons h1 h2 =>
        cases h2
        cases h1 with
        | lst h1 h3 =>
          refine ⟨p, _, xs, _, rfl, rfl, hp, ex_l xg h1, ?_, q _ _ .non (dps_append hd h3)⟩
          rw [dps_len _ _ hd, dps_len _ _ h3]
          exact fits_iff.mp hz
    · cases hg
  · cases hg⟩⟩
end
end DL

/-! try .. except. -/
namespace DL
open PySem PySem.Spec PyProof.Rows L2
open Evl (Ex ex_l ex_t ex_rd)

abbrev W0x : WX := fun _ _ _ _ => False
/-- try: .. except X as n: .. (slot i is n's; hit: which class is caught) -/
def cTryAs (i : Nat) (hit : Str → Option Bool) (b s : Env → R Fl) : Env → R Fl := fun e => match b e with
  | .ok fl e1 => .ok fl e1
  | .ex x e1 => (match hit x.cls, x.fld with
    | some true, none => (match s (e1.set i (some (.str x.cls))) with
      | .ok fl e2 => .ok fl (e2.set i none)
      | _ => .st)
    | some false, _ => .ex x e1
    | _, _ => .st)
  | .st => .st
/-- try: .. except X: .. -/
def cTry (hit : Str → Option Bool) (b s : Env → R Fl) : Env → R Fl := fun e => match b e with
  | .ok fl e1 => .ok fl e1
  | .ex x e1 => (match hit x.cls with
    | some true => (match s e1 with
      | .ok fl e2 => .ok fl e2
      | _ => .st)
    | some false => .ex x e1
    | none => .st)
  | .st => .st
/-- several clauses without names -/
def cHands : List ((Str → Option Bool) × (Env → R Fl)) → Exc → Env → R Fl
  | [], x, e => .ex x e
  | (hit, s) :: r, x, e => match hit x.cls with
    | some true => (match s e with
      | .ok fl e2 => .ok fl e2
      | _ => .st)
    | some false => cHands r x e
    | none => .st
def cTryM (l : List ((Str → Option Bool) × (Env → R Fl))) (b : Env → R Fl) : Env → R Fl := fun e => match b e with
  | .ok fl e1 => .ok fl e1
  | .ex x e1 => cHands l x e1
  | .st => .st
/-- isinstance(n, C), n the exception at hand -/
def cIsE (i : Nat) (f : Str → Option Bool) : Env → R NV := fun e => match e.getD i none with
  | some (.str n) => ofO ((f n).map fun b => .sc (.bool b)) e
  | _ => .st
def Ct.exc (C : Ct) (i : Nat) (a D : Addr) : Ct := { C with Tg := C.Tg.set i (.exc a D) }
/-- what a table of class names says of the clause's class c -/
def HitT (K : Frag) (mg : MG) (c : Value) (hit : Str → Option Bool) : Prop := ∀ n D b, mg n = some (.ref D) → hit n = some b → PySem.W.exmOne K (.ref D) c = some b
def IsT (K : Frag) (mg : MG) (c : Value) (f : Str → Option Bool) : Prop := ∀ n D b, mg n = some (.ref D) → f n = some b → ExcC K D ∧ PySem.W.kitOne K (.ref D) c = some b
def tab (l : List (Str × Bool)) : Str → Option Bool := fun n => l.lookup n
section
variable {K : Frag} {mg : MG} {c : Value} {l : List (Str × Bool)}
theorem lookup_cons {n m : Str} {b : Bool} {r : Option Bool} (h : ((m, b) :: l).lookup n = r) : (n = m ∧ r = some b) ∨ (n ≠ m ∧ l.lookup n = r) := by
  by_cases e : n = m
  · subst e
    left
    simp [List.lookup] at h
    exact ⟨rfl, h.symm⟩
  · right
    have : (n == m) = false := by simpa using e
    simp [List.lookup, this] at h
    exact ⟨e, h⟩
theorem hit_nil : HitT K mg c (tab []) := fun n D b _ h => by cases h
theorem hit_cons {m : Str} {D : Addr} {b : Bool} (hm : mg m = some (.ref D)) (h : PySem.W.exmOne K (.ref D) c = some b) (r : HitT K mg c (tab l)) : HitT K mg c (tab ((m, b) :: l)) := fun n D' b' h1 h2 => by
  rcases lookup_cons h2 with ⟨rfl, e⟩ | ⟨_, e⟩
  · rw [hm] at h1
    cases h1
    cases e
    exact h
  · exact r n D' b' h1 e
theorem is_nil : IsT K mg c (tab []) := fun n D b _ h => by cases h
theorem is_cons {m : Str} {D : Addr} {b : Bool} (hm : mg m = some (.ref D)) (hx : ExcC K D) (h : PySem.W.kitOne K (.ref D) c = some b) (r : IsT K mg c (tab l)) : IsT K mg c (tab ((m, b) :: l)) := fun n D' b' h1 h2 => by
  rcases lookup_cons h2 with ⟨rfl, e⟩ | ⟨_, e⟩
  · rw [hm] at h1
    cases h1
    cases e
    exact ⟨hx, h⟩
  · exact r n D' b' h1 e
theorem kit_own {D C : Addr} {b : Bool} (h2 : PySem.W.isClsIn K C = true) (h3 : PySem.W.typeIn K (.ref C) = some (.type "type")) (h4 : PySem.W.subIn K (.ref D) (.ref C) = some b) (h5 : PySem.W.subIn K (.ref D) (.ref D) = some true) : PySem.W.kitOne K (.ref D) (.ref C) = some b := by
  unfold PySem.W.kitOne
  by_cases e : (Value.ref D == Value.ref C) = true
  · rw [if_pos e]
    have : D = C := by
      have := beq_iff_eq.mp e
      injection this
    subst this
    rw [h4] at h5
    exact h5.symm
  · rw [if_neg e]
    have e2 : ((PySem.W.clsIn K C).isSome && PySem.W.typeIn K (.ref C) == some (.type "type")) = true := by
      have h2' : (PySem.W.clsIn K C).isSome = true := h2
      rw [h2', h3] <;> rfl
    show (if ((PySem.W.clsIn K C).isSome && PySem.W.typeIn K (.ref C) == some (.type "type")) = true then PySem.W.subIn K (.ref D) (.ref C) else none) = some b
    rw [if_pos e2]
    exact h4
theorem kit_bi {D : Addr} {T : String} {b : Bool} (hk : PySem.W.kitMeta T = true) (h4 : PySem.W.subIn K (.ref D) (.type T) = some b) : PySem.W.kitOne K (.ref D) (.type T) = some b := by
  unfold PySem.W.kitOne
  have e : ¬ (Value.ref D == Value.type T) = true := fun z => by
    have := beq_iff_eq.mp z
    cases this
  rw [if_neg e]
  show (if PySem.W.kitMeta T = true then PySem.W.subIn K (.ref D) (.type T) else none) = some b
  rw [if_pos hk]
  exact h4
end

section
variable {X : Cx} {K : Frag} {mg : MG} {C : Ct} {W : WX} {rsh : Sh}
theorem Good.toExc {G H : Hp} {σ : L2.St} {e : Env} {Sg : Nat → ASet} {i : Nat} {a D : Addr} {cn : Str} (g : Good K mg C G H σ e Sg) (hi : C.np ≤ i) (hk : lkFree C.lk i = true) (hl : i < C.Tg.length) (hm : mg cn = some (.ref D)) :
    Good K mg (C.exc i a D) G H (σ.set i (some (.ref a))) (e.set i (some (.str cn))) (fun j => if j = i then (fun _ => False) else Sg j) := by
  have tg : ∀ {j sh}, j ≠ i → (C.exc i a D).Tg[j]? = some sh → C.Tg[j]? = some sh := fun {j sh} hj h => by
    have h : (C.Tg.set i (.exc a D))[j]? = some sh := h
    rw [List.getElem?_set_ne (Ne.symm hj)] at h
    exact h
  refine ⟨by rw [List.length_set]; show σ.length = (C.Tg.set i _).length; rw [List.length_set]; exact g.ls, by rw [List.length_set]; show e.length = (C.Tg.set i _).length; rw [List.length_set]; exact g.le, fun j sh d h1 h2 => ?_, fun j k b h1 h2 => ?_, fun j b h => ?_, g.gh, g.g0, g.fr, g.al, g.gn, fun j sh h1 h2 h3 => ?_, fun j sh h1 h2 h3 => ?_, fun q hq => by rw [List.getElem?_set_ne (Ne.symm (lkFree_ne hk q hq))]; exact g.lock q hq⟩
  · rcases get_set h2 with ⟨rfl, z, _⟩ | ⟨hj, h2⟩
    · cases z
      have h1 : (C.Tg.set j (.exc a D))[j]? = some sh := h1
      rw [List.getElem?_set_self hl] at h1
      cases h1
      exact ⟨.ref a, by rw [List.getElem?_set_self (by rw [g.ls]; exact hl)], .exc hm⟩
    · obtain ⟨w, h3, h4⟩ := g.slot j sh d (tg hj h1) h2
      exact ⟨w, by rw [List.getElem?_set_ne (Ne.symm hj)]; exact h3, by simpa [hj] using h4⟩
  · by_cases hj : j = i
    · simp only [hj, if_true] at h1
    · by_cases hk : k = i
      · simp only [hk, if_true] at h2
      · simp only [hj, hk, if_false] at h1 h2
        exact g.dis j k b h1 h2
  · by_cases hj : j = i
    · simp only [hj, if_true] at h
    · simp only [hj, if_false] at h
      exact g.gs j b h
  · have hj : j ≠ i := fun z => by
      subst z
      have h1 : j < C.np := h1
      omega
    rw [List.getElem?_set_ne (Ne.symm hj)]
    exact g.pin j sh h1 (tg hj h2) h3
  · have hj : j ≠ i := fun z => by
      subst z
      have h1 : j < C.np := h1
      omega
    rw [List.getElem?_set_ne (Ne.symm hj)]
    exact g.par j sh h1 (tg hj h2) h3
theorem Good.ofExc {G H : Hp} {σ : L2.St} {e : Env} {Sg : Nat → ASet} {i : Nat} {a D : Addr} (g : Good K mg (C.exc i a D) G H σ e Sg) (hi : C.np ≤ i) (hk : lkFree C.lk i = true) :
    Good K mg C G H (σ.set i none) (e.set i none) (fun j => if j = i then (fun _ => False) else Sg j) := by
  have tg : ∀ {j sh}, j ≠ i → C.Tg[j]? = some sh → (C.exc i a D).Tg[j]? = some sh := fun {j sh} hj h => by
    show (C.Tg.set i (.exc a D))[j]? = some sh
    rw [List.getElem?_set_ne (Ne.symm hj)]
    exact h
  have ln : (C.exc i a D).Tg.length = C.Tg.length := by show (C.Tg.set i _).length = _; rw [List.length_set]
  refine ⟨by rw [List.length_set]; exact g.ls.trans ln, by rw [List.length_set]; exact g.le.trans ln, fun j sh d h1 h2 => ?_, fun j k b h1 h2 => ?_, fun j b h => ?_, g.gh, g.g0, g.fr, g.al, g.gn, fun j sh h1 h2 h3 => ?_, fun j sh h1 h2 h3 => ?_, fun q hq => by rw [List.getElem?_set_ne (Ne.symm (lkFree_ne hk q hq))]; exact g.lock q hq⟩
  · rcases get_set h2 with ⟨rfl, z, _⟩ | ⟨hj, h2⟩
    · cases z
    · obtain ⟨w, h3, h4⟩ := g.slot j sh d (tg hj h1) h2
      exact ⟨w, by rw [List.getElem?_set_ne (Ne.symm hj)]; exact h3, by simpa [hj] using h4⟩
  · by_cases hj : j = i
    · simp only [hj, if_true] at h1
    · by_cases hk : k = i
      · simp only [hk, if_true] at h2
      · simp only [hj, hk, if_false] at h1 h2
        exact g.dis j k b h1 h2
  · by_cases hj : j = i
    · simp only [hj, if_true] at h
    · simp only [hj, if_false] at h
      exact g.gs j b h
  · have hj : j ≠ i := fun z => by
      subst z
      omega
    rw [List.getElem?_set_ne (Ne.symm hj)]
    exact g.pin j sh h1 (tg hj h2) h3
  · have hj : j ≠ i := fun z => by
      subst z
      omega
    rw [List.getElem?_set_ne (Ne.symm hj)]
    exact g.par j sh h1 (tg hj h2) h3
theorem Lone.ofExc {G H : Hp} {Sg : Nat → ASet} {S : ASet} {i : Nat} {a D : Addr} (l : Lone (C.exc i a D) G H Sg S) : Lone C G H (fun j => if j = i then (fun _ => False) else Sg j) S :=
  ⟨l.own, fun j b h1 h2 => by
    by_cases hj : j = i
    · simp only [hj, if_true] at h2
    · simp only [hj, if_false] at h2
      exact l.apart j b h1 h2⟩

def tsE (K : Frag) (mg : MG) (C : Ct) (rsh : Sh) (i : Nat) (s : Env → R Fl) : Addr → Value → Option Addr → TS := fun a cls d Dn σ H => ∃ (_ : d = none) (D : Addr) (_ : cls = .ref D), tS K mg (C.exc i a D) W0x rsh s Dn σ H
theorem ds_tryAs (i : Nat) {x n : Str} {c : Value} {body suite : List Stmt} {b₀ : Stmt} {np pos pos' : Pos} {hit : Str → Option Bool} {cb cs : Env → R Fl}
    (hs : X.stack = X.env :: X.outer) (hf : X.env.frame = some X.env.locals) (hN : X.N.Nodup) (hi : X.N[i]? = some n) (hln : X.env.kindOf n = some .local) (hc : Names X x c) (tk : L2N.Takes X W) (hpn : C.np ≤ i) (hl : i < C.Tg.length) (hk : lkFree C.lk i = true) (ht : HitT X.K X.mg c hit)
    (hb : ∀ (W : WX) (pn : List (Addr × Obj)) (xe : Value → Shared → Prop), L2N.Takes (X.tr pn xe) W → PassesOwn (model X.prog X.w) X.A X.env xe → PSs (X.tr pn xe) body (tS X.K X.mg C W rsh cb))
    (hsu : ∀ (a : Addr) (oe : Obj) (D : Addr) (pn : List (Addr × Obj)), Zc (.ref D) none oe → (∃ vs, oe.data = .fields vs) → PXN.CtxN oe → PSs (X.suite a ((a, oe) :: pn)) (b₀ :: suite) (tS X.K X.mg (C.exc i a D) W0x rsh cs)) :
    PS X (.Try body [.ExceptHandler (some (.Name x np)) (some n) (b₀ :: suite) pos'] [] [] pos) (tS X.K X.mg C W rsh (cTryAs i hit cb cs)) := by
  refine PS.to (L2N.ps_try_as (tb := fun W => tS X.K X.mg C W rsh cb) (ts := tsE X.K X.mg C rsh i cs) (Wout := W) hs hf hN hi hln hc tk hb fun a oe cls d pn hz hfl => ⟨fun pins s σ H Dn I ⟨hd, D, hcl, q⟩ => ?_⟩) fun Dn σ H ⟨G, e, Sg, g, p⟩ => ⟨G, e, Sg, g, ?_⟩
  · subst hd hcl
    exact (hsu a oe D pn hz.zc hfl hz.2.2).run pins s σ H Dn I q
  · unfold cTryAs at p
    cases q : cb e with
    | ok fl e1 =>
      rw [q] at p
      cases fl with
      | nx => exact p
      | bk => exact p
      | ct => exact p
      | rt d => exact p
    | st => rw [q] at p; exact p
    | ex xx e1 =>
      rw [q] at p
      dsimp only at p
      intro G1 H1 σ1 S1 g1 x1 Cc hCc
      cases qh : hit xx.cls with
      | none => rw [qh] at p; exact False.elim p
      | some b =>
        have hx := ht xx.cls Cc b hCc qh
        cases b with
        | false =>
          rw [qh] at p
          dsimp only at p
          have w := p G1 H1 σ1 S1 g1 x1 Cc hCc
          cases qf : xx.fld with
          | none =>
            rw [qf] at w
            exact ⟨false, hx, (fun z => Bool.noConfusion z), fun _ => w⟩
          | some fv =>
            rw [qf] at w
            exact fun p1 hp1 => ⟨false, hx, (fun z => Bool.noConfusion z), fun _ => w p1 hp1⟩
        | true =>
          cases qf : xx.fld with
          | some fv => rw [qh, qf] at p; exact False.elim p
          | none =>
            rw [qh, qf] at p
            dsimp only at p
            refine ⟨true, hx, fun _ a ha => ⟨rfl, Cc, rfl, G1, e1.set i (some (.str xx.cls)), _, g1.toExc hpn hk hl hCc, ?_⟩, fun z => by cases z⟩
            cases qs : cs (e1.set i (some (.str xx.cls))) with
            | ex yy e2 => rw [qs] at p; exact False.elim p
            | st => rw [qs] at p; exact False.elim p
            | ok fl e2 =>
              rw [qs] at p
              have p := PostS.mono x1 p
              cases fl with
              | nx => exact fun G2 H2 σ2 S2 g2 x2 => p G2 H2 _ _ (g2.ofExc hpn hk) x2
              | bk => exact fun G2 H2 σ2 S2 g2 x2 => p G2 H2 _ _ (g2.ofExc hpn hk) x2
              | ct => exact fun G2 H2 σ2 S2 g2 x2 => p G2 H2 _ _ (g2.ofExc hpn hk) x2
              | rt d => exact fun G2 H2 σ2 S2 g2 x2 v S ho hlo => p G2 H2 _ _ (g2.ofExc hpn hk) x2 v S ho hlo.ofExc
/-- isinstance(n, C) in the suite -/
theorem dn_isE (i : Nat) {a D : Addr} {oe : Obj} {pn : List (Addr × Obj)} {n x : Str} {p pn' px pos : Pos} {cv : V} {cw : Value} {f : Str → Option Bool} (hz : Zc (.ref D) none oe) (hf : ∃ vs, oe.data = .fields vs) (hc : PE (X.suite a ((a, oe) :: pn)) (.Name x px) (tC cv)) (hcv : ∀ u, RelV cv u → u = cw) (hT : IsT X.K X.mg cw f)
    (hm : X.mg "isinstance" = none) (ht : C.Tg[i]? = some (.exc a D) := by rfl) (hN : X.N[i]? = some n := by rfl) (hv : Vis X.env.scope n := by first | exact Or.inl rfl | exact Or.inr (Or.inl rfl) | exact Or.inr (Or.inr rfl)) (hd : (n == ("__debug__" : Str)) = false := by decide) (hcd : (n == ("__classdict__" : Str)) = false := by decide) (hg : Gl X "isinstance" := by rfl)
    (he : starEach [.Name n pn', .Name x px] X.env = (false, eval (.Name n pn') X.env) :: starEach [.Name x px] X.env := by rfl) (he2 : starEach [.Name x px] X.env = (false, eval (.Name x px) X.env) :: starEach [] X.env := by rfl) (hpl : (backTo pos (starEach [.Name x px] X.env)).any (·.1) = false := by rfl) :
    PE (X.suite a ((a, oe) :: pn)) (.Call (.Name "isinstance" p) [.Name n pn', .Name x px] [] pos) (tN X.K X.mg C W (cIsE i f)) := by
  refine ⟨fun pins s σ H Q I ⟨G, e, Sg, g, q⟩ => ?_⟩
  unfold cIsE at q
  split at q
  · rename_i cn he1
    obtain ⟨v, h1, h2⟩ := g.slot i _ _ ht (Good.getD (G := G) (H := H) (σ := σ) (Sg := Sg) he1)
    cases h2 with
    | exc hmc =>
      obtain ⟨nv, h5, h6⟩ := Post.ofO q
      cases qf : f cn with
      | none => rw [qf] at h5; cases h5
      | some b =>
        rw [qf] at h5
        cases h5
        obtain ⟨EC, hk⟩ := hT cn D b hmc qf
        exact (pe_callB (X := X.suite a ((a, oe) :: pn)) (call_isE EC hz hf) hg hm PyProof.Rows.boot_isinstance (pa_cons (pe_var (X := X.suite a ((a, oe) :: pn)) (i := i) (x := n) (pos := pn') hN hv hd hcd) (pa_cons hc pa_nil he2) he) (by decide) (by decide) he hpl).run pins s σ H Q I
          ⟨.ref a, h1, cv, cw, b, rfl, hcv, hk, h6 G H Sg g (Ex.refl G) _ (.bl _)⟩
  · exact False.elim q
end
end DL

/-! Chained comparisons, signs, callees by name, the law's own def. -/
namespace DL
open PySem PySem.Spec PyProof.Rows L2
open Evl (Ex ex_l ex_t ex_rd)

/-- a op b op2 c -/
def cChain (f g : D → D → Option NV) (ca cb cc : Env → R Lv) : Env → R NV := fun e => (ca e).bind fun l e1 => (cb e1).bind fun m e2 =>
  (ofO ((l.get e2).bind fun x => (m.get e2).bind fun y => (f x y).bind fun n => dBool n.d) e2).bind fun k e3 => match k with
    | false => .ok (.sc (.bool false)) e3
    | true => (cc e3).bind fun o e4 => ofO ((m.get e4).bind fun y => (o.get e4).bind fun z => g y z) e4
def dNeg : D → Option NV
  | .int i => some (.sc (.int (-i)))
  | _ => none
def c1 (f : D → Option NV) (a : Env → R Lv) : Env → R NV := fun e => (a e).bind fun l e1 => ofO ((l.get e1).bind f) e1
section
variable {X : Cx} {K : Frag} {mg : MG} {C : Ct} {W : WX}
theorem tst_tN {c : Env → R NV} {σ : L2.St} {H : Hp} {Q : Bool → Hp → Prop} (h : tT K mg C W (cTst c) σ H Q) : tN K mg C W c σ H fun v H1 => ∃ k, v = .bl k ∧ Q k H1 := by
  obtain ⟨G, e, Sg, g, p⟩ := h
  refine ⟨G, e, Sg, g, (Post.bind p).imp fun n e1 G1 H1 S1 _ g1 x1 p1 => ?_⟩
  obtain ⟨k, h1, h2⟩ := Post.ofO p1
  cases n with
  | sc d =>
    have h1 : dBool d = some k := h1
    cases d with
    | bool b =>
      cases h1
      exact fun v hv => ⟨k, by cases (show Dp K H1 v (.bool k) from dp_ex g1.gh _ _ hv); rfl, h2 G1 H1 S1 g1 (Ex.refl G1)⟩
    | _ => cases h1
  | nl ds => cases h1
  | nt ds => cases h1
theorem bind3 {α β γ δ : Type} {o : Option α} {p : Option β} {f : α → β → Option γ} {r : γ → Option δ} {z : δ} (h : (o.bind fun x => p.bind fun y => (f x y).bind r) = some z) : ∃ x y n, o = some x ∧ p = some y ∧ f x y = some n ∧ r n = some z := by
  cases o with
  | none => cases h
  | some x =>
    cases p with
    | none => cases h
    | some y =>
      have h : (f x y).bind r = some z := h
      cases q : f x y with
      | none => rw [q] at h; cases h
      | some n =>
        rw [q] at h
        exact ⟨x, y, n, rfl, rfl, q, h⟩
theorem bind2 {α β γ : Type} {o : Option α} {p : Option β} {f : α → β → Option γ} {z : γ} (h : (o.bind fun x => p.bind fun y => f x y) = some z) : ∃ x y, o = some x ∧ p = some y ∧ f x y = some z := by
  cases o with
  | none => cases h
  | some x =>
    cases p with
    | none => cases h
    | some y => exact ⟨x, y, rfl, rfl, h⟩
theorem chain_ok {f g : D → D → Option NV} {r r' : R2} {ca cb cc : Env → R Lv} {σ : L2.St} {H : Hp} {Q : VK}
    (hs : ∀ (G H : Hp) (x y : V) (dx dy : D) (nv : NV) (Q : VK), Ex G H → Vw K G H x dx → Vw K G H y dy → f dx dy = some nv → NVp K G H Q nv → r x y H Q)
    (hs' : ∀ (G H : Hp) (x y : V) (dx dy : D) (nv : NV) (Q : VK), Ex G H → Vw K G H x dx → Vw K G H y dy → g dx dy = some nv → NVp K G H Q nv → r' x y H Q)
    (h : tN K mg C W (cChain f g ca cb cc) σ H Q) : tChain r r' (tE K mg C W ca) (tE K mg C W cb) (tE K mg C W cc) σ H Q := by
  obtain ⟨G, e, Sg, gd, p⟩ := h
  refine ⟨G, e, Sg, gd, (Post.bind p).imp fun l e1 G1 H1 S1 _ g1 _ p1 x hx => ?_⟩
  refine ⟨G1, e1, S1, g1, (Post.bind p1).imp fun m e2 G2 H2 S2 _ g2 x2 p2 y hy => ?_⟩
  have p2 := Post.bind p2
  obtain ⟨k, h1, p2⟩ := Post.ofO p2
  have p2 := p2 G2 H2 S2 g2 (Ex.refl G2)
  obtain ⟨dx, dy, n, ql, qm, qf, qn⟩ := bind3 h1
  refine hs G2 H2 x y dx dy n _ g2.gh ((hx.mono x2).view g2 ql) (hy.view g2 qm) qf ?_
  cases n with
  | nl ds => cases qn
  | nt ds => cases qn
  | sc d =>
    cases d with
    | bool b =>
      have qn : some b = some k := qn
      cases qn
      intro v hv
      cases hv
      refine ⟨k, rfl, ?_⟩
      cases k with
      | false =>
        rw [if_neg Bool.false_ne_true]
        exact p2 G2 H2 S2 g2 (Ex.refl G2) _ (.bl _)
      | true =>
        rw [if_pos rfl]
        refine ⟨G2, e2, S2, g2, (Post.bind p2).imp fun o e4 G4 H4 S4 _ g4 x4 p4 z hz => ?_⟩
        obtain ⟨nv, h5, h6⟩ := Post.ofO p4
        obtain ⟨dy', dz, qy, qz, qg⟩ := bind2 h5
        exact hs' G4 H4 y z dy' dz nv Q g4.gh ((hy.mono x4).view g4 qy) (hz.view g4 qz) qg (h6 G4 H4 S4 g4 (Ex.refl G4))
    | _ => cases qn
theorem dn_chain {a b c : Expr} {op op' : CmpOp} {pos : Pos} {f g : D → D → Option NV} {ca cb cc : Env → R Lv} (h : Op2 X K (compareOp op) f) (h' : Op2 X K (compareOp op') g) (ha : PE X a (tE K mg C W ca)) (hb : PE X b (tE K mg C W cb)) (hc : PE X c (tE K mg C W cc))
    (hm : lastMarks [op, op'] [b, c] = false := by with_unfolding_all rfl) : PE X (.Compare a [op, op'] [b, c] pos) (tN K mg C W (cChain f g ca cb cc)) := by
  obtain ⟨r, hr, hs⟩ := h.run
  obtain ⟨r', hr', hs'⟩ := h'.run
  exact PE.to (pe_chain hr hr' ha hb hc hm) fun σ H Q q => chain_ok hs hs' q
theorem dt_chain {a b c : Expr} {op op' : CmpOp} {pos : Pos} {f g : D → D → Option NV} {ca cb cc : Env → R Lv} (h : Op2 X K (compareOp op) f) (h' : Op2 X K (compareOp op') g) (ha : PE X a (tE K mg C W ca)) (hb : PE X b (tE K mg C W cb)) (hc : PE X c (tE K mg C W cc))
    (hm : lastMarks [op, op'] [b, c] = false := by with_unfolding_all rfl) : PT X (.Compare a [op, op'] [b, c] pos) (tT K mg C W (cTst (cChain f g ca cb cc))) := by
  obtain ⟨r, hr, hs⟩ := h.run
  obtain ⟨r', hr', hs'⟩ := h'.run
  exact PT.to (pt_chain hr hr' ha hb hc hm) fun σ H Q q => chain_ok hs hs' (tst_tN q)
theorem dn_neg {a : Expr} {pos : Pos} {c : Env → R Lv} (h : PE X a (tE K mg C W c)) : PE X (.UnaryOp .USub a pos) (tN K mg C W (c1 dNeg c)) :=
  PE.to (pe_un un_neg h) fun σ H Q ⟨G, e, Sg, g, p⟩ => ⟨G, e, Sg, g, (Post.bind p).imp fun l e1 G1 H1 S1 _ g1 x1 p1 v hv => by
    obtain ⟨nv, h1, h2⟩ := Post.ofO p1
    cases q : l.get e1 with
    | none => rw [q] at h1; cases h1
    | some d =>
      rw [q] at h1
      have h1 : dNeg d = some nv := h1
      cases d with
      | int i =>
        cases h1
        exact ⟨i, (hv.view g1 q).int_inv, h2 G1 H1 S1 g1 (Ex.refl G1) _ (.int _)⟩
      | _ => cases h1⟩
end

/-! ### callees by name -/
structure CalD (P : Program) (w : World) (K : Frag) (mg : MG) (base : Heap) (k : Nat) (x : Str) (modes : List Sh) (rsh : Sh) (m : List D → FR) (dd : List D) : Prop where
  ex : ∃ (f : Addr) (fd : FuncData) (ps : List Str) (dvs : List V) (ds' : List Value), FnOk P w K mg base (L2N.CX P w) k f fd ps (spF K mg modes rsh m) ∧ mg x = some (.ref f) ∧ PySem.W.keepIn K (.ref f) = true ∧ Binds K fd ps ds' ∧ Vals dvs ds' ∧ ∀ G, DpAll K G dvs dd
theorem CalD.mono {P : Program} {w : World} {K : Frag} {mg : MG} {base : Heap} {j k : Nat} {x : Str} {modes : List Sh} {rsh : Sh} {m : List D → FR} {dd : List D} (h : CalD P w K mg base j x modes rsh m dd) (hjk : j ≤ k) : CalD P w K mg base k x modes rsh m dd := by
  obtain ⟨f, fd, ps, dvs, ds', h1, h2⟩ := h.ex
  exact ⟨f, fd, ps, dvs, ds', h1.mono hjk, h2⟩
section
variable {X : Cx} {C : Ct} {W : WX}
theorem dO_cal {x : Str} {k : Nat} {modes : List Sh} {rsh : Sh} {m : List D → FR} {dd : List D} (ks : List (Option Nat)) {a : Expr} {es : List Expr} {p pos : Pos} {ca : Env → R (List Lv)}
    (F : CalD X.prog X.w X.K X.mg X.base k x modes rsh m dd) (hr : Room k X.A) (ok : OkS C.Tg modes ks dd.length) (tk : L2N.Takes X W) (ha : PA X (a :: es) (tAs X.K X.mg C W ca)) (hg : Gl X x := by rfl) (hdb : (x == ("__debug__" : Str)) = false := by decide)
    (he : starEach (a :: es) X.env = (false, eval a X.env) :: starEach es X.env := by rfl) (hpl : (backTo pos (starEach es X.env)).any (·.1) = false := by rfl) :
    PE X (.Call (.Name x p) (a :: es) [] pos) (tO X.K X.mg C W rsh (cCall modes ks rsh m dd ca)) := by
  obtain ⟨f, fd, ps, dvs, ds', h1, h2, h3, h4, h5, h6⟩ := F.ex
  exact dO_call h1 hr h2 h3 h4 h5 h6 ok tk ha hg hdb he hpl
end
/-- a def of the text, as it stands behind the top -/
structure DefAt (K : Frag) (mg : MG) (x : Str) (st : Stmt) (dvs : List V) (f : Addr) (fd : FuncData) : Prop where
  F : FunD K x x (defArgs st) (defBody st) (defScope st) dvs [] f fd
  g : mg x = some (.ref f)
theorem defAt_mk {K : Frag} {mg : MG} {x : Str} {st : Stmt} {f : Addr} {oc : Value} {od an : Option Addr} {osl : Array (Option Value)} {kV doc pm cdv ct : Value} (g : mg x = some (.ref f))
    (l : K.lookup f = some ⟨oc, od, .func (PySem.W.fnOf x x (defArgs st) (defBody st) (defScope st) .none kV doc pm an cdv ct), osl⟩) (c : PySem.W.codeIn K cdv x = true) (k : PySem.W.keepIn K (.ref f) = true) :
    DefAt K mg x st [] f (PySem.W.fnOf x x (defArgs st) (defBody st) (defScope st) .none kV doc pm an cdv ct) :=
  ⟨⟨⟨oc, od, .none, kV, doc, pm, an, cdv, ct, osl, rfl, l, c, .inl ⟨rfl, rfl⟩, .inl rfl⟩, k⟩, g⟩
theorem defAt_mkD {K : Frag} {mg : MG} {x : Str} {st : Stmt} {f T : Addr} {oc : Value} {od an : Option Addr} {osl : Array (Option Value)} {kV doc pm cdv ct : Value} {dvs : List V} {o : Obj} {its : List Value} {n : Nat} (g : mg x = some (.ref f))
    (l : K.lookup f = some ⟨oc, od, .func (PySem.W.fnOf x x (defArgs st) (defBody st) (defScope st) (.ref T) kV doc pm an cdv ct), osl⟩) (c : PySem.W.codeIn K cdv x = true) (k : PySem.W.keepIn K (.ref f) = true)
    (lT : K.lookup T = some o) (oT : o.data = .seq its.toArray n) (rT : Vals dvs its) (hd : dvs ≠ []) :
    DefAt K mg x st dvs f (PySem.W.fnOf x x (defArgs st) (defBody st) (defScope st) (.ref T) kV doc pm an cdv ct) :=
  ⟨⟨⟨oc, od, .ref T, kV, doc, pm, an, cdv, ct, osl, rfl, l, c, .inr ⟨hd, T, o, its, n, rfl, lT, oT, rT⟩, .inl rfl⟩, k⟩, g⟩
section
variable {P : Program} {w : World} {K : Frag} {mg : MG} {base : Heap}
/-- a def whose mirror says nothing -/
theorem fn_st {f : Addr} {fd : FuncData} {ps : List Str} {k : Nat} {modes : List Sh} {rsh : Sh} : FnOk P w K mg base (L2N.CX P w) k f fd ps (spF K mg modes rsh fun _ => .st) :=
  ⟨fun vs H Q E ⟨_, _, _, _, _, _, _, _, _, _, z⟩ => False.elim z, fun A outer s H args us vs Q E _ _ _ _ ⟨_, _, _, _, _, _, _, _, _, _, z⟩ => False.elim z⟩
/-- a def, called with all arguments; with defaults from the j-th on -/
theorem cal0 {x : Str} {st : Stmt} {f : Addr} {fd : FuncData} {ps : List Str} {k : Nat} {modes : List Sh} {rsh : Sh} {m : List D → FR} (A : DefAt K mg x st [] f fd) (h : FnOk P w K mg base (L2N.CX P w) k f fd ps (spF K mg modes rsh m))
    (hb : ∀ (kV doc pm : Value) (an : Option Addr) (cdv ct : Value) (us : List Value), us.length = ps.length → bindArgs (PySem.W.fnOf x x (defArgs st) (defBody st) (defScope st) .none kV doc pm an cdv ct) ⟨us, []⟩ = pure (ps.zip us)) : CalD P w K mg base k x modes rsh m [] :=
  ⟨f, fd, ps, [], [], h, A.g, A.F.kp, A.F.bindsN hb, .nil, fun _ => .nil⟩
theorem calJ {x : Str} {st : Stmt} {f : Addr} {fd : FuncData} {ps : List Str} {k : Nat} {modes : List Sh} {rsh : Sh} {m : List D → FR} {dvs : List V} {dd : List D} (n j : Nat) (A : DefAt K mg x st dvs f fd) (h : FnOk P w K mg base (L2N.CX P w) k f fd ps (spF K mg modes rsh m))
    (hd : dvs ≠ []) (hn : n + (dvs.length - j) = ps.length)
    (hb : ∀ (T : Addr) (kV doc pm : Value) (an : Option Addr) (cdv ct : Value) (us its : List Value), us.length = n → its.length = dvs.length →
      ∃ k, bindArgs (PySem.W.fnOf x x (defArgs st) (defBody st) (defScope st) (.ref T) kV doc pm an cdv ct) ⟨us, []⟩ = seqItems? (.ref T) >>= k ∧ k (some its.toArray) = pure (ps.zip (us ++ its.drop j))) (hdd : ∀ G, DpAll K G (dvs.drop j) dd) : CalD P w K mg base k x modes rsh m dd := by
  obtain ⟨ds, h1, h2⟩ := A.F.binds1 n j hd hn hb
  exact ⟨f, fd, ps, _, ds, h, A.g, A.F.kp, h2, h1, hdd⟩
end
theorem hu65 {A : Around} {k : Nat} (hr : Room k A) : A.units + 65 < cLine := by
  have := hr.un
  omega
def fzAt (Tg : List Sh) (i : Nat) : Bool := match Tg[i]? with
  | some .fz => true
  | _ => false
theorem hv_of {Tg : List Sh} {l : List Nat} (h : l.all (fzAt Tg) = true) : ∀ i ∈ l, Tg[i]? = some .fz := fun i hi => by
  rw [List.all_eq_true] at h
  have := h i hi
  unfold fzAt at this
  split at this
  · assumption
  · cases this
theorem hk_of {lk : List (Nat × V)} {l : List Nat} (h : l.all (lkFree lk) = true) : ∀ i ∈ l, lkFree lk i = true := fun i hi => List.all_eq_true.mp h i hi
def blkB (N : List Str) (sc scope : Scope) (own : List (Str × Nat)) : Bool := decide (scope.kind = .function) && scope.names.all (fun y => decide (scope.names.lookup y.1 = some y.2)) && own.all (fun p => decide (N[p.2]? = some p.1)) &&
  scope.names.all (fun y => !decide (y.2 = .free) || (decide (sc.names.lookup y.1 = some .cell) || decide (sc.names.lookup y.1 = some .free))) && scope.names.all (fun y => !(decide (y.2 = .local) || decide (y.2 = .cell)) || (own.any (fun p => decide (p.1 = y.1)) || N.all fun z => decide (z ≠ y.1)))
theorem blk_of {N : List Str} {sc scope : Scope} {own : List (Str × Nat)} (h : blkB N sc scope own = true) : BlkOk N sc scope own := by
  unfold blkB at h
  simp only [Bool.and_eq_true, List.all_eq_true, decide_eq_true_eq, Bool.or_eq_true, Bool.not_eq_true', List.any_eq_true, decide_eq_false_iff_not] at h
  obtain ⟨⟨⟨⟨h1, h2⟩, h3⟩, h4⟩, h5⟩ := h
  refine ⟨h1, h2, h3, fun y hy e => (h4 y hy).resolve_left (fun z => z e), fun y hy e => ?_⟩
  rcases h5 y hy with z | z | z
  · simp only [Bool.or_eq_false_iff, decide_eq_false_iff_not] at z
    rcases e with e | e
    · exact absurd e z.1
    · exact absurd e z.2
  · obtain ⟨p, hp, e⟩ := z
    exact .inl (List.mem_map.mpr ⟨p, hp, e⟩)
  · exact .inr fun hm => z _ hm rfl
/-- the law's promise: it gives True -/
def spLaw (K : Frag) : Sp := fun vs H Q _ => ∃ (a : Addr) (ns : List Int), vs = [V.ref a] ∧ SqL K H a (ns.map V.int) ∧ ns.length ≤ 63 ∧ ∀ H', Q (.bl true) H'
theorem law_true {K : Frag} {mg : MG} {m : List D → FR} (hm : ∀ ns : List Int, ns.length ≤ 63 → ∃ outs, m [.list (ns.map .int)] = .ok (.bool true) outs) (vs : List V) (H : Hp) (Q : VK) (E : XK) (h : spLaw K vs H Q E) : spF K mg [.fz] .fz m vs H Q E := by
  obtain ⟨a, ns, rfl, hs, hl, q⟩ := h
  have hd : ∀ ns : List Int, DpAll K H (ns.map V.int) (ns.map PyData.int) := fun ns => by
    induction ns with
    | nil => exact .nil
    | cons n ns ih => exact .cons (.int n) ih
  obtain ⟨outs, e⟩ := hm ns hl
  refine ⟨H, [.list (ns.map .int)], fun _ _ => False, rfl, rfl, fun i sh v d h1 h2 h3 => ?_, fun i j b z => z.elim, fun i b z => z.elim, fun i b z => z.elim, Ex.refl H, ?_⟩
  · cases i with
    | zero =>
      simp at h1 h2 h3
      subst h1 h2 h3
      exact .fz (.lst hs (hd ns))
    | succ i => simp at h1
  · rw [e]
    intro G' H' Sa' v S _ hv _ _
    cases hv with
    | fz h => cases h; exact q _
theorem walkL {l : PySem.W.OpenLaw} {k : Nat} {q : Program} {loose : List Str} {XP : (Str → Option Value) → Heap → Prop} {YP : World → Heap → Prop} {d : DefRec} {K : Params → PySem.W.Frag} {x : Str} {m : List D → FR}
    (hn : l.most = some 63) (hdf : d.params.defaults = []) (hr : Room k callerA) (hY : ∀ (w : World) (h : Heap), YP w h → (K w.params).In h)
    (hm : ∀ ns : List Int, ns.length ≤ 63 → ∃ outs, m [.list (ns.map .int)] = .ok (.bool true) outs)
    (F : ∀ (w : World) (mg : Str → Option Value) (fa : Addr) (h : Heap), (K w.params).In h → h.Ns mainGlobals mg → mg d.name = some (.ref fa) →
      ∃ fd : FuncData, (∀ (s : Shared) (u : Value), BindsTo s fd ⟨[u], []⟩ [(x, u)]) ∧ ∀ base : Heap, FnOk l.prog w (K w.params) mg base (L2N.CX l.prog w) k fa fd [x] (spF (K w.params) mg [.fz] .fz m)) :
    PySem.W.WalkO q loose XP YP l.row.toRowW d [] (fun f vs => PySem.call f vs) :=
  L2.walk_of (n := 63) (k := k) (x := x) (CX := fun w => L2N.CX l.prog w) (sp := fun w => spLaw (K w.params)) hn (by decide) hdf hr hY (fun w mg fa h KX G hmg => by
    obtain ⟨fd, hb, hF⟩ := F w mg fa h KX G hmg
    exact ⟨fd, hb, fun base _ _ => (hF base).imp (law_true hm)⟩) (fun _ _ a ns hl _ hS => ⟨a, ns, rfl, hS, hl, fun _ => rfl⟩) fun w H s e s' z => by
      obtain ⟨_, _, _, _, _, _, _, _, _, _, _, _, z⟩ := z
      exact z
end DL

/-! Walks over an own list. -/
namespace DL
open PySem PySem.Spec PyProof.Rows L2
open Evl (Ex ex_l ex_t ex_rd)

def hidE {α : Type} (i : Nat) (ds : List D) : R α → R α
  | .ok a e => .ok a (e.set i (some (.list ds)))
  | .ex x e => .ex x (e.set i (some (.list ds)))
  | .st => .st
/-- for .. in the list that slot i owns: the body may not speak of it -/
def cForO (i : Nat) (f : D → Env → Option Env) (b : Env → R Fl) : Env → R Fl := fun e => match e.getD i none with
  | some (.list ds) => hidE i ds (forL f b ds (e.set i none))
  | _ => .st
abbrev Ct.hid (C : Ct) (i : Nat) (v : V) (G H : Hp) (Sg : Nat → ASet) : Ct := ⟨C.Tg, C.np, C.vs0, G, H, fun a => ∃ j, j ≠ i ∧ Sg j a, (i, v) :: C.lk⟩
section
variable {K : Frag} {mg : MG} {C : Ct} {G G' H H' : Hp} {σ σ' : L2.St} {e e' : Env} {Sg Sg' : Nat → ASet} {i : Nat} {ds : List D}
theorem Good.hide (g : Good K mg C G H σ e Sg) (hi : C.np ≤ i) (ht : C.Tg[i]? = some (.lst .fz)) (he : e.getD i none = some (.list ds)) :
    ∃ p vs, σ[i]? = some (some (.ref p)) ∧ H p = some (.lst vs) ∧ DpAll K G vs ds ∧ Sg i p ∧ Good K mg (C.hid i (.ref p) G H Sg) G H σ (e.set i none) (fun j => if j = i then (fun _ => False) else Sg j) := by
  have he := Good.getD (G := G) (H := H) (σ := σ) (Sg := Sg) he
  obtain ⟨v, h1, h2⟩ := g.slot i _ _ ht he
  obtain ⟨p, vs, es, rfl, e2, hp, sp, hd⟩ := own_lst_inv h2
  cases e2
  have gc := g.clear i (.inl hi)
  refine ⟨p, vs, h1, hp, hd, sp, gc.ls, gc.le, gc.slot, gc.dis, fun j a h => ?_, gc.gh, Ex.refl _, fun _ _ h _ => h, fun _ h => h, fun _ h => .inl h, gc.pin, gc.par, fun q hq => ?_⟩
  · obtain ⟨q1, q2, q3⟩ := gc.gs j a h
    refine ⟨q1, q2, .inr ⟨j, ?_⟩⟩
    by_cases hj : j = i
    · simp [hj] at h
    · simp [hj] at h
      exact ⟨hj, h⟩
  · rcases List.mem_cons.mp hq with rfl | hq
    · exact h1
    · exact g.lock q hq
theorem Good.held (g : Good K mg C G H σ e Sg) {p : Addr} {vs : List V} (hp : H p = some (.lst vs)) (sp : Sg i p) (g' : Good K mg (C.hid i (.ref p) G H Sg) G' H' σ' e' Sg') : H' p = some (.lst vs) :=
  g'.fr p _ hp fun ⟨j, hj, z⟩ => hj (g.dis j i p z sp)
theorem Good.unhide (g : Good K mg C G H σ e Sg) (hi : C.np ≤ i) (ht : C.Tg[i]? = some (.lst .fz)) {p : Addr} {vs : List V} (hp : H p = some (.lst vs)) (hd : DpAll K G vs ds) (sp : Sg i p) (x : Ex G G') (g' : Good K mg (C.hid i (.ref p) G H Sg) G' H' σ' e' Sg') :
    Good K mg C G' H' σ' (e'.set i (some (.list ds))) (fun j => if j = i then Sg i else Sg' j) := by
  have hp' := g.held hp sp g'
  have noneC : ∀ {a : Addr}, H a = none → C.H0 a = none := fun {a} h => by
    cases q : C.H0 a with
    | none => rfl
    | some o => exact absurd h (g.al a (by rw [q]; simp))
  have apart : ∀ {k : Nat} {a : Addr}, Sg i a → ¬ Sg' k a := fun {k a} h h' => by
    rcases (g'.gs k a h').2.2 with z | ⟨j, hj, z⟩
    · exact (g.gs i a h).2.1 z
    · exact hj (g.dis j i a z h)
  have keepG : ∀ {a : Addr}, Sg i a → G' a = none := fun {a} h => by
    cases q : G' a with
    | none => rfl
    | some o =>
      rcases g'.gn a (by rw [q]; simp) with z | z | ⟨j, hj, z⟩
      · exact absurd (g.gs i a h).1 z
      · exact absurd z (g.gs i a h).2.1
      · exact absurd (g.dis j i a z h) hj
  refine ⟨g'.ls, by rw [List.length_set]; exact g'.le, fun j sh d h1 h2 => ?_, fun j k a h1 h2 => ?_, fun j a h => ?_, g'.gh, g.g0.trans g'.g0, fun a o h1 h2 => ?_, fun a h => g'.al a (g.al a h), fun a h => ?_, g'.pin, fun j sh h1 h2 h3 => ?_, fun q hq => g'.lock q (List.mem_cons_of_mem _ hq)⟩
  · rcases get_set h2 with ⟨rfl, z, _⟩ | ⟨hj, h2⟩
    · cases z
      rw [ht] at h1
      cases h1
      exact ⟨.ref p, g'.lock _ List.mem_cons_self, by simpa using own_lst hp' sp (dps_ex x _ _ hd)⟩
    · obtain ⟨w, h3, h4⟩ := g'.slot j sh d h1 h2
      exact ⟨w, h3, by simpa [hj] using h4⟩
  · by_cases hj : j = i
    · by_cases hk : k = i
      · rw [hj, hk]
      · simp only [hj, hk, if_true, if_false] at h1 h2
        exact absurd h2 (apart h1)
    · by_cases hk : k = i
      · simp only [hj, hk, if_true, if_false] at h1 h2
        exact absurd h1 (apart h2)
      · simp only [hj, hk, if_false] at h1 h2
        exact g'.dis j k a h1 h2
  · by_cases hj : j = i
    · simp only [hj, if_true] at h
      exact ⟨keepG h, g'.al a (g.gs i a h).2.1, (g.gs i a h).2.2⟩
    · simp only [hj, if_false] at h
      obtain ⟨q1, q2, q3⟩ := g'.gs j a h
      refine ⟨q1, q2, ?_⟩
      rcases q3 with z | ⟨k, hk, z⟩
      · exact .inl (noneC z)
      · exact (g.gs k a z).2.2
  · refine g'.fr a o (g.fr a o h1 h2) fun ⟨j, hj, z⟩ => ?_
    rcases (g.gs j a z).2.2 with q | q
    · rw [h1] at q
      cases q
    · exact h2 q
  · rcases g'.gn a h with z | z | ⟨j, hj, z⟩
    · exact g.gn a z
    · exact .inr (.inl (noneC z))
    · rcases (g.gs j a z).2.2 with q | q
      · exact .inr (.inl q)
      · exact .inr (.inr q)
  · have hj : j ≠ i := by
      rintro rfl
      omega
    rw [List.getElem?_set_ne (Ne.symm hj)]
    exact g'.par j sh h1 h2 h3
theorem Lone.unhide (g : Good K mg C G H σ e Sg) {v : V} {S : ASet} (l : Lone (C.hid i v G H Sg) G' H' Sg' S) : Lone C G' H' (fun j => if j = i then Sg i else Sg' j) S := by
  have noneC : ∀ {a : Addr}, H a = none → C.H0 a = none := fun {a} h => by
    cases q : C.H0 a with
    | none => rfl
    | some o => exact absurd h (g.al a (by rw [q]; simp))
  refine ⟨fun a h => ?_, fun j a h1 h2 => ?_⟩
  · obtain ⟨q1, q2, q3⟩ := l.own a h
    refine ⟨q1, q2, ?_⟩
    rcases q3 with z | ⟨k, hk, z⟩
    · exact .inl (noneC z)
    · exact (g.gs k a z).2.2
  · by_cases hj : j = i
    · simp only [hj, if_true] at h2
      rcases (l.own a h1).2.2 with z | ⟨k, hk, z⟩
      · exact (g.gs i a h2).2.1 z
      · exact hk (g.dis k i a z h2)
    · simp only [hj, if_false] at h2
      exact l.apart j a h1 h2
end
section
variable {X : Cx} {mg : MG} {C : Ct} {W : WX} {rsh : Sh}
theorem PSs.ex {ι : Type} {b : List Stmt} {t : ι → TS} (h : ∀ c, PSs X b (t c)) : PSs X b (fun Dn σ H => ∃ c, t c Dn σ H) := ⟨fun pins s σ H D I ⟨c, q⟩ => (h c).run pins s σ H D I q⟩
theorem itl_go {K : Frag} {p : Addr} {vs : List V} {H : Hp} {i : Nat} (hp : H p = some (.lst vs)) (h : i < vs.length) : (Itl K p).go i H := ⟨vs, vs[i], .inl (.inl hp), List.getElem?_eq_getElem h⟩
/-- for x in the list that slot i owns -/
theorem ds_forO (i : Nat) {x : Str} {p : Pos} {tg : Expr} {body : List Stmt} {pos : Pos} {ws : List Nat} {f : D → Env → Option Env} {b : Env → R Fl} (hp : PassesOwn (model X.prog X.w) X.A X.env X.xe) (hc : X.calm = true)
    (hg : ∀ v G0 H0 S0, PG X tg (tG X.K mg ⟨C.Tg, C.np, C.vs0, G0, H0, S0, (i, v) :: C.lk⟩ ws f)) (hb : ∀ v G0 H0 S0, PSs X body (tS X.K mg ⟨C.Tg, C.np, C.vs0, G0, H0, S0, (i, v) :: C.lk⟩ W rsh b))
    (ht : C.Tg[i]? = some (.lst .fz) := by rfl) (hpn : C.np ≤ i := by exact Nat.le_of_ble_eq_true rfl) (hN : X.N[i]? = some x := by rfl) (hv : Vis X.env.scope x := by first | exact Or.inl rfl | exact Or.inr (Or.inl rfl) | exact Or.inr (Or.inr rfl)) (hd : (x == ("__debug__" : Str)) = false := by decide) (hcd : (x == ("__classdict__" : Str)) = false := by decide)
    (hs : ∀ y, foldedSetIterable (.Name x p) X.env y = pure y := by intro _; rfl) : PS X (.For tg (.Name x p) body [] pos) (tS X.K mg C W rsh (cForO i f b)) :=
  PS.to (ps_for hp hc (pi_seq (pe_var hN hv hd hcd)) (PG.ex (ι := V × Hp × Hp × ASet) fun c => hg c.1 c.2.1 c.2.2.1 c.2.2.2) (PSs.ex (ι := V × Hp × Hp × ASet) fun c => hb c.1 c.2.1 c.2.2.1 c.2.2.2) hs) fun Dn σ H ⟨G, e, Sg, g, q⟩ => by
    unfold cForO at q
    split at q
    · rename_i ds he
      obtain ⟨a, vs, h1, h2, h3, sp, g1⟩ := g.hide hpn ht he
      have hl : vs.length = ds.length := dps_len _ _ h3
      refine ⟨.ref a, h1, .inl ⟨a, vs, rfl, .inl (.inl h2), ?_⟩⟩
      refine ⟨fun k m σ' H' => m = ds.length - k ∧ k ≤ ds.length ∧ ∃ G' e' Sg', Good X.K mg (C.hid i (.ref a) G H Sg) G' H' σ' e' Sg' ∧ Ex G G' ∧ PostS X.K mg C W rsh G' (hidE i ds (forL f b (ds.drop k) e')) Dn, ⟨ds.length, by simp, Nat.zero_le _, G, _, _, g1, Ex.refl G, by simpa using q⟩, ?_⟩
      rintro k m σ' H' ⟨rfl, hk, G', e', Sg', g', x', q⟩
      have hH := g.held h2 sp g'
      by_cases hlt : k < ds.length
      · refine .inr ⟨itl_go hH (by omega), fun σ2 H2 => ∃ G2 e2 Sg2, Good X.K mg (C.hid i (.ref a) G H Sg) G2 H2 σ2 e2 Sg2 ∧ Ex G G2 ∧ PostS X.K mg C W rsh G2 (hidE i ds (forL f b (ds.drop (k + 1)) e2)) Dn,
          fun σ2 H2 ⟨G2, e2, Sg2, g2, x2, q2⟩ => ⟨ds.length - (k + 1), by omega, rfl, hlt, G2, e2, Sg2, g2, x2, q2⟩, fun y H2 hy => ?_⟩
        obtain ⟨rfl, hx⟩ := hy
        have hx := hx vs (.inl (.inl hH))
        have hd : ds[k]? = some ds[k] := List.getElem?_eq_getElem hlt
        have hv := dps_at _ _ (dps_ex x' _ _ h3) k _ _ hx hd
        have hdr : ds.drop k = ds[k] :: ds.drop (k + 1) := List.drop_eq_getElem_cons hlt
        rw [hdr] at q
        unfold forL at q
        cases qf : f ds[k] e' with
        | none => rw [qf] at q; exact False.elim q
        | some e2 =>
          rw [qf] at q
          dsimp only at q
          refine ⟨(.ref a, G, H, fun a => ∃ j, j ≠ i ∧ Sg j a), G', e', Sg', ds[k], e2, g', hv, qf, fun σ2 Sg2 g2 _ => ⟨(.ref a, G, H, fun a => ∃ j, j ≠ i ∧ Sg j a), G', e2, Sg2, g2, ?_⟩⟩
          cases qb : b e2 with
          | ok fl e3 =>
            rw [qb] at q
            cases fl with
            | nx => exact fun G3 H3 σ3 S3 g3 x3 => ⟨G3, e3, S3, g3, x'.trans x3, PostS.mono x3 q⟩
            | ct => exact fun G3 H3 σ3 S3 g3 x3 => ⟨G3, e3, S3, g3, x'.trans x3, PostS.mono x3 q⟩
            | bk => exact fun G3 H3 σ3 S3 g3 x3 => q G3 H3 σ3 _ (g.unhide hpn ht h2 h3 sp (x'.trans x3) g3) x3
            | rt v => exact fun G3 H3 σ3 S3 g3 x3 w S ho hlo => q G3 H3 σ3 _ (g.unhide hpn ht h2 h3 sp (x'.trans x3) g3) x3 w S ho (Lone.unhide g hlo)
          | ex xx e3 =>
            rw [qb] at q
            exact fun G3 H3 σ3 S3 g3 x3 => q G3 H3 σ3 _ (g.unhide hpn ht h2 h3 sp (x'.trans x3) g3) x3
          | st => rw [qb] at q; exact q
      · have e0 : k = ds.length := by omega
        subst e0
        rw [List.drop_length] at q
        exact .inl ⟨⟨vs, .inl (.inl hH), by omega⟩, q G' H' σ' _ (g.unhide hpn ht h2 h3 sp x' g') (Ex.refl G')⟩
    · exact False.elim q
/-- [.. for .. in the list that slot i owns ..] -/
def cCompO (i : Nat) (vs : List Nat) (f : D → Env → Option Env) (t : Env → R Bool) (c : Env → R Lv) : Env → R NV := fun e => match e.getD i none with
  | some (.list ds) => hidE i ds (cComp vs (fun e => .ok ds e) f t c (e.set i none))
  | _ => .st
def bEv (K : Frag) (mg : MG) (C : Ct) (i : Nat) (c : Env → R Lv) : TE := fun σ H Q => ∃ v : V, bE K mg C.Tg C.np ((i, v) :: C.lk) c σ H Q
def bTv (K : Frag) (mg : MG) (C : Ct) (i : Nat) (c : Env → R Bool) : TT := fun σ H Q => ∃ v : V, bT K mg C.Tg C.np ((i, v) :: C.lk) c σ H Q
def bGv (K : Frag) (mg : MG) (C : Ct) (i : Nat) (ws : List Nat) (f : D → Env → Option Env) : TG := fun v σ H Q => ∃ w : V, bG K mg C.Tg C.np ((i, w) :: C.lk) ws f v σ H Q
theorem lcO_sound {i : Nat} {vs ws : List Nat} {f : D → Env → Option Env} {t : Env → R Bool} {c : Env → R Lv} (ht : C.Tg[i]? = some (.lst .fz)) (hpn : C.np ≤ i) (hv : ∀ i ∈ vs, C.Tg[i]? = some .fz) (hk : ∀ v : V, ∀ j ∈ vs, lkFree ((i, v) :: C.lk) j = true) (hw : ∀ i ∈ ws, i ∈ vs) {σ : L2.St} {H : Hp} {Q : VK} (h : tN X.K mg C W (cCompO i vs f t c) σ H Q) :
    tLc (iSeq X.K (tVar i)) (bGv X.K mg C i ws f) (bTv X.K mg C i t) (bEv X.K mg C i c) vs σ H Q := by
  obtain ⟨G, e, Sg, g, q⟩ := h
  unfold cCompO at q
  split at q
  · rename_i ds he
    obtain ⟨a, xs, h1, h2, h3, sp, g1⟩ := g.hide hpn ht he
    have hl : xs.length = ds.length := dps_len _ _ h3
    have hJ : ItG X.K mg (C.hid i (.ref a) G H Sg) G (Itl X.K a) ds := ⟨fun k G' H' _ _ _ l g' x' => itl_go (g.held h2 sp g') (by omega), fun k y G' H' H2 _ _ _ l g' x' hy => by
        obtain ⟨rfl, hx⟩ := hy
        have hx := hx xs (.inl (.inl (g.held h2 sp g')))
        exact ⟨rfl, ds[k], List.getElem?_eq_getElem l, dps_at _ _ (dps_ex x' _ _ h3) k _ _ hx (List.getElem?_eq_getElem l)⟩, fun k G' H' _ _ _ l g' x' => ⟨xs, .inl (.inl (g.held h2 sp g')), by omega⟩⟩
    have p1 : Post X.K mg (C.hid i (.ref a) G H Sg) W G σ (cComp vs (fun e => .ok ds e) f t c (e.set i none)) fun n _ G' H' _ => NVp X.K G' H' Q n := by
      cases qc : cComp vs (fun e => .ok ds e) f t c (e.set i none) with
      | ok n e2 =>
        rw [qc] at q
        exact fun G' H' Sg' g' x' => q G' H' _ (g.unhide hpn ht h2 h3 sp x' g') x'
      | ex x e2 =>
        rw [qc] at q
        exact fun G' H' Sg' g' x' => q G' H' _ (g.unhide hpn ht h2 h3 sp x' g') x'
      | st => rw [qc] at q; exact q
    have b := lc_body (C := C.hid i (.ref a) G H Sg) (W := W) (ws := ws) (vs := vs) (f := f) (t := t) (c := c) (σ := σ) (Q := Q) hv (hk (.ref a)) hw g1 hJ ((Post.bind (r := R.ok ds (e.set i none)) (f := fun ds e1 => if fits ds.length = true then (match compL vs f t c ds e1 with | .ok xs e2 => R.ok (NV.nl xs) (restoreE vs e1 e2) | _ => .st) else .st) p1) G H _ g1 (Ex.refl G))
    refine ⟨.ref a, h1, .inl ⟨a, xs, rfl, .inl (.inl h2), fun Da hD => ?_⟩⟩
    obtain ⟨Wf, w0, ws'⟩ := b Da hD
    refine ⟨Wf, w0, fun k m H' hW => ?_⟩
    rcases ws' k m H' hW with z | ⟨z1, Nx, z2, z3⟩
    · exact .inl z
    · refine .inr ⟨z1, Nx, z2, fun x H2 hy => ⟨.ref a, ?_⟩⟩
      obtain ⟨p, G2, e2, S2, d, e3, y1, y2, y3, y4⟩ := z3 x H2 hy
      refine ⟨p, G2, e2, S2, d, e3, y1, y2, y3, fun σ2 Sg2 g2 sb => ?_⟩
      obtain ⟨y5, y6⟩ := y4 σ2 Sg2 g2 sb
      refine ⟨y5, .ref a, ?_⟩
      obtain ⟨p', G3, e4, S3, y7, y8⟩ := y6
      refine ⟨p', G3, e4, S3, y7, y8.imp fun b e' G' H' Sg' _ _ _ y9 => ?_⟩
      cases b with
      | true => exact ⟨.ref a, y9⟩
      | false => exact y9
  · exact False.elim q
section
variable {elt tg : Expr} {ifs : List Expr} {scope : Scope} {pos : Pos} {ws : List Nat} {f : D → Env → Option Env} {t : Env → R Bool} {c : Env → R Lv} {x : Str} {p : Pos}
theorem dn_lcO (i : Nat) (own : List (Str × Nat)) (hc : X.calm = true) (hN : X.N.Nodup) (ok : BlkOk X.N X.env.scope scope own)
    (hv : ∀ i ∈ own.map (·.2), C.Tg[i]? = some .fz) (hk : ∀ v : V, ∀ j ∈ own.map (·.2), lkFree ((i, v) :: C.lk) j = true) (hw : ∀ i ∈ ws, i ∈ own.map (·.2))
    (hg : ∀ (s : Shared) (H : Hp) (Cc : Addr) (cl : List (Str × Addr)) (fp : List Addr), ∀ v : V, PG (X.blk s H scope (compEnvC scope cl Cc X.env) fp) tg (bG X.K mg C.Tg C.np ((i, v) :: C.lk) ws f)) (ht : ∀ (s : Shared) (H : Hp) (Cc : Addr) (cl : List (Str × Addr)) (fp : List Addr), ∀ v : V, PTs (X.blk s H scope (compEnvC scope cl Cc X.env) fp) ifs (bT X.K mg C.Tg C.np ((i, v) :: C.lk) t))
    (he : ∀ (s : Shared) (H : Hp) (Cc : Addr) (cl : List (Str × Addr)) (fp : List Addr), ∀ v : V, PE (X.blk s H scope (compEnvC scope cl Cc X.env) fp) elt (bE X.K mg C.Tg C.np ((i, v) :: C.lk) c))
    (hT : C.Tg[i]? = some (.lst .fz) := by rfl) (hpn : C.np ≤ i := by exact Nat.le_of_ble_eq_true rfl) (hNi : X.N[i]? = some x := by rfl) (hvi : Vis X.env.scope x := by first | exact Or.inl rfl | exact Or.inr (Or.inl rfl) | exact Or.inr (Or.inr rfl)) (hd : (x == ("__debug__" : Str)) = false := by decide) (hcd : (x == ("__classdict__" : Str)) = false := by decide)
    (hs : ∀ y, foldedSetIterable (.Name x p) X.env y = pure y := by intro _; rfl) :
    PE X (.ListComp elt [⟨tg, .Name x p, ifs, 0⟩] scope pos) (tN X.K mg C W (cCompO i (own.map (·.2)) f t c)) :=
  PE.to (pe_lc hc hN (pi_seq (pe_var hNi hvi hd hcd)) ok (fun s H Cc cl fp => PG.ex fun v => hg s H Cc cl fp v) (fun s H Cc cl fp => PTs.ex fun v => ht s H Cc cl fp v) (fun s H Cc cl fp => PE.ex fun v => he s H Cc cl fp v) hs) fun σ H Q q => lcO_sound hT hpn hv hk hw q
theorem ds_setLcOO (k i : Nat) (own : List (Str × Nat)) {y : Str} {py spos : Pos} (hc : X.calm = true) (hN : X.N.Nodup) (hyl : X.env.scope.names.lookup y = some .local) (hsw : swapsWith (.ListComp elt [⟨tg, .Name x p, ifs, 0⟩] scope pos) (some (.Name y py)) spos.line X.env = pure true) (ok : BlkOk X.N X.env.scope scope own)
    (hv : ∀ i ∈ own.map (·.2), C.Tg[i]? = some .fz) (hk : ∀ v : V, ∀ j ∈ own.map (·.2), lkFree ((i, v) :: C.lk) j = true) (hw : ∀ i ∈ ws, i ∈ own.map (·.2))
    (hg : ∀ (s : Shared) (H : Hp) (Cc : Addr) (cl : List (Str × Addr)) (fp : List Addr), ∀ v : V, PG (X.blk s H scope (compEnvC scope cl Cc X.env) fp) tg (bG X.K mg C.Tg C.np ((i, v) :: C.lk) ws f)) (ht : ∀ (s : Shared) (H : Hp) (Cc : Addr) (cl : List (Str × Addr)) (fp : List Addr), ∀ v : V, PTs (X.blk s H scope (compEnvC scope cl Cc X.env) fp) ifs (bT X.K mg C.Tg C.np ((i, v) :: C.lk) t))
    (he : ∀ (s : Shared) (H : Hp) (Cc : Addr) (cl : List (Str × Addr)) (fp : List Addr), ∀ v : V, PE (X.blk s H scope (compEnvC scope cl Cc X.env) fp) elt (bE X.K mg C.Tg C.np ((i, v) :: C.lk) c))
    (hTk : C.Tg[k]? = some (.lst .fz) := by rfl) (hpk : C.np ≤ k := by exact Nat.le_of_ble_eq_true rfl) (hNk : X.N[k]? = some y := by rfl) (hlk : lkFree C.lk k = true := by rfl)
    (hT : C.Tg[i]? = some (.lst .fz) := by rfl) (hpn : C.np ≤ i := by exact Nat.le_of_ble_eq_true rfl) (hNi : X.N[i]? = some x := by rfl) (hvi : Vis X.env.scope x := by first | exact Or.inl rfl | exact Or.inr (Or.inl rfl) | exact Or.inr (Or.inr rfl)) (hd : (x == ("__debug__" : Str)) = false := by decide) (hcd : (x == ("__classdict__" : Str)) = false := by decide)
    (hs : ∀ y, foldedSetIterable (.Name x p) X.env y = pure y := by intro _; rfl) :
    PS X (.Assign [.Name y py] (.ListComp elt [⟨tg, .Name x p, ifs, 0⟩] scope pos) spos) (tS X.K mg C W rsh (cSetO k (cOwn (cCompO i (own.map (·.2)) f t c)))) :=
  PS.to (ps_setLc hc hN hNk hyl hsw (pi_seq (pe_var hNi hvi hd hcd)) ok (fun s H Cc cl fp => PG.ex fun v => hg s H Cc cl fp v) (fun s H Cc cl fp => PTs.ex fun v => ht s H Cc cl fp v) (fun s H Cc cl fp => PE.ex fun v => he s H Cc cl fp v) hs) fun Dn σ H ⟨G, e, Sg, g, p⟩ => by
    refine lcO_sound hT hpn hv hk hw (Q := fun x H1 => gName k x σ H1 Dn.nx) ⟨G, e, Sg, g, (Post.bind (PostS.bind p)).imp fun n e1 G1 H1 S1 _ g1 x1 p1 => ?_⟩
    cases n with
    | sc d => exact False.elim p1
    | nl ds => exact fun a vs ha hd => p1 G1 (upd H1 a (.lst vs)) S1 (g1.new ha) (Ex.refl G1) G1 (upd H1 a (.lst vs)) _ _ ((g1.new ha).set (S := fun b => b = a) hTk hlk (.inl hpk) (own_lst upd_same rfl hd) (g1.lone ha)) (Ex.refl G1)
    | nt ds => exact False.elim p1
theorem ds_setLcOZ (k i : Nat) (own : List (Str × Nat)) {y : Str} {py spos : Pos} (hc : X.calm = true) (hN : X.N.Nodup) (hyl : X.env.scope.names.lookup y = some .local) (hsw : swapsWith (.ListComp elt [⟨tg, .Name x p, ifs, 0⟩] scope pos) (some (.Name y py)) spos.line X.env = pure true) (ok : BlkOk X.N X.env.scope scope own)
    (hv : ∀ i ∈ own.map (·.2), C.Tg[i]? = some .fz) (hk : ∀ v : V, ∀ j ∈ own.map (·.2), lkFree ((i, v) :: C.lk) j = true) (hw : ∀ i ∈ ws, i ∈ own.map (·.2))
    (hg : ∀ (s : Shared) (H : Hp) (Cc : Addr) (cl : List (Str × Addr)) (fp : List Addr), ∀ v : V, PG (X.blk s H scope (compEnvC scope cl Cc X.env) fp) tg (bG X.K mg C.Tg C.np ((i, v) :: C.lk) ws f)) (ht : ∀ (s : Shared) (H : Hp) (Cc : Addr) (cl : List (Str × Addr)) (fp : List Addr), ∀ v : V, PTs (X.blk s H scope (compEnvC scope cl Cc X.env) fp) ifs (bT X.K mg C.Tg C.np ((i, v) :: C.lk) t))
    (he : ∀ (s : Shared) (H : Hp) (Cc : Addr) (cl : List (Str × Addr)) (fp : List Addr), ∀ v : V, PE (X.blk s H scope (compEnvC scope cl Cc X.env) fp) elt (bE X.K mg C.Tg C.np ((i, v) :: C.lk) c))
    (hTk : C.Tg[k]? = some .fz := by rfl) (hNk : X.N[k]? = some y := by rfl) (hlk : lkFree C.lk k = true := by rfl)
    (hT : C.Tg[i]? = some (.lst .fz) := by rfl) (hpn : C.np ≤ i := by exact Nat.le_of_ble_eq_true rfl) (hNi : X.N[i]? = some x := by rfl) (hvi : Vis X.env.scope x := by first | exact Or.inl rfl | exact Or.inr (Or.inl rfl) | exact Or.inr (Or.inr rfl)) (hd : (x == ("__debug__" : Str)) = false := by decide) (hcd : (x == ("__classdict__" : Str)) = false := by decide)
    (hs : ∀ y, foldedSetIterable (.Name x p) X.env y = pure y := by intro _; rfl) :
    PS X (.Assign [.Name y py] (.ListComp elt [⟨tg, .Name x p, ifs, 0⟩] scope pos) spos) (tS X.K mg C W rsh (cAsg (cFrz (cCompO i (own.map (·.2)) f t c)) (fSet k))) :=
  PS.to (ps_setLc hc hN hNk hyl hsw (pi_seq (pe_var hNi hvi hd hcd)) ok (fun s H Cc cl fp => PG.ex fun v => hg s H Cc cl fp v) (fun s H Cc cl fp => PTs.ex fun v => ht s H Cc cl fp v) (fun s H Cc cl fp => PE.ex fun v => he s H Cc cl fp v) hs) fun Dn σ H ⟨G, e, Sg, g, p⟩ => by
    refine lcO_sound hT hpn hv hk hw (Q := fun x H1 => gName k x σ H1 Dn.nx) ⟨G, e, Sg, g, (Post.bind (PostS.bind p)).imp fun n e1 G1 H1 S1 _ g1 x1 p1 => ?_⟩
    have gn : ∀ {a : Addr}, H1 a = none → G1 a = none := fun {a} ha => by
      cases q : G1 a with
      | none => rfl
      | some u => have := g1.gh a u q; rw [ha] at this; cases this
    have newf : ∀ {a : Addr} {o : HO} {d : D}, H1 a = none → Dp X.K (upd G1 a o) (.ref a) d → n.d = d → gName k (.ref a) σ (upd H1 a o) Dn.nx := fun {a o d} ha hd hn => by
      subst hn
      exact p1 (upd G1 a o) (upd H1 a o) S1 (g1.newf ha) (ex_upd (gn ha)) (upd G1 a o) (upd H1 a o) _ _ ((g1.newf ha).set hTk hlk (.inr rfl) (.fz hd) .no) (Ex.refl _)
    cases n with
    | sc d => exact fun v hv => p1 G1 H1 S1 g1 (Ex.refl G1) G1 H1 _ _ (g1.set hTk hlk (.inr rfl) (.fz hv) .no) (Ex.refl G1)
    | nl ds => exact fun a vs ha hd => newf ha (.lst (.inl (.inl upd_same)) (dps_ex (ex_upd (gn ha)) _ _ hd)) rfl
    | nt ds => exact fun a vs ha hd => newf ha (.tup (.inl (.inl upd_same)) (dps_ex (ex_upd (gn ha)) _ _ hd)) rfl
end
end
end DL

/-! list(reversed(xs)); join, split, count. -/
namespace DL
open PySem PySem.Spec PyProof.Rows L2 PySem.Calls
open Evl (Ex ex_l ex_t ex_rd)

section
variable {prog : Program} {w : World} {A : Around} {E : Value → Shared → Prop} {s : Shared}
theorem init_rev {it l S : Addr} {items : Array Value} {R : Result → Shared → Prop} (hh : A.handled = none) (hit : s.heap.IsRevIter it l ((items.size : Int) - 1)) (hl : s.heap.IsList l items) (hne : l ≠ it) (hSi : S ≠ it) (hSl : S ≠ l) (hn : items.size ≤ sizeLine)
    (hS : s.heap.get? S = some { cls := .type "list", data := .seq #[] })
    (hR : ∀ (h' : Heap) (tk : Nat) (acc : Array Value) (c' : Nat), (∀ b o, b ≠ it → b ≠ S → s.heap.get? b = some o → h'.get? b = some o) → h'.get? S = some { cls := .type "list", dict := none, data := .seq acc c', slots := #[] } → ItemsOf (fun i v => items[items.size - 1 - i]? = some v) acc items.size → R (.ok (.ret .none)) { s with heap := h', toks := tk }) :
    wpAny (model prog w) A.in1 (Builtin.«list.__init__» ⟨[.ref S, .ref it], []⟩)
      (fun fin s' => match fin with | .done f => R (.ok f) s' | .again c' => c'.quiet = true ∧ codeAny (model prog w) A c' R s') (fun e s' => R (.error e) s') s := by
  have W := (Walks.listRev (prog := prog) (w := w) (A := A.in1) hh it l hne items).toS
  have hSf : S ∉ [it, l] := by simp only [List.mem_cons, List.not_mem_nil, or_false, not_or]; exact ⟨hSi, hSl⟩
  show wpAny _ _ (do let old ← Builtin.List.listItems (.ref S); Builtin.List.listUpdate (.ref S) (fun _ => #[]); letGo old.toList.reverse; Builtin.List.listExtendWith (.ref S) (.ref it) .none) _ _ s
  refine wpAny_bind ?_
  unfold Builtin.List.listItems
  refine wpAny_bind (wpAny_seqItems hS rfl (wpAny_pure ?_))
  show wpAny _ _ (updateSeq S (fun _ => #[]) >>= fun _ => letGo (#[] : Array Value).toList.reverse >>= fun _ => Builtin.List.listExtendWith (.ref S) (.ref it) .none) _ _ s
  refine wpAny_bind (wpAny_updateSeq hS rfl ?_)
  have hS₂ := Heap.get?_update_self (Obj.mapSeq (fun _ => (#[] : Array Value))) hS rfl
  have oth : ∀ b o, b ≠ S → s.heap.get? b = some o → (s.heap.update S (Obj.mapSeq (fun _ => (#[] : Array Value)))).get? b = some o :=
    fun b o hb e => (Heap.get?_update_other _ _ (Ne.symm hb)).trans e
  refine wpAny_bind (wpAny_letGo ?_)
  have hit1 : (s.heap.update S (Obj.mapSeq (fun _ => (#[] : Array Value)))).IsRevIter it l ((items.size : Int) - 1) := hit.at fun o e => oth it o (Ne.symm hSi) e
  have hl1 : (s.heap.update S (Obj.mapSeq (fun _ => (#[] : Array Value)))).IsList l items := hl.at fun o e => oth l o (Ne.symm hSl) e
  have hT : ({ s with heap := s.heap.update S (Obj.mapSeq (fun _ => (#[] : Array Value))) } : Shared).TypeIs (.ref it) "list_reverseiterator" := Heap.IsRevIter.typeIs (s := { s with heap := s.heap.update S (Obj.mapSeq (fun _ => (#[] : Array Value))) }) hit1
  have h1 : Builtin.List.listSameRef (.ref S) (.ref it) = false := by simp [Builtin.List.listSameRef, hSi]
  unfold Builtin.List.listExtendWith
  refine wpAny_bind (wpAny_typeOf hT ?_)
  rw [if_neg (by rw [h1]; decide)]
  refine wpAny_bind (wpAny_pyIter_revIter (s := { s with heap := s.heap.update S (Obj.mapSeq (fun _ => (#[] : Array Value))) }) hit1 ?_)
  refine wpAny_bind (wpAny_holding ?_)
  unfold Builtin.List.listLengthHint
  refine wpAny_bind (wpAny_specialOf hT RT.nolen_lri ?_)
  show wpAny _ A.in1 (specialOf (Value.ref it) (Str.ofString "__length_hint__") >>= _) _ _ _
  refine wpAny_bind (wpAny_specialOf hT RT.hint_lri ?_)
  generalize hid : ("list_reverseiterator.__length_hint__" : String) = id0
  wp_delta
  rw [show splitId id0 = some ("list_reverseiterator", "__length_hint__") from by subst hid; decide +kernel]
  subst hid
  refine wpAny_bind (wpAny_isInstance (b := true) hT (by rw [isSubtype_type]; kernel_rfl) ?_)
  refine wpAny_pure ?_
  rw [if_neg (by decide)]
  have e0 : ((items.size : Nat) : Int) - 1 - ((0 : Nat) : Int) = (items.size : Int) - 1 := by omega
  refine wpAny_pure ⟨plainId_quiet F.plain_extend_loop _, codeAny_extend_loopS W hn S hSf _ items.size 0 _ _ _ rfl (Nat.zero_le _) ⟨Nat.zero_le _, by rw [e0]; exact hit1, hl1⟩ hS₂ (ItemsOf.nil _) fun s' acc' c' hm hS' hacc => ?_⟩
  rw [Moved.eq_with hm]
  refine hR s'.heap s'.toks acc' c' (fun b o hb hb2 e => hm.heap b o (fun hmem => ?_) (oth b o hb2 e)) hS' hacc
  rcases List.mem_cons.mp hmem with e' | hmem
  · exact hb2 e'
  · exact hb (List.mem_singleton.mp hmem)
theorem call_list_rev {it l : Addr} {items : Array Value} {Q : Value → Shared → Prop} (hh : A.handled = none) (hit : s.heap.IsRevIter it l ((items.size : Int) - 1)) (hl : s.heap.IsList l items) (hne : l ≠ it) (hn : items.size ≤ sizeLine)
    (hQ : ∀ (h' : Heap) (tk : Nat) (acc : Array Value) (c' : Nat), (∀ b o, b ≠ it → s.heap.get? b = some o → h'.get? b = some o) → h'.get? s.heap.objs.size = some { cls := .type "list", dict := none, data := .seq acc c', slots := #[] } → ItemsOf (fun i v => items[items.size - 1 - i]? = some v) acc items.size →
      Q (.ref s.heap.objs.size) { s with heap := h', toks := tk }) :
    wpAny (model prog w) A (call (.type "list") [.ref it]) Q E s := by
  refine callType_codes (Q₁ := fun obj s₁ => obj = .ref s.heap.objs.size ∧ s₁ = { s with heap := s.heap.push { cls := .type "list", data := .seq #[] } }) PySem.F.called_list (PySem.F.typeCall_list_1 _) PySem.F.entry_list_init
    (code_list_new _ ⟨rfl, rfl⟩) fun obj s₁ h₁ => ?_
  obtain ⟨rfl, rfl⟩ := h₁
  have hS : (s.heap.push { cls := .type "list", data := .seq #[] }).get? s.heap.objs.size = some { cls := .type "list", data := .seq #[] } := Heap.get?_push_size _ rfl
  obtain ⟨oi, hoi, _⟩ := id hit
  obtain ⟨ol, hol, _⟩ := id hl
  have hSi : s.heap.objs.size ≠ it := Nat.ne_of_gt (Heap.lt_size hoi)
  have hSl : s.heap.objs.size ≠ l := Nat.ne_of_gt (Heap.lt_size hol)
  refine ⟨⟨_, hS, rfl⟩, PySem.F.args_list_init_2 _ _, init_rev (A := A.in1) (items := items) hh (hit.at fun o e => Heap.get?_push_of_some _ e) (hl.push _) hne hSi hSl hn hS (fun h' tk acc' c' hk hS' hacc => ?_)⟩
  exact ⟨rfl, hQ h' tk acc' c' (fun b o hb e => hk b o hb (Nat.ne_of_lt (Heap.lt_size e)) (Heap.get?_push_of_some _ e)) hS' hacc⟩
end
section
variable {X : Cx} {K : Frag} {mg : MG} {C : Ct} {W : WX}
def tLrev (K : PySem.W.Frag) (te : TE) : TE := fun σ H Q => te σ H fun v H1 => ∃ (a : Addr) (xs : List V), v = .ref a ∧ SqL K H1 a xs ∧ ∀ q, H1 q = none → Q (.ref q) (upd H1 q (.lst xs.reverse))
theorem pe_lrev {e : Expr} {te : TE} {p p2 pos pos2 : Pos} (hc : X.calm = true) (hg : Gl X "list") (hm : X.mg "list" = none) (hg2 : Gl X "reversed") (hm2 : X.mg "reversed" = none) (he : PE X e te)
    (hs : starEach [e] X.env = (false, eval e X.env) :: starEach [] X.env := by rfl)
    (hs2 : starEach [.Call (.Name "reversed" p2) [e] [] pos2] X.env = (false, eval (.Call (.Name "reversed" p2) [e] [] pos2) X.env) :: starEach [] X.env := by rfl) :
    PE X (.Call (.Name "list" p) [.Call (.Name "reversed" p2) [e] [] pos2] [] pos) (tLrev X.K te) := by
  refine ⟨fun pins s σ H Q I h => ?_⟩
  refine Call_ (ld_blt I hg hm boot_list (PyProof.Rows.callWith_type1 (args_cons (Call_ (ld_blt I hg2 hm2 PyProof.Rows.boot_reversed (PyProof.Rows.callWith_type1 (args_cons (thn (he.run pins s σ H _ I h) fun u s1 ⟨v, H1, I1, r1, q1⟩ => args_nil ?_) hs) hs rfl))) hs2) hs2 rfl))
  obtain ⟨a, xs, ev, hq, q⟩ := q1
  subst ev
  obtain rfl : u = Value.ref a := r1
  obtain ⟨its, rv, p', hz⟩ := I1.list hq
  refine call_reversed_list p'.isList (args_nil ?_)
  have k0 : ∀ b o, s1.heap.get? b = some o → (s1.heap.push (revObj a ((its.toArray.size : Int) - 1))).get? b = some o := fun b o e => Heap.get?_push_of_some _ e
  have I2 : Inv X pins σ H1 { s1 with heap := s1.heap.push (revObj a ((its.toArray.size : Int) - 1)) } := I1.kept (t' := s1.toks) k0
  obtain ⟨f0, f1, f2, f3, f4, f5⟩ := I1.fpOk (H' := H1) (b := s1.heap.objs.size) (Nat.le_refl _) (I1.hok.fresh (Nat.le_refl _))
  have hl := p'.isList
  obtain ⟨ol, hol, _⟩ := id hl
  have hne : a ≠ s1.heap.objs.size := Nat.ne_of_lt (Heap.lt_size hol)
  have hn : its.toArray.size ≤ sizeLine := by rw [List.size_toArray, ← rv.length]; exact hz
  refine call_list_rev (s := { s1 with heap := s1.heap.push (revObj a ((its.toArray.size : Int) - 1)) }) (items := its.toArray) (I1.ok.hd hc) ⟨_, Heap.get?_push_size _ rfl, rfl, rfl⟩ (hl.push _) hne hn fun h' tk acc c' hk e hi => ?_
  have e' : ∀ b o, s1.heap.get? b = some o → h'.get? b = some o := fun b o hb => hk b o (Nat.ne_of_lt (Heap.lt_size hb)) (k0 b o hb)
  have z2 : s1.heap.objs.size < (s1.heap.push (revObj a ((its.toArray.size : Int) - 1))).objs.size := Heap.lt_size (Heap.get?_push_size _ rfl)
  have hfr := I1.hok.fresh (a := (s1.heap.push (revObj a ((its.toArray.size : Int) - 1))).objs.size) (Nat.le_of_lt z2)
  have hle := Nat.le_of_lt z2
  exact ⟨.ref _, upd H1 (s1.heap.push (revObj a ((its.toArray.size : Int) - 1))).objs.size (.lst xs.reverse), I1.laid (t' := tk) e' hle (show ObjOk X.prog X.w _ h' _ (.lst xs.reverse) from ⟨by rw [List.length_reverse]; exact hz, acc.toList, c', RT.vals_rev rv hi, by rw [Array.toArray_toList]; exact e⟩), rfl, q _ hfr⟩
/-- list(reversed(..)) -/
def cLrev (c : Env → R Lv) : Env → R NV := fun e => (c e).bind fun l e1 => match l with
  | .val (.list ds) => .ok (.nl ds.reverse) e1
  | _ => .st
theorem dn_lrev {e : Expr} {p p2 pos pos2 : Pos} {c : Env → R Lv} (hc : X.calm = true) (hm : X.mg "list" = none) (hm2 : X.mg "reversed" = none) (h : PE X e (tE X.K mg C W c)) (hg : Gl X "list" := by rfl) (hg2 : Gl X "reversed" := by rfl)
    (hs : starEach [e] X.env = (false, eval e X.env) :: starEach [] X.env := by rfl)
    (hs2 : starEach [.Call (.Name "reversed" p2) [e] [] pos2] X.env = (false, eval (.Call (.Name "reversed" p2) [e] [] pos2) X.env) :: starEach [] X.env := by rfl) :
    PE X (.Call (.Name "list" p) [.Call (.Name "reversed" p2) [e] [] pos2] [] pos) (tN X.K mg C W (cLrev c)) :=
  PE.to (pe_lrev hc hg hm hg2 hm2 h hs hs2) fun σ H Q ⟨G, e, Sg, g, p⟩ => ⟨G, e, Sg, g, (Post.bind p).imp fun l e1 G1 H1 S1 _ g1 x1 p1 v hv => by
    cases l with
    | val d =>
      cases d with
      | list ds =>
        have p1 := p1 G1 H1 S1 g1 (Ex.refl G1)
        have hv : Dp X.K G1 v (.list ds) := hv
        cases hv with
        | lst q1 q2 => exact ⟨_, _, rfl, ex_l g1.gh q1, fun q hq => p1 q _ hq (dps_rev q2)⟩
      | _ => exact False.elim p1
    | plc i => exact False.elim p1
    | own i => exact False.elim p1⟩

/-! methods of texts and lists -/
def strsD : List D → Option (List Str)
  | [] => some []
  | .str z :: r => (strsD r).map (z :: ·)
  | _ => none
theorem strsD_eq : ∀ {ds : List D} {ys : List Str}, strsD ds = some ys → ds = ys.map .str
  | [], ys, h => by cases h; rfl
  | .str z :: r, ys, h => by
    unfold strsD at h
    cases q : strsD r with
    | none => rw [q] at h; cases h
    | some zs => rw [q] at h; cases h; rw [strsD_eq q]; rfl
  | .int _ :: _, _, h => by cases h
  | .bool _ :: _, _, h => by cases h
  | .none :: _, _, h => by cases h
  | .list _ :: _, _, h => by cases h
  | .tuple _ :: _, _, h => by cases h
  | .dict _ :: _, _, h => by cases h
theorem strsD_map : ∀ (ys : List Str), strsD (ys.map .str) = some ys
  | [] => rfl
  | y :: r => by
    show (strsD (r.map .str)).map (y :: ·) = _
    rw [strsD_map r]
    rfl
theorem dps_strs {K : Frag} {G : Hp} : ∀ {ys : List Str} {vs : List V}, DpAll K G vs (ys.map PyData.str) → vs = ys.map V.str
  | [], _, .nil => rfl
  | y :: r, _, .cons a b => by
    rw [dps_strs b]
    cases a
    rfl
def gJoin : D → List D → Option NV
  | .str a, [.list ds] => (strsD ds).bind fun ys => if (ys.map (·.length)).sum + ys.length * a.length ≤ 16777216 then some (.sc (.str (Txt.join a ys))) else none
  | _, _ => none
theorem me_join : MetN X X.K "str.join" "str" gJoin := ⟨⟨_, mt_join, fun G H x xs dx ds nv Q xg hx hxs hg hq => by
  unfold gJoin at hg
  split at hg
  · rename_i a ds
    obtain ⟨y, rfl, hy⟩ := hxs.one
    obtain ⟨l, vs, rfl, h1, h2⟩ := hy.lst_inv xg
    cases q : strsD ds with
    | none => rw [q] at hg; cases hg
    | some ys =>
      rw [q] at hg
      have hg : (if (ys.map (·.length)).sum + ys.length * a.length ≤ 16777216 then some (NV.sc (.str (Txt.join a ys))) else none) = some nv := hg
      split at hg
      · rename_i hz
        cases hg
        cases strsD_eq q
        cases dps_strs h2
        exact ⟨a, l, ys, hx.str_inv, rfl, .inl h1, hz, hq _ (.str _)⟩
      · cases hg
  · cases hg⟩⟩
def gSplit : D → List D → Option NV
  | .str a, [.str b] => if (b.length == 0) = false ∧ a.length + 2 ≤ 16777216 then some (.nl ((Txt.split a b).map .str)) else none
  | _, _ => none
theorem strs_dps {K : Frag} {G : Hp} : ∀ {ys : List Str}, DpAll K G (ys.map V.str) (ys.map PyData.str)
  | [] => .nil
  | y :: r => .cons (.str _) strs_dps
theorem me_split : MetN X X.K "str.split" "str" gSplit := ⟨⟨_, mt_split, fun G H x xs dx ds nv Q xg hx hxs hg hq => by
  unfold gSplit at hg
  split at hg
  · obtain ⟨y, rfl, hy⟩ := hxs.one
    split at hg
    · rename_i hz
      cases hg
      have hs : 16777216 ≤ sizeLine := by decide
      exact ⟨_, _, hx.str_inv, by rw [hy.str_inv], hz.1, by omega, fun p hp => hq p _ hp strs_dps⟩
    · cases hg
  · cases hg⟩⟩
def gCountL : D → List D → Option NV
  | .list ds, [d] => if (dShaped d && dShaped (.list ds)) = true then some (.sc (.int ((ds.countP fun z => PyData.eqv z d : Nat) : Int))) else none
  | _, _ => none
def rCountD (K : Frag) : V → List V → Hp → VK → Prop := fun x xs H Q => ∃ (a : Addr) (y : V) (d : D) (ds : List D), x = .ref a ∧ xs = [y] ∧ Dp K H (.ref a) (.list ds) ∧ Dp K H y d ∧ dShaped d = true ∧ dShaped (.list ds) = true ∧ Q (.int ((ds.countP fun z => PyData.eqv z d : Nat) : Int)) H
theorem mt_countD (hu : X.A.units + 65 < cLine) : MtR X "list.count" (rCountD X.K) := by
  intro pins s σ H x xs v us Q I rx rxs h
  obtain ⟨a, y, d, ds, rfl, rfl, hl, hy, sd, sl, q⟩ := h
  cases rx
  cases rxs with
  | cons ry rt =>
    rename_i uy ut
    cases rt
    obtain ⟨bs, r1⟩ := Dp.reads I d y uy hy ry
    have hroom : X.A.units + 1 + min (PyData.depthAll ds) d.depth < cLine := rm_in sd hu
    cases hl with
    | lst hs ha =>
      obtain ⟨its, rv, pl, hlen⟩ := I.list hs
      obtain ⟨as, h4⟩ := Dp.readsAll I ds _ its ha rv
      exact SeqAt.count_list_data (vs := its.toArray) pl.isList (show ReadsAll s.heap its.toArray.toList ds as from h4) r1 (pl_list sl) (shp_d sd).1 hroom ⟨.int _, H, I.tok _, ⟨_, rfl⟩, q⟩
theorem me_lcount (hu : X.A.units + 65 < cLine) : MetN X X.K "list.count" "list" gCountL := ⟨⟨_, mt_countD hu, fun G H x xs dx ds nv Q xg hx hxs hg hq => by
  unfold gCountL at hg
  split at hg
  · obtain ⟨y, rfl, hy⟩ := hxs.one
    split at hg
    · rename_i hz
      cases hg
      rw [Bool.and_eq_true] at hz
      have hd := hx.dp xg
      obtain ⟨l, vs, rfl, h1, h2⟩ := hx.lst_inv xg
      exact ⟨l, y, _, _, rfl, rfl, hd, hy.dp xg, hz.1, hz.2, hq _ (.int _)⟩
    · cases hg
  · cases hg⟩⟩
end
end DL

/-! Walks over an own list that the body reads. -/
namespace DL
open PySem PySem.Spec PyProof.Rows L2
open Evl (Ex ex_l ex_t ex_rd)
open Classical in
noncomputable def chkE (i : Nat) (ds : List D) (fl : Fl) (e2 : Env) : R Fl := if e2.getD i none = some (.list ds) then .ok fl e2 else .st
/-- the body leaves the list of slot i alone -/
noncomputable def chk (i : Nat) (ds : List D) (b : Env → R Fl) : Env → R Fl := fun e => match b e with
  | .ok .nx e2 => chkE i ds .nx e2
  | .ok .ct e2 => chkE i ds .ct e2
  | .ok .bk e2 => .ok .bk e2
  | .ok (.rt v) e2 => .ok (.rt v) e2
  | .ex x e2 => .ex x e2
  | .st => .st
noncomputable def cForR (i : Nat) (f : D → Env → Option Env) (b : Env → R Fl) : Env → R Fl := fun e => match e.getD i none with
  | some (.list ds) => forL f (chk i ds b) ds e
  | _ => .st
theorem chkE_ok {i : Nat} {ds : List D} {fl : Fl} {e : Env} (h : e.getD i none = some (.list ds)) : chkE i ds fl e = .ok fl e := by
  unfold chkE
  rw [if_pos h]
abbrev Ct.lkd (C : Ct) (i : Nat) (v : V) : Ct := ⟨C.Tg, C.np, C.vs0, C.G0, C.H0, C.S0, (i, v) :: C.lk⟩
section
variable {K : Frag} {mg : MG} {C : Ct} {G G' H H' : Hp} {σ σ' : L2.St} {e e' : Env} {Sg Sg' : Nat → ASet} {i : Nat} {ds : List D} {v : V}
theorem Good.lkd (g : Good K mg C G H σ e Sg) (h : σ[i]? = some (some v)) : Good K mg (C.lkd i v) G H σ e Sg :=
  ⟨g.ls, g.le, g.slot, g.dis, g.gs, g.gh, g.g0, g.fr, g.al, g.gn, g.pin, g.par, fun q hq => by
    rcases List.mem_cons.mp hq with rfl | hq
    · exact h
    · exact g.lock q hq⟩
theorem Good.unlk (g : Good K mg (C.lkd i v) G H σ e Sg) : Good K mg C G H σ e Sg :=
  ⟨g.ls, g.le, g.slot, g.dis, g.gs, g.gh, g.g0, g.fr, g.al, g.gn, g.pin, g.par, fun q hq => g.lock q (List.mem_cons_of_mem _ hq)⟩
theorem Lone.unlk {S : ASet} (l : Lone (C.lkd i v) G H Sg S) : Lone C G H Sg S := ⟨l.own, l.apart⟩
theorem Good.own (g : Good K mg C G H σ e Sg) (ht : C.Tg[i]? = some (.lst .fz)) (he : e.getD i none = some (.list ds)) : ∃ p vs, σ[i]? = some (some (.ref p)) ∧ H p = some (.lst vs) ∧ DpAll K G vs ds := by
  have he := Good.getD (G := G) (H := H) (σ := σ) (Sg := Sg) he
  obtain ⟨v, h1, h2⟩ := g.slot i _ _ ht he
  obtain ⟨p, vs, es, rfl, e2, hp, sp, hd⟩ := own_lst_inv h2
  cases e2
  exact ⟨p, vs, h1, hp, hd⟩
end
section
variable {X : Cx} {mg : MG} {C : Ct} {W : WX} {rsh : Sh}
theorem ds_forR (i : Nat) {x : Str} {p : Pos} {tg : Expr} {body : List Stmt} {pos : Pos} {ws : List Nat} {f : D → Env → Option Env} {b : Env → R Fl} (hp : PassesOwn (model X.prog X.w) X.A X.env X.xe) (hc : X.calm = true)
    (hg : ∀ v G0 H0 S0, PG X tg (tG X.K mg ⟨C.Tg, C.np, C.vs0, G0, H0, S0, (i, v) :: C.lk⟩ ws f)) (hb : ∀ v G0 H0 S0, PSs X body (tS X.K mg ⟨C.Tg, C.np, C.vs0, G0, H0, S0, (i, v) :: C.lk⟩ W rsh b))
    (ht : C.Tg[i]? = some (.lst .fz) := by rfl) (hN : X.N[i]? = some x := by rfl) (hv : Vis X.env.scope x := by first | exact Or.inl rfl | exact Or.inr (Or.inl rfl) | exact Or.inr (Or.inr rfl)) (hd : (x == ("__debug__" : Str)) = false := by decide) (hcd : (x == ("__classdict__" : Str)) = false := by decide)
    (hs : ∀ y, foldedSetIterable (.Name x p) X.env y = pure y := by intro _; rfl) : PS X (.For tg (.Name x p) body [] pos) (tS X.K mg C W rsh (cForR i f b)) :=
  PS.to (ps_for hp hc (pi_seq (pe_var hN hv hd hcd)) (PG.ex (ι := V × Hp × Hp × ASet) fun c => hg c.1 c.2.1 c.2.2.1 c.2.2.2) (PSs.ex (ι := V × Hp × Hp × ASet) fun c => hb c.1 c.2.1 c.2.2.1 c.2.2.2) hs) fun Dn σ H ⟨G, e, Sg, g, q⟩ => by
    unfold cForR at q
    split at q
    · rename_i ds he
      obtain ⟨a, vs, h1, h2, h3⟩ := g.own ht he
      have g1 := g.lkd h1
      refine ⟨.ref a, h1, .inl ⟨a, vs, rfl, .inl (.inl h2), ?_⟩⟩
      refine ⟨fun k m σ' H' => m = ds.length - k ∧ k ≤ ds.length ∧ ∃ G' e' Sg', Good X.K mg (C.lkd i (.ref a)) G' H' σ' e' Sg' ∧ e'.getD i none = some (.list ds) ∧ Ex G G' ∧ PostS X.K mg C W rsh G' (forL f (chk i ds b) (ds.drop k) e') Dn, ⟨ds.length, by simp, Nat.zero_le _, G, e, Sg, g1, he, Ex.refl G, by simpa using q⟩, ?_⟩
      rintro k m σ' H' ⟨rfl, hk, G', e', Sg', g', he', x', q⟩
      obtain ⟨a', vs', h1', hH, h3'⟩ := Good.own g' ht he'
      have ea : a' = a := by
        have z := g'.lock (i, .ref a) List.mem_cons_self
        rw [h1'] at z
        cases z
        rfl
      subst ea
      have hl : vs'.length = ds.length := dps_len _ _ h3'
      by_cases hlt : k < ds.length
      · refine .inr ⟨itl_go hH (by omega), fun σ2 H2 => ∃ G2 e2 Sg2, Good X.K mg (C.lkd i (.ref a')) G2 H2 σ2 e2 Sg2 ∧ e2.getD i none = some (.list ds) ∧ Ex G G2 ∧ PostS X.K mg C W rsh G2 (forL f (chk i ds b) (ds.drop (k + 1)) e2) Dn,
          fun σ2 H2 ⟨G2, e2, Sg2, g2, i2, x2, q2⟩ => ⟨ds.length - (k + 1), by omega, rfl, hlt, G2, e2, Sg2, g2, i2, x2, q2⟩, fun y H2 hy => ?_⟩
        obtain ⟨rfl, hx⟩ := hy
        have hx := hx vs' (.inl (.inl hH))
        have hd : ds[k]? = some ds[k] := List.getElem?_eq_getElem hlt
        have hv := dps_at _ _ h3' k _ _ hx hd
        have hdr : ds.drop k = ds[k] :: ds.drop (k + 1) := List.drop_eq_getElem_cons hlt
        rw [hdr] at q
        unfold forL at q
        cases qf : f ds[k] e' with
        | none => rw [qf] at q; exact False.elim q
        | some e2 =>
          rw [qf] at q
          dsimp only at q
          refine ⟨(.ref a', C.G0, C.H0, C.S0), G', e', Sg', ds[k], e2, g', hv, qf, fun σ2 Sg2 g2 _ => ⟨(.ref a', C.G0, C.H0, C.S0), G', e2, Sg2, g2, ?_⟩⟩
          unfold chk at q
          cases qb : b e2 with
          | ok fl e3 =>
            rw [qb] at q
            cases fl with
            | nx =>
              dsimp only at q
              by_cases h4 : e3.getD i none = some (.list ds)
              · rw [chkE_ok h4] at q
                exact fun G3 H3 σ3 S3 g3 x3 => ⟨G3, e3, S3, g3, h4, x'.trans x3, PostS.mono x3 q⟩
              · unfold chkE at q
                rw [if_neg h4] at q
                exact False.elim q
            | ct =>
              dsimp only at q
              by_cases h4 : e3.getD i none = some (.list ds)
              · rw [chkE_ok h4] at q
                exact fun G3 H3 σ3 S3 g3 x3 => ⟨G3, e3, S3, g3, h4, x'.trans x3, PostS.mono x3 q⟩
              · unfold chkE at q
                rw [if_neg h4] at q
                exact False.elim q
            | bk => exact fun G3 H3 σ3 S3 g3 x3 => q G3 H3 σ3 _ (Good.unlk g3) x3
            | rt v => exact fun G3 H3 σ3 S3 g3 x3 w S ho hlo => q G3 H3 σ3 _ (Good.unlk g3) x3 w S ho (Lone.unlk hlo)
          | ex xx e3 =>
            rw [qb] at q
            exact fun G3 H3 σ3 S3 g3 x3 => q G3 H3 σ3 _ (Good.unlk g3) x3
          | st => rw [qb] at q; exact False.elim q
      · have e0 : k = ds.length := by omega
        subst e0
        rw [List.drop_length] at q
        exact .inl ⟨⟨vs', .inl (.inl hH), by omega⟩, q G' H' σ' _ (Good.unlk g') (Ex.refl G')⟩
    · exact False.elim q
/-! bool of a list -/
def dBoolA : List D → Option NV
  | [.int i] => some (.sc (.bool (i != 0)))
  | [.bool k] => some (.sc (.bool k))
  | [.list ds] => some (.sc (.bool (!ds.isEmpty)))
  | _ => none
theorem cn_boolA : CalN X X.K (.type "bool") dBoolA := ⟨⟨_, CallR.or call_bool1 call_boolL, fun G H xs ds nv Q xg hv hg hq => by
  unfold dBoolA at hg
  split at hg
  · cases hg
    obtain ⟨x, rfl, hx⟩ := hv.one
    rw [hx.int_inv]
    exact .inl (.inl ⟨_, rfl, hq _ (.bl _)⟩)
  · cases hg
    obtain ⟨x, rfl, hx⟩ := hv.one
    rw [hx.bl_inv]
    exact .inl (.inr ⟨_, rfl, hq _ (.bl _)⟩)
  · cases hg
    obtain ⟨x, rfl, hx⟩ := hv.one
    obtain ⟨a, vs, rfl, h1, h2⟩ := hx.lst_inv xg
    refine .inr ⟨a, vs, rfl, h1, hq _ ?_⟩
    have := dps_len _ _ h2
    have e : ∀ ds : List D, vs.length = ds.length → vs.isEmpty = ds.isEmpty := fun ds h => by
      cases ds <;> cases vs <;> first | rfl | cases h
    rw [e _ this]
    exact .bl _
  · cases hg⟩⟩
end
end DL

set_option maxHeartbeats 4000000
/-! Where an exception is handled: list comprehensions over a range. -/
namespace DL
open PySem PySem.Spec PyProof.Rows L2
open Evl (Ex ex_l ex_t ex_rd)
open L2H (HotC Hot1 PIH PIEH TurnH)
theorem takes0N {X : Cx} : L2N.Takes X (fun _ _ _ _ => False) := fun _ _ ⟨_, _, _, _, _, _, _, _, _, _, _, _, _, _, _, _, w⟩ => w.elim
section
variable {X : Cx}
/-- the block's start bears a pinned object of the outer context -/
theorem Inv.blkPin {pins : List (Addr × Obj)} {σ σ' : L2.St} {H H' : Hp} {s s' s3 : Shared} {scope : Scope} {ce : PySem.Env} {fp : List Addr} {p : Addr × Obj} (I : Inv X pins σ H s) (hp : p ∈ X.pn ++ pins) (J : Inv (X.blk s3 H' scope ce fp) [] σ' H' s')
    (k : ∀ b o, s.heap.get? b = some o → s'.heap.get? b = some o) (hn : H' p.1 = none) (hc : s.heap.objs.size ≤ ce.locals) (hs : p.1 ∉ frs X.stack) : Inv (X.blk s3 H' scope ce fp) [p] σ' H' s' := by
  obtain ⟨h1, h2, h3, h4, h5⟩ := I.pin p hp
  refine J.pins_of fun q hq => ?_
  rw [List.mem_singleton.mp hq]
  exact ⟨k _ _ h1, hn, fun z => absurd (Nat.lt_of_lt_of_le (Heap.lt_size h1) hc) (by rw [z]; exact Nat.lt_irrefl _), hs, h5⟩
theorem lcH_core {pins : List (Addr × Obj)} {s : Shared} {σ : L2.St} {H : Hp} {Q : VK} {elt tg iter : Expr} {ifs : List Expr} {scope : Scope} {own : List (Str × Nat)} {pos pos' : Pos} {wi : TI} {g : TG} {tt : TT} {te : TE} {use : Option (Value → Sem Unit)} {Qf : Value → Shared → Prop}
    (hc : HotC X) (hN : X.N.Nodup) (I : Inv X pins σ H s) (hi : PIH X tg iter wi) (ok : BlkOk X.N X.env.scope scope own)
    (hg : ∀ (s : Shared) (H : Hp) (C : Addr) (cl : List (Str × Addr)) (fp : List Addr), PG (X.blk s H scope (compEnvC scope cl C X.env) fp) tg g) (ht : ∀ (s : Shared) (H : Hp) (C : Addr) (cl : List (Str × Addr)) (fp : List Addr), PTs (X.blk s H scope (compEnvC scope cl C X.env) fp) ifs tt)
    (he : ∀ (s : Shared) (H : Hp) (C : Addr) (cl : List (Str × Addr)) (fp : List Addr), PE (X.blk s H scope (compEnvC scope cl C X.env) fp) elt te) (hs : ∀ x, foldedSetIterable iter X.env x = pure x)
    (h : tLc wi g tt te (own.map (·.2)) σ H Q)
    (hRR : ∀ D C s' m H', Inv X pins σ H' s' → Q (.ref D) H' → s'.heap.Ns C m → FpOk X pins H' C → compPost (model X.prog X.w) X.A X.xe use Qf (.ref D) C (.ok .next) s') :
    wpAny (model X.prog X.w) X.A (comprehension (.ListComp elt [⟨tg, iter, ifs, 0⟩] scope pos) scope X.env pos' (newList []) false (eval iter X.env) use) Qf X.xe s := by
  obtain ⟨p, hot, hpn⟩ := hc
  have hfree : ∀ y ∈ scope.names, y.2 = .free → ∃ c, X.env.cells.lookup y.1 = some c := fun y hy e => (ok.free y hy e).elim (fun k => I.ok.has _ (.inl k)) fun k => I.ok.has _ (.inr k)
  refine wpAny_comprehension_free (use := use) rfl hs (closure_ok hfree) ok.kind (fun y hy e => by rw [ok.uniq y hy, e]) (thn (hi.run pins s σ H _ I h) fun xv s1 hx => thn hx fun itv s2 h2 => ?_)
  obtain ⟨it, fp, tn, J, H2, e, I2, T, st2, f2, q⟩ := h2
  subst e
  refine wpAny_newObj_type (newEnv_comp ?_) (by show 0 ≤ sizeLine; decide)
  generalize hD : s2.heap.objs.size = D
  obtain ⟨W, ⟨m0, w0⟩, turn⟩ := q D (I2.hok.fresh (Nat.le_of_eq hD))
  generalize hs3 : ({ s2 with heap := s2.heap.push { cls := .type "list", data := .seq ([] : List Value).toArray } } : Shared) = s3
  have h3 : s3.heap = s2.heap.push { cls := .type "list", data := .seq ([] : List Value).toArray } := by rw [← hs3]
  have I3 : Inv X pins σ (upd H2 D (.lst [])) s3 := by
    rw [← hs3]
    refine I2.laid (t' := s2.toks) (fun b o e => Heap.get?_push_of_some _ e) (Nat.le_of_eq hD) ⟨Nat.zero_le _, [], 0, .nil, ?_⟩
    rw [← hD]
    exact Heap.get?_push_size _ rfl
  have sz : ∀ b ∈ fp, b < s2.heap.objs.size := fun b hb => let ⟨o, e, _⟩ := T.obj _ _ st2 b hb; Heap.lt_size e
  have f3 : ∀ b ∈ fp, FpOk X pins (upd H2 D (.lst [])) b ∧ b < s3.heap.objs.size := fun b hb => by
    have hlt := sz b hb
    refine ⟨⟨?_, (f2 b hb).2⟩, by rw [h3, Heap.size_push]; exact Nat.lt_succ_of_lt hlt⟩
    rw [upd_ne (by rw [← hD]; exact Nat.ne_of_lt hlt)]
    exact (f2 b hb).1
  have st3 : tn 0 s3.heap := T.keep _ _ _ st2 fun b _ o e => by rw [h3]; exact Heap.get?_push_of_some _ e
  have I4 := block_start I3 ok hN f3
  have pg := hg s3 (upd H2 D (.lst [])) s3.heap.objs.size (cellsFrom (s3.heap.objs.size + 1) scope.names (cloFrom X.env.cells scope.names [])) fp
  have pt := ht s3 (upd H2 D (.lst [])) s3.heap.objs.size (cellsFrom (s3.heap.objs.size + 1) scope.names (cloFrom X.env.cells scope.names [])) fp
  have pe := he s3 (upd H2 D (.lst [])) s3.heap.objs.size (cellsFrom (s3.heap.objs.size + 1) scope.names (cloFrom X.env.cells scope.names [])) fp
  show codeAny _ _ (.compStart (.ListComp elt [⟨tg, iter, ifs, 0⟩] scope pos) 0 (.ref it) (.ref D) (compEnvC scope (cellsFrom (s3.heap.objs.size + 1) scope.names (cloFrom X.env.cells scope.names [])) s3.heap.objs.size X.env)) (compPost (model X.prog X.w) X.A X.xe use Qf (.ref D) s3.heap.objs.size) { s3 with heap := pushCells (s3.heap.push { cls := .type "dict", data := .dict #[] }) scope.names }
  have nfp : ∀ b ∈ fp, (upd H2 D (.lst [])) b = none := fun b hb => (f3 b hb).1.1
  generalize hce : compEnvC scope (cellsFrom (s3.heap.objs.size + 1) scope.names (cloFrom X.env.cells scope.names [])) s3.heap.objs.size X.env = ce at I4 pg pt pe ⊢
  have cL : ce.locals = s3.heap.objs.size := by subst hce; rfl
  have P3 := I3.pin p (List.mem_append_left _ hpn)
  have pst : p.1 ∉ frs X.stack := fun hm => (List.mem_cons.mp (I3.stkSub p.1 hm)).elim P3.2.2.1 P3.2.2.2.1
  have pfp : ∀ b ∈ fp, p.1 ≠ b := fun b hb => (f3 b hb).1.2.2.2.2.2 p (List.mem_append_left _ hpn)
  generalize hH3 : upd H2 D (.lst []) = H3 at I3 I4 pg pt pe w0 nfp f3 P3
  generalize hs4 : ({ s3 with heap := pushCells (s3.heap.push { cls := .type "dict", data := .dict #[] }) scope.names } : Shared) = s4 at I4 ⊢
  have k34 : ∀ b o, s3.heap.get? b = some o → s4.heap.get? b = some o := fun b o e => by rw [← hs4]; exact pushCells_keeps _ _ _ _ (Heap.get?_push_of_some _ e)
  have I4p : Inv (X.blk s3 H3 scope ce fp) [p] (wipe σ (own.map (·.2))) H3 s4 := Inv.blkPin I3 (List.mem_append_left _ hpn) I4 k34 P3.2.1 (Nat.le_of_eq cL.symm) pst
  have st4 : tn 0 s4.heap := T.keep _ _ _ st3 fun b _ o e => k34 b o e
  have stat : ∀ {σ' : L2.St} {H' : Hp} {s' : Shared}, Inv (X.blk s3 H3 scope ce fp) [p] σ' H' s' → (∀ b ∈ fp, H' b = none) → ∀ b ∈ fp, FpOk (X.blk s3 H3 scope ce fp) [p] H' b := fun {σ' H' s'} I' hn b hb =>
    ⟨hn b hb, (I'.ok.exf b hb).1, I'.ok.exfs b hb, .inl hb, fun x c e => (I'.ok.exf b hb).2 x c e, fun q hq => by
      have hq : q ∈ [p] := hq
      rw [List.mem_singleton.mp hq]
      exact pfp b hb⟩
  have hotB : HotC ((X.blk s3 H3 scope ce fp).tr [p] (fun _ _ => False)) := ⟨p, hot, List.mem_singleton_self p⟩
  have loop : codeAny (model X.prog X.w) X.A (.compLoop (.ListComp elt [⟨tg, iter, ifs, 0⟩] scope pos) 0 (.ref it) (.ref D) ce) (compPost (model X.prog X.w) X.A X.xe use Qf (.ref D) s3.heap.objs.size) s4 := by
    refine compLoop_any (fun n s' => ∃ i H', Inv (X.blk s3 H3 scope ce fp) [p] (wipe σ (own.map (·.2))) H' s' ∧ tn i s'.heap ∧ (∀ b ∈ fp, H' b = none) ∧ W i n H') ?_ m0 ⟨0, H3, I4p, st4, nfp, w0⟩
    rintro n s5 ⟨i, H5, I5, st5, n5, w5⟩
    rcases turn i n H5 w5 with ⟨stop, qq⟩ | ⟨go, Nx, hNx, step⟩
    · have td := T.done ((X.blk s3 H3 scope ce fp).tr [p] (fun _ _ => False)) rfl rfl rfl hotB i [] s5 _ H5 (fun _ _ => False) (I5.toTry _) (stat I5 n5) st5 stop
      refine thnF td fun r s6 ⟨hr, I6⟩ => ?_
      subst hr
      have I7 : Inv X pins σ H5 s6 := I3.call' (ch := fp) I6.os I6.base I6.hok I6.bare fun b hb => ⟨(f3 b hb).1.2.2.2.1, (f3 b hb).1.2.1, (f3 b hb).1.2.2.2.2.1, (f3 b hb).1.2.2.2.2.2⟩
      have nC : H5 s3.heap.objs.size = none := by
        have z : H5 ce.locals = none := I6.free
        rw [cL] at z
        exact z
      obtain ⟨m, hn, _⟩ := I6.loc
      have hn : s6.heap.Ns ce.locals m := hn
      rw [cL] at hn
      exact hRR D s3.heap.objs.size s6 m H5 I7 qq hn (I3.fpOk (Nat.le_refl _) nC)
    · have ti := T.item ((X.blk s3 H3 scope ce fp).tr [p] (fun _ _ => False)) rfl rfl rfl hotB i [] s5 _ H5 (fun _ _ => False) (I5.toTry _) (stat I5 n5) st5 go
      refine thnF ti fun r s6 ⟨u, hr, h6⟩ => ?_
      subst hr
      refine thnF h6 fun _ s7 ⟨x, H7, I7t, r7, y7, st7, n7⟩ => ?_
      have I7 : Inv (X.blk s3 H3 scope ce fp) [p] (wipe σ (own.map (·.2))) H7 s7 := L2.Inv.ofTry (pins := [p]) I7t I5.ok
      have I7' := I7.pinned (stat I7 n7) (T.obj _ _ st7)
      refine thnF (pg.run _ s7 _ H7 x u _ I7' r7 (step x H7 y7)) fun _ s8 ⟨σ8, H8, I8, hw8, q8⟩ => ?_
      refine thnF (pt.run _ s8 σ8 H8 _ I8 q8) fun b s9 ⟨H9, I9, q9⟩ => ?_
      have fin : ∀ {s' : Shared} {H' : Hp}, Inv (X.blk s3 H3 scope ce fp) ([p] ++ pinsAt fp s7.heap) σ8 H' s' → Nx H' → ∃ m, m < n ∧ ∃ i H', Inv (X.blk s3 H3 scope ce fp) [p] (wipe σ (own.map (·.2))) H' s' ∧ tn i s'.heap ∧ (∀ b ∈ fp, H' b = none) ∧ W i m H' := fun {s' H'} I' nx => by
        obtain ⟨m', hm, w'⟩ := hNx H' nx
        have pin' : ∀ b ∈ fp, ∀ o, s7.heap.get? b = some o → s'.heap.get? b = some o ∧ H' b = none := fun b hb o e =>
          let z := I'.pin (b, o) (List.mem_append_right _ (List.mem_append_right _ (mem_pinsAt hb e)))
          ⟨z.1, z.2.1⟩
        have hl : (wipe σ (own.map (·.2))).length = σ8.length := by rw [← hw8, wipe_length]
        refine ⟨m', hm, i + 1, H', (I'.unpinned (pins := [p])).weak hl (fun j v e => ?_), T.keep _ _ _ st7 fun b hb o e => (pin' b hb o e).1, fun b hb => ?_, w'⟩
        · rw [← hw8] at e
          exact (wipe_some e).1
        · obtain ⟨o, e, _⟩ := T.obj _ _ st7 b hb
          exact (pin' b hb o e).2
      cases b with
      | false =>
        simp only [Bool.false_eq_true, if_false] at q9 ⊢
        exact fin I9 q9
      | true =>
        simp only [if_true] at q9 ⊢
        refine thnF (pe.run _ s9 σ8 H9 _ I9 q9) fun z s10 ⟨yv, H10, I10, r10, acc, hD10, hz10, nx⟩ => ?_
        exact app_ok (X := X.blk s3 H3 scope ce fp) I10 hD10 hz10 r10 fun s11 I11 => fin I11 nx
  exact codeAny_compStart_list loop (T.self X.A 0 _ _ _ st4 loop)
theorem pe_lcH {elt tg iter : Expr} {ifs : List Expr} {scope : Scope} {own : List (Str × Nat)} {pos : Pos} {wi : TI} {g : TG} {tt : TT} {te : TE} (hc : HotC X) (hN : X.N.Nodup) (hi : PIH X tg iter wi) (ok : BlkOk X.N X.env.scope scope own)
    (hg : ∀ (s : Shared) (H : Hp) (C : Addr) (cl : List (Str × Addr)) (fp : List Addr), PG (X.blk s H scope (compEnvC scope cl C X.env) fp) tg g) (ht : ∀ (s : Shared) (H : Hp) (C : Addr) (cl : List (Str × Addr)) (fp : List Addr), PTs (X.blk s H scope (compEnvC scope cl C X.env) fp) ifs tt)
    (he : ∀ (s : Shared) (H : Hp) (C : Addr) (cl : List (Str × Addr)) (fp : List Addr), PE (X.blk s H scope (compEnvC scope cl C X.env) fp) elt te) (hs : ∀ x, foldedSetIterable iter X.env x = pure x := by intro _; rfl) :
    PE X (.ListComp elt [⟨tg, iter, ifs, 0⟩] scope pos) (tLc wi g tt te (own.map (·.2))) := by
  refine ⟨fun pins s σ H Q I h => ?_⟩
  rw [eval_ListComp]
  refine lcH_core hc hN I hi ok hg ht he hs h fun D C s' m H' I' q hn ⟨f0, f1, f2, f3, f4, f5⟩ => ⟨m, hn, fun h'' sb => ?_⟩
  exact ⟨.ref D, H', I'.turned (t' := s'.toks) (fun b o hb e => (sb.2 b hb).trans e) f0 f1 f3 f4 f5, rfl, q⟩
theorem ps_setLcH {i : Nat} {y : Str} {py : Pos} {elt tg iter : Expr} {ifs : List Expr} {scope : Scope} {own : List (Str × Nat)} {pos spos : Pos} {wi : TI} {g : TG} {tt : TT} {te : TE} (hc : HotC X) (hN : X.N.Nodup) (hy : X.N[i]? = some y) (hyl : X.env.scope.names.lookup y = some .local)
    (hsw : swapsWith (.ListComp elt [⟨tg, iter, ifs, 0⟩] scope pos) (some (.Name y py)) spos.line X.env = pure true) (hi : PIH X tg iter wi) (ok : BlkOk X.N X.env.scope scope own)
    (hg : ∀ (s : Shared) (H : Hp) (C : Addr) (cl : List (Str × Addr)) (fp : List Addr), PG (X.blk s H scope (compEnvC scope cl C X.env) fp) tg g) (ht : ∀ (s : Shared) (H : Hp) (C : Addr) (cl : List (Str × Addr)) (fp : List Addr), PTs (X.blk s H scope (compEnvC scope cl C X.env) fp) ifs tt)
    (he : ∀ (s : Shared) (H : Hp) (C : Addr) (cl : List (Str × Addr)) (fp : List Addr), PE (X.blk s H scope (compEnvC scope cl C X.env) fp) elt te) (hs : ∀ x, foldedSetIterable iter X.env x = pure x := by intro _; rfl) :
    PS X (.Assign [.Name y py] (.ListComp elt [⟨tg, iter, ifs, 0⟩] scope pos) spos) (tAsg (tLc wi g tt te (own.map (·.2))) (gName i)) := by
  refine ⟨fun pins s σ H D I h => ?_⟩
  rw [exec_Assign_Name_used _ _ _ _ hsw]
  refine wpAny_bind (wpAny_standAt (wpAny_bind ?_))
  show wpAny _ X.A (do let _ ← comprehension (.ListComp elt [⟨tg, iter, ifs, 0⟩] scope pos) scope X.env (firstIterPos [⟨tg, iter, ifs, 0⟩] pos) (newList []) false (eval iter X.env) (some (assign (.Name y py) X.env))) _ _ s
  have h : tLc wi g tt te (own.map (·.2)) σ H (fun x H1 => gName i x σ H1 D.nx) := h
  refine wpAny_bind (thn (lcH_core (Qf := fun _ s' => SP X pins D .next s') hc hN I hi ok hg ht he hs h fun L C s' m H' I' q hn ⟨f0, f1, f2, f3, f4, f5⟩ => ?_) fun _ s' hq => wpAny_pure (wpAny_pure hq))
  refine wpAny_assign_Name (store_ok2 (v := V.ref L) I' hN hy (.inl hyl) rfl (fun s2 I2 ⟨a, sb, ha⟩ => ?_) (.inr hyl))
  have haC : C ≠ a := by
    rcases ha with z | z
    · rw [z]; exact f1
    · exact fun e => f4 y a z e.symm
  exact ⟨m, hn.sameBut sb haC, fun h3 sb3 => ⟨_, H', I2.turned (t' := s2.toks) (fun b o hb e => (sb3.2 b hb).trans e) f0 f1 f3 f4 f5, q⟩⟩
end
section
variable {X : Cx} {mg : MG} {C : Ct} {W : WX} {rsh : Sh}
theorem PIH.to {tg iter : Expr} {t t' : TI} (h : PIH X tg iter t) (i : ∀ σ H R, t' σ H R → t σ H R) : PIH X tg iter t' := ⟨fun pins s σ H R I q => h.run pins s σ H R I (i σ H R q)⟩
theorem di_range1H {tg a : Expr} {p pos : Pos} {c : Env → R (List Lv)} (hm : X.mg "range" = none) (h : PA X [a] (tAs X.K X.mg C W c)) (hg : Gl X "range" := by rfl) (hs : starEach [a] X.env = [(false, eval a X.env)] := by rfl) : PIH X tg (.Call (.Name "range" p) [a] [] pos) (tI X.K X.mg C W (cItR1 c)) :=
  PIH.to (L2H.pi_range1H hg hm h hs) fun σ H Rr ⟨G, e, Sg, g, p⟩ => ⟨G, e, Sg, g, (Post.bind p).imp fun ls e1 G1 H1 S1 _ g1 x1 p1 vs hvs => by
    split at p1
    · rename_i j hj
      split at p1
      · rename_i hz
        have hv := hvs.views g1 hj
        cases hv with
        | cons a b =>
          cases b
          have h1 := inR_iff.mp hz
          have p1 := p1 G1 H1 S1 g1 (Ex.refl G1)
          rw [a.int_inv]
          have := p1 (Itr 0 j.toNat) itd_range
          exact ⟨j, rfl, h1.1, h1.2, this⟩
      · exact False.elim p1
    · exact False.elim p1⟩
section
variable {elt tg iter : Expr} {ifs : List Expr} {scope : Scope} {pos : Pos} {ws : List Nat} {ci : Env → R (List D)} {f : D → Env → Option Env} {t : Env → R Bool} {c : Env → R Lv}
theorem dn_lcH (own : List (Str × Nat)) (hc : HotC X) (hN : X.N.Nodup) (hi : PIH X tg iter (tI X.K X.mg C W ci)) (ok : BlkOk X.N X.env.scope scope own)
    (hv : ∀ i ∈ own.map (·.2), C.Tg[i]? = some .fz) (hk : ∀ i ∈ own.map (·.2), lkFree C.lk i = true) (hw : ∀ i ∈ ws, i ∈ own.map (·.2))
    (hg : ∀ (s : Shared) (H : Hp) (Cc : Addr) (cl : List (Str × Addr)) (fp : List Addr), PG (X.blk s H scope (compEnvC scope cl Cc X.env) fp) tg (bG X.K X.mg C.Tg C.np C.lk ws f)) (ht : ∀ (s : Shared) (H : Hp) (Cc : Addr) (cl : List (Str × Addr)) (fp : List Addr), PTs (X.blk s H scope (compEnvC scope cl Cc X.env) fp) ifs (bT X.K X.mg C.Tg C.np C.lk t))
    (he : ∀ (s : Shared) (H : Hp) (Cc : Addr) (cl : List (Str × Addr)) (fp : List Addr), PE (X.blk s H scope (compEnvC scope cl Cc X.env) fp) elt (bE X.K X.mg C.Tg C.np C.lk c)) (hs : ∀ x, foldedSetIterable iter X.env x = pure x := by intro _; rfl) :
    PE X (.ListComp elt [⟨tg, iter, ifs, 0⟩] scope pos) (tN X.K X.mg C W (cComp (own.map (·.2)) ci f t c)) :=
  PE.to (pe_lcH hc hN hi ok hg ht he hs) fun σ H Q q => lc_sound hv hk hw q
theorem ds_setLcH (i : Nat) {y : Str} {py : Pos} (own : List (Str × Nat)) {spos : Pos} (hc : HotC X) (hN : X.N.Nodup) (hyl : X.env.scope.names.lookup y = some .local)
    (hsw : swapsWith (.ListComp elt [⟨tg, iter, ifs, 0⟩] scope pos) (some (.Name y py)) spos.line X.env = pure true) (hi : PIH X tg iter (tI X.K X.mg C W ci)) (ok : BlkOk X.N X.env.scope scope own)
    (hv : ∀ i ∈ own.map (·.2), C.Tg[i]? = some .fz) (hk : ∀ i ∈ own.map (·.2), lkFree C.lk i = true) (hw : ∀ i ∈ ws, i ∈ own.map (·.2))
    (hg : ∀ (s : Shared) (H : Hp) (Cc : Addr) (cl : List (Str × Addr)) (fp : List Addr), PG (X.blk s H scope (compEnvC scope cl Cc X.env) fp) tg (bG X.K X.mg C.Tg C.np C.lk ws f)) (ht : ∀ (s : Shared) (H : Hp) (Cc : Addr) (cl : List (Str × Addr)) (fp : List Addr), PTs (X.blk s H scope (compEnvC scope cl Cc X.env) fp) ifs (bT X.K X.mg C.Tg C.np C.lk t))
    (he : ∀ (s : Shared) (H : Hp) (Cc : Addr) (cl : List (Str × Addr)) (fp : List Addr), PE (X.blk s H scope (compEnvC scope cl Cc X.env) fp) elt (bE X.K X.mg C.Tg C.np C.lk c)) (hT : C.Tg[i]? = some .fz := by rfl) (hy : X.N[i]? = some y := by rfl) (hs : ∀ x, foldedSetIterable iter X.env x = pure x := by intro _; rfl) (hlk : lkFree C.lk i = true := by rfl) :
    PS X (.Assign [.Name y py] (.ListComp elt [⟨tg, iter, ifs, 0⟩] scope pos) spos) (tS X.K X.mg C W rsh (cAsg (cFrz (cComp (own.map (·.2)) ci f t c)) (fSet i))) :=
  PS.to (ps_setLcH hc hN hy hyl hsw hi ok hg ht he hs) fun Dn σ H ⟨G, e, Sg, g, p⟩ => by
    refine lc_sound hv hk hw (Q := fun x H1 => gName i x σ H1 Dn.nx) ⟨G, e, Sg, g, (Post.bind (PostS.bind p)).imp fun n e1 G1 H1 S1 _ g1 x1 p1 => ?_⟩
    have gn : ∀ {a : Addr}, H1 a = none → G1 a = none := fun {a} ha => by
      cases q : G1 a with
      | none => rfl
      | some u => have := g1.gh a u q; rw [ha] at this; cases this
    have newf : ∀ {a : Addr} {o : HO} {d : D}, H1 a = none → Dp X.K (upd G1 a o) (.ref a) d → n.d = d → gName i (.ref a) σ (upd H1 a o) Dn.nx := fun {a o d} ha hd hn => by
      subst hn
      exact p1 (upd G1 a o) (upd H1 a o) S1 (g1.newf ha) (ex_upd (gn ha)) (upd G1 a o) (upd H1 a o) _ _ ((g1.newf ha).set hT hlk (.inr rfl) (.fz hd) .no) (Ex.refl _)
    cases n with
    | sc d => exact fun v hv => p1 G1 H1 S1 g1 (Ex.refl G1) G1 H1 _ _ (g1.set hT hlk (.inr rfl) (.fz hv) .no) (Ex.refl G1)
    | nl ds => exact fun a vs ha hd => newf ha (.lst (.inl (.inl upd_same)) (dps_ex (ex_upd (gn ha)) _ _ hd)) rfl
    | nt ds => exact fun a vs ha hd => newf ha (.tup (.inl (.inl upd_same)) (dps_ex (ex_upd (gn ha)) _ _ hd)) rfl
end
/-- the suite bears its exception -/
theorem hotS {a : Addr} {oe : Obj} {pn : List (Addr × Obj)} (hf : ∃ vs, oe.data = .fields vs) (hx : PXN.CtxN oe) : HotC (X.suite a ((a, oe) :: pn)) := by
  obtain ⟨vs, hv⟩ := hf
  exact ⟨(a, oe), ⟨rfl, vs, hv, hx vs hv⟩, List.mem_cons_self⟩
end
end DL

set_option maxHeartbeats 4000000
/-! A def that is handed the caught exception: it stands in a base of its own. -/
namespace DL
open PySem PySem.Spec PyProof.Rows L2
open Evl (Ex ex_l ex_t ex_rd)
open L2H (HotC Hot1 PIH PIEH TurnH FnH RoomH PinOk cxH fn_ofH)
theorem unitsH {k : Nat} {A : Around} (r : RoomH k A) : A.units + 64 < cLine := by have := r.un; omega
theorem hu65H {k : Nat} {A : Around} (r : RoomH k A) : A.units + 65 < cLine := by have := r.un; omega
/-- the exception a, of the class D, in the base -/
structure ExB (base : Heap) (a D : Addr) : Prop where
  ex : ∃ oe : Obj, base.get? a = some oe ∧ Zc (.ref D) none oe ∧ ∃ vs, oe.data = .fields vs
theorem call_isB {X : Cx} {a D : Addr} (C : ExcC X.K D) (hb : ExB X.base a D) : CallR X (.builtin "isinstance") (rIsE X.K D a) := by
  intro pins s σ H xs us Q I r h
  obtain ⟨c, cv, b, rfl, hcv, e, q⟩ := h
  obtain ⟨oe, hg, hz, vs, hv⟩ := hb.ex
  cases r with
  | cons rx rr =>
    cases rr with
    | cons rt rr =>
      cases rr
      cases rx
      have ec := hcv _ rt
      subst ec
      have hget := (I.bs a oe hg).1
      have J : PySem.W.InstAt s.heap a oe D none := by
        obtain ⟨oc, od, oda, osl⟩ := oe
        obtain ⟨h1, h2⟩ := hz
        dsimp only at h1 h2 hv
        subst h1 h2 hv
        exact ⟨hget, rfl, rfl, trivial⟩
      exact PySem.W.kia_one (PySem.W.handS_kitx_exc C.hg C.hk C.hs C.hd C.ha C.hn C.ht C.hm) I.kIn J e (fun z => nomatch z) fun tk => ⟨.bl b, H, I.kept (t' := tk) fun _ _ z => z, rfl, q⟩
section
variable {X : Cx} {K : Frag} {mg : MG} {C : Ct} {W : WX} {rsh : Sh}
/-- isinstance(n, C) of such a parameter -/
theorem dn_isB (i : Nat) {a D : Addr} {n x : Str} {p pn' px pos : Pos} {cv : V} {cw : Value} {f : Str → Option Bool} (hb : ExB X.base a D) (hc : PE X (.Name x px) (tC cv)) (hcv : ∀ u, RelV cv u → u = cw) (hT : IsT X.K X.mg cw f)
    (hm : X.mg "isinstance" = none) (ht : C.Tg[i]? = some (.exc a D) := by rfl) (hN : X.N[i]? = some n := by rfl) (hv : Vis X.env.scope n := by first | exact Or.inl rfl | exact Or.inr (Or.inl rfl) | exact Or.inr (Or.inr rfl)) (hd : (n == ("__debug__" : Str)) = false := by decide) (hcd : (n == ("__classdict__" : Str)) = false := by decide) (hg : Gl X "isinstance" := by rfl)
    (he : starEach [.Name n pn', .Name x px] X.env = (false, eval (.Name n pn') X.env) :: starEach [.Name x px] X.env := by rfl) (he2 : starEach [.Name x px] X.env = (false, eval (.Name x px) X.env) :: starEach [] X.env := by rfl) (hpl : (backTo pos (starEach [.Name x px] X.env)).any (·.1) = false := by rfl) :
    PE X (.Call (.Name "isinstance" p) [.Name n pn', .Name x px] [] pos) (tN X.K X.mg C W (cIsE i f)) := by
  refine ⟨fun pins s σ H Q I ⟨G, e, Sg, g, q⟩ => ?_⟩
  unfold cIsE at q
  split at q
  · rename_i cn he1
    obtain ⟨v, h1, h2⟩ := g.slot i _ _ ht (Good.getD (G := G) (H := H) (σ := σ) (Sg := Sg) he1)
    cases h2 with
    | exc hmc =>
      obtain ⟨nv, h5, h6⟩ := Post.ofO q
      cases qf : f cn with
      | none => rw [qf] at h5; cases h5
      | some b =>
        rw [qf] at h5
        cases h5
        obtain ⟨EC, hk⟩ := hT cn D b hmc qf
        exact (pe_callB (X := X) (call_isB EC hb) hg hm PyProof.Rows.boot_isinstance (pa_cons (pe_var (X := X) (i := i) (x := n) (pos := pn') hN hv hd hcd) (pa_cons hc pa_nil he2) he) (by decide) (by decide) he hpl).run pins s σ H Q I
          ⟨.ref a, h1, cv, cw, b, rfl, hcv, hk, h6 G H Sg g (Ex.refl G) _ (.bl _)⟩
  · exact False.elim q
variable {P : Program} {w : World} {base : Heap}
/-- what such a def promises -/
structure CalX (P : Program) (w : World) (K : Frag) (mg : MG) (k : Nat) (x : Str) (m : List D → FR) : Prop where
  ex : ∃ (f : Addr) (fd : FuncData) (ps : List Str), (∀ (base : Heap) (a D : Addr), ExB base a D → FnH P w K mg base (L2N.CX P w) k f fd ps (spF K mg [.exc a D] .fz m)) ∧ mg x = some (.ref f) ∧ PySem.W.keepIn K (.ref f) = true ∧ Binds K fd ps []
theorem calX {x : Str} {st : Stmt} {f : Addr} {fd : FuncData} {ps : List Str} {k : Nat} {m : List D → FR} (A : DefAt K mg x st [] f fd) (h : ∀ (base : Heap) (a Dc : Addr), ExB base a Dc → FnH P w K mg base (L2N.CX P w) k f fd ps (spF K mg [.exc a Dc] .fz m))
    (hb : ∀ (kV doc pm : Value) (an : Option Addr) (cdv ct : Value) (us : List Value), us.length = ps.length → bindArgs (PySem.W.fnOf x x (defArgs st) (defBody st) (defScope st) .none kV doc pm an cdv ct) ⟨us, []⟩ = pure (ps.zip us)) : CalX P w K mg k x m :=
  ⟨f, fd, ps, h, A.g, A.F.kp, A.F.bindsN hb⟩
theorem fnX {x qual : Str} {params : Arguments} {body : List Stmt} {scope : Scope} {dvs : List V} {kws : List (Str × V)} {f : Addr} {fd : FuncData} {N ps : List Str} {k : Nat} {locs : List Sh} {b : Env → R Fl} {a D : Addr}
    (F : FunD K x qual params body scope dvs kws f fd) (S : FnScope N ps scope) (hps : ps.length = 1) (hN : N.length = 1 + locs.length)
    (hb : ∀ (cdv : Value) (A : Around) (outer : List PySem.Env) (s : Shared) (G0 H0 : Hp) (vs : List V) (S0 : ASet) (E : XK) (p : Addr × Obj), RoomH k (A.deeper (envOfC qual scope s.heap.objs.size f cdv)) → HotC (cxH (L2N.CX P w) P w K mg base N qual scope f cdv A outer s H0 E p) → 
      PSs (cxH (L2N.CX P w) P w K mg base N qual scope f cdv A outer s H0 E p) body (tS K mg ⟨[.exc a D] ++ locs, 1, vs, G0, H0, S0, []⟩ (fun c d _ H => E c d H) .fz b)) :
    FnH P w K mg base (L2N.CX P w) (k + 1) f fd ps (spF K mg [.exc a D] .fz (runF true b 1 N.length)) := by
  obtain ⟨oc, od, dV, kV, doc, pm, an, cdv, ct, osl, rfl, lk, hcd, _, _⟩ := F.ex
  refine fn_ofH lk hcd S (fun vs H Q E ⟨_, _, _, h, _⟩ => by rw [h, hps]; rfl) fun A outer s H vs Q E p hot hr h => ?_
  obtain ⟨G, S0, q⟩ := fn_pre (locs := locs) (modes := [.exc a D]) (N := N) (rz := true) (by rw [List.length_append]; exact hN) (fun _ => rfl) h
  exact ⟨_, hb cdv A outer s G H vs S0 E p hr ⟨p, hot, List.mem_singleton_self p⟩, q⟩
end
/-- f(n), n the caught exception -/
def cCallX (i : Nat) (m : List D → FR) : Env → R D := fun e => match e.getD i none with
  | some (.str cn) => (match m [.str cn] with
    | .ok r _ => .ok r e
    | _ => .st)
  | _ => .st
section
variable {X : Cx} {C : Ct} {W : WX}
theorem dO_calX (i : Nat) {a D : Addr} {oe : Obj} {pn : List (Addr × Obj)} {n x : Str} {k : Nat} {m : List PyData → FR} {p pn' pos : Pos} (hz : Zc (.ref D) none oe) (hf : ∃ vs, oe.data = .fields vs) (hx : PXN.CtxN oe)
    (F : CalX X.prog X.w X.K X.mg k x m) (hr : RoomH k X.A) (ht : C.Tg[i]? = some (.exc a D) := by rfl) (hN : X.N[i]? = some n := by rfl) (hv : Vis X.env.scope n := by first | exact Or.inl rfl | exact Or.inr (Or.inl rfl) | exact Or.inr (Or.inr rfl)) (hd : (n == ("__debug__" : Str)) = false := by decide) (hcd : (n == ("__classdict__" : Str)) = false := by decide)
    (hg : Gl X x := by rfl) (hdb : (x == ("__debug__" : Str)) = false := by decide) (he : starEach [.Name n pn'] X.env = (false, eval (.Name n pn') X.env) :: starEach [] X.env := by rfl) :
    PE (X.suite a ((a, oe) :: pn)) (.Call (.Name x p) [.Name n pn'] [] pos) (tO X.K X.mg C W .fz (cCallX i m)) := by
  refine ⟨fun pins s σ H Q I ⟨G, e, Sg, g, q⟩ => ?_⟩
  unfold cCallX at q
  split at q
  · rename_i cn he1
    obtain ⟨v, h1, h2⟩ := g.slot i _ _ ht (Good.getD (G := G) (H := H) (σ := σ) (Sg := Sg) he1)
    cases h2 with
    | exc hmc =>
      obtain ⟨f, fd, ps, hF, hm, hk, hb⟩ := F.ex
      cases qm : m [.str cn] with
      | ex xx outs => rw [qm] at q; exact False.elim q
      | st => rw [qm] at q; exact False.elim q
      | ok r outs =>
        rw [qm] at q
        dsimp only at q
        refine wpAny_Call_Name_kw (ld_glob I hg hm ?_ hdb)
        refine PySem.W.callWith_K (h₀ := X.base) I.ok.mod.kin hk (thn ((pa_cons (pe_var (X := X.suite a ((a, oe) :: pn)) (i := i) (x := n) (pos := pn') hN hv hd hcd) pa_nil he).run pos pins s σ H (fun vs H1 => vs = [V.ref a] ∧ H = H1) I ⟨.ref a, h1, rfl, rfl⟩) fun us s1 ⟨vs, H1, I1, r1, ev, eH⟩ => ⟨I1.kIn, ?_⟩) he rfl
        subst ev eH
        have hp : ((a, oe) : Addr × Obj) ∈ (X.suite a ((a, oe) :: pn)).pn := List.mem_cons_self
        have P1 := I1.pin (a, oe) (List.mem_append_left _ hp)
        have pst : a ∉ frs X.stack := fun hmm => (List.mem_cons.mp (I1.stkSub a hmm)).elim P1.2.2.1 P1.2.2.2.1
        -- a base with the exception in it
        obtain ⟨l, hl⟩ : ∃ l : List Addr, l = (List.range s1.heap.objs.size).filter fun b => !((X.base.get? b).isSome || decide (b = a)) := ⟨_, rfl⟩
        have inl : ∀ b, b ∈ l → X.base.get? b = none ∧ b ≠ a := fun b hbl => by
          rw [hl] at hbl
          have z := (List.mem_filter.mp hbl).2
          rw [Bool.not_eq_true', Bool.or_eq_false_iff, decide_eq_false_iff_not] at z
          exact ⟨Option.isNone_iff_eq_none.mp (by rw [← Option.not_isSome]; rw [z.1]; rfl), z.2⟩
        have kb : ∀ b o, X.base.get? b = some o → (PySem.W.hideAll s1.heap l).get? b = some o := fun b o e0 => PySem.W.hideAll_get l (I1.bs b o e0).1 fun z => by
          rw [(inl b z).1] at e0
          cases e0
        have ka : (PySem.W.hideAll s1.heap l).get? a = some oe := PySem.W.hideAll_get l P1.1 fun z => (inl a z).2 rfl
        have ob : ∀ b o, (PySem.W.hideAll s1.heap l).get? b = some o → s1.heap.get? b = some o ∧ ((X.base.get? b).isSome = true ∨ b = a) := fun b o e0 => by
          have h3 := PySem.W.of_hideAll _ e0
          refine ⟨h3, ?_⟩
          cases q3 : ((X.base.get? b).isSome || decide (b = a)) with
          | true => simpa [Bool.or_eq_true] using q3
          | false =>
            have : b ∈ l := by
              rw [hl]
              exact List.mem_filter.mpr ⟨List.mem_range.mpr (Heap.lt_size h3), by rw [q3]; rfl⟩
            rw [PySem.W.hideAll_none l this] at e0
            cases e0
        have E1 := I1.env0
        have E0 : Env0 X.prog X.w X.K X.mg (PySem.W.hideAll s1.heap l) (X.suite a ((a, oe) :: pn)).A X.stack s1 H := by
          refine ⟨E1.frames, ⟨E1.mod.kin.keeps kb, E1.mod.glob.keeps kb, ?_, E1.mod.nolimit.keeps kb⟩, fun b o e0 => ?_, by rw [PySem.W.hideAll_size]; exact Nat.le_refl _, ?_, E1.frf, E1.hok, E1.bare⟩
          · obtain ⟨mb, hmb, h4⟩ := E1.mod.blt
            exact ⟨mb, hmb.keeps kb, h4⟩
          · obtain ⟨h3, h4⟩ := ob b o e0
            refine ⟨h3, ?_⟩
            rcases h4 with h4 | h4
            · obtain ⟨o', h5⟩ := Option.isSome_iff_exists.mp h4
              exact (I1.bs b o' h5).2
            · rw [h4]; exact P1.2.1
          · refine funFrames_none E1.funs fun b hbf => ?_
            cases q3 : (PySem.W.hideAll s1.heap l).get? b with
            | none => rfl
            | some o =>
              obtain ⟨h3, h4⟩ := ob b o q3
              exfalso
              rcases h4 with h4 | h4
              · have := (E1.funs.mem hbf).1
                rw [this] at h4
                cases h4
              · rw [h4] at hbf; exact pst hbf
        have FX := hF (PySem.W.hideAll s1.heap l) a D ⟨oe, ka, hz, hf⟩
        obtain ⟨vs0, hv0⟩ := hf
        have hot : Hot1 (X.suite a ((a, oe) :: pn)).A (a, oe) := ⟨rfl, vs0, hv0, hx vs0 hv0⟩
        have hpin : PinOk X.stack H s1 (a, oe) := ⟨P1.1, P1.2.1, pst, P1.2.2.2.2⟩
        have hsp : spF X.K X.mg [.exc a D] .fz m [V.ref a] H Q (fun _ _ _ => False) := by
          refine ⟨G, [.str cn], fun _ _ => False, rfl, rfl, fun j sh v d j1 j2 j3 => ?_, fun _ _ _ z => z.elim, fun _ _ z => z.elim, fun _ _ z => z.elim, g.gh, ?_⟩
          · cases j with
            | zero =>
              cases j1
              cases j2
              cases j3
              exact .exc hmc
            | succ j => simp at j1
          · rw [qm]
            intro G' H' Sb v S bk ho hS hSb
            have no : ∀ b : Addr, ¬ ∃ _ : Nat, False := fun _ ⟨_, z⟩ => z
            have kp : ∀ b, H b ≠ none → H' b = H b := fun b hbn => by
              cases q3 : H b with
              | none => exact absurd q3 hbn
              | some o => exact bk.fr b o q3 (no b)
            have g2 : Good X.K X.mg C G' H' σ e Sg := by
              refine ⟨g.ls, g.le, fun j sh d j1 j2 => ?_, g.dis, fun j b jb => ?_, bk.gh, g.g0.trans bk.gg, fun b o b1 b2 => bk.fr b o (g.fr b o b1 b2) (no b), fun b hb1 => bk.al b (g.al b hb1), fun b hb1 => ?_, g.pin, g.par, g.lock⟩
              · obtain ⟨w, w1, w2⟩ := g.slot j sh d j1 j2
                exact ⟨w, w1, w2.mono bk.gg fun b hb1 => kp b (g.gs j b hb1).2.1⟩
              · obtain ⟨z1, z2, z3⟩ := g.gs j b jb
                refine ⟨?_, bk.al b z2, z3⟩
                cases q3 : G' b with
                | none => rfl
                | some o =>
                  rcases bk.gn b (by rw [q3]; simp) with z | z | z
                  · exact absurd z1 z
                  · exact absurd z z2
                  · exact absurd z (no b)
              · rcases bk.gn b hb1 with z | z | z
                · exact g.gn b z
                · refine .inr (.inl ?_)
                  cases q3 : C.H0 b with
                  | none => rfl
                  | some o => exact absurd z (g.al b (by rw [q3]; simp))
                · exact absurd z (no b)
            exact q G' H' Sg g2 bk.gg v (fun _ => False) (.fz (own_fz_inv ho)) Lone.no
        have hl : us.length = ps.length := by rw [← r1.length]; exact FX.len _ _ _ _ hsp
        have hbd := hb s1 us I1.kIn (by rw [List.append_nil]; exact hl)
        rw [List.append_nil] at hbd
        refine wpAny_call (codeAny_mono (FX.run (X.suite a ((a, oe) :: pn)).A X.stack s1 H ⟨us, []⟩ us [V.ref a] Q (fun _ _ _ => False) (a, oe) ⟨hr.dp, hr.un⟩ hot hpin E0 hbd r1 hsp) fun r' s' hq => ?_)
        cases r' with
        | error e' =>
          obtain ⟨_, _, _, _, _, _, _, _, _, _, _, _, hE⟩ := hq
          exact hE.elim
        | ok fl =>
          cases fl with
          | ret u => exact I1.after hq
          | next => exact False.elim hq
          | brk => exact False.elim hq
          | cont => exact False.elim hq
  · exact False.elim q
end
end DL

/-! not of any value that has a truth. -/
namespace DL
open PySem PySem.Spec PyProof.Rows L2
open Evl (Ex ex_l ex_t ex_rd)
def cNotU (a : Env → R Lv) : Env → R Lv := fun e => (a e).bind fun l e1 => (ofO ((l.get e1).bind dTru) e1).bind fun k e2 => .ok (.val (.bool (!k))) e2
section
variable {X : Cx} {mg : MG} {C : Ct} {W : WX}
theorem de_notU {a : Expr} {pos : Pos} {c : Env → R Lv} (ha : PE X a (tE X.K mg C W c)) : PE X (.UnaryOp .Not a pos) (tE X.K mg C W (cNotU c)) :=
  PE.to (pe_notT ha) fun σ H Q ⟨G, e, Sg, g, p⟩ => ⟨G, e, Sg, g, (Post.bind p).imp fun l e1 G1 H1 S1 _ g1 x1 p1 x hx => by
    obtain ⟨k, h1, h2⟩ := Post.ofO (Post.bind p1)
    cases hl : l.get e1 with
    | none => rw [hl] at h1; cases h1
    | some d =>
      rw [hl] at h1
      exact ⟨k, dTru_ok g1.gh (hx.view g1 hl) h1, h2 G1 H1 S1 g1 (Ex.refl G1) G1 H1 S1 g1 (Ex.refl G1) _ (.bl _)⟩⟩
end
end DL

/-! sorted(xs, reverse=True) of ints. -/
namespace DL
open PySem PySem.Spec PyProof.Rows L2
open Evl (Ex ex_l ex_t ex_rd)
/-- ints from the greatest down -/
def sortR (ns : List Int) : List Int := ns.mergeSort fun a b => decide (b ≤ a)
def dSortR : List D → Option NV
  | [.list ds] => (asI ds).map fun ns => .nl ((sortR ns).map PyData.int)
  | _ => none
theorem sortR_perm (ns : List Int) : (sortR ns).Perm ns := List.mergeSort_perm _ _
theorem sortR_pw (ns : List Int) : (sortR ns).Pairwise (· ≥ ·) := by
  have h := List.pairwise_mergeSort (le := fun a b : Int => decide (b ≤ a)) (fun a b c h1 h2 => by
    have h1 := of_decide_eq_true h1
    have h2 := of_decide_eq_true h2
    exact decide_eq_true (by omega)) (fun a b => by
    by_cases h : b ≤ a
    · simp [h]
    · have : a ≤ b := by omega
      simp [this]) ns
  exact h.imp fun h => of_decide_eq_true h
theorem sortR_uniq {ns ms : List Int} (h : ms.Perm ns) (hp : ms.Pairwise (· ≥ ·)) : ms = sortR ns :=
  (h.trans (sortR_perm ns).symm).eq_of_pairwise (fun a b _ _ h1 h2 => by omega) hp (sortR_pw ns)
theorem dps_ofI {K : Frag} {G : Hp} : ∀ ns : List Int, DpAll K G (ns.map V.int) (ns.map PyData.int)
  | [] => .nil
  | n :: r => .cons (.int n) (dps_ofI r)
section
variable {X : Cx} {mg : MG} {C : Ct} {W : WX}
theorem dn_sortR {x : Str} {p pos kp kpos : Pos} {j} {a : Expr} {c : Env → R (List Lv)} (hg : Gl X x) (hm : X.mg x = none) (hv : bootBuiltins x = some (.builtin "sorted")) (ha : PA X [a] (tAs X.K mg C W c)) (hn : x ≠ "__name__" := by decide) (hdb : (x == ("__debug__" : Str)) = false := by decide)
    (he : backTo pos (starEach [a] X.env) = (false, eval a X.env) :: backTo pos (starEach [] X.env) := by rfl) (hpl : (backTo pos (starEach [a] X.env)).any (·.1) = false := by rfl) :
    PE X (.Call (.Name x p) [a] [⟨some (Str.ofString "reverse"), .Constant (.bool true) j kp, kpos⟩] pos) (tN X.K mg C W (cB dSortR c)) := by
  refine PE.to (pe_callBK (cr_sortedRev (b := true)) hg hm hv ha (pk_cons pe_bl pk_nil) hn hdb he hpl) fun σ H Q ⟨G, e, Sg, g, p⟩ => ⟨G, e, Sg, g, (Post.bind p).imp fun ls e1 G1 H1 S1 _ g1 x1 p1 vs hvs => ?_⟩
  obtain ⟨nv, h1, h2⟩ := Post.ofO p1
  cases q : gets ls e1 with
  | none => rw [q] at h1; cases h1
  | some ds =>
    rw [q] at h1
    have hq := h2 G1 H1 S1 g1 (Ex.refl G1)
    have hw := hvs.views g1 q
    change dSortR ds = some nv at h1
    unfold dSortR at h1
    split at h1
    · rename_i es
      cases qi : asI es with
      | none => rw [qi] at h1; cases h1
      | some ns =>
        rw [qi] at h1
        cases h1
        obtain ⟨y, rfl, hx⟩ := hw.one
        obtain ⟨b, us, rfl, k1, k2⟩ := hx.lst_inv g1.gh
        have := asI_vs k2 qi
        subst this
        refine ⟨b, ns, rfl, rfl, k1, fun ns' p hp ho hf => ?_⟩
        have := sortR_uniq hp ho
        subst this
        exact hq p _ hf (dps_ofI _)
    · cases h1
/-! list.index of an int among ints -/
def gIndexL : D → List D → Option NV
  | .list ds, [.int i] => (asI ds).bind fun ns => (ns.findIdx? fun n => n == i).map fun j => .sc (.int ((j : Nat) : Int))
  | _, _ => none
theorem me_lindex : MetN X X.K "list.index" "list" gIndexL := ⟨⟨_, mt_index, fun G H x xs dx ds nv Q xg hx hxs hg hq => by
  unfold gIndexL at hg
  split at hg
  · rename_i es i
    obtain ⟨y, rfl, hy⟩ := hxs.one
    rw [hy.int_inv]
    cases qi : asI es with
    | none => rw [qi] at hg; cases hg
    | some ns =>
      rw [qi] at hg
      change (ns.findIdx? fun n => n == i).map _ = some nv at hg
      cases qj : ns.findIdx? fun n => n == i with
      | none => rw [qj] at hg; cases hg
      | some j =>
        rw [qj] at hg
        cases hg
        obtain ⟨l, vs, rfl, h1, h2⟩ := hx.lst_inv xg
        have := asI_vs h2 qi
        subst this
        obtain ⟨hj, h3, h4⟩ := List.findIdx?_eq_some_iff_getElem.mp qj
        refine ⟨l, _, .int i, j, .int ns[j], rfl, rfl, h1, rfl, ?_, ?_, h3, fun m z' hm hz => ?_, hq _ (.int _)⟩
        · rw [List.all_map, List.all_eq_true]
          exact fun _ _ => rfl
        · rw [List.getElem?_map, List.getElem?_eq_getElem hj]
          rfl
        · have hm' : m < ns.length := Nat.lt_trans hm hj
          rw [List.getElem?_map, List.getElem?_eq_getElem hm'] at hz
          cases hz
          have := h4 m hm
          show (ns[m] == i) = false
          simpa using this
  · cases hg⟩⟩
end
end DL

/-! try .. except X: without a name. -/
namespace DL
open PySem PySem.Spec PyProof.Rows L2
open Evl (Ex ex_l ex_t ex_rd)
section
variable {X : Cx} {K : Frag} {mg : MG} {C : Ct} {W : WX} {rsh : Sh}
theorem ds_try {x : Str} {c : Value} {body suite : List Stmt} {b₀ : Stmt} {np pos pos' : Pos} {hit : Str → Option Bool} {cb cs : Env → R Fl}
    (hs : X.stack = X.env :: X.outer) (hf : X.env.frame = some X.env.locals) (hc : Names X x c) (tk : L2N.Takes X W) (ht : HitT X.K X.mg c hit)
    (hb : ∀ (W : WX) (pn : List (Addr × Obj)) (xe : Value → Shared → Prop), L2N.Takes (X.tr pn xe) W → PassesOwn (model X.prog X.w) X.A X.env xe → PSs (X.tr pn xe) body (tS X.K X.mg C W rsh cb))
    (hsu : ∀ (a : Addr) (oe : Obj) (pn : List (Addr × Obj)), (∃ vs, oe.data = .fields vs) → PXN.CtxN oe → PSs (X.suite a ((a, oe) :: pn)) (b₀ :: suite) (tS X.K X.mg C W0x rsh cs)) :
    PS X (.Try body [.ExceptHandler (some (.Name x np)) none (b₀ :: suite) pos'] [] [] pos) (tS X.K X.mg C W rsh (cTry hit cb cs)) := by
  refine PS.to (L2N.ps_try_many (l := [(c, fun _ _ _ => tS X.K X.mg C W0x rsh cs)]) (tb := fun W => tS X.K X.mg C W rsh cb) (Wout := W) hs hf tk hb (.cons hc (fun a oe cls d pn hz hfl => hsu a oe pn hfl hz.2.2) .nil)) fun Dn σ H ⟨G, e, Sg, g, p⟩ => ⟨G, e, Sg, g, ?_⟩
  unfold cTry at p
  cases q : cb e with
  | ok fl e1 =>
    rw [q] at p
    cases fl with
    | nx => exact p
    | bk => exact p
    | ct => exact p
    | rt d => exact p
  | st => rw [q] at p; exact p
  | ex xx e1 =>
    rw [q] at p
    dsimp only at p
    intro G1 H1 σ1 S1 g1 x1 Cc hCc
    cases qh : hit xx.cls with
    | none => rw [qh] at p; exact False.elim p
    | some b =>
      have hx := ht xx.cls Cc b hCc qh
      cases b with
      | false =>
        rw [qh] at p
        dsimp only at p
        have w := p G1 H1 σ1 S1 g1 x1 Cc hCc
        cases qf : xx.fld with
        | none =>
          rw [qf] at w
          exact ⟨false, hx, (fun z => Bool.noConfusion z), fun _ => w⟩
        | some fv =>
          rw [qf] at w
          exact fun p1 hp1 => ⟨false, hx, (fun z => Bool.noConfusion z), fun _ => w p1 hp1⟩
      | true =>
        rw [qh] at p
        dsimp only at p
        have key : tS X.K X.mg C W0x rsh cs Dn σ1 H1 := by
          refine ⟨G1, e1, S1, g1, ?_⟩
          cases qs : cs e1 with
          | ex yy e2 => rw [qs] at p; exact False.elim p
          | st => rw [qs] at p; exact False.elim p
          | ok fl e2 =>
            rw [qs] at p
            exact PostS.mono x1 p
        cases qf : xx.fld with
        | none => exact ⟨true, hx, fun _ a ha => key, fun z => by cases z⟩
        | some fv => exact fun p1 hp1 => ⟨true, hx, fun _ a ha => key, fun z => by cases z⟩
end
end DL

set_option maxHeartbeats 4000000
/-! List comprehensions out of which the element's exceptions come. -/
namespace DL
open PySem PySem.Spec PyProof.Rows L2
open Evl (Ex ex_l ex_t ex_rd)
section
variable {M : Model} {A : Around} {E : Value → Shared → Prop} {s : Shared} {env : PySem.Env}
def compPostX (M : Model) (A : Around) (E : Value → Shared → Prop) (use : Option (Value → Sem Unit)) (Q : Value → Shared → Prop) (acc : Value) (C : Addr) (fr : Option Addr) (r : Result) (s' : Shared) : Prop :=
  match r, use with
  | .ok _, none => ∃ m, s'.heap.Ns C m ∧ ∀ h', Heap.SameBut C s'.heap h' → Q acc { s' with heap := h' }
  | .ok _, some u => wpAny M A (u acc) (fun _ s'' => ∃ m, s''.heap.Ns C m ∧ ∀ h', Heap.SameBut C s''.heap h' → Q .none { s'' with heap := h' }) E s'
  | .error x, _ => ∃ m, s'.heap.Ns C m ∧ ∀ h', Heap.SameBut C s'.heap h' → ∀ cenv : PySem.Env, cenv.frame = fr → wpAny M A (passOn "comprehension.variables-let-go" x cenv : Sem Value) (fun _ _ => False) E { s' with heap := h' }
theorem wpAny_comprehension_freeX {e : Expr} {scope : Scope} {pos : Pos} {newAcc first : Sem Value} {g : Comprehension} {gs : List Comprehension} {cl : List (Str × Addr)} {use : Option (Value → Sem Unit)}
    {Q : Value → Shared → Prop}
    (hcl : clausesOf e = g :: gs) (hs : ∀ x, foldedSetIterable g.iter env x = pure x) (hclos : closureFor scope env = pure cl)
    (hkind : scope.kind = .function) (hnames : ∀ x ∈ scope.names, x.2 = .local → scope.names.lookup x.1 = some .local)
    (h : wpAny M A first (fun x s₁ => wpAny M A (pyIter x) (fun it s₂ => wpAny M A newAcc (fun acc s₃ =>
      wpAny M A (newFunctionEnv scope env.globals cl [] env.qual none .none (some env)) (fun cenv s₄ =>
        codeAny M A (.compStart e 0 it acc { cenv with scope := relabel scope env }) (compPostX M A E use Q acc cenv.locals cenv.frame) s₄) E s₃) E s₂) E s₁) E s) :
    wpAny M A (comprehension e scope env pos newAcc false first use) Q E s := by
  unfold comprehension
  rw [hclos, hcl]
  refine wpAny_bind (wpAny_mono h (fun x s₁ h₁ => wpAny_bind (wpAny_standAt (wpAny_bind (wpAny_of_eq (hs x) (wpAny_bind (wpAny_holding (wpAny_mono h₁ (fun it s₂ h₂ =>
    wpAny_standIf (wpAny_bind (wpAny_mono h₂ (fun acc s₃ h₃ => wpAny_bind (wpAny_pure (wpAny_bind (wpAny_mono h₃ (fun cenv s₄ h₄ => ?_) fun _ _ h' => h')))) fun _ _ h' => h')))
      fun _ _ h' => h'))))))) fun _ _ h' => h')
  dsimp only
  have hv : ∀ x ∈ (scope.names.filter fun x => (x.2 == .local || x.2 == .cell) && x.1 != (".0" : Str)).reverse, x.2 = .local →
      Env.kindOf { cenv with scope := relabel scope env } x.1 = some .local := fun x hx hl => lookup_relabel_local (hnames x (List.mem_filter.mp (List.mem_reverse.mp hx)).1 hl)
  have hv' : ∀ x ∈ (scope.names.filter fun x => (x.2 == .local || x.2 == .cell) && x.1 != (".0" : Str)).reverse.drop 1 ++ (scope.names.filter fun x => (x.2 == .local || x.2 == .cell) && x.1 != (".0" : Str)).reverse.take 1,
      x.2 = .local → Env.kindOf { cenv with scope := relabel scope env } x.1 = some .local := fun x hx hl => by
    rcases List.mem_append.mp hx with h1 | h1
    · exact hv x (List.mem_of_mem_drop h1) hl
    · exact hv x (List.mem_of_mem_take h1) hl
  refine wpAny_holding (wpAny_bind (wpAny_attempt (wpAny_holding (wpAny_run (codeAny_mono h₄ fun r s' hr => ?_)))))
  cases r with
  | ok f =>
    cases use with
    | none =>
      obtain ⟨m, hn, hr⟩ := hr
      exact wpAny_bind (wpAny_holding (wpAny_comp_letGo (cenv := { cenv with scope := relabel scope env }) hkind _ s' m hv hn fun h' m' _ hs' => wpAny_pure (hr h' hs')))
    | some u =>
      refine wpAny_bind (wpAny_rule (wpAny_bind (wpAny_holding (wpAny_mono hr (fun _ s'' hr' => ?_) fun _ _ h' => h'))))
      obtain ⟨m, hn, hr'⟩ := hr'
      exact wpAny_bind (wpAny_comp_letGo (cenv := { cenv with scope := relabel scope env }) hkind _ s'' m hv' hn fun h' m' _ hs' => wpAny_pure (hr' h' hs'))
  | error x =>
    have hr' : ∃ m, s'.heap.Ns cenv.locals m ∧ ∀ h', Heap.SameBut cenv.locals s'.heap h' → ∀ cenv' : PySem.Env, cenv'.frame = cenv.frame → wpAny M A (passOn "comprehension.variables-let-go" x cenv' : Sem Value) (fun _ _ => False) E { s' with heap := h' } := by cases use <;> exact hr
    obtain ⟨m, hn, hr⟩ := hr'
    exact wpAny_bind (wpAny_holding (wpAny_comp_letGo (cenv := { cenv with scope := relabel scope env }) hkind _ s' m hv hn fun h' m' _ hs' => wpAny_mono (hr h' hs' _ rfl) (fun _ _ f => f.elim) fun _ _ y => y))
end
/-- noting an exception asks of the frame alone -/
theorem noteFrame_fr {e : Value} {env env' : PySem.Env} (h : env.frame = env'.frame) : noteFrame e env = noteFrame e env' := by
  have hf : PySem.frameOf env = PySem.frameOf env' := by
    unfold PySem.frameOf
    rw [h]
  unfold noteFrame
  rw [h, hf]
section
variable {M : Model} {A : Around} {E : Value → Shared → Prop} {s : Shared} {Z : Obj → Prop} {base : Heap} {env : PySem.Env} {outer l : List PySem.Env} {L e : Addr}
/-- noted by another frame before -/
theorem looks_otherZ {fl : Value} {Q : Unit → Shared → Prop} (hZ : PXN.Steady1 Z) (hfr : A.frames = some (env :: outer)) (hf : env.frame = some L) (hne : (fl == rawInt L) = false)
    (hkb : base.StaysIn s.heap) (hen : base.get? e = none) (hl : s.heap.FunFrames base (env :: outer)) (ht : HandSPX.TracedZ s.heap base e Z fl)
    (hQ : ∀ h', HandSPX.HeldZ base (env :: outer) e Z L h' → s.heap.UpToSlots h' → Q () { s with heap := h' }) : wpAny M A (noteFrame (.ref e) env) Q E s := by
  obtain ⟨oe, vs, T, oT, ts, he, hz, hd, h1, hnT, hTe, hT, hdT, h3⟩ := ht
  unfold noteFrame
  simp only [hf]
  refine wpAny_bind (wpAny_field he hd h1 ?_)
  rw [if_pos (show (Value.ref T != Value.none) = true from by simp)]
  refine wpAny_bind (wpAny_field hT hdT h3 ?_)
  rw [if_neg (show ¬ ((fl == rawInt L) = true) from by rw [hne]; decide)]
  refine wpAny_bind (wpAny_setField hT hdT (Array.getElem?_eq_some_iff.mp h3).1 ?_)
  have other : ∀ b, b ≠ T → (s.heap.update T (Obj.mapFields (·.setIfInBounds 3 Value.none))).get? b = s.heap.get? b := fun b hb => Heap.get?_update_other _ _ (Ne.symm hb)
  have noRecord : ∀ b o, s.heap.get? b = some o → (∀ vs, o.data ≠ .fields vs) → b ≠ T := fun b o hb hnf q => by
    rw [q, hT] at hb; injection hb with hb; subst hb; exact hnf ts hdT
  refine PXN.wpAny_entryZ hZ hfr (hl.of_keeps fun b o hb hnf => ⟨o, (other b (noRecord b o hb hnf)).trans hb, rfl⟩) hf ((other e (Ne.symm hTe)).trans he)
    (fun b o hbo => (other b fun q => by rw [q, hnT] at hbo; cases hbo).trans (hkb b o hbo)) hen hd (Array.getElem?_eq_some_iff.mp h1).1 hz fun h' hN => ?_
  obtain ⟨x1, x2, x3, x4⟩ := hN
  exact hQ h' ⟨x1, hen, x2, x3⟩ fun b o hb hnf => x4 b o ((other b (noRecord b o hb hnf)).trans hb) hnf
end
section
variable {X : Cx}
/-- an exception of the block, let out into the def's air -/
theorem block_takes {pins : List (Addr × Obj)} {σ : L2.St} {H Hs : Hp} {s3 : Shared} {scope : Scope} {ce : PySem.Env} {fp : List Addr} {W : WX} {use : Option (Value → Sem Unit)} {Qf : Value → Shared → Prop} {D : Addr}
    (hst : X.stack = X.env :: X.outer) (hfm : X.env.frame = some X.env.locals) (tk : L2N.Takes X W) (I3 : Inv X pins σ H s3) (hHs : Hs = H) (hcf : ce.frame = X.env.frame) (hcl : ce.locals = s3.heap.objs.size)
    (hfp : ∀ b ∈ fp, FpOk X pins H b) {xe : Value → Shared → Prop}
    (hxe : ∀ u s', wpAny (model X.prog X.w) X.A (noteFrame u ce) (fun _ s'' => compPostX (model X.prog X.w) X.A X.xe use Qf (.ref D) s3.heap.objs.size X.env.frame (.error u) s'') (fun e s'' => compPostX (model X.prog X.w) X.A X.xe use Qf (.ref D) s3.heap.objs.size X.env.frame (.error e) s'') s' → xe u s') :
    L2N.Takes ((X.blk s3 H scope ce fp).wish xe) (fun cls d _ H' => W cls d σ H') := by
  rintro u s' ⟨a, B, sI, pins', σ', H', cls, d, rfl, I', nb, up, sky, na, os, ag, w⟩
  have Ib : Inv (X.blk s3 H scope ce fp) pins' σ' H' sI := Inv.unwish (X := X.blk s3 H scope ce fp) (E := xe) I'
  have hfr : X.A.frames = some (X.env :: X.outer) := by rw [I3.ok.frames, hst]
  generalize hC : s3.heap.objs.size = C at *
  -- the state without the exception, in the def's context
  have I7 : Inv X pins σ H' sI := I3.call' (ch := fp) Ib.os Ib.base Ib.hok Ib.bare fun b hb => ⟨(hfp b hb).2.2.2.1, (hfp b hb).2.1, (hfp b hb).2.2.2.2.1, (hfp b hb).2.2.2.2.2⟩
  have nC : H' C = none := by
    have z : H' ce.locals = none := Ib.free
    rw [hcl] at z
    exact z
  obtain ⟨m, hn, _⟩ := Ib.loc
  have hn : sI.heap.Ns ce.locals m := hn
  rw [hcl] at hn
  obtain ⟨f0, f1, f2, f3, f4, f5⟩ := I3.fpOk (H' := H') (b := C) (by rw [hC]; exact Nat.le_refl _) nC
  have cst : C ∉ frs X.stack := fun hm => (List.mem_cons.mp (I3.stkSub C hm)).elim f1 f2
  refine hxe _ _ ?_
  rw [noteFrame_fr hcf]
  have sky : L2.Sky B (X.env :: X.outer) a (L2N.Zn cls d) ce.locals s'.heap := by rw [← hst]; exact sky
  rw [hcl] at sky
  -- behind the note
  have fin : ∀ h1, HandSPX.HeldZ B (X.env :: X.outer) a (L2N.Zn cls d) X.env.locals h1 → s'.heap.UpToSlots h1 → compPostX (model X.prog X.w) X.A X.xe use Qf (.ref D) C X.env.frame (.error (.ref a)) { s' with heap := h1 } := by
    intro h1 hh up1
    have up2 := up.trans up1
    have hnC : ∃ oC, h1.get? C = some oC ∧ ∀ vs, oC.data ≠ .fields vs := by
      obtain ⟨o, es, ep, ho, hd, _⟩ := hn
      obtain ⟨sl, e1⟩ := up2 C o ho fun vs z => by rw [hd] at z; cases z
      exact ⟨_, e1, fun vs z => by
        have z : o.data = .fields vs := z
        rw [hd] at z; cases z⟩
    obtain ⟨oC, eC, hoC⟩ := hnC
    have post : ∃ m, h1.Ns C m ∧ ∀ h', Heap.SameBut C h1 h' → ∀ cenv : PySem.Env, cenv.frame = X.env.frame → wpAny (model X.prog X.w) X.A (passOn "comprehension.variables-let-go" (.ref a) cenv : Sem Value) (fun _ _ => False) X.xe { s' with heap := h' } := by
      refine ⟨m, ?_, fun h' sb cenv hcv => ?_⟩
      · obtain ⟨o, es, ep, ho, hd, r⟩ := hn
        obtain ⟨sl, e1⟩ := up2 C o ho fun vs z => by rw [hd] at z; cases z
        exact ⟨_, es, ep, e1, hd, r⟩
      · -- the ground without the block's names
        obtain ⟨k1, k2, k3, oe, vs, T, oT, ts, he, hz, hd, hv1, hnT, hTe, hT, hdT, hv3⟩ := hh
        have aC : a ≠ C := fun z => by
          rw [z, eC] at he
          cases he
          exact hoC _ hd
        have TC : T ≠ C := fun z => by
          rw [z, eC] at hT
          cases hT
          exact hoC _ hdT
        have he' : h'.get? a = some oe := (sb.2 a aC).trans he
        have hT' : h'.get? T = some oT := (sb.2 T TC).trans hT
        have ofB : ∀ b o, (PySem.W.hideAll B [C]).get? b = some o → B.get? b = some o ∧ b ≠ C := fun b o e => ⟨PySem.W.of_hideAll _ e, fun z => by
          rw [z, PySem.W.hideAll_none _ (by simp)] at e; cases e⟩
        have st' : (PySem.W.hideAll B [C]).StaysIn h' := fun b o e => (sb.2 b (ofB b o e).2).trans (k1 b o (ofB b o e).1)
        have noB : ∀ b, B.get? b = none → (PySem.W.hideAll B [C]).get? b = none := fun b hb => by
          cases q : (PySem.W.hideAll B [C]).get? b with
          | none => rfl
          | some o => have := (ofB b o q).1; rw [hb] at this; cases this
        have fr' : h'.FunFrames (PySem.W.hideAll B [C]) (X.env :: X.outer) := by
          have go : ∀ l : List PySem.Env, (∀ b ∈ frs l, b ≠ C) → h1.FunFrames B l → h'.FunFrames (PySem.W.hideAll B [C]) l := by
            intro l
            induction l with
            | nil => intro _ _; trivial
            | cons e r ih =>
              intro hne ⟨hk, ⟨L, o, hf, hb, ho, hdd⟩, hr⟩
              have hL : L ≠ C := hne L (List.mem_filterMap.mpr ⟨e, List.mem_cons_self, hf⟩)
              refine ⟨hk, ⟨L, o, hf, noB L hb, (sb.2 L hL).trans ho, hdd⟩, ih (fun b hb => hne b ?_) hr⟩
              obtain ⟨x, hx, q⟩ := List.mem_filterMap.mp hb
              exact List.mem_filterMap.mpr ⟨x, List.mem_cons_of_mem _ hx, q⟩
          refine go _ (fun b hb z => cst ?_) k3
          rw [hst, ← z]
          exact hb
        have tr' : HandSPX.TracedZ h' (PySem.W.hideAll B [C]) a (L2N.Zn cls d) (rawInt X.env.locals) := ⟨oe, vs, T, oT, ts, he', hz, hd, hv1, noB T hnT, hTe, hT', hdT, hv3⟩
        unfold PySem.passOn
        refine wpAny_bind (wpAny_field he' hd hv1 ?_)
        rw [if_neg (show ¬ ((Value.ref T == Value.none) = true) from by simp)]
        have sI' : Inv X pins σ H' { sI with heap := PySem.W.hideAll sI.heap [C] } := I7.turned (t' := sI.toks) (fun b o hb e => PySem.W.hideAll_get _ e (by simpa using hb)) f0 f1 f3 f4 f5
        have finx : wpAny (model X.prog X.w) X.A (setFlight (.ref a) cenv.frame) (fun _ s4 => wpAny (model X.prog X.w) X.A (throw (.ref a) : Sem Value) (fun _ _ => False) X.xe s4) X.xe { s' with heap := h' } := by
          rw [hcv, hfm]
          refine HandSPX.setFlight_anyZ st' fr' tr' fun h4 q1 q2 q3 q4 => wpAny_throw (tk _ _ ?_)
          refine ⟨a, PySem.W.hideAll B [C], { sI with heap := PySem.W.hideAll sI.heap [C] }, pins, σ, H', cls, d, rfl, sI', fun b o e hb => ?_, fun b o e hnf => ?_, .inr (.inr ⟨q1, noB a k2, by rw [hst]; exact q2, q3⟩), na, os, ag, w⟩
          · have e0 := PySem.W.of_hideAll _ e
            have bC : b ≠ C := fun z => by
              have e : (PySem.W.hideAll sI.heap [C]).get? b = some o := e
              rw [z, PySem.W.hideAll_none _ (by simp)] at e; cases e
            exact PySem.W.hideAll_get _ (nb b o e0 hb) (by simpa using bC)
          · have e0 := PySem.W.of_hideAll _ e
            have bC : b ≠ C := fun z => by
              have e : (PySem.W.hideAll sI.heap [C]).get? b = some o := e
              rw [z, PySem.W.hideAll_none _ (by simp)] at e; cases e
            obtain ⟨sl, e1⟩ := up2 b o e0 hnf
            obtain ⟨sl2, e2⟩ := q4 b _ ((sb.2 b bC).trans e1) hnf
            exact ⟨sl2, e2⟩
        first
          | exact wpAny_bind (wpAny_pure (wpAny_bind finx))
          | exact wpAny_bind finx
    cases use <;> exact post
  rcases sky with ⟨hB, hnn, hl, oe, vs, he, hz, hd, h1⟩ | fl | hh
  · exact PXN.look_newZ L2N.Zn.steady hfr hl hfm he hB hnn hd h1 hz fin
  · exact PXN.looks_onZ L2N.Zn.steady hfr hfm fl fin
  · refine looks_otherZ L2N.Zn.steady hfr hfm ?_ hh.1 hh.2.1 hh.2.2.1 hh.2.2.2 fin
    have : C ≠ X.env.locals := f1
    have e : ¬ (rawInt (C : Int) == rawInt (X.env.locals : Int)) = true := fun z => by
      have := beq_iff_eq.mp z
      unfold rawInt at this
      injection this with h1 _
      omega
    cases q : (rawInt (C : Int) == rawInt (X.env.locals : Int)) with
    | false => rfl
    | true => exact absurd q e
/-- [elt for target in iter if ..], the element may raise -/
theorem lcX_core {pins : List (Addr × Obj)} {s : Shared} {σ : L2.St} {H : Hp} {Q : VK} {elt tg iter : Expr} {ifs : List Expr} {scope : Scope} {own : List (Str × Nat)} {pos pos' : Pos} {wi : TI} {g : TG} {tt : TT} {te : TE} {use : Option (Value → Sem Unit)} {Qf : Value → Shared → Prop} {W : WX}
    (hst : X.stack = X.env :: X.outer) (hfm : X.env.frame = some X.env.locals) (tk : L2N.Takes X W)
    (hc : X.calm = true) (hN : X.N.Nodup) (I : Inv X pins σ H s) (hi : PI X tg iter wi) (ok : BlkOk X.N X.env.scope scope own)
    (hg : ∀ (s : Shared) (H : Hp) (C : Addr) (cl : List (Str × Addr)) (fp : List Addr), PG (X.blk s H scope (compEnvC scope cl C X.env) fp) tg g) (ht : ∀ (s : Shared) (H : Hp) (C : Addr) (cl : List (Str × Addr)) (fp : List Addr), PTs (X.blk s H scope (compEnvC scope cl C X.env) fp) ifs tt)
    (he : ∀ (s : Shared) (H : Hp) (C : Addr) (cl : List (Str × Addr)) (fp : List Addr) (xe : Value → Shared → Prop), L2N.Takes ((X.blk s H scope (compEnvC scope cl C X.env) fp).wish xe) (fun cls d _ H' => W cls d σ H') → PE ((X.blk s H scope (compEnvC scope cl C X.env) fp).wish xe) elt te) (hs : ∀ x, foldedSetIterable iter X.env x = pure x)
    (h : tLc wi g tt te (own.map (·.2)) σ H Q)
    (hRR : ∀ D C s' m H', Inv X pins σ H' s' → Q (.ref D) H' → s'.heap.Ns C m → FpOk X pins H' C → compPostX (model X.prog X.w) X.A X.xe use Qf (.ref D) C X.env.frame (.ok .next) s') :
    wpAny (model X.prog X.w) X.A (comprehension (.ListComp elt [⟨tg, iter, ifs, 0⟩] scope pos) scope X.env pos' (newList []) false (eval iter X.env) use) Qf X.xe s := by
  have hfree : ∀ y ∈ scope.names, y.2 = .free → ∃ c, X.env.cells.lookup y.1 = some c := fun y hy e => (ok.free y hy e).elim (fun k => I.ok.has _ (.inl k)) fun k => I.ok.has _ (.inr k)
  refine wpAny_comprehension_freeX (use := use) rfl hs (closure_ok hfree) ok.kind (fun y hy e => by rw [ok.uniq y hy, e]) (thn (hi.run pins s σ H _ I h) fun xv s1 hx => thn hx fun itv s2 h2 => ?_)
  obtain ⟨it, fp, tn, J, H2, e, I2, T, st2, f2, q⟩ := h2
  subst e
  refine wpAny_newObj_type (newEnv_comp ?_) (by show 0 ≤ sizeLine; decide)
  generalize hD : s2.heap.objs.size = D
  obtain ⟨Wm, ⟨m0, w0⟩, turn⟩ := q D (I2.hok.fresh (Nat.le_of_eq hD))
  generalize hs3 : ({ s2 with heap := s2.heap.push { cls := .type "list", data := .seq ([] : List Value).toArray } } : Shared) = s3
  have h3 : s3.heap = s2.heap.push { cls := .type "list", data := .seq ([] : List Value).toArray } := by rw [← hs3]
  have I3 : Inv X pins σ (upd H2 D (.lst [])) s3 := by
    rw [← hs3]
    refine I2.laid (t' := s2.toks) (fun b o e => Heap.get?_push_of_some _ e) (Nat.le_of_eq hD) ⟨Nat.zero_le _, [], 0, .nil, ?_⟩
    rw [← hD]
    exact Heap.get?_push_size _ rfl
  have sz : ∀ b ∈ fp, b < s2.heap.objs.size := fun b hb => let ⟨o, e, _⟩ := T.obj _ _ st2 b hb; Heap.lt_size e
  have f3 : ∀ b ∈ fp, FpOk X pins (upd H2 D (.lst [])) b ∧ b < s3.heap.objs.size := fun b hb => by
    have hlt := sz b hb
    refine ⟨⟨?_, (f2 b hb).2⟩, by rw [h3, Heap.size_push]; exact Nat.lt_succ_of_lt hlt⟩
    rw [upd_ne (by rw [← hD]; exact Nat.ne_of_lt hlt)]
    exact (f2 b hb).1
  have st3 : tn 0 s3.heap := T.keep _ _ _ st2 fun b _ o e => by rw [h3]; exact Heap.get?_push_of_some _ e
  have I4 := block_start I3 ok hN f3
  have pg := hg s3 (upd H2 D (.lst [])) s3.heap.objs.size (cellsFrom (s3.heap.objs.size + 1) scope.names (cloFrom X.env.cells scope.names [])) fp
  have pt := ht s3 (upd H2 D (.lst [])) s3.heap.objs.size (cellsFrom (s3.heap.objs.size + 1) scope.names (cloFrom X.env.cells scope.names [])) fp
  have pe := he s3 (upd H2 D (.lst [])) s3.heap.objs.size (cellsFrom (s3.heap.objs.size + 1) scope.names (cloFrom X.env.cells scope.names [])) fp
  show codeAny _ _ (.compStart (.ListComp elt [⟨tg, iter, ifs, 0⟩] scope pos) 0 (.ref it) (.ref D) (compEnvC scope (cellsFrom (s3.heap.objs.size + 1) scope.names (cloFrom X.env.cells scope.names [])) s3.heap.objs.size X.env)) (compPostX (model X.prog X.w) X.A X.xe use Qf (.ref D) s3.heap.objs.size X.env.frame) { s3 with heap := pushCells (s3.heap.push { cls := .type "dict", data := .dict #[] }) scope.names }
  have nfp : ∀ b ∈ fp, (upd H2 D (.lst [])) b = none := fun b hb => (f3 b hb).1.1
  have cF : (compEnvC scope (cellsFrom (s3.heap.objs.size + 1) scope.names (cloFrom X.env.cells scope.names [])) s3.heap.objs.size X.env).frame = X.env.frame := rfl
  generalize hce : compEnvC scope (cellsFrom (s3.heap.objs.size + 1) scope.names (cloFrom X.env.cells scope.names [])) s3.heap.objs.size X.env = ce at I4 pg pt pe cF ⊢
  have cL : ce.locals = s3.heap.objs.size := by subst hce; rfl
  generalize hH3 : upd H2 D (.lst []) = H3 at I3 I4 pg pt pe w0 nfp f3
  generalize hs4 : ({ s3 with heap := pushCells (s3.heap.push { cls := .type "dict", data := .dict #[] }) scope.names } : Shared) = s4 at I4 ⊢
  have st4 : tn 0 s4.heap := T.keep _ _ _ st3 fun b _ o e => by rw [← hs4]; exact pushCells_keeps _ _ _ _ (Heap.get?_push_of_some _ e)
  have stat : ∀ {σ' : L2.St} {H' : Hp} {s' : Shared}, Inv (X.blk s3 H3 scope ce fp) [] σ' H' s' → (∀ b ∈ fp, H' b = none) → ∀ b ∈ fp, FpOk (X.blk s3 H3 scope ce fp) [] H' b := fun {σ' H' s'} I' hn b hb =>
    ⟨hn b hb, (I'.ok.exf b hb).1, I'.ok.exfs b hb, .inl hb, fun x c e => (I'.ok.exf b hb).2 x c e, fun p hp => absurd (show p ∈ ([] : List (Addr × Obj)) ++ [] from hp) (by simp)⟩
  generalize hxe : (notedBy (model X.prog X.w) X.A ce fun e s' => compPostX (model X.prog X.w) X.A X.xe use Qf (.ref D) s3.heap.objs.size X.env.frame (.error e) s') = xe
  have tkB : L2N.Takes ((X.blk s3 H3 scope ce fp).wish xe) (fun cls d _ H' => W cls d σ H') :=
    block_takes (use := use) (Qf := Qf) (D := D) hst hfm tk I3 rfl cF cL (fun b hb => (f3 b hb).1) fun u s' hq => by rw [← hxe]; exact hq
  have pe := pe xe tkB
  have loop : codeAny (model X.prog X.w) X.A (.compLoop (.ListComp elt [⟨tg, iter, ifs, 0⟩] scope pos) 0 (.ref it) (.ref D) ce) (compPostX (model X.prog X.w) X.A X.xe use Qf (.ref D) s3.heap.objs.size X.env.frame) s4 := by
    refine compLoop_any (fun n s' => ∃ i H', Inv (X.blk s3 H3 scope ce fp) [] (wipe σ (own.map (·.2))) H' s' ∧ tn i s'.heap ∧ (∀ b ∈ fp, H' b = none) ∧ Wm i n H') ?_ m0 ⟨0, H3, I4, st4, nfp, w0⟩
    rintro n s5 ⟨i, H5, I5, st5, n5, w5⟩
    rw [hxe]
    rcases turn i n H5 w5 with ⟨stop, qq⟩ | ⟨go, Nx, hNx, step⟩
    · have td := T.done (X.blk s3 H3 scope ce fp) rfl rfl rfl hc i [] s5 _ H5 (fun _ _ => False) I5 (stat I5 n5) st5 stop
      refine thnF td fun r s6 ⟨hr, I6⟩ => ?_
      subst hr
      have I7 : Inv X pins σ H5 s6 := I3.call' (ch := fp) I6.os I6.base I6.hok I6.bare fun b hb => ⟨(f3 b hb).1.2.2.2.1, (f3 b hb).1.2.1, (f3 b hb).1.2.2.2.2.1, (f3 b hb).1.2.2.2.2.2⟩
      have nC : H5 s3.heap.objs.size = none := by
        have z : H5 ce.locals = none := I6.free
        rw [cL] at z
        exact z
      obtain ⟨m, hn, _⟩ := I6.loc
      have hn : s6.heap.Ns ce.locals m := hn
      rw [cL] at hn
      exact hRR D s3.heap.objs.size s6 m H5 I7 qq hn (I3.fpOk (Nat.le_refl _) nC)
    · have ti := T.item (X.blk s3 H3 scope ce fp) rfl rfl rfl hc i [] s5 _ H5 (fun _ _ => False) I5 (stat I5 n5) st5 go
      refine thnF ti fun r s6 ⟨u, hr, h6⟩ => ?_
      subst hr
      refine thnF h6 fun _ s7 ⟨x, H7, I7, r7, y7, st7, n7⟩ => ?_
      have I7' := I7.pinned (stat I7 n7) (T.obj _ _ st7)
      refine thnF (pg.run _ s7 _ H7 x u _ I7' r7 (step x H7 y7)) fun _ s8 ⟨σ8, H8, I8, hw8, q8⟩ => ?_
      refine thnF (pt.run _ s8 σ8 H8 _ I8 q8) fun b s9 ⟨H9, I9, q9⟩ => ?_
      have fin : ∀ {s' : Shared} {H' : Hp}, Inv (X.blk s3 H3 scope ce fp) ([] ++ pinsAt fp s7.heap) σ8 H' s' → Nx H' → ∃ m, m < n ∧ ∃ i H', Inv (X.blk s3 H3 scope ce fp) [] (wipe σ (own.map (·.2))) H' s' ∧ tn i s'.heap ∧ (∀ b ∈ fp, H' b = none) ∧ Wm i m H' := fun {s' H'} I' nx => by
        obtain ⟨m', hm, w'⟩ := hNx H' nx
        have pin' : ∀ b ∈ fp, ∀ o, s7.heap.get? b = some o → s'.heap.get? b = some o ∧ H' b = none := fun b hb o e =>
          let z := I'.pin (b, o) (List.mem_append_right _ (List.mem_append_right _ (mem_pinsAt hb e)))
          ⟨z.1, z.2.1⟩
        have hl : (wipe σ (own.map (·.2))).length = σ8.length := by rw [← hw8, wipe_length]
        refine ⟨m', hm, i + 1, H', (I'.unpinned (pins := [])).weak hl (fun j v e => ?_), T.keep _ _ _ st7 fun b hb o e => (pin' b hb o e).1, fun b hb => ?_, w'⟩
        · rw [← hw8] at e
          exact (wipe_some e).1
        · obtain ⟨o, e, _⟩ := T.obj _ _ st7 b hb
          exact (pin' b hb o e).2
      cases b with
      | false =>
        simp only [Bool.false_eq_true, if_false] at q9 ⊢
        exact fin I9 q9
      | true =>
        simp only [if_true] at q9 ⊢
        refine wpAny_mono (pe.run _ s9 σ8 H9 _ (I9.wish xe) q9) (fun z s10 ⟨yv, H10, I10, r10, acc, hD10, hz10, nx⟩ => ?_) fun _ _ hh => hh
        exact app_ok (X := X.blk s3 H3 scope ce fp) (Inv.unwish (X := X.blk s3 H3 scope ce fp) I10) hD10 hz10 r10 fun s11 I11 => fin I11 nx
  exact codeAny_compStart_list loop (T.self X.A 0 _ _ _ st4 loop)
theorem pe_lcX {elt tg iter : Expr} {ifs : List Expr} {scope : Scope} {own : List (Str × Nat)} {pos : Pos} {wi : TI} {g : TG} {tt : TT} {te : L2.St → TE} {W : WX} (hst : X.stack = X.env :: X.outer) (hfm : X.env.frame = some X.env.locals) (tk : L2N.Takes X W) (hc : X.calm = true) (hN : X.N.Nodup) (hi : PI X tg iter wi) (ok : BlkOk X.N X.env.scope scope own)
    (hg : ∀ (s : Shared) (H : Hp) (C : Addr) (cl : List (Str × Addr)) (fp : List Addr), PG (X.blk s H scope (compEnvC scope cl C X.env) fp) tg g) (ht : ∀ (s : Shared) (H : Hp) (C : Addr) (cl : List (Str × Addr)) (fp : List Addr), PTs (X.blk s H scope (compEnvC scope cl C X.env) fp) ifs tt)
    (he : ∀ (σ : L2.St) (s : Shared) (H : Hp) (C : Addr) (cl : List (Str × Addr)) (fp : List Addr) (xe : Value → Shared → Prop), L2N.Takes ((X.blk s H scope (compEnvC scope cl C X.env) fp).wish xe) (fun cls d _ H' => W cls d σ H') → PE ((X.blk s H scope (compEnvC scope cl C X.env) fp).wish xe) elt (te σ)) (hs : ∀ x, foldedSetIterable iter X.env x = pure x := by intro _; rfl) :
    PE X (.ListComp elt [⟨tg, iter, ifs, 0⟩] scope pos) (fun σ H Q => tLc wi g tt (te σ) (own.map (·.2)) σ H Q) := by
  refine ⟨fun pins s σ H Q I h => ?_⟩
  rw [eval_ListComp]
  refine lcX_core hst hfm tk hc hN I hi ok hg ht (he σ) hs h fun D C s' m H' I' q hn ⟨f0, f1, f2, f3, f4, f5⟩ => ⟨m, hn, fun h'' sb => ?_⟩
  exact ⟨.ref D, H', I'.turned (t' := s'.toks) (fun b o hb e => (sb.2 b hb).trans e) f0 f1 f3 f4 f5, rfl, q⟩
end
def compLX (vs : List Nat) (f : D → Env → Option Env) (t : Env → R Bool) (c : Env → R Lv) : List D → Env → R (List D)
  | [], e => .ok [] e
  | d :: r, e => match f d (clearE vs e) with
    | none => .st
    | some e1 => match t e1 with
      | .ok false e2 => compLX vs f t c r e2
      | .ok true e2 => (match c e2 with
        | .ok (.val x) e3 => (match compLX vs f t c r e3 with
          | .ok xs e4 => .ok (x :: xs) e4
          | .ex x e4 => .ex x e4
          | .st => .st)
        | .ex x e3 => .ex x e3
        | _ => .st)
      | _ => .st
/-- .. out of which the element's exceptions come -/
def cCompX (vs : List Nat) (ci : Env → R (List D)) (f : D → Env → Option Env) (t : Env → R Bool) (c : Env → R Lv) : Env → R NV := fun e => (ci e).bind fun ds e1 =>
  if fits ds.length = true then
    match compLX vs f t c ds e1 with
    | .ok xs e2 => .ok (.nl xs) (restoreE vs e1 e2)
    | .ex x e2 => .ex x (restoreE vs e1 e2)
    | .st => .st
  else .st
def bEX (K : Frag) (mg : MG) (Tg : List Sh) (np : Nat) (lk : List (Nat × V)) (W : WX) (c : Env → R Lv) : TE := fun σ H Q => ∃ p : List V × Hp × Hp × ASet, tE K mg ⟨Tg, np, p.1, p.2.1, p.2.2.1, p.2.2.2, lk⟩ W c σ H Q
section
variable {X : Cx} {K : Frag} {mg : MG} {C : Ct} {W : WX} {G G' H H' : Hp} {σ : L2.St} {e : Env} {Sg : Nat → ASet}
theorem lcX_body {vs ws : List Nat} {f : D → Env → Option Env} {t : Env → R Bool} {c : Env → R Lv} (hv : ∀ i ∈ vs, C.Tg[i]? = some .fz) (hk : ∀ i ∈ vs, lkFree C.lk i = true) (hw : ∀ i ∈ ws, i ∈ vs) {σ : L2.St} {Q : VK} {G1 H1 : Hp} {e1 : Env} {S1 : Nat → ASet} {ds : List D} {J : It}
    (g1 : Good K mg C G1 H1 σ e1 S1) (hJ : ItG K mg C G1 J ds) (p1 : Post K mg C W G1 σ (if fits ds.length = true then (match compLX vs f t c ds e1 with | .ok xs e2 => R.ok (NV.nl xs) (restoreE vs e1 e2) | .ex x e2 => .ex x (restoreE vs e1 e2) | .st => .st) else .st) fun n _ G' H' _ => NVp K G' H' Q n) :
    tLc (fun _ _ Rr => Rr J H1) (bG K mg C.Tg C.np C.lk ws f) (bT K mg C.Tg C.np C.lk t) (bEX K mg C.Tg C.np C.lk (fun cls d _ H' => W cls d σ H') c) vs σ H1 Q := by
  intro Da hD
  split at p1
  · rename_i hfit
    -- the rest of the loop, from an env and what is made so far
    let Rest : Nat → List D → Env → Hp → Prop := fun i acc e' G' => match compLX vs f t c (ds.drop i) e' with
      | .ok xs e2 => ∀ G2 H2 S2, Good K mg C G2 H2 σ (restoreE vs e1 e2) S2 → Ex G' G2 → NVp K G2 H2 Q (.nl (acc ++ xs))
      | .ex x e2 => ∀ G2 H2 S2, Good K mg C G2 H2 σ (restoreE vs e1 e2) S2 → Ex G' G2 → XW mg W x σ H2
      | .st => False
    have noD : ∀ {u : HO}, G1 Da ≠ some u := fun {u} z => by
      have := g1.gh Da u z
      rw [hD] at this
      cases this
    have gD : G1 Da = none := by
      cases q : G1 Da with
      | none => rfl
      | some u => exact absurd q noD
    have sD : ∀ i, ¬ S1 i Da := fun i z => (g1.gs i Da z).2.1 hD
    have hD0 : C.H0 Da = none := by
      cases q : C.H0 Da with
      | none => rfl
      | some o => exact absurd hD (g1.al Da (by rw [q]; simp))
    have g2 := g1.new (p := Da) (o := .lst []) hD
    obtain ⟨Sw, gw, subw⟩ := g2.wiped hv hk (σ' := σ) rfl rfl
    have rest0 : Rest 0 [] e1 G1 := by
      show match compLX vs f t c (ds.drop 0) e1 with | .ok xs e2 => _ | .ex x e2 => _ | .st => False
      rw [List.drop_zero]
      cases q : compLX vs f t c ds e1 with
      | ok xs e2 =>
        rw [q] at p1
        exact fun G2 H2 S2 g' x' => p1 G2 H2 S2 g' x'
      | ex x e2 =>
        rw [q] at p1
        exact fun G2 H2 S2 g' x' => p1 G2 H2 S2 g' x'
      | st => rw [q] at p1; exact False.elim p1
    refine ⟨fun i m H' => m = ds.length - i ∧ i ≤ ds.length ∧ ∃ G' e' Sg' acc vacc, Good K mg C G' H' (wipe σ vs) (clearE vs e') Sg' ∧ Ex G1 G' ∧ H' Da = some (.lst vacc) ∧ DpAll K G' vacc acc ∧ acc.length ≤ i ∧ G' Da = none ∧ (∀ i, ¬ Sg' i Da) ∧ Rest i acc e' G',
      ⟨ds.length, by simp, Nat.zero_le _, G1, e1, Sw, [], [], gw, Ex.refl _, upd_same, .nil, Nat.zero_le _, gD, fun i z => sD i (subw i Da z), rest0⟩, ?_⟩
    rintro i m H' ⟨rfl, hi, G', e', Sg', acc, vacc, g', x', hDa, hacc, hal, gD', sD', rest⟩
    by_cases hlt : i < ds.length
    · refine .inr ⟨hJ.go i G' H' _ _ _ hlt g' x', fun H2 => ∃ G2 e2 Sg2 acc2 vacc2, Good K mg C G2 H2 (wipe σ vs) (clearE vs e2) Sg2 ∧ Ex G1 G2 ∧ H2 Da = some (.lst vacc2) ∧ DpAll K G2 vacc2 acc2 ∧ acc2.length ≤ i + 1 ∧ G2 Da = none ∧ (∀ i, ¬ Sg2 i Da) ∧ Rest (i + 1) acc2 e2 G2,
        fun H2 h2 => ⟨ds.length - (i + 1), by omega, rfl, hlt, h2⟩, fun x H2 y => ?_⟩
      obtain ⟨rfl, d, hd, hdp⟩ := hJ.yld i x G' H' H2 _ _ _ hlt g' x' y
      have hdr : ds.drop i = d :: ds.drop (i + 1) := by
        rw [List.drop_eq_getElem_cons hlt]
        rw [List.getElem?_eq_getElem hlt] at hd
        rw [Option.some.inj hd]
      have rest : (match compLX vs f t c (ds.drop i) e' with | .ok xs e2 => ∀ G2 H2 S2, Good K mg C G2 H2 σ (restoreE vs e1 e2) S2 → Ex G' G2 → NVp K G2 H2 Q (.nl (acc ++ xs)) | .ex x e2 => ∀ G2 H2 S2, Good K mg C G2 H2 σ (restoreE vs e1 e2) S2 → Ex G' G2 → XW mg W x σ H2 | .st => False) := rest
      rw [hdr] at rest
      unfold compLX at rest
      cases qf : f d (clearE vs e') with
      | none => rw [qf] at rest; exact False.elim rest
      | some e2 =>
        rw [qf] at rest
        dsimp only at rest
        -- the turn in a context of its own
        have gr := g'.renew
        refine ⟨(C.vs0, G', H2, fun a => ∃ i, Sg' i a), G', clearE vs e', Sg', d, e2, gr, hdp, qf, fun σ2 Sg2 g2 sb => ⟨wipe_same hw sb, ?_⟩⟩
        have l2 : σ2.length = σ.length := by rw [sb.1, wipe_length]
        have wsame := wipe_same hw sb
        refine ⟨(C.vs0, G', H2, fun a => ∃ i, Sg' i a), G', e2, Sg2, g2, ?_⟩
        cases qt : t e2 with
        | ex xx e3 => rw [qt] at rest; exact False.elim rest
        | st => rw [qt] at rest; exact False.elim rest
        | ok b e3 =>
          rw [qt] at rest
          intro G3 H3 S3 g3 x3
          obtain ⟨st1, st2, st3⟩ := g'.stays g3 hDa gD' sD'
          have g3C := g'.trans g3
          cases b with
          | false =>
            rw [if_neg Bool.false_ne_true]
            obtain ⟨S4, g4, sub4⟩ := g3C.wiped hv hk (σ' := σ2) rfl rfl
            rw [wsame] at g4
            refine ⟨G3, e3, S4, acc, vacc, g4, x'.trans x3, st1, dps_ex x3 _ _ hacc, by omega, st2, fun i z => st3 i (sub4 i Da z), ?_⟩
            show match compLX vs f t c (ds.drop (i + 1)) e3 with | .ok xs e2 => _ | .ex x e2 => _ | .st => False
            dsimp only at rest
            cases q : compLX vs f t c (ds.drop (i + 1)) e3 with
            | ok xs e4 =>
              rw [q] at rest
              exact fun G5 H5 S5 g5 x5 => rest G5 H5 S5 g5 (x3.trans x5)
            | ex xx e4 =>
              rw [q] at rest
              exact fun G5 H5 S5 g5 x5 => rest G5 H5 S5 g5 (x3.trans x5)
            | st => rw [q] at rest; exact False.elim rest
          | true =>
            rw [if_pos rfl]
            dsimp only at rest
            have gr3 := g3C.renew
            refine ⟨(C.vs0, G3, H3, fun a => ∃ i, S3 i a), G3, e3, S3, gr3, ?_⟩
            cases qc : c e3 with
            | ex xx e4 =>
              rw [qc] at rest
              dsimp only at rest
              intro G4 H4 S4 g4 x4
              have g4C := g3C.trans g4
              obtain ⟨S6, g6, sub6⟩ := g4C.wiped hv hk (σ' := σ2) rfl rfl
              rw [wsame] at g6
              exact rest G4 H4 S6 (Good.unwiped g1 ((x'.trans x3).trans x4) g6 hv) (x3.trans x4)
            | st => rw [qc] at rest; exact False.elim rest
            | ok l e4 =>
              rw [qc] at rest
              cases l with
              | plc i => exact False.elim rest
              | own i => exact False.elim rest
              | val x =>
                dsimp only at rest
                intro G4 H4 S4 g4 x4 v hv4
                obtain ⟨t1, t2, t3⟩ := g3C.stays g4 st1 st2 st3
                have g4C := g3C.trans g4
                have lacc : vacc.length = acc.length := dps_len _ _ hacc
                refine ⟨vacc, t1, fits_lt hfit (by omega), ?_⟩
                have g5 := g4C.free (p := Da) (o := .lst (vacc ++ [v])) (.inl hD0) t2 (by rw [t1]; simp) t3
                obtain ⟨S6, g6, sub6⟩ := g5.wiped hv hk (σ' := σ2) rfl rfl
                rw [wsame] at g6
                have hv4 : Dp K G4 v x := hv4
                refine ⟨G4, e4, S6, acc ++ [x], vacc ++ [v], g6, (x'.trans x3).trans x4, upd_same, dps_append (dps_ex x4 _ _ (dps_ex x3 _ _ hacc)) (.cons hv4 .nil), by simp; omega, t2, fun i z => t3 i (sub6 i Da z), ?_⟩
                show match compLX vs f t c (ds.drop (i + 1)) e4 with | .ok xs e2 => _ | .ex x e2 => _ | .st => False
                cases q : compLX vs f t c (ds.drop (i + 1)) e4 with
                | ok xs e5 =>
                  rw [q] at rest
                  dsimp only at rest
                  refine fun G5 H5 S5 g5 x5 => ?_
                  have := rest G5 H5 S5 g5 ((x3.trans x4).trans x5)
                  rw [List.append_assoc]
                  exact this
                | ex xx e5 =>
                  rw [q] at rest
                  dsimp only at rest
                  exact fun G5 H5 S5 g5 x5 => rest G5 H5 S5 g5 ((x3.trans x4).trans x5)
                | st => rw [q] at rest; exact False.elim rest
    · have e0 : i = ds.length := by omega
      subst e0
      refine .inl ⟨hJ.stop _ G' H' _ _ _ (Nat.le_refl _) g' x', ?_⟩
      have rest : (match compLX vs f t c (ds.drop ds.length) e' with | .ok xs e2 => ∀ G2 H2 S2, Good K mg C G2 H2 σ (restoreE vs e1 e2) S2 → Ex G' G2 → NVp K G2 H2 Q (.nl (acc ++ xs)) | .ex x e2 => ∀ G2 H2 S2, Good K mg C G2 H2 σ (restoreE vs e1 e2) S2 → Ex G' G2 → XW mg W x σ H2 | .st => False) := rest
      rw [List.drop_length] at rest
      have rest : ∀ G2 H2 S2, Good K mg C G2 H2 σ (restoreE vs e1 e') S2 → Ex G' G2 → NVp K G2 H2 Q (.nl (acc ++ [])) := rest
      have gu := Good.unwiped g1 x' g' hv
      have gd := gu.drop gD' sD' hD0
      have q := rest G' _ Sg' gd (Ex.refl _) Da vacc (by simp) (by rw [List.append_nil]; exact hacc)
      have eq : upd (fun a => if a = Da then none else H' a) Da (.lst vacc) = H' := by
        funext a
        unfold upd
        by_cases ha : a = Da
        · subst ha
          simp [hDa]
        · simp [ha]
      rw [eq] at q
      exact q
  · exact False.elim p1

theorem lcX_sound {vs ws : List Nat} {ci : Env → R (List D)} {f : D → Env → Option Env} {t : Env → R Bool} {c : Env → R Lv} (hv : ∀ i ∈ vs, C.Tg[i]? = some .fz) (hk : ∀ i ∈ vs, lkFree C.lk i = true) (hw : ∀ i ∈ ws, i ∈ vs) {σ : L2.St} {H : Hp} {Q : VK} (h : tN K mg C W (cCompX vs ci f t c) σ H Q) :
    tLc (tI K mg C W ci) (bG K mg C.Tg C.np C.lk ws f) (bT K mg C.Tg C.np C.lk t) (bEX K mg C.Tg C.np C.lk (fun cls d _ H' => W cls d σ H') c) vs σ H Q := by
  obtain ⟨G, e, Sg, g, p⟩ := h
  exact ⟨G, e, Sg, g, (Post.bind p).imp fun ds e1 G1 H1 S1 _ g1 x1 p1 J hJ => lcX_body hv hk hw g1 hJ.good p1⟩
theorem bEX_of {Xb : Cx} {e : Expr} {Tg : List Sh} {np : Nat} {lk : List (Nat × V)} {W : WX} {c : Env → R Lv} (h : ∀ vs0 G0 H0 S0, PE Xb e (tE K mg ⟨Tg, np, vs0, G0, H0, S0, lk⟩ W c)) : PE Xb e (bEX K mg Tg np lk W c) := PE.ex fun p => h p.1 p.2.1 p.2.2.1 p.2.2.2
theorem dn_lcX {elt tg iter : Expr} {ifs : List Expr} {scope : Scope} (own : List (Str × Nat)) {pos : Pos} {ws : List Nat} {ci : Env → R (List D)} {f : D → Env → Option Env} {t : Env → R Bool} {c : Env → R Lv} (hst : X.stack = X.env :: X.outer) (hfm : X.env.frame = some X.env.locals) (tk : L2N.Takes X W) (hc : X.calm = true) (hN : X.N.Nodup) (hi : PI X tg iter (tI K mg C W ci)) (ok : BlkOk X.N X.env.scope scope own)
    (hv : ∀ i ∈ own.map (·.2), C.Tg[i]? = some .fz) (hk : ∀ i ∈ own.map (·.2), lkFree C.lk i = true) (hw : ∀ i ∈ ws, i ∈ own.map (·.2))
    (hg : ∀ (s : Shared) (H : Hp) (Cc : Addr) (cl : List (Str × Addr)) (fp : List Addr), PG (X.blk s H scope (compEnvC scope cl Cc X.env) fp) tg (bG K mg C.Tg C.np C.lk ws f)) (ht : ∀ (s : Shared) (H : Hp) (Cc : Addr) (cl : List (Str × Addr)) (fp : List Addr), PTs (X.blk s H scope (compEnvC scope cl Cc X.env) fp) ifs (bT K mg C.Tg C.np C.lk t))
    (he : ∀ (σ : L2.St) (s : Shared) (H : Hp) (Cc : Addr) (cl : List (Str × Addr)) (fp : List Addr) (xe : Value → Shared → Prop), L2N.Takes ((X.blk s H scope (compEnvC scope cl Cc X.env) fp).wish xe) (fun cls d _ H' => W cls d σ H') → PE ((X.blk s H scope (compEnvC scope cl Cc X.env) fp).wish xe) elt (bEX K mg C.Tg C.np C.lk (fun cls d _ H' => W cls d σ H') c)) (hs : ∀ x, foldedSetIterable iter X.env x = pure x := by intro _; rfl) :
    PE X (.ListComp elt [⟨tg, iter, ifs, 0⟩] scope pos) (tN K mg C W (cCompX (own.map (·.2)) ci f t c)) :=
  PE.to (pe_lcX (te := fun σ => bEX K mg C.Tg C.np C.lk (fun cls d _ H' => W cls d σ H') c) hst hfm tk hc hN hi ok hg ht he hs) fun σ H Q q => lcX_sound hv hk hw q
end
end DL

/-! Reckoning with mirrors. -/
namespace DL
open PySem PySem.Spec PyProof.Rows L2
section
variable {α β : Type} {e : Env} {a b c : Env → R Lv} {n o : Env → R NV} {s t u : Env → R Bool} {p q : Env → R Fl} {d r : Env → R D} {l : Env → R (List Lv)} {i k : Nat} {x y : D}

@[simp ↓] theorem bind_e {v : R α} {f : α → Env → R β} : R.bind v f = match v with | .ok a e => f a e | .ex x e => .ex x e | .st => .st := by rfl
@[simp ↓] theorem ofO_some {v : α} : ofO (some v) e = R.ok v e := by rfl
@[simp ↓] theorem ofO_none : ofO (none : Option α) e = R.st := by rfl
@[simp ↓] theorem cK_e : cK x e = .ok (.val x) e := by rfl
@[simp ↓] theorem c2_e {f : D → D → Option NV} : c2 f a b e = (a e).bind fun l e1 => (b e1).bind fun m e2 => ofO ((l.get e2).bind fun x => (m.get e2).bind fun y => f x y) e2 := by rfl
@[simp ↓] theorem c1_e {f : D → Option NV} : c1 f a e = (a e).bind fun l e1 => ofO ((l.get e1).bind f) e1 := by rfl
@[simp ↓] theorem cFrz_e : cFrz n e = (n e).bind fun v e1 => .ok (.val v.d) e1 := by rfl
@[simp ↓] theorem cOwn_e : cOwn n e = (n e).bind fun v e1 => match v with | .nl ds => .ok (.list ds) e1 | _ => .st := by rfl
@[simp ↓] theorem cMelt_e : cMelt d e = (d e).bind fun v e1 => .ok (.val v) e1 := by rfl
@[simp ↓] theorem cTru_e : cTru a e = (a e).bind fun l e1 => ofO ((l.get e1).bind dTru) e1 := by rfl
@[simp ↓] theorem cTst_e : cTst n e = (n e).bind fun v e1 => ofO (dBool v.d) e1 := by rfl
@[simp ↓] theorem cAnd_e : cAnd s t e = (s e).bind fun v e1 => match v with | true => t e1 | false => .ok false e1 := by rfl
@[simp ↓] theorem cOr_e : cOr s t e = (s e).bind fun v e1 => match v with | true => .ok true e1 | false => t e1 := by rfl
@[simp ↓] theorem cNot_e : cNot s e = (s e).bind fun v e1 => .ok (!v) e1 := by rfl
@[simp ↓] theorem cIf_e {f g : Env → R α} : cIf s f g e = (s e).bind fun v e1 => match v with | true => f e1 | false => g e1 := by rfl
@[simp ↓] theorem cAndV_e : cAndV a b e = (a e).bind fun v e1 => match v with | .val (.bool true) => b e1 | .val (.bool false) => .ok (.val (.bool false)) e1 | _ => .st := by rfl
@[simp ↓] theorem cOrV_e : cOrV a b e = (a e).bind fun v e1 => match v with | .val (.bool true) => .ok (.val (.bool true)) e1 | .val (.bool false) => b e1 | _ => .st := by rfl
@[simp ↓] theorem cNotV_e : cNotV a e = (a e).bind fun v e1 => match v with | .val (.bool k) => .ok (.val (.bool (!k))) e1 | _ => .st := by rfl
@[simp ↓] theorem cNil_e : cNil e = .ok [] e := by rfl
@[simp ↓] theorem cCons_e : cCons a l e = (a e).bind fun v e1 => (l e1).bind fun vs e2 => .ok (v :: vs) e2 := by rfl
@[simp ↓] theorem cLst_e : cLst l e = (l e).bind fun ls e1 => ofO ((vals ls).bind fun ds => if fits ds.length = true then some (.nl ds) else none) e1 := by rfl
@[simp ↓] theorem cTup_e : cTup l e = (l e).bind fun ls e1 => ofO ((vals ls).bind fun ds => if fits ds.length = true then some (.nt ds) else none) e1 := by rfl
@[simp ↓] theorem cB_e {g : List D → Option NV} : cB g l e = (l e).bind fun ls e1 => ofO ((gets ls e1).bind g) e1 := by rfl
@[simp ↓] theorem cMt_e {T : String} {g : D → List D → Option NV} : cMt T g a l e = (a e).bind fun l1 e1 => (ofO ((l1.get e1).bind fun x => if dTy x = T then some () else none) e1).bind fun _ e2 => (l e2).bind fun ls e3 => ofO ((l1.get e3).bind fun x => (gets ls e3).bind fun ds => g x ds) e3 := by rfl
@[simp ↓] theorem cPartN_e : cPartN e = .ok none e := by rfl
@[simp ↓] theorem cPart_e : cPart a e = (a e).bind fun l e1 => ofO ((l.get e1).bind fun d => (dInt d).map some) e1 := by rfl
@[simp ↓] theorem cSl_e {lo hi : Env → R (Option Int)} : cSl a lo hi e = (a e).bind fun l e1 => (lo e1).bind fun x e2 => (hi e2).bind fun y e3 => ofO ((l.get e3).bind fun d => dSl d x y) e3 := by rfl
@[simp ↓] theorem cNx_e : cNx e = .ok .nx e := by rfl
@[simp ↓] theorem cBk_e : cBk e = .ok .bk e := by rfl
@[simp ↓] theorem cCt_e : cCt e = .ok .ct e := by rfl
@[simp ↓] theorem cSeq_e : cSeq p q e = match p e with | .ok .nx e1 => q e1 | .ok .bk e1 => .ok .bk e1 | .ok .ct e1 => .ok .ct e1 | .ok (.rt d) e1 => .ok (.rt d) e1 | .ex x e1 => .ex x e1 | .st => .st := by rfl
@[simp ↓] theorem cRet_e : cRet a e = (a e).bind fun l e1 => match l with | .val d => .ok (.rt d) e1 | _ => .st := by rfl
@[simp ↓] theorem cRetO_e : cRetO d e = (d e).bind fun d e1 => .ok (.rt d) e1 := by rfl
@[simp ↓] theorem cRetN_e : cRetN e = .ok (.rt .none) e := by rfl
@[simp ↓] theorem cAsg_e {f : D → Env → Option Env} : cAsg a f e = (a e).bind fun l e1 => match l with | .val d => (match f d e1 with | some e2 => .ok .nx e2 | none => .st) | _ => .st := by rfl
@[simp ↓] theorem cSetO_e : cSetO i d e = (d e).bind fun d e1 => .ok .nx (e1.set i (some d)) := by rfl
@[simp ↓] theorem cDrop_e : cDrop a e = (a e).bind fun _ e1 => .ok .nx e1 := by rfl
@[simp ↓] theorem cRaise_e {cn : Str} : cRaise cn a e = (a e).bind fun _ e1 => .ex ⟨cn, none⟩ e1 := by rfl
@[simp ↓] theorem fSet_e : fSet i x e = some (e.set i (some x)) := by rfl
@[simp ↓] theorem cFor_e {f : Env → R (List D)} {g : D → Env → Option Env} : cFor f g p e = (f e).bind fun ds e1 => forL g p ds e1 := by rfl
@[simp ↓] theorem cItS_e : cItS a e = (a e).bind fun l e1 => match l with | .val d => ofO (seqOf d) e1 | _ => .st := by rfl
@[simp ↓] theorem cItRev_e : cItRev a e = (a e).bind fun l e1 => match l with | .val (.list ds) => .ok ds.reverse e1 | _ => .st := by rfl
@[simp ↓] theorem cItR1_e : cItR1 l e = (l e).bind fun ls e1 => match gets ls e1 with | some [.int j] => if inR j = true then .ok (intsFrom 0 j.toNat) e1 else .st | _ => .st := by rfl
@[simp ↓] theorem cItR2_e : cItR2 l e = (l e).bind fun ls e1 => match gets ls e1 with | some [.int i, .int j] => if (inR i && inR j) = true then .ok (intsFrom i (j - i).toNat) e1 else .st | _ => .st := by rfl
@[simp ↓] theorem cYes_e : cYes e = .ok true e := by rfl
@[simp ↓] theorem cIsi_e {f : D → Bool} : cIsi f a e = (a e).bind fun l e1 => ofO ((l.get e1).map fun d => .sc (.bool (f d))) e1 := by rfl
@[simp ↓] theorem cChain_e {f g : D → D → Option NV} : cChain f g a b c e = (a e).bind fun l e1 => (b e1).bind fun m e2 => (ofO ((l.get e2).bind fun x => (m.get e2).bind fun y => (f x y).bind fun n => dBool n.d) e2).bind fun k e3 => match k with | false => .ok (.sc (.bool false)) e3 | true => (c e3).bind fun o e4 => ofO ((m.get e4).bind fun y => (o.get e4).bind fun z => g y z) e4 := by rfl
@[simp ↓] theorem cMut_e {g : List D → List D → Option (D × List D)} : cMut i g l e = match e.getD i none with | some (.list _) => (l e).bind fun ls e1 => (match e1.getD i none, vals ls with | some (.list ds), some as => (match g ds as with | some (r, ds2) => .ok (.val r) (e1.set i (some (.list ds2))) | none => .st) | _, _ => .st) | _ => .st := by rfl
@[simp ↓] theorem cStore_e : cStore i a b e = (a e).bind fun l e1 => match l with | .val d => (match e1.getD i none with | some _ => (b e1).bind fun m e2 => (match e2.getD i none, m.get e2 with | some (.list ds), some (.int k) => (match ixN ds.length k with | some j => .ok .nx (e2.set i (some (.list (ds.set j d)))) | none => .st) | _, _ => .st) | none => .st) | _ => .st := by rfl
@[simp ↓] theorem cVar_e : cVar i e = match e.getD i none with | some d => .ok (.val d) e | none => .st := by rfl
@[simp ↓] theorem cPlc_e : cPlc i e = match e.getD i none with | some _ => .ok (.plc i) e | none => .st := by rfl
@[simp ↓] theorem cOwnV_e : cOwnV i e = match e.getD i none with | some _ => .ok (.own i) e | none => .st := by rfl
@[simp ↓] theorem cMove_e : cMove i e = match e.getD i none with | some d => .ok d (e.set i none) | none => .st := by rfl
@[simp ↓] theorem get_val : Lv.get (.val x) e = some x := by rfl
@[simp ↓] theorem get_plc : Lv.get (.plc i) e = e.getD i none := by rfl
@[simp ↓] theorem get_own : Lv.get (.own i) e = none := by rfl
@[simp ↓] theorem getA_val : Lv.getA (.val x) e = some x := by rfl
@[simp ↓] theorem getA_plc : Lv.getA (.plc i) e = e.getD i none := by rfl
@[simp ↓] theorem getA_own : Lv.getA (.own i) e = e.getD i none := by rfl
@[simp ↓] theorem slot_val : Lv.slot (.val x) = none := by rfl
@[simp ↓] theorem slot_plc : Lv.slot (.plc i) = some i := by rfl
@[simp ↓] theorem slot_own : Lv.slot (.own i) = some i := by rfl
@[simp ↓] theorem vals_nil : vals [] = some [] := by rfl
@[simp ↓] theorem vals_val {ls : List Lv} : vals (.val x :: ls) = (vals ls).map (x :: ·) := by rfl
@[simp ↓] theorem gets_nil : gets [] e = some [] := by rfl
@[simp ↓] theorem gets_cons {v : Lv} {ls : List Lv} : gets (v :: ls) e = (v.get e).bind fun d => (gets ls e).map (d :: ·) := by rfl
@[simp ↓] theorem getsA_nil : getsA [] e = some [] := by rfl
@[simp ↓] theorem getsA_cons {v : Lv} {ls : List Lv} : getsA (v :: ls) e = (v.getA e).bind fun d => (getsA ls e).map (d :: ·) := by rfl
@[simp ↓] theorem obind_some {γ : Type} {v : α} {f : α → Option γ} : (some v).bind f = f v := by rfl
@[simp ↓] theorem obind_none {γ : Type} {f : α → Option γ} : (none : Option α).bind f = none := by rfl
@[simp ↓] theorem omap_some {γ : Type} {v : α} {f : α → γ} : (some v).map f = some (f v) := by rfl
@[simp ↓] theorem nvd_sc : NV.d (.sc x) = x := by rfl
@[simp ↓] theorem nvd_nl {ds : List D} : NV.d (.nl ds) = .list ds := by rfl
@[simp ↓] theorem nvd_nt {ds : List D} : NV.d (.nt ds) = .tuple ds := by rfl
@[simp ↓] theorem cCall_e {modes : List Sh} {ks : List (Option Nat)} {rsh : Sh} {m : List D → FR} {dd : List D} : cCall modes ks rsh m dd l e = (l e).bind fun ls e1 => if ls.map Lv.slot = ks then (match getsA ls e1 with | none => .st | some ds => (match m (ds ++ dd) with | .ok r outs => if (!borrows modes ks || (indep rsh r && indeps modes outs)) = true then .ok r (putB modes ks outs e1) else .st | .ex x outs => if (!borrows modes ks || indeps modes outs) = true then .ex x (putB modes ks outs e1) else .st | .st => .st)) else .st := by rfl
@[simp ↓] theorem runF_e {rz : Bool} {ds : List D} : runF rz p k i ds = match p (ds.map some ++ List.replicate (i - k) none) with | .ok (.rt d) e => .ok d (outsOf k e) | .ok .nx e => (if rz = true then .ok .none (outsOf k e) else .st) | .ok .bk _ => .st | .ok .ct _ => .st | .ex x e => .ex x (outsOf k e) | .st => .st := by rfl
@[simp ↓] theorem forL_nil {g : D → Env → Option Env} : forL g p [] e = .ok .nx e := by rfl
@[simp ↓] theorem dAdd_ii {i j : Int} : dAdd (.int i) (.int j) = some (.sc (.int (i + j))) := by rfl
@[simp ↓] theorem dSub_ii {i j : Int} : dSub (.int i) (.int j) = some (.sc (.int (i - j))) := by rfl
@[simp ↓] theorem dLt_ii {i j : Int} : dLt (.int i) (.int j) = some (.sc (.bool (decide (i < j)))) := by rfl
@[simp ↓] theorem dLe_ii {i j : Int} : dLe (.int i) (.int j) = some (.sc (.bool (decide (i ≤ j)))) := by rfl
@[simp ↓] theorem dGt_ii {i j : Int} : dGt (.int i) (.int j) = some (.sc (.bool (decide (j < i)))) := by rfl
@[simp ↓] theorem dGe_ii {i j : Int} : dGe (.int i) (.int j) = some (.sc (.bool (decide (j ≤ i)))) := by rfl
@[simp ↓] theorem dEq_ii {i j : Int} : dEq (.int i) (.int j) = some (.sc (.bool (decide (i = j)))) := by rfl
@[simp ↓] theorem dNe_ii {i j : Int} : dNe (.int i) (.int j) = some (.sc (.bool (!decide (i = j)))) := by rfl
@[simp ↓] theorem dMul_ii {i j : Int} : dMul (.int i) (.int j) = if (small i || small j) = true then some (.sc (.int (i * j))) else none := by rfl
@[simp ↓] theorem dDiv_ii {i j : Int} : dDiv (.int i) (.int j) = if (decide (0 < j) && decide (j < 1073741824)) = true then some (.sc (.int (i / j))) else none := by rfl
@[simp ↓] theorem dMod_ii {i j : Int} : dMod (.int i) (.int j) = if decide (0 < j) = true then some (.sc (.int (i % j))) else none := by rfl
@[simp ↓] theorem dPow_ii {i j : Int} : dPow (.int i) (.int j) = if (decide (0 ≤ j) && decide (j ≤ 1000) && decide (i.natAbs < 2 ^ 64)) = true then some (.sc (.int (i ^ j.toNat))) else none := by rfl
@[simp ↓] theorem dAdd_ss {v w : Str} : dAdd (.str v) (.str w) = if fits (v.length + w.length) = true then some (.sc (.str (v ++ w))) else none := by rfl
@[simp ↓] theorem dAdd_ll {v w : List D} : dAdd (.list v) (.list w) = if fits (v.length + w.length) = true then some (.nl (v ++ w)) else none := by rfl
@[simp ↓] theorem dIx_l {v : List D} {j : Int} : dIx (.list v) (.int j) = (atI v j).map .sc := by rfl
@[simp ↓] theorem dIx_t {v : List D} {j : Int} : dIx (.tuple v) (.int j) = (atI v j).map .sc := by rfl
@[simp ↓] theorem dLen_l {v : List D} : dLen [.list v] = some (.sc (.int v.length)) := by rfl
@[simp ↓] theorem dLen_t {v : List D} : dLen [.tuple v] = some (.sc (.int v.length)) := by rfl
@[simp ↓] theorem dLen_s {v : Str} : dLen [.str v] = if fits v.length = true then some (.sc (.int v.length)) else none := by rfl
@[simp ↓] theorem dAbs_i {j : Int} : dAbs [.int j] = some (.sc (.int (if j < 0 then -j else j))) := by rfl
@[simp ↓] theorem dIntOf_i {j : Int} : dIntOf [.int j] = some (.sc (.int j)) := by rfl
@[simp ↓] theorem dIntOf_b {v : Bool} : dIntOf [.bool v] = some (.sc (.int (if v then 1 else 0))) := by rfl
@[simp ↓] theorem dList_l {v : List D} : dList [.list v] = some (.nl v) := by rfl
@[simp ↓] theorem dList_t {v : List D} : dList [.tuple v] = some (.nl v) := by rfl
@[simp ↓] theorem dTuple_l {v : List D} : dTuple [.list v] = some (.nt v) := by rfl
@[simp ↓] theorem dStr_i {j : Int} : dStrOf [.int j] = if j.natAbs.log2 < 1920 then some (.sc (.str (toString j))) else none := by rfl
@[simp ↓] theorem dStr_s {v : Str} : dStrOf [.str v] = some (.sc (.str v)) := by rfl
@[simp ↓] theorem dNeg_i {j : Int} : dNeg (.int j) = some (.sc (.int (-j))) := by rfl
@[simp ↓] theorem dBool_b {v : Bool} : dBool (.bool v) = some v := by rfl
@[simp ↓] theorem dInt_i {v : Int} : dInt (.int v) = some v := by rfl
@[simp ↓] theorem dTru_b {v : Bool} : dTru (.bool v) = some v := by rfl
@[simp ↓] theorem dTru_i {j : Int} : dTru (.int j) = some (j != 0) := by rfl
@[simp ↓] theorem dTru_l {v : List D} : dTru (.list v) = some (!v.isEmpty) := by rfl
@[simp ↓] theorem dTru_n : dTru .none = some false := by rfl
@[simp ↓] theorem dTru_t {v : List D} : dTru (.tuple v) = some (!v.isEmpty) := by rfl
@[simp ↓] theorem seqOf_l {v : List D} : seqOf (.list v) = some v := by rfl
@[simp ↓] theorem seqOf_t {v : List D} : seqOf (.tuple v) = some v := by rfl
@[simp ↓] theorem dIs_n : dIs .none .none = some (.sc (.bool true)) := by rfl
@[simp ↓] theorem dIs_i {j : Int} : dIs (.int j) .none = some (.sc (.bool false)) := by rfl
@[simp ↓] theorem dIs_b {j : Bool} : dIs (.bool j) .none = some (.sc (.bool false)) := by rfl
@[simp ↓] theorem dIs_l {j : List D} : dIs (.list j) .none = some (.sc (.bool false)) := by rfl
@[simp ↓] theorem dIs_t {j : List D} : dIs (.tuple j) .none = some (.sc (.bool false)) := by rfl
@[simp ↓] theorem dIs_s {j : Str} : dIs (.str j) .none = some (.sc (.bool false)) := by rfl
@[simp ↓] theorem gApp_e {ds : List D} : gApp ds [x] = if fits (ds.length + 1) = true then some (.none, ds ++ [x]) else none := by rfl
end
theorem getD_z {e : Env} {v : Option D} : List.getD (v :: e) 0 none = v := rfl
theorem getD_s {e : Env} {v : Option D} {i : Nat} : List.getD (v :: e) (i + 1) none = e.getD i none := rfl

theorem ixN_nat {n k : Nat} : ixN n (k : Int) = if k < n then some k else none := by
  unfold ixN
  rw [if_pos (Int.natCast_nonneg k)]
  by_cases h : k < n
  · rw [if_pos h, if_pos (by exact_mod_cast h), Int.toNat_natCast]
  · rw [if_neg h, if_neg (by exact_mod_cast h)]
theorem atI_nat {α : Type} {l : List α} {k : Nat} : atI l (k : Int) = l[k]? := by
  unfold atI
  rw [ixN_nat]
  by_cases h : k < l.length
  · rw [if_pos h]
    rfl
  · rw [if_neg h, List.getElem?_eq_none (Nat.le_of_not_lt h)]
    rfl
@[simp] theorem atI_lit {α : Type} {l : List α} {k : Nat} : atI l (no_index (OfNat.ofNat k)) = l[k]? := atI_nat (k := k)
@[simp] theorem atI_zero {α : Type} {l : List α} : atI l 0 = l[0]? := atI_nat (k := 0)
@[simp] theorem atI_one {α : Type} {l : List α} : atI l 1 = l[1]? := atI_nat (k := 1)
@[simp] theorem ixN_lit {n k : Nat} : ixN n (no_index (OfNat.ofNat k)) = if k < n then some k else none := ixN_nat (k := k)
@[simp] theorem ixN_zero {n : Nat} : ixN n 0 = if 0 < n then some 0 else none := ixN_nat (k := 0)
@[simp] theorem ixN_one {n : Nat} : ixN n 1 = if 1 < n then some 1 else none := ixN_nat (k := 1)
theorem atI_of {α : Type} {l : List α} {i : Int} (h : 0 ≤ i) : atI l i = l[i.toNat]? := by
  obtain ⟨k, rfl⟩ := Int.eq_ofNat_of_zero_le h
  exact atI_nat

/-- a loop that runs through -/
theorem forL_nx {f : D → Env → Option Env} {b : Env → R Fl} (I : Nat → Env → Prop) : ∀ (ds : List D) (k : Nat) (e : Env), I k e → (∀ (j : Nat) d e, ds[j]? = some d → I (k + j) e → ∃ e1, f d e = some e1 ∧ ∃ e2, (b e1 = .ok .nx e2 ∨ b e1 = .ok .ct e2) ∧ I (k + j + 1) e2) → ∃ e2, forL f b ds e = .ok .nx e2 ∧ I (k + ds.length) e2
  | [], k, e, h, _ => ⟨e, rfl, h⟩
  | d :: ds, k, e, h, st => by
    obtain ⟨e1, h1, e2, h2, h3⟩ := st 0 d e rfl h
    obtain ⟨e3, h4, h5⟩ := forL_nx I ds (k + 1) e2 h3 fun j d' e' hd hI => by
      have hI : I (k + (j + 1)) e' := by rw [show k + (j + 1) = k + 1 + j by omega]; exact hI
      have := st (j + 1) d' e' (by simpa using hd) hI
      rw [show k + (j + 1) + 1 = k + 1 + j + 1 by omega] at this
      exact this
    refine ⟨e3, ?_, by rw [show k + (d :: ds).length = k + 1 + ds.length by simp; omega]; exact h5⟩
    unfold forL
    rw [h1]
    rcases h2 with h2 | h2
    · simp only [h2, h4]
    · simp only [h2, h4]
/-- the same with all states known -/
theorem forL_eq {f : D → Env → Option Env} {b : Env → R Fl} (E : Nat → Env) (ds : List D) (st : ∀ (j : Nat) d, ds[j]? = some d → ∃ e1, f d (E j) = some e1 ∧ b e1 = .ok .nx (E (j + 1))) : forL f b ds (E 0) = .ok .nx (E ds.length) := by
  obtain ⟨e2, h1, h2⟩ := forL_nx (fun k e => e = E k) ds 0 (E 0) rfl fun j d e hd hI => by
    rw [Nat.zero_add] at hI
    subst hI
    obtain ⟨e1, h1, h2⟩ := st j d hd
    exact ⟨e1, h1, _, .inl h2, by rw [Nat.zero_add]⟩
  rw [Nat.zero_add] at h2
  rw [h1, h2]
theorem forL_cons_nx {f : D → Env → Option Env} {b : Env → R Fl} {d : D} {ds : List D} {e e1 e2 : Env} (h1 : f d e = some e1) (h2 : b e1 = .ok .nx e2) : forL f b (d :: ds) e = forL f b ds e2 := by
  rw [forL, h1]
  simp only [h2]
theorem intsFrom_get {lo : Int} {n j : Nat} {d : D} (h : (intsFrom lo n)[j]? = some d) : j < n ∧ d = .int (lo + j) := by
  unfold intsFrom at h
  rw [List.getElem?_map] at h
  by_cases hj : j < n
  · rw [List.getElem?_range hj] at h
    exact ⟨hj, (Option.some.inj h).symm⟩
  · rw [List.getElem?_eq_none (by simpa using hj)] at h
    cases h
@[simp] theorem intsFrom_len {lo : Int} {n : Nat} : (intsFrom lo n).length = n := by simp [intsFrom]
/-- [elt for x in .. if ..]: the parts change nothing -/
theorem comp_pure {i : Nat} {t : Env → R Bool} {c : Env → R Lv} {e : Env} (ds : List D) (p : D → Bool) (g : D → D) (hi : i < e.length)
    (ht : ∀ d, d ∈ ds → t (e.set i (some d)) = .ok (p d) (e.set i (some d))) (hc : ∀ d, d ∈ ds → p d = true → c (e.set i (some d)) = .ok (.val (g d)) (e.set i (some d))) :
    ∃ v, compL [i] (fSet i) t c ds e = .ok ((ds.filter p).map g) (e.set i v) := by
  have go : ∀ (ds : List D) (v : Option D), (∀ d, d ∈ ds → t (e.set i (some d)) = .ok (p d) (e.set i (some d))) → (∀ d, d ∈ ds → p d = true → c (e.set i (some d)) = .ok (.val (g d)) (e.set i (some d))) →
      ∃ v', compL [i] (fSet i) t c ds (e.set i v) = .ok ((ds.filter p).map g) (e.set i v') := by
    intro ds
    induction ds with
    | nil => intro v _ _; exact ⟨v, rfl⟩
    | cons d ds ih =>
      intro v ht hc
      obtain ⟨v', h⟩ := ih (some d) (fun x hx => ht x (List.mem_cons_of_mem _ hx)) (fun x hx => hc x (List.mem_cons_of_mem _ hx))
      have cl : fSet i d (clearE [i] (e.set i v)) = some (e.set i (some d)) := by simp [clearE, fSet]
      have h1 := ht d List.mem_cons_self
      unfold compL
      simp only [cl, h1]
      cases q : p d with
      | false => exact ⟨v', by simp only [h]; rw [List.filter_cons_of_neg (by simp [q])]⟩
      | true => exact ⟨v', by simp only [hc d List.mem_cons_self q, h]; rw [List.filter_cons_of_pos q]; rfl⟩
  obtain ⟨v', h⟩ := go ds (e[i]'hi) ht hc
  rw [List.set_getElem_self] at h
  exact ⟨v', h⟩
theorem cComp_pure {i : Nat} {ci : Env → R (List D)} {t : Env → R Bool} {c : Env → R Lv} {e0 e : Env} (ds : List D) (p : D → Bool) (g : D → D) (hci : ci e0 = .ok ds e) (hf : fits ds.length = true) (hi : i < e.length)
    (ht : ∀ d, d ∈ ds → t (e.set i (some d)) = .ok (p d) (e.set i (some d))) (hc : ∀ d, d ∈ ds → p d = true → c (e.set i (some d)) = .ok (.val (g d)) (e.set i (some d))) :
    cComp [i] ci (fSet i) t c e0 = .ok (.nl ((ds.filter p).map g)) e := by
  obtain ⟨v, h⟩ := comp_pure ds p g hi ht hc
  unfold cComp
  rw [hci, bind_e]
  simp only [hf, if_true, h]
  have : restoreE [i] e (e.set i v) = e := by
    show (e.set i v).set i (e.getD i none) = e
    rw [List.set_set, List.getD_eq_getElem?_getD, List.getElem?_eq_getElem hi, Option.getD_some, List.set_getElem_self]
  rw [this]
/-- .. without a condition -/
theorem cComp_map {i : Nat} {ci : Env → R (List D)} {c : Env → R Lv} {e0 e : Env} (ds : List D) (g : D → D) (hci : ci e0 = .ok ds e) (hf : fits ds.length = true) (hi : i < e.length)
    (hc : ∀ d, d ∈ ds → c (e.set i (some d)) = .ok (.val (g d)) (e.set i (some d))) : cComp [i] ci (fSet i) cYes c e0 = .ok (.nl (ds.map g)) e := by
  have := cComp_pure (t := cYes) ds (fun _ => true) g hci hf hi (fun d _ => rfl) (fun d hd _ => hc d hd)
  rw [this, List.filter_eq_self.mpr (fun _ _ => rfl)]
theorem fits_le {n : Nat} (h : n ≤ 16777216) : fits n = true := by
  rw [fits_iff, sizeLine_eq]
  exact h

section
variable {p q : Env → R Fl} {e e1 : Env} {d : D} {x : Exc}
theorem seq_nx (h : p e = .ok .nx e1) : cSeq p q e = q e1 := by rw [cSeq_e, h]
theorem seq_rt (h : p e = .ok (.rt d) e1) : cSeq p q e = .ok (.rt d) e1 := by rw [cSeq_e, h]
theorem seq_ex (h : p e = .ex x e1) : cSeq p q e = .ex x e1 := by rw [cSeq_e, h]
theorem seq_bk (h : p e = .ok .bk e1) : cSeq p q e = .ok .bk e1 := by rw [cSeq_e, h]
theorem seq_ct (h : p e = .ok .ct e1) : cSeq p q e = .ok .ct e1 := by rw [cSeq_e, h]
theorem if_t {α : Type} {t : Env → R Bool} {f g : Env → R α} (h : t e = .ok true e1) : cIf t f g e = f e1 := by rw [cIf_e, h, bind_e]
theorem if_f {α : Type} {t : Env → R Bool} {f g : Env → R α} (h : t e = .ok false e1) : cIf t f g e = g e1 := by rw [cIf_e, h, bind_e]
theorem for_it {f : Env → R (List D)} {g : D → Env → Option Env} {ds : List D} (h : f e = .ok ds e1) : cFor f g p e = forL g p ds e1 := by rw [cFor_e, h, bind_e]
theorem for_nx {f : Env → R (List D)} {g : D → Env → Option Env} {ds : List D} {e2 : Env} (h : f e = .ok ds e1) (hl : forL g p ds e1 = .ok .nx e2) : cFor f g p e = .ok .nx e2 := by rw [for_it h, hl]
theorem run_ok {rz : Bool} {n i : Nat} {ds : List D} {env : Env} {outs : List D} (h : p env = .ok (.rt d) e) (he : ds.map some ++ List.replicate (i - n) none = env := by rfl) (ho : outsOf n e = outs := by rfl) : runF rz p n i ds = .ok d outs := by subst he ho; rw [runF_e, h]
theorem run_exc {rz : Bool} {n i : Nat} {ds : List D} {env : Env} {outs : List D} (h : p env = .ex x e) (he : ds.map some ++ List.replicate (i - n) none = env := by rfl) (ho : outsOf n e = outs := by rfl) : runF rz p n i ds = .ex x outs := by subst he ho; rw [runF_e, h]
theorem run_rt {rz : Bool} {n i : Nat} {ds : List D} (h : p (ds.map some ++ List.replicate (i - n) none) = .ok (.rt d) e) : runF rz p n i ds = .ok d (outsOf n e) := by rw [runF_e, h]
theorem run_ex {rz : Bool} {n i : Nat} {ds : List D} (h : p (ds.map some ++ List.replicate (i - n) none) = .ex x e) : runF rz p n i ds = .ex x (outsOf n e) := by rw [runF_e, h]
theorem run_nx {n i : Nat} {ds : List D} (h : p (ds.map some ++ List.replicate (i - n) none) = .ok .nx e) : runF true p n i ds = .ok .none (outsOf n e) := by rw [runF_e, h]; rfl
theorem and_t {s t : Env → R Bool} (h : s e = .ok true e1) : cAnd s t e = t e1 := by rw [cAnd_e, h, bind_e]
theorem and_f {s t : Env → R Bool} (h : s e = .ok false e1) : cAnd s t e = .ok false e1 := by rw [cAnd_e, h, bind_e]
theorem or_t {s t : Env → R Bool} (h : s e = .ok true e1) : cOr s t e = .ok true e1 := by rw [cOr_e, h, bind_e]
theorem or_f {s t : Env → R Bool} (h : s e = .ok false e1) : cOr s t e = t e1 := by rw [cOr_e, h, bind_e]
theorem not_ok {s : Env → R Bool} {b : Bool} (h : s e = .ok b e1) : cNot s e = .ok (!b) e1 := by rw [cNot_e, h, bind_e]
end
end DL

/-! What every law's own helpers compute. -/
namespace DL
open PySem PySem.Spec PyProof.Rows L2
namespace Lib
def b__law_pool : Env → R Fl :=
 cRetO (cOwn (cLst (cCons (cFrz (cB dList (cCons (cVar 0) (cNil)))) (cCons (cK (.int 0)) (cCons (cK (.int 0)) (cCons (cK (.int 0)) (cCons (cK (.int 0)) (cNil))))))))
def m__law_pool : List D → FR := runF false b__law_pool 1 1
def s0__law_draw : Env → R Fl :=
 cIf (cTst (c2 dGt (cFrz (c2 dIx (cPlc 0) (cK (.int 2)))) (cK (.int 0)))) (cSeq (cAsg (cFrz (c2 dMod (cFrz (cB dIntOf (cCons (cFrz (c2 dIx (cPlc 0) (cK (.int 2)))) (cNil)))) (cVar 1))) (fSet 2))
 (cSeq (cStore 0 (cFrz (c2 dDiv (cFrz (c2 dIx (cPlc 0) (cK (.int 2)))) (cVar 1))) (cK (.int 2)))
 (cRet (cVar 2)))) (cNx)
def s1__law_draw : Env → R Fl :=
 cIf (cAnd (cTst (c2 dEq (cFrz (c2 dMod (cFrz (cB dIntOf (cCons (cFrz (c2 dIx (cPlc 0) (cK (.int 4)))) (cNil)))) (cK (.int 8)))) (cK (.int 0)))) (cTst (c2 dLt (cFrz (c2 dIx (cPlc 0) (cK (.int 1)))) (cFrz (cB dLen (cCons (cFrz (c2 dIx (cPlc 0) (cK (.int 0)))) (cNil))))))) (cSeq (cAsg (cFrz (cB dAbs (cCons (cFrz (c2 dIx (cFrz (c2 dIx (cPlc 0) (cK (.int 0)))) (cFrz (c2 dIx (cPlc 0) (cK (.int 1)))))) (cNil)))) (fSet 3))
 (cSeq (cStore 0 (cFrz (c2 dAdd (cFrz (c2 dIx (cPlc 0) (cK (.int 1)))) (cK (.int 1)))) (cK (.int 1)))
 (cSeq (cIf (cTst (c2 dGe (cVar 3) (cFrz (c2 dPow (cK (.int 10)) (cK (.int 18)))))) (cSeq (cStore 0 (cFrz (c2 dDiv (cVar 3) (cVar 1))) (cK (.int 2)))
 (cRet (cFrz (c2 dMod (cFrz (cB dIntOf (cCons (cVar 3) (cNil)))) (cVar 1))))) (cNx))
 (cStore 0 (cVar 3) (cK (.int 3)))))) (cNx)
def s2__law_draw : Env → R Fl :=
 cStore 0 (cFrz (c2 dAdd (cFrz (c2 dIx (cPlc 0) (cK (.int 4)))) (cK (.int 1)))) (cK (.int 4))
def s3__law_draw : Env → R Fl :=
 cAsg (cFrz (c2 dMod (cFrz (cB dIntOf (cCons (cFrz (c2 dAdd (cFrz (c2 dAdd (cFrz (c2 dMul (cFrz (c2 dIx (cPlc 0) (cK (.int 3)))) (cK (.int 48271)))) (cFrz (c2 dMul (cFrz (c2 dIx (cPlc 0) (cK (.int 4)))) (cK (.int 69621)))))) (cK (.int 7919)))) (cNil)))) (cK (.int 2147483647)))) (fSet 4)
def s4__law_draw : Env → R Fl :=
 cAsg (cFrz (c2 dMod (cFrz (cB dIntOf (cCons (cFrz (c2 dAdd (cFrz (c2 dMul (cVar 4) (cVar 4))) (cFrz (c2 dMul (cFrz (c2 dIx (cPlc 0) (cK (.int 4)))) (cK (.int 40692)))))) (cNil)))) (cK (.int 2147483399)))) (fSet 4)
def s5__law_draw : Env → R Fl :=
 cRet (cFrz (c2 dMod (cFrz (cB dIntOf (cCons (cVar 4) (cNil)))) (cVar 1)))
def b__law_draw : Env → R Fl :=
 cSeq (s0__law_draw)
 (cSeq (s1__law_draw)
 (cSeq (s2__law_draw)
 (cSeq (s3__law_draw)
 (cSeq (s4__law_draw)
 (s5__law_draw)))))
def m__law_draw : List D → FR := runF true b__law_draw 2 5
def b__law_pick : Env → R Fl :=
 cRet (cFrz (c2 dIx (cVar 1) (cMelt (cCall [(.lst .fz), .fz] [some 0, none] .fz m__law_draw [] (cCons (cOwnV 0) (cCons (cFrz (cB dLen (cCons (cVar 1) (cNil)))) (cNil)))))))
def m__law_pick : List D → FR := runF true b__law_pick 2 2
def l0__law_same (rc : List D → FR) : Env → R Fl :=
 cIf (cNot (cTru (cMelt (cCall [.fz, .fz] [none, none] .fz rc [] (cCons (cFrz (c2 dIx (cVar 0) (cVar 2))) (cCons (cFrz (c2 dIx (cVar 1) (cVar 2))) (cNil))))))) (cRet (cK (.bool false))) (cNx)
def s1__law_same : Env → R Fl :=
 cIf (cTst (c2 dIs (cVar 1) (cK .none))) (cRet (cFrz (c2 dIs (cVar 0) (cK .none)))) (cNx)
def s2__law_same (rc : List D → FR) : Env → R Fl :=
 cIf (cTst (cIsi (fun d => ["tuple", "list"].any fun T => isD T d) (cVar 1))) (cSeq (cIf (cOr (cTst (c2 dNe (cFrz (cIsi (isD "tuple") (cVar 1))) (cFrz (cIsi (isD "tuple") (cVar 0))))) (cTst (c2 dNe (cFrz (cIsi (isD "list") (cVar 1))) (cFrz (cIsi (isD "list") (cVar 0)))))) (cRet (cK (.bool false))) (cNx))
 (cSeq (cIf (cTst (c2 dNe (cFrz (cB dLen (cCons (cVar 0) (cNil)))) (cFrz (cB dLen (cCons (cVar 1) (cNil)))))) (cRet (cK (.bool false))) (cNx))
 (cSeq (cFor (cItR1 (cCons (cFrz (cB dLen (cCons (cVar 1) (cNil)))) (cNil))) (fSet 2) (l0__law_same rc))
 (cRet (cK (.bool true)))))) (cNx)
def s3__law_same : Env → R Fl :=
 cIf (cTst (cIsi (isD "bool") (cVar 1))) (cRet (cAndV (cFrz (cIsi (isD "bool") (cVar 0))) (cFrz (c2 dEq (cVar 0) (cVar 1))))) (cNx)
def s4__law_same : Env → R Fl :=
 cIf (cTst (cIsi (isD "int") (cVar 1))) (cRet (cAndV (cFrz (cIsi (isD "int") (cVar 0))) (cAndV (cNotV (cFrz (cIsi (isD "bool") (cVar 0)))) (cFrz (c2 dEq (cVar 0) (cVar 1)))))) (cNx)
def s5__law_same : Env → R Fl :=
 cRet (cAndV (cFrz (cIsi (isD "str") (cVar 0))) (cFrz (c2 dEq (cVar 0) (cVar 1))))
def b__law_same (rc : List D → FR) : Env → R Fl :=
 cSeq (s1__law_same)
 (cSeq (s2__law_same rc)
 (cSeq (s3__law_same)
 (cSeq (s4__law_same)
 (s5__law_same))))
def m__law_same : Nat → List D → FR
  | 0 => fun _ => .st
  | n + 1 => runF true (b__law_same (m__law_same n)) 2 3
end Lib
def poolD (ns : List Int) (p a c t : Int) : D := .list [.list (ns.map .int), .int p, .int a, .int c, .int t]
@[simp] theorem small_lit1 : small 48271 = true := by decide
@[simp] theorem small_lit2 : small 69621 = true := by decide
@[simp] theorem small_lit3 : small 40692 = true := by decide
@[simp] theorem pow18 : dPow (.int 10) (.int 18) = some (.sc (.int 1000000000000000000)) := by rw [dPow_ii]; rfl
theorem draw_s0 {ns : List Int} {p a c t many : Int} (h : 0 < a) (h1 : 0 < many) (h2 : many < 1073741824) :
    Lib.s0__law_draw [some (poolD ns p a c t), some (.int many), none, none, none] = .ok (.rt (.int (a % many))) [some (poolD ns p (a / many) c t), some (.int many), some (.int (a % many)), none, none] := by
  simp [Lib.s0__law_draw, poolD, h, h1, h2]
theorem draw_s0n {ns : List Int} {p a c t many : Int} (h : ¬ 0 < a) :
    Lib.s0__law_draw [some (poolD ns p a c t), some (.int many), none, none, none] = .ok .nx [some (poolD ns p a c t), some (.int many), none, none, none] := by
  simp [Lib.s0__law_draw, poolD, h]
theorem draw_s1a {ns : List Int} {p a c t many z : Int} (ht : t % 8 = 0) (hp : 0 ≤ p) (hz : ns[p.toNat]? = some z) (h1 : 0 < many) (h2 : many < 1073741824) (hc : 1000000000000000000 ≤ (if z < 0 then -z else z)) :
    Lib.s1__law_draw [some (poolD ns p a c t), some (.int many), none, none, none] = .ok (.rt (.int ((if z < 0 then -z else z) % many))) [some (poolD ns (p + 1) ((if z < 0 then -z else z) / many) c t), some (.int many), none, some (.int (if z < 0 then -z else z)), none] := by
  have hl : p < (ns.length : Int) := by
    have := (List.getElem?_eq_some_iff.mp hz).1
    omega
  simp only [Lib.s1__law_draw, poolD]
  simp [ht, hl, atI_of hp, hz, hc, h1, h2]
theorem draw_s1b {ns : List Int} {p a c t many z : Int} (ht : t % 8 = 0) (hp : 0 ≤ p) (hz : ns[p.toNat]? = some z) (hc : ¬ 1000000000000000000 ≤ (if z < 0 then -z else z)) :
    Lib.s1__law_draw [some (poolD ns p a c t), some (.int many), none, none, none] = .ok .nx [some (poolD ns (p + 1) a (if z < 0 then -z else z) t), some (.int many), none, some (.int (if z < 0 then -z else z)), none] := by
  have hl : p < (ns.length : Int) := by
    have := (List.getElem?_eq_some_iff.mp hz).1
    omega
  simp only [Lib.s1__law_draw, poolD]
  simp [ht, hl, atI_of hp, hz, hc]
theorem draw_s1n {ns : List Int} {p a c t many : Int} (h : ¬ (t % 8 = 0 ∧ p < (ns.length : Int))) :
    Lib.s1__law_draw [some (poolD ns p a c t), some (.int many), none, none, none] = .ok .nx [some (poolD ns p a c t), some (.int many), none, none, none] := by
  simp only [Lib.s1__law_draw, poolD]
  by_cases ht : t % 8 = 0
  · have hl : ¬ p < (ns.length : Int) := fun z => h ⟨ht, z⟩
    simp [ht, hl]
  · simp [ht]
theorem draw_rest {ns : List Int} {p a c t many : Int} {x : Option D} (h1 : 0 < many) :
    ∃ r v, cSeq Lib.s2__law_draw (cSeq Lib.s3__law_draw (cSeq Lib.s4__law_draw Lib.s5__law_draw)) [some (poolD ns p a c t), some (.int many), none, x, none] = .ok (.rt (.int (r % many))) [some (poolD ns p a c (t + 1)), some (.int many), none, x, v] := by
  have hs : ∀ m : Int, small (m % 2147483647) = true := fun m => by
    rw [small_iff]
    have := Int.emod_nonneg m (b := 2147483647) (by decide)
    have := Int.emod_lt_of_pos m (b := 2147483647) (by decide)
    omega
  simp [Lib.s2__law_draw, Lib.s3__law_draw, Lib.s4__law_draw, Lib.s5__law_draw, poolD, h1, hs]
  exact ⟨_, rfl⟩
theorem draw_ok (ns : List Int) (p a c t many : Int) (hp : 0 ≤ p) (hl : p ≤ (ns.length : Int)) (h1 : 0 < many) (h2 : many < 1073741824) :
    ∃ r p' a' c' t', Lib.m__law_draw [poolD ns p a c t, .int many] = .ok (.int r) [poolD ns p' a' c' t', .int many] ∧ 0 ≤ r ∧ r < many ∧ 0 ≤ p' ∧ p' ≤ (ns.length : Int) := by
  have mm : ∀ z : Int, 0 ≤ z % many ∧ z % many < many := fun z => ⟨Int.emod_nonneg z (by omega), Int.emod_lt_of_pos z h1⟩
  have st : Lib.m__law_draw [poolD ns p a c t, .int many] = (match Lib.b__law_draw [some (poolD ns p a c t), some (.int many), none, none, none] with | .ok (.rt d) e => .ok d (outsOf 2 e) | .ok .nx e => .ok .none (outsOf 2 e) | .ok .bk _ => .st | .ok .ct _ => .st | .ex x e => .ex x (outsOf 2 e) | .st => .st) := rfl
  rw [st]
  unfold Lib.b__law_draw
  by_cases ha : 0 < a
  · refine ⟨a % many, p, a / many, c, t, ?_, (mm a).1, (mm a).2, hp, hl⟩
    simp [draw_s0 ha h1 h2, outsOf]
  · rw [cSeq_e, draw_s0n ha]
    simp only
    by_cases hb : t % 8 = 0 ∧ p < (ns.length : Int)
    · obtain ⟨z, hz⟩ : ∃ z, ns[p.toNat]? = some z := ⟨ns[p.toNat]'(by omega), List.getElem?_eq_getElem (by omega)⟩
      by_cases hc : 1000000000000000000 ≤ (if z < 0 then -z else z)
      · refine ⟨(if z < 0 then -z else z) % many, p + 1, (if z < 0 then -z else z) / many, c, t, ?_, (mm _).1, (mm _).2, by omega, by omega⟩
        rw [cSeq_e, draw_s1a hb.1 hp hz h1 h2 hc]
        simp [outsOf]
      · rw [cSeq_e, draw_s1b hb.1 hp hz hc]
        simp only
        obtain ⟨r, v, e⟩ := draw_rest (ns := ns) (p := p + 1) (a := a) (c := if z < 0 then -z else z) (t := t) (many := many) (x := some (.int (if z < 0 then -z else z))) h1
        rw [e]
        exact ⟨r % many, p + 1, a, if z < 0 then -z else z, t + 1, by simp [outsOf], (mm _).1, (mm _).2, by omega, by omega⟩
    · rw [cSeq_e, draw_s1n hb]
      simp only
      obtain ⟨r, v, e⟩ := draw_rest (ns := ns) (p := p) (a := a) (c := c) (t := t) (many := many) (x := none) h1
      rw [e]
      exact ⟨r % many, p, a, c, t + 1, by simp [outsOf], (mm _).1, (mm _).2, hp, hl⟩
theorem pool_ok (ns : List Int) : Lib.m__law_pool [.list (ns.map .int)] = .ok (poolD ns 0 0 0 0) [.list (ns.map .int)] := by
  simp [Lib.m__law_pool, Lib.b__law_pool, poolD, outsOf, fits_le]
/-- what _law_same takes -/
def okS : Nat → D → Bool
  | _, .none => true
  | _, .bool _ => true
  | _, .int _ => true
  | _, .str _ => true
  | n + 1, .list ds => decide (ds.length ≤ 16777216) && ds.all (okS n)
  | n + 1, .tuple ds => decide (ds.length ≤ 16777216) && ds.all (okS n)
  | _, _ => false
theorem inR_of {i : Int} (h0 : 0 ≤ i) (h1 : i ≤ 1000000000) : inR i = true := by
  rw [inR_iff]
  omega
theorem dNe_bb (a b : Bool) : dNe (.bool a) (.bool b) = some (.sc (.bool (!(a == b)))) := by cases a <;> cases b <;> rfl
theorem dEq_bb (a b : Bool) : dEq (.bool a) (.bool b) = some (.sc (.bool (a == b))) := by cases a <;> cases b <;> rfl
theorem dEq_ss (a b : Str) : dEq (.str a) (.str b) = some (.sc (.bool (decide (a = b)))) := rfl
theorem dNe_ss (a b : Str) : dNe (.str a) (.str b) = some (.sc (.bool (!decide (a = b)))) := rfl
theorem same_loop {n : Nat} {ds : List D} (x : D) (ih : ∀ d, d ∈ ds → Lib.m__law_same n [d, d] = .ok (.bool true) [d, d]) (hx : ∀ (j : Nat) d, ds[j]? = some d → dIx x (.int (j : Int)) = some (.sc d)) :
    ∃ v, forL (fSet 2) (Lib.l0__law_same (Lib.m__law_same n)) (intsFrom 0 ds.length) [some x, some x, none] = .ok .nx [some x, some x, v] := by
  obtain ⟨e2, h1, h2⟩ := forL_nx (f := fSet 2) (b := Lib.l0__law_same (Lib.m__law_same n)) (fun _ e => ∃ v, e = [some x, some x, v]) (intsFrom 0 ds.length) 0 [some x, some x, none] ⟨_, rfl⟩ fun j d e hd ⟨v, he⟩ => by
    subst he
    obtain ⟨hj, rfl⟩ := intsFrom_get hd
    refine ⟨[some x, some x, some (.int (0 + (j : Int)))], rfl, [some x, some x, some (.int (0 + (j : Int)))], .inl ?_, _, rfl⟩
    have hj2 : ds[j]? = some ds[j] := List.getElem?_eq_getElem hj
    have hi := ih ds[j] (List.getElem_mem hj)
    have hx2 := hx j _ hj2
    rw [Int.zero_add]
    simp [Lib.l0__law_same, hx2, hi, borrows, isFz, putB]
  obtain ⟨v, rfl⟩ := h2
  exact ⟨v, h1⟩
theorem isTL_l {ds : List D} : (["tuple", "list"].any fun T => isD T (.list ds)) = true := by simp [isD, tyD]
theorem isTL_t {ds : List D} : (["tuple", "list"].any fun T => isD T (.tuple ds)) = true := by simp [isD, tyD]
theorem sm0l {ds : List D} (hl : ds.length ≤ 16777216) : inR (ds.length : Int) = true := inR_of (by omega) (by omega)
theorem sm1l {ds : List D} (hr : inR (ds.length : Int) = true) : cItR1 (cCons (cFrz (cB dLen (cCons (cVar 1) cNil))) cNil) [some (.list ds), some (.list ds), none] = .ok (intsFrom 0 ds.length) [some (.list ds), some (.list ds), none] := by
  simp [hr]
theorem sm2l {ds : List D} : (cOr (cTst (c2 dNe (cFrz (cIsi (isD "tuple") (cVar 1))) (cFrz (cIsi (isD "tuple") (cVar 0))))) (cTst (c2 dNe (cFrz (cIsi (isD "list") (cVar 1))) (cFrz (cIsi (isD "list") (cVar 0)))))) [some (.list ds), some (.list ds), none] = .ok false [some (.list ds), some (.list ds), none] := by
  have e1 : isD "tuple" (.list ds) = false := by simp [isD, tyD]
  have e2 : isD "list" (.list ds) = true := by simp [isD, tyD]
  simp [e1, e2, dNe_bb]
theorem sm3l {ds : List D} : Lib.s1__law_same [some (.list ds), some (.list ds), none] = .ok .nx [some (.list ds), some (.list ds), none] := by
  simp [Lib.s1__law_same]
theorem sm4l {ds : List D} : (cTst (cIsi (fun d => ["tuple", "list"].any fun T => isD T d) (cVar 1))) [some (.list ds), some (.list ds), none] = .ok true [some (.list ds), some (.list ds), none] := by
  simp [-List.any_cons, isTL_l]
theorem sm5l {ds : List D} : (cTst (c2 dNe (cFrz (cB dLen (cCons (cVar 0) (cNil)))) (cFrz (cB dLen (cCons (cVar 1) (cNil)))))) [some (.list ds), some (.list ds), none] = .ok false [some (.list ds), some (.list ds), none] := by
  simp
theorem sm6l {n : Nat} {ds : List D} {v : Option D} (hr : inR (ds.length : Int) = true) (lp : forL (fSet 2) (Lib.l0__law_same (Lib.m__law_same n)) (intsFrom 0 ds.length) [some (.list ds), some (.list ds), none] = .ok .nx [some (.list ds), some (.list ds), v]) :
   Lib.s2__law_same (Lib.m__law_same n) [some (.list ds), some (.list ds), none] = .ok (.rt (.bool true)) [some (.list ds), some (.list ds), v] := by
  unfold Lib.s2__law_same
  rw [cIf_e, sm4l, bind_e]
  simp only
  rw [cSeq_e, cIf_e, sm2l, bind_e]
  simp only
  rw [cNx_e]
  simp only
  rw [cSeq_e, cIf_e, sm5l, bind_e]
  simp only
  rw [cNx_e]
  simp only
  rw [cSeq_e, cFor_e, sm1l hr, bind_e]
  simp only
  rw [lp]
  rfl
theorem sm7l {n : Nat} {ds : List D} {v : Option D} (hr : inR (ds.length : Int) = true) (lp : forL (fSet 2) (Lib.l0__law_same (Lib.m__law_same n)) (intsFrom 0 ds.length) [some (.list ds), some (.list ds), none] = .ok .nx [some (.list ds), some (.list ds), v]) :
  Lib.m__law_same (n + 1) [.list ds, .list ds] = .ok (.bool true) [.list ds, .list ds] := by
  have st : Lib.m__law_same (n + 1) [.list ds, .list ds] = runF true (Lib.b__law_same (Lib.m__law_same n)) 2 3 [.list ds, .list ds] := rfl
  rw [st, runF_e]
  show (match Lib.b__law_same (Lib.m__law_same n) [some (.list ds), some (.list ds), none] with | .ok (.rt d) e => FR.ok d (outsOf 2 e) | .ok .nx e => (if true = true then .ok .none (outsOf 2 e) else .st) | .ok .bk _ => .st | .ok .ct _ => .st | .ex x e => .ex x (outsOf 2 e) | .st => .st) = _
  unfold Lib.b__law_same
  rw [cSeq_e, sm3l]
  simp only
  rw [cSeq_e, sm6l hr lp]
  rfl
theorem sm0t {ds : List D} (hl : ds.length ≤ 16777216) : inR (ds.length : Int) = true := inR_of (by omega) (by omega)
theorem sm1t {ds : List D} (hr : inR (ds.length : Int) = true) : cItR1 (cCons (cFrz (cB dLen (cCons (cVar 1) cNil))) cNil) [some (.tuple ds), some (.tuple ds), none] = .ok (intsFrom 0 ds.length) [some (.tuple ds), some (.tuple ds), none] := by
  simp [hr]
theorem sm2t {ds : List D} : (cOr (cTst (c2 dNe (cFrz (cIsi (isD "tuple") (cVar 1))) (cFrz (cIsi (isD "tuple") (cVar 0))))) (cTst (c2 dNe (cFrz (cIsi (isD "list") (cVar 1))) (cFrz (cIsi (isD "list") (cVar 0)))))) [some (.tuple ds), some (.tuple ds), none] = .ok false [some (.tuple ds), some (.tuple ds), none] := by
  have e1 : isD "tuple" (.tuple ds) = true := by simp [isD, tyD]
  have e2 : isD "list" (.tuple ds) = false := by simp [isD, tyD]
  simp [e1, e2, dNe_bb]
theorem sm3t {ds : List D} : Lib.s1__law_same [some (.tuple ds), some (.tuple ds), none] = .ok .nx [some (.tuple ds), some (.tuple ds), none] := by
  simp [Lib.s1__law_same]
theorem sm4t {ds : List D} : (cTst (cIsi (fun d => ["tuple", "list"].any fun T => isD T d) (cVar 1))) [some (.tuple ds), some (.tuple ds), none] = .ok true [some (.tuple ds), some (.tuple ds), none] := by
  simp [-List.any_cons, isTL_t]
theorem sm5t {ds : List D} : (cTst (c2 dNe (cFrz (cB dLen (cCons (cVar 0) (cNil)))) (cFrz (cB dLen (cCons (cVar 1) (cNil)))))) [some (.tuple ds), some (.tuple ds), none] = .ok false [some (.tuple ds), some (.tuple ds), none] := by
  simp
theorem sm6t {n : Nat} {ds : List D} {v : Option D} (hr : inR (ds.length : Int) = true) (lp : forL (fSet 2) (Lib.l0__law_same (Lib.m__law_same n)) (intsFrom 0 ds.length) [some (.tuple ds), some (.tuple ds), none] = .ok .nx [some (.tuple ds), some (.tuple ds), v]) :
   Lib.s2__law_same (Lib.m__law_same n) [some (.tuple ds), some (.tuple ds), none] = .ok (.rt (.bool true)) [some (.tuple ds), some (.tuple ds), v] := by
  unfold Lib.s2__law_same
  rw [cIf_e, sm4t, bind_e]
  simp only
  rw [cSeq_e, cIf_e, sm2t, bind_e]
  simp only
  rw [cNx_e]
  simp only
  rw [cSeq_e, cIf_e, sm5t, bind_e]
  simp only
  rw [cNx_e]
  simp only
  rw [cSeq_e, cFor_e, sm1t hr, bind_e]
  simp only
  rw [lp]
  rfl
theorem sm7t {n : Nat} {ds : List D} {v : Option D} (hr : inR (ds.length : Int) = true) (lp : forL (fSet 2) (Lib.l0__law_same (Lib.m__law_same n)) (intsFrom 0 ds.length) [some (.tuple ds), some (.tuple ds), none] = .ok .nx [some (.tuple ds), some (.tuple ds), v]) :
  Lib.m__law_same (n + 1) [.tuple ds, .tuple ds] = .ok (.bool true) [.tuple ds, .tuple ds] := by
  have st : Lib.m__law_same (n + 1) [.tuple ds, .tuple ds] = runF true (Lib.b__law_same (Lib.m__law_same n)) 2 3 [.tuple ds, .tuple ds] := rfl
  rw [st, runF_e]
  show (match Lib.b__law_same (Lib.m__law_same n) [some (.tuple ds), some (.tuple ds), none] with | .ok (.rt d) e => FR.ok d (outsOf 2 e) | .ok .nx e => (if true = true then .ok .none (outsOf 2 e) else .st) | .ok .bk _ => .st | .ok .ct _ => .st | .ex x e => .ex x (outsOf 2 e) | .st => .st) = _
  unfold Lib.b__law_same
  rw [cSeq_e, sm3t]
  simp only
  rw [cSeq_e, sm6t hr lp]
  rfl
theorem same_list {n : Nat} {ds : List D} (ih : ∀ d, d ∈ ds → Lib.m__law_same n [d, d] = .ok (.bool true) [d, d]) (hl : ds.length ≤ 16777216) : Lib.m__law_same (n + 1) [.list ds, .list ds] = .ok (.bool true) [.list ds, .list ds] := by
  obtain ⟨v, lp⟩ := same_loop (.list ds) ih fun j d hd => by rw [dIx_l, atI_nat, hd]; rfl
  exact sm7l (sm0l hl) lp
theorem same_tup {n : Nat} {ds : List D} (ih : ∀ d, d ∈ ds → Lib.m__law_same n [d, d] = .ok (.bool true) [d, d]) (hl : ds.length ≤ 16777216) : Lib.m__law_same (n + 1) [.tuple ds, .tuple ds] = .ok (.bool true) [.tuple ds, .tuple ds] := by
  obtain ⟨v, lp⟩ := same_loop (.tuple ds) ih fun j d hd => by rw [dIx_t, atI_nat, hd]; rfl
  exact sm7t (sm0l hl) lp
theorem same_ok : ∀ (n : Nat) (d : D), okS n d = true → Lib.m__law_same (n + 1) [d, d] = .ok (.bool true) [d, d]
  | n, .none, _ => by simp [Lib.m__law_same, Lib.b__law_same, Lib.s1__law_same, outsOf]
  | n, .bool b, _ => by simp [Lib.m__law_same, Lib.b__law_same, Lib.s1__law_same, Lib.s2__law_same, Lib.s3__law_same, isD, tyD, dEq_bb, outsOf]
  | n, .int i, _ => by simp [Lib.m__law_same, Lib.b__law_same, Lib.s1__law_same, Lib.s2__law_same, Lib.s3__law_same, Lib.s4__law_same, isD, tyD, outsOf]
  | n, .str x, _ => by
    have : dIs (.str x) .none = some (.sc (.bool false)) := rfl
    simp [Lib.m__law_same, Lib.b__law_same, Lib.s1__law_same, Lib.s2__law_same, Lib.s3__law_same, Lib.s4__law_same, Lib.s5__law_same, isD, tyD, dEq_ss, outsOf, this]
  | n + 1, .list ds, h => by
    rw [okS, Bool.and_eq_true, decide_eq_true_iff, List.all_eq_true] at h
    exact same_list (fun d hd => same_ok n d (h.2 d hd)) h.1
  | n + 1, .tuple ds, h => by
    rw [okS, Bool.and_eq_true, decide_eq_true_iff, List.all_eq_true] at h
    exact same_tup (fun d hd => same_ok n d (h.2 d hd)) h.1
  | 0, .list ds, h => by cases h
  | 0, .tuple ds, h => by cases h
  | 0, .dict ds, h => by cases h
  | n + 1, .dict ds, h => by cases h
theorem pick_ok (ns : List Int) (p a c t : Int) (ds : List D) (hp : 0 ≤ p) (hl : p ≤ (ns.length : Int)) (h1 : 0 < ds.length) (h2 : ds.length < 1073741824) :
    ∃ (k : Nat) (d : D) (p' a' c' t' : Int), ds[k]? = some d ∧ Lib.m__law_pick [poolD ns p a c t, .list ds] = .ok d [poolD ns p' a' c' t', .list ds] ∧ 0 ≤ p' ∧ p' ≤ (ns.length : Int) := by
  obtain ⟨r, p', a', c', t', e, r0, r1, p0, p1⟩ := draw_ok ns p a c t ds.length hp hl (by omega) (by omega)
  obtain ⟨k, rfl⟩ := Int.eq_ofNat_of_zero_le r0
  have hk : k < ds.length := by omega
  have hd : ds[k]? = some ds[k] := List.getElem?_eq_getElem hk
  refine ⟨k, ds[k], p', a', c', t', hd, ?_, p0, p1⟩
  have e' : Lib.m__law_draw [poolD ns p a c t, .int (ds.length : Int)] = .ok (.int (k : Int)) [poolD ns p' a' c' t', .int (ds.length : Int)] := e
  simp [Lib.m__law_pick, Lib.b__law_pick, e', borrows, isFz, putB, atI_nat, hd, outsOf]
/-! ### the helpers called -/
theorem draw_call {e e1 : Env} {i : Nat} {A : Env → R Lv} {ns : List Int} {p a c t many : Int} (hi : e.getD i none = some (poolD ns p a c t)) (hA : A e = .ok (.val (.int many)) e1) (hi1 : e1.getD i none = some (poolD ns p a c t)) (hp : 0 ≤ p) (hl : p ≤ (ns.length : Int)) (h1 : 0 < many) (h2 : many < 1073741824) :
    ∃ r p' a' c' t', cCall [(.lst .fz), .fz] [some i, none] .fz Lib.m__law_draw [] (cCons (cOwnV i) (cCons A cNil)) e = .ok (.int r) (e1.set i (some (poolD ns p' a' c' t'))) ∧ 0 ≤ r ∧ r < many ∧ 0 ≤ p' ∧ p' ≤ (ns.length : Int) := by
  obtain ⟨r, p', a', c', t', h, r0, r1, q0, q1⟩ := draw_ok ns p a c t many hp hl h1 h2
  refine ⟨r, p', a', c', t', ?_, r0, r1, q0, q1⟩
  rw [cCall_e, cCons_e, cOwnV_e, hi]
  simp only [bind_e, cCons_e, hA, cNil_e]
  rw [List.getD_eq_getElem?_getD] at hi1
  simp [hi1, h, borrows, isFz, putB]
theorem pick_call {e e1 : Env} {i : Nat} {A : Env → R Lv} {ns : List Int} {p a c t : Int} {ds : List D} (hi : e.getD i none = some (poolD ns p a c t)) (hA : A e = .ok (.val (.list ds)) e1) (hi1 : e1.getD i none = some (poolD ns p a c t)) (hp : 0 ≤ p) (hl : p ≤ (ns.length : Int)) (h1 : 0 < ds.length) (h2 : ds.length < 1073741824) :
    ∃ (k : Nat) (d : D) (p' a' c' t' : Int), ds[k]? = some d ∧ cCall [(.lst .fz), .fz] [some i, none] .fz Lib.m__law_pick [] (cCons (cOwnV i) (cCons A cNil)) e = .ok d (e1.set i (some (poolD ns p' a' c' t'))) ∧ 0 ≤ p' ∧ p' ≤ (ns.length : Int) := by
  obtain ⟨k, d, p', a', c', t', hd, h, q0, q1⟩ := pick_ok ns p a c t ds hp hl h1 h2
  refine ⟨k, d, p', a', c', t', hd, ?_, q0, q1⟩
  rw [cCall_e, cCons_e, cOwnV_e, hi]
  simp only [bind_e, cCons_e, hA, cNil_e]
  rw [List.getD_eq_getElem?_getD] at hi1
  simp [hi1, h, borrows, isFz, putB]
theorem pool_call {e e1 : Env} {A : Env → R Lv} {ns : List Int} (hA : A e = .ok (.val (.list (ns.map .int))) e1) : cCall [.fz] [none] (.lst .fz) Lib.m__law_pool [] (cCons A cNil) e = .ok (poolD ns 0 0 0 0) e1 := by
  rw [cCall_e, cCons_e, hA]
  simp [pool_ok, borrows, isFz, putB]
theorem same_call {e e1 e2 : Env} {A B : Env → R Lv} {d : D} {k : Nat} (hA : A e = .ok (.val d) e1) (hB : B e1 = .ok (.val d) e2) (hd : okS k d = true) : cCall [.fz, .fz] [none, none] .fz (Lib.m__law_same (k + 1)) [] (cCons A (cCons B cNil)) e = .ok (.bool true) e2 := by
  have h := same_ok k d hd
  rw [cCall_e, cCons_e, hA, bind_e]
  simp only [cCons_e, hB, bind_e, cNil_e]
  simp [h, borrows, isFz, putB]
/-- not _law_same(..), as a test -/
theorem same_not {e e1 e2 : Env} {A B : Env → R Lv} {d : D} {k : Nat} (hA : A e = .ok (.val d) e1) (hB : B e1 = .ok (.val d) e2) (hd : okS k d = true) : cNot (cTru (cMelt (cCall [.fz, .fz] [none, none] .fz (Lib.m__law_same (k + 1)) [] (cCons A (cCons B cNil))))) e = .ok false e2 := by
  rw [cNot_e, cTru_e, cMelt_e, same_call hA hB hd]
  simp
/-- a def's call whose parameters are all frozen -/
theorem call1 {e e1 : Env} {A : Env → R Lv} {x r : D} {m : List D → FR} {outs : List D} {rsh : Sh} (hA : A e = .ok (.val x) e1) (hm : m [x] = .ok r outs) : cCall [.fz] [none] rsh m [] (cCons A cNil) e = .ok r (putB [.fz] [none] outs e1) := by
  rw [cCall_e, cCons_e, hA]
  simp [hm, borrows, isFz]
theorem putB_fz : ∀ {ms : List Sh} {ks : List (Option Nat)} {ds : List D} {e : Env}, (∀ m ∈ ms, m = .fz) → putB ms ks ds e = e
  | [], _, _, _, _ => by simp [putB]
  | _ :: _, [], _, _, _ => by simp [putB]
  | _ :: _, _ :: _, [], _, _ => by simp [putB]
  | m :: ms, k :: ks, d :: ds, e, h => by
    have hm := h m List.mem_cons_self
    subst hm
    unfold putB
    rw [putB_fz fun m hm => h m (List.mem_cons_of_mem _ hm)]
    rfl

/-! ### lists of ints as data -/
theorem eqv_ints : ∀ a b : List Int, PyData.eqvAll (a.map .int) (b.map .int) = decide (a = b)
  | [], [] => rfl
  | [], _ :: _ => rfl
  | _ :: _, [] => rfl
  | x :: a, y :: b => by
    show (PyData.eqv (.int x) (.int y) && PyData.eqvAll (a.map .int) (b.map .int)) = decide (x :: a = y :: b)
    rw [eqv_ints a b]
    have : PyData.eqv (.int x) (.int y) = decide (x = y) := rfl
    rw [this]
    simp
theorem plain_ints : ∀ a : List Int, PyData.plainAll (a.map .int) = true
  | [] => rfl
  | x :: a => by
    show (PyData.plain (.int x) && PyData.plainAll (a.map .int)) = true
    rw [plain_ints a]
    rfl
theorem shaped_ints (a : List Int) : dShaped (.list (a.map .int)) = true := by
  show (PyData.plainAll (a.map .int) && decide (PyData.depthAll (a.map .int) + 1 ≤ 64)) = true
  rw [plain_ints, PySem.W.depth_ints]
  rfl
theorem dEq_ints (a b : List Int) : dEq (.list (a.map .int)) (.list (b.map .int)) = some (.sc (.bool (decide (a = b)))) := by
  show (if (dShaped (.list (a.map .int)) && dShaped (.list (b.map .int))) = true then some (NV.sc (.bool (PyData.eqvAll (a.map .int) (b.map .int)))) else none) = _
  rw [shaped_ints, shaped_ints, eqv_ints]
  rfl
theorem dNe_ints (a b : List Int) : dNe (.list (a.map .int)) (.list (b.map .int)) = some (.sc (.bool (!decide (a = b)))) := by
  show (if (dShaped (.list (a.map .int)) && dShaped (.list (b.map .int))) = true then some (NV.sc (.bool (!PyData.eqvAll (a.map .int) (b.map .int)))) else none) = _
  rw [shaped_ints, shaped_ints, eqv_ints]
  rfl
theorem okSort_rows {f : List (List Int)} (hf : f.length ≤ 16777216) : okSort (f.map fun r => .list (r.map .int)) = true := by
  unfold okSort
  rw [Bool.and_eq_true, Bool.and_eq_true, Bool.and_eq_true]
  refine ⟨⟨⟨?_, ?_⟩, fits_le (by simpa using hf)⟩, ?_⟩
  · unfold likes
    rw [List.all_eq_true]
    intro d hd
    rw [List.all_eq_true]
    intro d' hd'
    obtain ⟨r, _, rfl⟩ := List.mem_map.mp hd
    obtain ⟨r', _, rfl⟩ := List.mem_map.mp hd'
    simp only [PySem.W.alike]
    exact PySem.W.alike_ints r r'
  · unfold sortable
    rw [Bool.or_eq_true]
    right
    rw [List.all_eq_true]
    intro d hd
    obtain ⟨r, _, rfl⟩ := List.mem_map.mp hd
    rfl
  · rw [List.all_eq_true]
    intro d hd
    obtain ⟨r, _, rfl⟩ := List.mem_map.mp hd
    have : (PyData.list (r.map .int)).depth = 1 := by
      show PyData.depthAll (r.map .int) + 1 = 1
      rw [PySem.W.depth_ints]
    rw [this]
    rfl
theorem sortD_perm (rev : Bool) (ds : List D) : (sortD rev ds).Perm ds := List.mergeSort_perm _ _
/-! ### one step at a time -/
section
variable {e e1 e2 e3 : Env} {A B : Env → R Lv} {l m : Lv} {x y : D} {nv : NV}
theorem st2 {f : D → D → Option NV} (hA : A e = .ok l e1) (hB : B e1 = .ok m e2) (hl : l.get e2 = some x) (hm : m.get e2 = some y) (hf : f x y = some nv) : c2 f A B e = .ok nv e2 := by
  rw [c2_e, hA, bind_e]
  simp only [hB, bind_e, hl, hm, obind_some, hf, ofO_some]
theorem stF {n : Env → R NV} (h : n e = .ok nv e1) : cFrz n e = .ok (.val nv.d) e1 := by rw [cFrz_e, h, bind_e]
theorem sv2 {f : D → D → Option NV} {z : D} (hA : A e = .ok l e1) (hB : B e1 = .ok m e2) (hl : l.get e2 = some x) (hm : m.get e2 = some y) (hf : f x y = some (.sc z)) : cFrz (c2 f A B) e = .ok (.val z) e2 := stF (st2 hA hB hl hm hf)
theorem stT {n : Env → R NV} {b : Bool} (h : n e = .ok (.sc (.bool b)) e1) : cTst n e = .ok b e1 := by rw [cTst_e, h, bind_e]; rfl
theorem stB1 {g : List D → Option NV} (hA : A e = .ok l e1) (hl : l.get e1 = some x) (hg : g [x] = some nv) : cB g (cCons A cNil) e = .ok nv e1 := by
  rw [cB_e, cCons_e, hA, bind_e]
  simp only [cNil_e, bind_e, gets_cons, gets_nil, hl, obind_some, omap_some, hg, ofO_some]
theorem stB2 {g : List D → Option NV} (hA : A e = .ok l e1) (hB : B e1 = .ok m e2) (hl : l.get e2 = some x) (hm : m.get e2 = some y) (hg : g [x, y] = some nv) : cB g (cCons A (cCons B cNil)) e = .ok nv e2 := by
  rw [cB_e, cCons_e, hA, bind_e]
  simp only [cCons_e, hB, cNil_e, bind_e, gets_cons, gets_nil, hl, hm, obind_some, omap_some, hg, ofO_some]
theorem sv1 {g : List D → Option NV} {z : D} (hA : A e = .ok l e1) (hl : l.get e1 = some x) (hg : g [x] = some (.sc z)) : cFrz (cB g (cCons A cNil)) e = .ok (.val z) e1 := stF (stB1 hA hl hg)
theorem sl1 {g : List D → Option NV} {z : List D} (hA : A e = .ok l e1) (hl : l.get e1 = some x) (hg : g [x] = some (.nl z)) : cFrz (cB g (cCons A cNil)) e = .ok (.val (.list z)) e1 := stF (stB1 hA hl hg)
theorem tv2 {f : D → D → Option NV} {b : Bool} (hA : A e = .ok l e1) (hB : B e1 = .ok m e2) (hl : l.get e2 = some x) (hm : m.get e2 = some y) (hf : f x y = some (.sc (.bool b))) : cTst (c2 f A B) e = .ok b e2 := stT (st2 hA hB hl hm hf)
theorem stV {i : Nat} (h : e.getD i none = some x) : cVar i e = .ok (.val x) e := by rw [cVar_e, h]
theorem stTru (h : A e = .ok l e1) {b : Bool} (hl : l.get e1 = some x) (hx : dTru x = some b) : cTru A e = .ok b e1 := by
  rw [cTru_e, h, bind_e]
  simp only [hl, obind_some, hx, ofO_some]
theorem stM {c : Env → R D} (h : c e = .ok x e1) : cMelt c e = .ok (.val x) e1 := by rw [cMelt_e, h, bind_e]
theorem stD (h : A e = .ok l e1) : cDrop A e = .ok .nx e1 := by rw [cDrop_e, h, bind_e]
theorem stA {f : D → Env → Option Env} (h : A e = .ok (.val x) e1) (hf : f x e1 = some e2) : cAsg A f e = .ok .nx e2 := by
  rw [cAsg_e, h, bind_e]
  simp only [hf]
theorem stR (h : A e = .ok (.val x) e1) : cRet A e = .ok (.rt x) e1 := by rw [cRet_e, h, bind_e]
theorem stS {i : Nat} {c : Env → R D} (h : c e = .ok x e1) : cSetO i c e = .ok .nx (e1.set i (some x)) := by rw [cSetO_e, h, bind_e]
theorem stAnd (h : A e = .ok (.val (.bool true)) e1) : cAndV A B e = B e1 := by rw [cAndV_e, h, bind_e]
/-- calls of defs that own nothing -/
theorem stC1 {mm : List D → FR} {outs : List D} {rsh : Sh} (hA : A e = .ok (.val x) e1) (hm : mm [x] = .ok y outs) : cCall [.fz] [none] rsh mm [] (cCons A cNil) e = .ok y e1 := by
  rw [call1 hA hm, putB_fz (by simp)]
theorem stC2 {mm : List D → FR} {outs : List D} {rsh : Sh} {z : D} (hA : A e = .ok (.val x) e1) (hB : B e1 = .ok (.val y) e2) (hm : mm [x, y] = .ok z outs) : cCall [.fz, .fz] [none, none] rsh mm [] (cCons A (cCons B cNil)) e = .ok z e2 := by
  rw [cCall_e, cCons_e, hA, bind_e]
  simp only [cCons_e, hB, bind_e, cNil_e]
  simp [hm, borrows, isFz, putB_fz]
theorem stC3 {mm : List D → FR} {outs : List D} {rsh : Sh} {z w : D} {A3 : Env → R Lv} (hA : A e = .ok (.val x) e1) (hB : B e1 = .ok (.val y) e2) (hC : A3 e2 = .ok (.val w) e3) (hm : mm [x, y, w] = .ok z outs) : cCall [.fz, .fz, .fz] [none, none, none] rsh mm [] (cCons A (cCons B (cCons A3 cNil))) e = .ok z e3 := by
  rw [cCall_e, cCons_e, hA, bind_e]
  simp only [cCons_e, hB, hC, bind_e, cNil_e]
  simp [hm, borrows, isFz, putB_fz]
theorem stX1 {mm : List D → FR} {outs : List D} {rsh : Sh} {q : Exc} (hA : A e = .ok (.val x) e1) (hm : mm [x] = .ex q outs) : cCall [.fz] [none] rsh mm [] (cCons A cNil) e = .ex q e1 := by
  rw [cCall_e, cCons_e, hA]
  simp [hm, borrows, isFz, putB_fz]
theorem stX2 {mm : List D → FR} {outs : List D} {rsh : Sh} {q : Exc} (hA : A e = .ok (.val x) e1) (hB : B e1 = .ok (.val y) e2) (hm : mm [x, y] = .ex q outs) : cCall [.fz, .fz] [none, none] rsh mm [] (cCons A (cCons B cNil)) e = .ex q e2 := by
  rw [cCall_e, cCons_e, hA, bind_e]
  simp only [cCons_e, hB, bind_e, cNil_e]
  simp [hm, borrows, isFz, putB_fz]
theorem stX3 {mm : List D → FR} {outs : List D} {rsh : Sh} {q : Exc} {w : D} {A3 : Env → R Lv} (hA : A e = .ok (.val x) e1) (hB : B e1 = .ok (.val y) e2) (hC : A3 e2 = .ok (.val w) e3) (hm : mm [x, y, w] = .ex q outs) : cCall [.fz, .fz, .fz] [none, none, none] rsh mm [] (cCons A (cCons B (cCons A3 cNil))) e = .ex q e3 := by
  rw [cCall_e, cCons_e, hA, bind_e]
  simp only [cCons_e, hB, hC, bind_e, cNil_e]
  simp [hm, borrows, isFz, putB_fz]
theorem xM {c : Env → R D} {q : Exc} (h : c e = .ex q e1) : cMelt c e = .ex q e1 := by rw [cMelt_e, h, bind_e]
theorem xD {q : Exc} (h : A e = .ex q e1) : cDrop A e = .ex q e1 := by rw [cDrop_e, h, bind_e]
theorem xA {f : D → Env → Option Env} {q : Exc} (h : A e = .ex q e1) : cAsg A f e = .ex q e1 := by rw [cAsg_e, h, bind_e]
theorem xR {cn : Str} (h : A e = .ok l e1) : cRaise cn A e = .ex ⟨cn, none⟩ e1 := by rw [cRaise_e, h, bind_e]
/-- a loop in a comprehension that carries a state -/
theorem compL_inv {vs : List Nat} {f : D → Env → Option Env} {t : Env → R Bool} {c : Env → R Lv} (I : Env → Prop) (Q : D → Prop) : ∀ (ds : List D) (e : Env), I e →
    (∀ d, d ∈ ds → ∀ e, I e → ∃ e1 e2 e3 x, f d (clearE vs e) = some e1 ∧ t e1 = .ok true e2 ∧ c e2 = .ok (.val x) e3 ∧ I e3 ∧ Q x) → ∃ xs e2, compL vs f t c ds e = .ok xs e2 ∧ I e2 ∧ xs.length = ds.length ∧ ∀ x, x ∈ xs → Q x
  | [], e, h, _ => ⟨[], e, rfl, h, rfl, fun x hx => by cases hx⟩
  | d :: ds, e, h, st => by
    obtain ⟨e1, e2, e3, x, h1, h2, h3, h4, h5⟩ := st d List.mem_cons_self e h
    obtain ⟨xs, e4, h6, h7, h8, h9⟩ := compL_inv I Q ds e3 h4 fun d' hd => st d' (List.mem_cons_of_mem _ hd)
    refine ⟨x :: xs, e4, ?_, h7, by simp [h8], fun y hy => ?_⟩
    · unfold compL
      simp only [h1, h2, h3, h6]
    · rcases List.mem_cons.mp hy with rfl | hy
      · exact h5
      · exact h9 y hy
end
end DL

/-! Typed mirrors, second make: judgements are structures; exceptions carry the state of the own things. -/
namespace DL
open PySem PySem.Spec PyProof.Rows L2

/-- what a typed mirror gives: a value; an exception with the state at hand; nothing known -/
inductive X (ε α : Type) where
  | ok (a : α)
  | ex (x : Exc) (s : ε)
  | st
section
variable {ε ε' α β γ : Type}
def X.bind (t : X ε α) (f : α → X ε β) : X ε β := match t with
  | .ok a => f a
  | .ex x s => .ex x s
  | .st => .st
instance : Monad (X ε) where
  pure := X.ok
  bind := X.bind
@[simp] theorem X.ok_b {a : α} {f : α → X ε β} : (X.ok a >>= f) = f a := rfl
@[simp] theorem X.ex_b {x : Exc} {s : ε} {f : α → X ε β} : (X.ex x s >>= f) = .ex x s := rfl
@[simp] theorem X.st_b {f : α → X ε β} : ((X.st : X ε α) >>= f) = .st := rfl
@[simp] theorem X.pure_e {a : α} : (pure a : X ε α) = .ok a := rfl
/-- a part that changes nothing, within one whose state is s -/
def xb (s : ε) (t : X Unit α) (f : α → X ε β) : X ε β := match t with
  | .ok a => f a
  | .ex x _ => .ex x s
  | .st => .st
@[simp] theorem xb_ok {s : ε} {a : α} {f : α → X ε β} : xb s (.ok a) f = f a := rfl
@[simp] theorem xb_ex {s : ε} {x : Exc} {u : Unit} {f : α → X ε β} : xb s (.ex x u) f = .ex x s := rfl
@[simp] theorem xb_st {s : ε} {f : α → X ε β} : xb s .st f = .st := rfl
/-- a part with a state of its own -/
def xc (g : ε' → ε) (t : X ε' α) (f : α → X ε β) : X ε β := match t with
  | .ok a => f a
  | .ex x s => .ex x (g s)
  | .st => .st
@[simp] theorem xc_ok {g : ε' → ε} {a : α} {f : α → X ε β} : xc g (.ok a) f = f a := rfl
@[simp] theorem xc_ex {g : ε' → ε} {x : Exc} {u : ε'} {f : α → X ε β} : xc g (.ex x u) f = .ex x (g u) := rfl
@[simp] theorem xc_st {g : ε' → ε} {f : α → X ε β} : xc g .st f = .st := rfl
/-- what must hold for anything to be told -/
def rq (p : Prop) [Decidable p] (k : X ε α) : X ε α := if p then k else .st
theorem rq_t {p : Prop} [Decidable p] {k : X ε α} (h : p) : rq p k = k := if_pos h
def X.of (o : Option α) : X ε α := match o with
  | some a => .ok a
  | none => .st
@[simp] theorem X.of_some {a : α} : (X.of (some a) : X ε α) = .ok a := rfl
@[simp] theorem X.of_none : (X.of (none : Option α) : X ε α) = .st := rfl
end

class Enc (α : Type) where
  enc : α → D
open Enc (enc)
instance : Enc Int := ⟨.int⟩
instance : Enc Bool := ⟨.bool⟩
instance : Enc Str := ⟨.str⟩
instance : Enc D := ⟨id⟩
instance : Enc Unit := ⟨fun _ => .none⟩
instance {α : Type} [Enc α] : Enc (List α) := ⟨fun l => .list (l.map enc)⟩
instance {α : Type} [Enc α] : Enc (Option α) := ⟨fun o => match o with
  | some a => enc a
  | none => .none⟩
structure T2 (α β : Type) where
  a : α
  b : β
  deriving DecidableEq
structure T3 (α β γ : Type) where
  a : α
  b : β
  c : γ
  deriving DecidableEq
structure T4 (α β γ δ : Type) where
  a : α
  b : β
  c : γ
  d : δ
  deriving DecidableEq
instance {α β : Type} [Enc α] [Enc β] : Enc (T2 α β) := ⟨fun t => .tuple [enc t.a, enc t.b]⟩
instance {α β γ : Type} [Enc α] [Enc β] [Enc γ] : Enc (T3 α β γ) := ⟨fun t => .tuple [enc t.a, enc t.b, enc t.c]⟩
instance {α β γ δ : Type} [Enc α] [Enc β] [Enc γ] [Enc δ] : Enc (T4 α β γ δ) := ⟨fun t => .tuple [enc t.a, enc t.b, enc t.c, enc t.d]⟩
@[simp] theorem enc_int {i : Int} : (enc i : D) = .int i := rfl
@[simp] theorem enc_bool {i : Bool} : (enc i : D) = .bool i := rfl
@[simp] theorem enc_str {i : Str} : (enc i : D) = .str i := rfl
@[simp] theorem enc_d {d : D} : (enc d : D) = d := rfl
@[simp] theorem enc_some {α : Type} [Enc α] {a : α} : (enc (some a) : D) = enc a := rfl
@[simp] theorem enc_none {α : Type} [Enc α] : (enc (none : Option α) : D) = .none := rfl

/-! ### sizes -/
mutual
def szD : D → Bool
  | .none => true
  | .bool _ => true
  | .int _ => true
  | .str z => decide (z.length ≤ 16777216)
  | .list ds => decide (ds.length ≤ 16777216) && szAll ds
  | .tuple ds => decide (ds.length ≤ 16777216) && szAll ds
  | .dict kvs => decide (kvs.length ≤ 16777216) && szPs kvs
def szAll : List D → Bool
  | [] => true
  | d :: ds => szD d && szAll ds
def szPs : List (D × D) → Bool
  | [] => true
  | (k, v) :: r => szD k && (szD v && szPs r)
end
theorem szAll_iff : ∀ {ds : List D}, szAll ds = true ↔ ∀ d ∈ ds, szD d = true
  | [] => by simp [szAll]
  | d :: ds => by
    rw [szAll, Bool.and_eq_true, szAll_iff]
    simp
/-- a's lists and texts are of a size that the machine can hold -/
def Sz {α : Type} [Enc α] (a : α) : Prop := szD (enc a) = true
theorem sz_int (i : Int) : Sz i := rfl
theorem sz_bool (i : Bool) : Sz i := rfl
theorem sz_unit (i : Unit) : Sz i := rfl
theorem sz_str {s : Str} : Sz s ↔ s.length ≤ 16777216 := by
  show decide _ = true ↔ _
  rw [decide_eq_true_iff]
theorem sz_list {α : Type} [Enc α] {l : List α} : Sz l ↔ l.length ≤ 16777216 ∧ ∀ a ∈ l, Sz a := by
  show (decide ((l.map enc).length ≤ 16777216) && szAll (l.map enc)) = true ↔ _
  rw [Bool.and_eq_true, decide_eq_true_iff, szAll_iff, List.length_map]
  simp [Sz]
theorem sz_some {α : Type} [Enc α] {a : α} : Sz (some a) ↔ Sz a := Iff.rfl
theorem sz_none {α : Type} [Enc α] : Sz (none : Option α) := rfl
theorem sz_d {d : D} : Sz d ↔ szD d = true := Iff.rfl
theorem sz_t2 {α β : Type} [Enc α] [Enc β] {t : T2 α β} : Sz t ↔ Sz t.a ∧ Sz t.b := by
  show (decide (2 ≤ 16777216) && (szD (enc t.a) && (szD (enc t.b) && true))) = true ↔ _
  simp [Sz]
theorem sz_t3 {α β γ : Type} [Enc α] [Enc β] [Enc γ] {t : T3 α β γ} : Sz t ↔ Sz t.a ∧ Sz t.b ∧ Sz t.c := by
  show (decide (3 ≤ 16777216) && (szD (enc t.a) && (szD (enc t.b) && (szD (enc t.c) && true)))) = true ↔ _
  simp [Sz]
theorem sz_t4 {α β γ δ : Type} [Enc α] [Enc β] [Enc γ] [Enc δ] {t : T4 α β γ δ} : Sz t ↔ Sz t.a ∧ Sz t.b ∧ Sz t.c ∧ Sz t.d := by
  show (decide (4 ≤ 16777216) && (szD (enc t.a) && (szD (enc t.b) && (szD (enc t.c) && (szD (enc t.d) && true))))) = true ↔ _
  simp [Sz]
theorem Sz.len {α : Type} [Enc α] {l : List α} (h : Sz l) : l.length ≤ 16777216 := (sz_list.mp h).1
theorem Sz.mem {α : Type} [Enc α] {l : List α} (h : Sz l) {a : α} (ha : a ∈ l) : Sz a := (sz_list.mp h).2 a ha
theorem Sz.slen {s : Str} (h : Sz s) : s.length ≤ 16777216 := sz_str.mp h

/-! ### slots -/
def At (e : Env) (i : Nat) (d : D) : Prop := e[i]? = some (some d) ∧ szD d = true
theorem At.getD {e : Env} {i : Nat} {d : D} (h : At e i d) : e.getD i none = some d := by
  rw [List.getD_eq_getElem?_getD, h.1]
  rfl
theorem At.set {e : Env} {i : Nat} {d : D} (h : i < e.length) (z : szD d = true) : At (e.set i (some d)) i d := ⟨List.getElem?_set_self h, z⟩
theorem At.keep {e : Env} {i j : Nat} {d : D} {o : Option D} (h : At e j d) (hij : i ≠ j) : At (e.set i o) j d := ⟨(List.getElem?_set_ne hij).trans h.1, h.2⟩
theorem At.lt {e : Env} {i : Nat} {d : D} (h : At e i d) : i < e.length := (List.getElem?_eq_some_iff.mp h.1).1
theorem At.sz {α : Type} [Enc α] {e : Env} {i : Nat} {a : α} (h : At e i (enc a)) : Sz a := h.2
theorem len_set {e : Env} {i n : Nat} {o : Option D} (h : e.length = n) : (e.set i o).length = n := by rw [List.length_set, h]

/-! ### expressions that change nothing -/
structure RJ {α β : Type} (e : Env) (r : R β) (v : α → β → Prop) (t : X Unit α) : Prop where
  h : match t with
    | .ok a => ∃ b, r = .ok b e ∧ v a b
    | .ex x _ => r = .ex x e
    | .st => True
section
variable {α α' β β' γ : Type} {e : Env} {r : R β} {v : α → β → Prop} {ta : X Unit α}
theorem RJ.ok {a : α} {b : β} (h : r = .ok b e) (hv : v a b) : RJ e r v (.ok a) := ⟨b, h, hv⟩
theorem RJ.st : RJ e r v .st := ⟨trivial⟩
theorem RJ.ex {x : Exc} {u : Unit} (h : r = .ex x e) : RJ e r v (.ex x u) := ⟨h⟩
theorem RJ.get {a : α} (h : RJ e r v (.ok a)) : ∃ b, r = .ok b e ∧ v a b := h.h
theorem RJ.getx {x : Exc} {u : Unit} (h : RJ e r v (.ex x u)) : r = .ex x e := h.h
theorem RJ.mono {v' : α → β → Prop} (h : RJ e r v ta) (i : ∀ a b, v a b → v' a b) : RJ e r v' ta := by
  cases ta with
  | ok a =>
    obtain ⟨b, h1, h2⟩ := h.get
    exact .ok h1 (i _ _ h2)
  | ex x => exact .ex h.getx
  | st => exact .st
theorem RJ.rq {p : Prop} [Decidable p] (h : p → RJ e r v ta) : RJ e r v (DL.rq p ta) := by
  unfold DL.rq
  split
  · exact h ‹_›
  · exact .st
theorem RJ.bind {F : β → Env → R β'} {v' : α' → β' → Prop} {k : α → X Unit α'} (h : RJ e r v ta) (hk : ∀ a b, ta = .ok a → v a b → RJ e (F b e) v' (k a)) : RJ e (r.bind F) v' (ta >>= k) := by
  cases ta with
  | ok a =>
    obtain ⟨b, h1, h2⟩ := h.get
    rw [h1]
    exact hk a b rfl h2
  | ex x =>
    rw [h.getx]
    exact .ex rfl
  | st => exact .st
end
section
variable {α β γ δ : Type} [Enc α] [Enc β] [Enc γ] [Enc δ]
abbrev EV (e : Env) (c : Env → R Lv) (t : X Unit α) : Prop := RJ e (c e) (fun a l => l = .val (enc a) ∧ Sz a) t
abbrev EP (e : Env) (c : Env → R Lv) (t : X Unit α) : Prop := RJ e (c e) (fun a (l : Lv) => l.get e = some (enc a) ∧ Sz a) t
abbrev EN (e : Env) (c : Env → R NV) (t : X Unit α) : Prop := RJ e (c e) (fun a (n : NV) => n.d = enc a ∧ Sz a) t
abbrev EL (e : Env) (c : Env → R NV) (t : X Unit (List α)) : Prop := RJ e (c e) (fun a n => n = .nl (a.map enc) ∧ Sz a) t
abbrev ET (e : Env) (c : Env → R Bool) (t : X Unit Bool) : Prop := RJ e (c e) (fun a b => b = a) t
abbrev EI (e : Env) (c : Env → R (List D)) (t : X Unit (List α)) : Prop := RJ e (c e) (fun a ds => ds = a.map enc ∧ Sz a) t
abbrev EO (e : Env) (c : Env → R D) (t : X Unit α) : Prop := RJ e (c e) (fun a d => d = enc a ∧ Sz a) t
/-- an argument: the slot that it hands over, if any -/
abbrev EG (e : Env) (k : Option Nat) (c : Env → R Lv) (t : X Unit α) : Prop := RJ e (c e) (fun a (l : Lv) => (l.slot = k ∧ l.getA e = some (enc a)) ∧ Sz a) t
variable {e : Env} {A B C c : Env → R Lv} {ta : X Unit α} {tb : X Unit β} {a : α} {b : β}
theorem EV.p (h : EV e c ta) : EP e c ta := h.mono fun a l q => ⟨by rw [q.1]; rfl, q.2⟩
theorem EV.g (h : EV e c ta) : EG e none c ta := h.mono fun a l q => ⟨by rw [q.1]; exact ⟨rfl, rfl⟩, q.2⟩
theorem EL.n {n : Env → R NV} {t : X Unit (List α)} (h : EL e n t) : EN e n t := h.mono fun a l q => ⟨by rw [q.1]; rfl, q.2⟩
theorem ev_var {i : Nat} (h : At e i (enc a)) : EV e (cVar i) (.ok a) := .ok (stV h.getD) ⟨rfl, h.2⟩
theorem ep_plc {i : Nat} (h : At e i (enc a)) : EP e (cPlc i) (.ok a) := .ok (b := .plc i) (by rw [cPlc_e, h.getD]) ⟨h.getD, h.2⟩
theorem eg_plc {i : Nat} (h : At e i (enc a)) : EG e (some i) (cPlc i) (.ok a) := .ok (b := .plc i) (by rw [cPlc_e, h.getD]) ⟨⟨rfl, h.getD⟩, h.2⟩
theorem eg_own {i : Nat} (h : At e i (enc a)) : EG e (some i) (cOwnV i) (.ok a) := .ok (b := .own i) (by rw [cOwnV_e, h.getD]) ⟨⟨rfl, h.getD⟩, h.2⟩
theorem ev_k {d : D} (h : enc a = d) (z : szD d = true) : EV e (cK d) (.ok a) := .ok rfl ⟨by rw [h], by rw [Sz, h]; exact z⟩
theorem ev_int {i : Int} : EV e (cK (.int i)) (.ok i) := .ok rfl ⟨rfl, rfl⟩
theorem ev_bool {i : Bool} : EV e (cK (.bool i)) (.ok i) := .ok rfl ⟨rfl, rfl⟩
theorem ev_str {i : Str} (h : szD (.str i) = true := by rfl) : EV e (cK (.str i)) (.ok i) := .ok rfl ⟨rfl, h⟩
theorem ev_non : EV e (cK .none) (.ok ()) := .ok rfl ⟨rfl, rfl⟩
theorem ev_frz {n : Env → R NV} (h : EN e n ta) : EV e (cFrz n) ta := by
  cases ta with
  | ok a =>
    obtain ⟨nv, h1, h2, z⟩ := h.get
    exact .ok (stF h1) ⟨by rw [h2], z⟩
  | ex x => exact .ex (by rw [cFrz_e, h.getx, bind_e])
  | st => exact .st
theorem eo_own {n : Env → R NV} {t : X Unit (List α)} (h : EL e n t) : EO e (cOwn n) t := by
  cases t with
  | ok a =>
    obtain ⟨nv, h1, rfl, z⟩ := h.get
    exact .ok (b := .list (a.map enc)) (by rw [cOwn_e, h1, bind_e]) ⟨rfl, z⟩
  | ex x => exact .ex (by rw [cOwn_e, h.getx, bind_e])
  | st => exact .st
theorem ev_melt {n : Env → R D} (h : EO e n ta) : EV e (cMelt n) ta := by
  cases ta with
  | ok a =>
    obtain ⟨d, h1, rfl, z⟩ := h.get
    exact .ok (stM h1) ⟨rfl, z⟩
  | ex x => exact .ex (xM h.getx)
  | st => exact .st
/-! changes of type -/
theorem RJ.up {β' : Type} {r : R β'} {v : α → β' → Prop} {w : β → β' → Prop} {f : α → β} (h : RJ e r v ta) (hf : ∀ a x, v a x → w (f a) x) : RJ e r w (ta >>= fun a => .ok (f a)) := by
  cases ta with
  | ok a =>
    obtain ⟨x, h1, h2⟩ := h.get
    exact .ok h1 (hf _ _ h2)
  | ex x => exact .ex h.getx
  | st => exact .st
theorem RJ.upp {β' : Type} {r : R β'} {v : α → β' → Prop} {w : β → β' → Prop} {f : α → β} (h : RJ e r v (.ok a)) (hf : ∀ a x, v a x → w (f a) x) : RJ e r w (.ok (f a)) := h.up hf
theorem RJ.dn {β' : Type} {r : R β'} {v : α → β' → Prop} {w : β → β' → Prop} {f : α → Option β} (h : RJ e r v ta) (hf : ∀ a b x, f a = some b → v a x → w b x) : RJ e r w (ta >>= fun a => X.of (f a)) := by
  cases ta with
  | ok a =>
    obtain ⟨x, h1, h2⟩ := h.get
    show RJ e r w (X.of (f a))
    cases q : f a with
    | none => exact .st
    | some b => exact .ok h1 (hf _ _ _ q h2)
  | ex x => exact .ex h.getx
  | st => exact .st
/-! operators -/
def OR (o : Option NV) (t : X Unit γ) : Prop := match t with
  | .ok c => ∃ nv, o = some nv ∧ nv.d = enc c ∧ Sz c
  | .ex _ _ => False
  | .st => True
theorem OR.rq {p : Prop} [Decidable p] {o : Option NV} {t : X Unit γ} (h : p → OR o t) : OR o (DL.rq p t) := by
  unfold DL.rq
  split
  · exact h ‹_›
  · trivial
theorem OR.j {o : Option NV} {t : X Unit γ} (h : OR o t) : RJ e (ofO o e) (fun a (n : NV) => n.d = enc a ∧ Sz a) t := by
  cases t with
  | ok c =>
    obtain ⟨nv, rfl, h2⟩ := h
    exact .ok rfl h2
  | ex x => exact False.elim h
  | st => exact .st
def Op2P (f : D → D → Option NV) (g : α → β → γ) : Prop := ∀ a b, Sz a → Sz b → ∃ nv, f (enc a) (enc b) = some nv ∧ nv.d = enc (g a b) ∧ Sz (g a b)
def Op1P (f : D → Option NV) (g : α → γ) : Prop := ∀ a, Sz a → ∃ nv, f (enc a) = some nv ∧ nv.d = enc (g a) ∧ Sz (g a)
def Op2T (f : D → D → Option NV) (g : α → β → X Unit γ) : Prop := ∀ a b, Sz a → Sz b → OR (f (enc a) (enc b)) (g a b)
def Op1T (f : D → Option NV) (g : α → X Unit γ) : Prop := ∀ a, Sz a → OR (f (enc a)) (g a)
theorem Op2P.t {f : D → D → Option NV} {g : α → β → γ} (h : Op2P f g) : Op2T f (fun a b => .ok (g a b)) := h
theorem Op1P.t {f : D → Option NV} {g : α → γ} (h : Op1P f g) : Op1T f (fun a => .ok (g a)) := h
def x1 {ε α γ : Type} (f : α → X ε γ) (ta : X ε α) : X ε γ := ta >>= f
def x2 {ε α β γ : Type} (f : α → β → X ε γ) (ta : X ε α) (tb : X ε β) : X ε γ := ta >>= fun a => tb >>= fun b => f a b
def x3 {ε α β γ δ : Type} (f : α → β → γ → X ε δ) (ta : X ε α) (tb : X ε β) (tc : X ε γ) : X ε δ := ta >>= fun a => tb >>= fun b => tc >>= fun c => f a b c
def x4 {ε α β γ δ ζ : Type} (f : α → β → γ → δ → X ε ζ) (ta : X ε α) (tb : X ε β) (tc : X ε γ) (td : X ε δ) : X ε ζ := ta >>= fun a => tb >>= fun b => tc >>= fun c => td >>= fun d => f a b c d
def x5 {ε α β γ δ ζ η : Type} (f : α → β → γ → δ → ζ → X ε η) (ta : X ε α) (tb : X ε β) (tc : X ε γ) (td : X ε δ) (te : X ε ζ) : X ε η := ta >>= fun a => tb >>= fun b => tc >>= fun c => td >>= fun d => te >>= fun e => f a b c d e
@[simp] theorem x1_ok {ε α γ : Type} {f : α → X ε γ} {a : α} : x1 f (.ok a) = f a := rfl
@[simp] theorem x2_ok {ε α β γ : Type} {f : α → β → X ε γ} {a : α} {b : β} : x2 f (.ok a) (.ok b) = f a b := rfl
@[simp] theorem x3_ok {ε α β γ δ : Type} {f : α → β → γ → X ε δ} {a : α} {b : β} {c : γ} : x3 f (.ok a) (.ok b) (.ok c) = f a b c := rfl
@[simp] theorem x4_ok {ε α β γ δ ζ : Type} {f : α → β → γ → δ → X ε ζ} {a : α} {b : β} {c : γ} {d : δ} : x4 f (.ok a) (.ok b) (.ok c) (.ok d) = f a b c d := rfl
@[simp] theorem x5_ok {ε α β γ δ ζ η : Type} {f : α → β → γ → δ → ζ → X ε η} {a : α} {b : β} {c : γ} {d : δ} {e : ζ} : x5 f (.ok a) (.ok b) (.ok c) (.ok d) (.ok e) = f a b c d e := rfl
theorem en_2 {f : D → D → Option NV} {g : α → β → X Unit γ} (hf : Op2T f g) (ha : EP e A ta) (hb : EP e B tb) : EN e (c2 f A B) (x2 g ta tb) := by
  show RJ e ((A e).bind fun l e1 => (B e1).bind fun m e2 => ofO ((l.get e2).bind fun x => (m.get e2).bind fun y => f x y) e2) _ _
  refine ha.bind fun a l _ hl => hb.bind fun b m _ hm => ?_
  rw [hl.1, hm.1]
  exact (hf a b hl.2 hm.2).j
theorem en_2p {f : D → D → Option NV} {g : α → β → γ} (hf : Op2P f g) (ha : EP e A (.ok a)) (hb : EP e B (.ok b)) : EN e (c2 f A B) (.ok (g a b)) := en_2 hf.t ha hb
theorem en_1 {f : D → Option NV} {g : α → X Unit γ} (hf : Op1T f g) (ha : EP e A ta) : EN e (c1 f A) (x1 g ta) := by
  show RJ e ((A e).bind fun l e1 => ofO ((l.get e1).bind f) e1) _ _
  refine ha.bind fun a l _ hl => ?_
  rw [hl.1]
  exact (hf a hl.2).j
theorem en_1p {f : D → Option NV} {g : α → γ} (hf : Op1P f g) (ha : EP e A (.ok a)) : EN e (c1 f A) (.ok (g a)) := en_1 hf.t ha
theorem en_b1 {f : List D → Option NV} {g : α → X Unit γ} (hf : Op1T (fun d => f [d]) g) (ha : EP e A ta) : EN e (cB f (cCons A cNil)) (x1 g ta) := by
  show RJ e (((A e).bind fun l e1 => R.ok [l] e1).bind fun ls e1 => ofO ((gets ls e1).bind f) e1) _ _
  have : ((A e).bind fun l e1 => R.ok [l] e1).bind (fun ls e1 => ofO ((gets ls e1).bind f) e1) = (A e).bind fun l e1 => ofO ((gets [l] e1).bind f) e1 := by
    cases A e <;> rfl
  rw [this]
  refine ha.bind fun a l _ hl => ?_
  rw [gets_cons, hl.1]
  exact (hf a hl.2).j
theorem en_b1p {f : List D → Option NV} {g : α → γ} (hf : Op1P (fun d => f [d]) g) (ha : EP e A (.ok a)) : EN e (cB f (cCons A cNil)) (.ok (g a)) := en_b1 hf.t ha
theorem en_b2 {f : List D → Option NV} {g : α → β → X Unit γ} (hf : Op2T (fun d d' => f [d, d']) g) (ha : EP e A ta) (hb : EP e B tb) : EN e (cB f (cCons A (cCons B cNil))) (x2 g ta tb) := by
  have : cB f (cCons A (cCons B cNil)) e = (A e).bind fun l e1 => (B e1).bind fun m e2 => ofO ((gets [l, m] e2).bind f) e2 := by
    show (cCons A (cCons B cNil) e).bind _ = _
    rw [cCons_e]
    cases A e with
    | ok l e1 =>
      show ((cCons B cNil e1).bind _).bind _ = (B e1).bind _
      rw [cCons_e]
      cases B e1 <;> rfl
    | ex x e1 => rfl
    | st => rfl
  show RJ e _ _ _
  rw [this]
  refine ha.bind fun a l _ hl => hb.bind fun b m _ hm => ?_
  rw [gets_cons, gets_cons, hl.1, hm.1]
  exact (hf a b hl.2 hm.2).j
theorem en_b2p {f : List D → Option NV} {g : α → β → γ} (hf : Op2P (fun d d' => f [d, d']) g) (ha : EP e A (.ok a)) (hb : EP e B (.ok b)) : EN e (cB f (cCons A (cCons B cNil))) (.ok (g a b)) := en_b2 hf.t ha hb
theorem en_isi {f : D → Bool} {g : α → Bool} (hf : ∀ a : α, f (enc a) = g a) (ha : EP e A ta) : EN e (cIsi f A) (x1 (fun a => .ok (g a)) ta) := by
  show RJ e ((A e).bind fun l e1 => ofO ((l.get e1).map fun d => NV.sc (.bool (f d))) e1) _ _
  refine ha.bind fun a l _ hl => ?_
  rw [hl.1]
  exact .ok rfl ⟨by show PyData.bool (f (enc a)) = .bool (g a); rw [hf], sz_bool _⟩
theorem en_isip {f : D → Bool} {g : α → Bool} (hf : ∀ a : α, f (enc a) = g a) (ha : EP e A (.ok a)) : EN e (cIsi f A) (.ok (g a)) := en_isi hf ha
/-! chains -/
def xChain {α β γ : Type} (f : α → β → X Unit Bool) (g : β → γ → X Unit Bool) (ta : X Unit α) (tb : X Unit β) (tc : X Unit γ) : X Unit Bool := ta >>= fun a => tb >>= fun b => f a b >>= fun k => if k = true then tc >>= fun c => g b c else .ok false
theorem en_chain {f g : D → D → Option NV} {tf : α → β → X Unit Bool} {tg : β → γ → X Unit Bool} {tc : X Unit γ} (hf : Op2T f tf) (hg : Op2T g tg) (ha : EP e A ta) (hb : EP e B tb) (hc : EP e C tc) : EN e (cChain f g A B C) (xChain tf tg ta tb tc) := by
  show RJ e ((A e).bind fun l e1 => (B e1).bind fun m e2 => (ofO ((l.get e2).bind fun x => (m.get e2).bind fun y => (f x y).bind fun n => dBool n.d) e2).bind fun k e3 => _) _ _
  refine ha.bind fun a l _ hl => hb.bind fun b m _ hm => ?_
  rw [hl.1, hm.1]
  have q := hf a b hl.2 hm.2
  show RJ e ((ofO ((f (enc a) (enc b)).bind fun n => dBool n.d) e).bind _) _ (tf a b >>= _)
  revert q
  cases tf a b with
  | ok k =>
    rintro ⟨nv, h1, h2, z⟩
    rw [h1, obind_some, h2]
    cases k with
    | false => exact .ok rfl ⟨rfl, sz_bool _⟩
    | true =>
      show RJ e ((C e).bind fun o e4 => ofO ((m.get e4).bind fun y => (o.get e4).bind fun z => g y z) e4) _ (tc >>= fun c => tg b c)
      refine hc.bind fun c o _ ho => ?_
      rw [hm.1, ho.1]
      exact (hg b c hm.2 ho.2).j
  | ex x s => intro q; exact False.elim q
  | st => intro _; exact .st
theorem en_chainp {f g : D → D → Option NV} {tf : α → β → Bool} {tg : β → γ → Bool} {c : γ} (hf : Op2P f tf) (hg : Op2P g tg) (ha : EP e A (.ok a)) (hb : EP e B (.ok b)) (hc : EP e C (.ok c)) : EN e (cChain f g A B C) (.ok (tf a b && tg b c)) := by
  have h := en_chain hf.t hg.t ha hb hc
  have : xChain (fun a b => X.ok (tf a b)) (fun a b => X.ok (tg a b)) (.ok a) (.ok b) (.ok c) = .ok (tf a b && tg b c) := by
    show (if tf a b = true then X.ok (tg b c) else X.ok false) = _
    cases tf a b <;> rfl
  rw [this] at h
  exact h
/-! tests -/
theorem et_n {n : Env → R NV} {t : X Unit Bool} (h : EN e n t) : ET e (cTst n) t := by
  cases t with
  | ok b =>
    obtain ⟨nv, h1, h2, _⟩ := h.get
    refine .ok (b := b) ?_ rfl
    rw [cTst_e, h1, bind_e]
    simp only [h2, enc_bool, dBool_b, ofO_some]
  | ex x => exact .ex (by rw [cTst_e, h.getx, bind_e])
  | st => exact .st
def xAnd (t u : X Unit Bool) : X Unit Bool := t >>= fun b => if b = true then u else .ok false
def xOr (t u : X Unit Bool) : X Unit Bool := t >>= fun b => if b = true then .ok true else u
def xNot (t : X Unit Bool) : X Unit Bool := t >>= fun b => .ok (!b)
def xIf {α : Type} (t : X Unit Bool) (u v : X Unit α) : X Unit α := t >>= fun b => if b = true then u else v
@[simp] theorem xAnd_ok {b : Bool} {u : X Unit Bool} : xAnd (.ok b) u = if b = true then u else .ok false := rfl
@[simp] theorem xOr_ok {b : Bool} {u : X Unit Bool} : xOr (.ok b) u = if b = true then .ok true else u := rfl
@[simp] theorem xNot_ok {b : Bool} : xNot (.ok b) = .ok (!b) := rfl
@[simp] theorem xIf_ok {α : Type} {b : Bool} {u v : X Unit α} : xIf (.ok b) u v = if b = true then u else v := rfl
variable {S T : Env → R Bool} {t u : X Unit Bool} {p q : Bool}
theorem et_and (hs : ET e S t) (ht : ET e T u) : ET e (cAnd S T) (xAnd t u) := by
  show RJ e ((S e).bind fun v e1 => match v with | true => T e1 | false => .ok false e1) _ _
  refine hs.bind fun b l _ hl => ?_
  subst hl
  cases l with
  | true => exact ht
  | false => exact .ok rfl rfl
theorem et_or (hs : ET e S t) (ht : ET e T u) : ET e (cOr S T) (xOr t u) := by
  show RJ e ((S e).bind fun v e1 => match v with | true => .ok true e1 | false => T e1) _ _
  refine hs.bind fun b l _ hl => ?_
  subst hl
  cases l with
  | true => exact .ok rfl rfl
  | false => exact ht
theorem et_not (hs : ET e S t) : ET e (cNot S) (xNot t) := by
  show RJ e ((S e).bind fun v e1 => .ok (!v) e1) _ _
  refine hs.bind fun b l _ hl => ?_
  subst hl
  exact .ok rfl rfl
theorem et_andp (hs : ET e S (.ok p)) (ht : ET e T (.ok q)) : ET e (cAnd S T) (.ok (p && q)) := by
  have h := et_and hs ht
  cases p <;> exact h
theorem et_orp (hs : ET e S (.ok p)) (ht : ET e T (.ok q)) : ET e (cOr S T) (.ok (p || q)) := by
  have h := et_or hs ht
  cases p <;> exact h
theorem et_notp (hs : ET e S (.ok p)) : ET e (cNot S) (.ok (!p)) := et_not hs
theorem et_yes : ET e cYes (.ok true) := .ok rfl rfl
theorem et_tru (f : α → Bool) (hf : ∀ a, Sz a → dTru (enc a) = some (f a)) (ha : EP e A ta) : ET e (cTru A) (x1 (fun a => .ok (f a)) ta) := by
  show RJ e ((A e).bind fun l e1 => ofO ((l.get e1).bind dTru) e1) _ _
  refine ha.bind fun a l _ hl => ?_
  rw [hl.1, obind_some, hf a hl.2]
  exact .ok rfl rfl
theorem et_trup (f : α → Bool) (hf : ∀ a, Sz a → dTru (enc a) = some (f a)) (ha : EP e A (.ok a)) : ET e (cTru A) (.ok (f a)) := et_tru f hf ha
theorem tru_B (b : Bool) (_ : Sz b) : dTru (enc b) = some b := rfl
theorem tru_I (i : Int) (_ : Sz i) : dTru (enc i) = some (i != 0) := rfl
theorem tru_L (l : List α) (_ : Sz l) : dTru (enc l) = some (!l.isEmpty) := by
  show some (!(l.map enc).isEmpty) = _
  cases l <;> rfl
theorem tru_N (u : Unit) (_ : Sz u) : dTru (enc u) = some false := rfl
theorem fits_of {n : Nat} (h : n ≤ 16777216) : fits n = true := fits_le h
theorem tru_S (s : Str) (h : Sz s) : dTru (enc s) = some ((s.length : Int) != 0) := by
  show (if fits s.length = true then some ((s.length : Int) != 0) else none) = _
  rw [if_pos (fits_of h.slen)]
/-! conditional expressions, and/or/not as values -/
theorem if_j {β' : Type} {f g : Env → R β'} {v : α → β' → Prop} {tb : X Unit α} (hs : ET e S t) (ha : RJ e (f e) v ta) (hb : RJ e (g e) v tb) : RJ e (cIf S f g e) v (xIf t ta tb) := by
  show RJ e ((S e).bind fun k e1 => match k with | true => f e1 | false => g e1) _ _
  refine hs.bind fun b l _ hl => ?_
  subst hl
  cases l with
  | true => exact ha
  | false => exact hb
theorem if_jp {β' : Type} {f g : Env → R β'} {v : α → β' → Prop} {b : α} (hs : ET e S (.ok p)) (ha : RJ e (f e) v (.ok a)) (hb : RJ e (g e) v (.ok b)) : RJ e (cIf S f g e) v (.ok (if p = true then a else b)) := by
  have h := if_j hs ha hb
  cases p <;> exact h
theorem ev_andV {tb : X Unit Bool} (ha : EV e A t) (hb : EV e B u) : EV e (cAndV A B) (xAnd t u) := by
  show RJ e ((A e).bind fun v e1 => match v with | .val (.bool true) => B e1 | .val (.bool false) => R.ok (Lv.val (.bool false)) e1 | _ => .st) _ _
  refine ha.bind fun b l _ hl => ?_
  rw [hl.1]
  cases b with
  | true => exact hb
  | false => exact .ok rfl ⟨rfl, sz_bool _⟩
theorem ev_orV {tb : X Unit Bool} (ha : EV e A t) (hb : EV e B u) : EV e (cOrV A B) (xOr t u) := by
  show RJ e ((A e).bind fun v e1 => match v with | .val (.bool true) => R.ok (Lv.val (.bool true)) e1 | .val (.bool false) => B e1 | _ => .st) _ _
  refine ha.bind fun b l _ hl => ?_
  rw [hl.1]
  cases b with
  | true => exact .ok rfl ⟨rfl, sz_bool _⟩
  | false => exact hb
theorem ev_notV (ha : EV e A t) : EV e (cNotV A) (xNot t) := by
  show RJ e ((A e).bind fun v e1 => match v with | .val (.bool k) => R.ok (Lv.val (.bool (!k))) e1 | _ => .st) _ _
  refine ha.bind fun b l _ hl => ?_
  rw [hl.1]
  exact .ok rfl ⟨rfl, sz_bool _⟩
theorem ev_andVp (ha : EV e A (.ok p)) (hb : EV e B (.ok q)) : EV e (cAndV A B) (.ok (p && q)) := by
  have h := ev_andV (tb := .st) ha hb
  cases p <;> exact h
theorem ev_orVp (ha : EV e A (.ok p)) (hb : EV e B (.ok q)) : EV e (cOrV A B) (.ok (p || q)) := by
  have h := ev_orV (tb := .st) ha hb
  cases p <;> exact h
theorem ev_notVp (ha : EV e A (.ok p)) : EV e (cNotV A) (.ok (!p)) := ev_notV ha
end
end DL

/-! Typed operators. -/
namespace DL
open PySem PySem.Spec PyProof.Rows L2
open Enc (enc)
/-- values that compare like plain ones -/
class Pl (α : Type) [Enc α] [DecidableEq α] where
  pl : ∀ a : α, (enc a : D).plain = true
  dep : Nat
  depth : ∀ a : α, (enc a : D).depth ≤ dep
  eqv : ∀ a b : α, PyData.eqv (enc a) (enc b) = decide (a = b)
/-- values that are not None -/
class NN (α : Type) [Enc α] where
  l : ∀ a : α, PyData.eqv (enc a) .none = false
  r : ∀ a : α, PyData.eqv .none (enc a) = false
  n : ∀ a : α, isNone (enc a) = false
instance : Pl Int := ⟨fun _ => rfl, 0, fun _ => Nat.le_refl _, fun _ _ => rfl⟩
instance : Pl Bool := ⟨fun _ => rfl, 0, fun _ => Nat.le_refl _, fun a b => by cases a <;> cases b <;> rfl⟩
instance : Pl Unit := ⟨fun _ => rfl, 0, fun _ => Nat.le_refl _, fun _ _ => rfl⟩
instance : Pl Str := ⟨fun _ => rfl, 0, fun _ => Nat.le_refl _, fun a b => by
  show (a == b) = _
  exact beq_str⟩
instance : NN Int := ⟨fun _ => rfl, fun _ => rfl, fun _ => rfl⟩
instance : NN Bool := ⟨fun _ => rfl, fun _ => rfl, fun _ => rfl⟩
instance : NN Str := ⟨fun _ => rfl, fun _ => rfl, fun _ => rfl⟩
section
variable {α β γ δ : Type} [Enc α] [Enc β] [Enc γ] [Enc δ]
instance : NN (List α) := ⟨fun _ => rfl, fun _ => rfl, fun _ => rfl⟩
instance : NN (T2 α β) := ⟨fun _ => rfl, fun _ => rfl, fun _ => rfl⟩
instance : NN (T3 α β γ) := ⟨fun _ => rfl, fun _ => rfl, fun _ => rfl⟩
instance : NN (T4 α β γ δ) := ⟨fun _ => rfl, fun _ => rfl, fun _ => rfl⟩
end
section
variable {α : Type} [Enc α] [DecidableEq α] [Pl α]
theorem pl_all : ∀ l : List α, PyData.plainAll (l.map enc) = true
  | [] => rfl
  | x :: l => by
    show ((enc x : D).plain && PyData.plainAll (l.map enc)) = true
    rw [pl_all l, Pl.pl]
    rfl
theorem pl_depAll : ∀ l : List α, PyData.depthAll (l.map enc) ≤ Pl.dep α
  | [] => Nat.zero_le _
  | x :: l => by
    show max (enc x : D).depth (PyData.depthAll (l.map enc)) ≤ _
    exact Nat.max_le.mpr ⟨Pl.depth x, pl_depAll l⟩
theorem pl_eqvAll : ∀ l m : List α, PyData.eqvAll (l.map enc) (m.map enc) = decide (l = m)
  | [], [] => by simp; rfl
  | [], _ :: _ => by simp; rfl
  | _ :: _, [] => by simp; rfl
  | x :: l, y :: m => by
    show (PyData.eqv (enc x) (enc y) && PyData.eqvAll (l.map enc) (m.map enc)) = _
    rw [pl_eqvAll l m, Pl.eqv]
    simp
instance : Pl (List α) := ⟨fun l => pl_all l, Pl.dep α + 1, fun l => Nat.succ_le_succ (pl_depAll l), fun l m => pl_eqvAll l m⟩
instance [NN α] : Pl (Option α) := ⟨fun o => by cases o with | none => rfl | some a => exact Pl.pl a, Pl.dep α, fun o => by cases o with | none => exact Nat.zero_le _ | some a => exact Pl.depth a,
  fun o p => by
    cases o with
    | none => cases p with
      | none => rfl
      | some b => rw [enc_some, enc_none, NN.r]; simp
    | some a => cases p with
      | none => rw [enc_some, enc_none, NN.l]; simp
      | some b => rw [enc_some, enc_some, Pl.eqv]; simp⟩
theorem pl_shaped (a : α) (h : Pl.dep α ≤ 64) : dShaped (enc a) = true := by
  show ((enc a : D).plain && decide ((enc a : D).depth ≤ 64)) = true
  rw [Pl.pl, decide_eq_true (Nat.le_trans (Pl.depth a) h)]
  rfl
end
section
variable {α β γ δ : Type} [Enc α] [DecidableEq α] [Pl α] [Enc β] [DecidableEq β] [Pl β] [Enc γ] [DecidableEq γ] [Pl γ] [Enc δ] [DecidableEq δ] [Pl δ]
instance : Pl (T2 α β) := ⟨fun t => by show ((enc t.a : D).plain && ((enc t.b : D).plain && true)) = true; rw [Pl.pl, Pl.pl]; rfl, max (Pl.dep α) (Pl.dep β) + 1,
  fun t => by
    show max (enc t.a : D).depth (max (enc t.b : D).depth 0) + 1 ≤ _
    have := Pl.depth t.a
    have := Pl.depth t.b
    omega,
  fun s t => by
    show (PyData.eqv (enc s.a) (enc t.a) && (PyData.eqv (enc s.b) (enc t.b) && true)) = _
    rw [Pl.eqv, Pl.eqv]
    cases s; cases t; simp⟩
instance : Pl (T3 α β γ) := ⟨fun t => by show ((enc t.a : D).plain && ((enc t.b : D).plain && ((enc t.c : D).plain && true))) = true; rw [Pl.pl, Pl.pl, Pl.pl]; rfl, max (Pl.dep α) (max (Pl.dep β) (Pl.dep γ)) + 1,
  fun t => by
    show max (enc t.a : D).depth (max (enc t.b : D).depth (max (enc t.c : D).depth 0)) + 1 ≤ _
    have := Pl.depth t.a
    have := Pl.depth t.b
    have := Pl.depth t.c
    omega,
  fun s t => by
    show (PyData.eqv (enc s.a) (enc t.a) && (PyData.eqv (enc s.b) (enc t.b) && (PyData.eqv (enc s.c) (enc t.c) && true))) = _
    rw [Pl.eqv, Pl.eqv, Pl.eqv]
    cases s; cases t; simp⟩
instance : Pl (T4 α β γ δ) := ⟨fun t => by show ((enc t.a : D).plain && ((enc t.b : D).plain && ((enc t.c : D).plain && ((enc t.d : D).plain && true)))) = true; rw [Pl.pl, Pl.pl, Pl.pl, Pl.pl]; rfl, max (Pl.dep α) (max (Pl.dep β) (max (Pl.dep γ) (Pl.dep δ))) + 1,
  fun t => by
    show max (enc t.a : D).depth (max (enc t.b : D).depth (max (enc t.c : D).depth (max (enc t.d : D).depth 0))) + 1 ≤ _
    have := Pl.depth t.a
    have := Pl.depth t.b
    have := Pl.depth t.c
    have := Pl.depth t.d
    omega,
  fun s t => by
    show (PyData.eqv (enc s.a) (enc t.a) && (PyData.eqv (enc s.b) (enc t.b) && (PyData.eqv (enc s.c) (enc t.c) && (PyData.eqv (enc s.d) (enc t.d) && true)))) = _
    rw [Pl.eqv, Pl.eqv, Pl.eqv, Pl.eqv]
    cases s; cases t; simp⟩
end

/-! ### comparisons -/
section
variable {α : Type} [Enc α] [DecidableEq α] [Pl α]
theorem dEq_gen (x y : D) (hx : dShaped x = true) (hy : dShaped y = true) : dEq x y = some (.sc (.bool (PyData.eqv x y))) := by
  unfold dEq
  split
  · show some (NV.sc (PyData.bool (decide (_ = _)))) = some (.sc (.bool (_ == _))); rw [beq_int]
  · show some (NV.sc (PyData.bool (decide (_ = _)))) = some (.sc (.bool (_ == _))); rw [beq_str]
  · rw [hx, hy]; rfl
theorem dNe_gen (x y : D) (hx : dShaped x = true) (hy : dShaped y = true) : dNe x y = some (.sc (.bool (!PyData.eqv x y))) := by
  unfold dNe
  split
  · show some (NV.sc (PyData.bool (!decide (_ = _)))) = some (.sc (.bool (!(_ == _)))); rw [beq_int]
  · show some (NV.sc (PyData.bool (!decide (_ = _)))) = some (.sc (.bool (!(_ == _)))); rw [beq_str]
  · rw [hx, hy]; rfl
theorem op_eq (h : Pl.dep α ≤ 64) : Op2P dEq (fun (a b : α) => decide (a = b)) := fun a b _ _ => ⟨_, dEq_gen _ _ (pl_shaped a h) (pl_shaped b h), by rw [Pl.eqv]; rfl, sz_bool _⟩
theorem op_ne (h : Pl.dep α ≤ 64) : Op2P dNe (fun (a b : α) => !decide (a = b)) := fun a b _ _ => ⟨_, dNe_gen _ _ (pl_shaped a h) (pl_shaped b h), by rw [Pl.eqv]; rfl, sz_bool _⟩
theorem inL_enc (a : α) : ∀ l : List α, inL (enc a) (l.map enc) = decide (a ∈ l)
  | [] => by simp; rfl
  | x :: l => by
    show (PyData.eqv (enc x) (enc a) || inL (enc a) (l.map enc)) = _
    rw [inL_enc a l, Pl.eqv]
    simp [eq_comm]
theorem dIn_l (x : D) (ds : List D) (hx : dShaped x = true) (hy : dShaped (.list ds) = true) : dIn x (.list ds) = some (.sc (.bool (inL x ds))) := by
  unfold dIn
  split
  · rename_i h; cases h
  · rename_i h; cases h; rw [hx, hy]; rfl
  · rename_i h; cases h
  · rename_i h1 h2 h3; first | exact absurd rfl (h1 _) | exact absurd rfl (h2 _) | exact absurd rfl (h3 _)
theorem dNotIn_l (x : D) (ds : List D) (hx : dShaped x = true) (hy : dShaped (.list ds) = true) : dNotIn x (.list ds) = some (.sc (.bool (!inL x ds))) := by
  unfold dNotIn
  split
  · rename_i h; cases h
  · rename_i h; cases h; rw [hx, hy]; rfl
  · rename_i h; cases h
  · rename_i h1 h2 h3; first | exact absurd rfl (h1 _) | exact absurd rfl (h2 _) | exact absurd rfl (h3 _)
theorem op_in (h : Pl.dep α ≤ 63) : Op2P dIn (fun (a : α) (l : List α) => decide (a ∈ l)) := fun a l _ _ => ⟨_, dIn_l _ _ (pl_shaped a (Nat.le_trans h (by decide))) (pl_shaped l (Nat.succ_le_succ h)), by rw [inL_enc]; rfl, sz_bool _⟩
theorem op_notIn (h : Pl.dep α ≤ 63) : Op2P dNotIn (fun (a : α) (l : List α) => !decide (a ∈ l)) := fun a l _ _ => ⟨_, dNotIn_l _ _ (pl_shaped a (Nat.le_trans h (by decide))) (pl_shaped l (Nat.succ_le_succ h)), by rw [inL_enc]; rfl, sz_bool _⟩
end
theorem op_inSS : Op2P dIn (fun (a b : Str) => inS a b) := fun a b _ _ => ⟨_, rfl, rfl, rfl⟩
theorem op_notInSS : Op2P dNotIn (fun (a b : Str) => !inS a b) := fun a b _ _ => ⟨_, rfl, rfl, rfl⟩
def tEqD (a b : D) : X Unit Bool := rq (dShaped a = true ∧ dShaped b = true) (.ok (PyData.eqv a b))
def tNeD (a b : D) : X Unit Bool := rq (dShaped a = true ∧ dShaped b = true) (.ok (!PyData.eqv a b))
theorem op_eqD : Op2T dEq tEqD := fun a b _ _ => OR.rq fun h => ⟨_, dEq_gen _ _ h.1 h.2, rfl, rfl⟩
theorem op_neD : Op2T dNe tNeD := fun a b _ _ => OR.rq fun h => ⟨_, dNe_gen _ _ h.1 h.2, rfl, rfl⟩
def tInD (a : D) (l : List D) : X Unit Bool := rq (dShaped a = true ∧ dShaped (.list l) = true) (.ok (inL a l))
def tNotInD (a : D) (l : List D) : X Unit Bool := rq (dShaped a = true ∧ dShaped (.list l) = true) (.ok (!inL a l))
theorem map_id_enc (l : List D) : l.map (enc : D → D) = l := by
  show l.map id = l
  exact List.map_id l
theorem op_inD' : Op2T dIn tInD := fun a l _ _ => OR.rq fun h => ⟨_, by show dIn a (.list (l.map enc)) = _; rw [map_id_enc]; exact dIn_l _ _ h.1 h.2, rfl, rfl⟩
theorem op_notInD' : Op2T dNotIn tNotInD := fun a l _ _ => OR.rq fun h => ⟨_, by show dNotIn a (.list (l.map enc)) = _; rw [map_id_enc]; exact dNotIn_l _ _ h.1 h.2, rfl, rfl⟩
section
variable {α : Type} [Enc α]
theorem op_isN [NN α] : Op2P dIs (fun (a : Option α) (_ : Unit) => a.isNone) := fun a u _ _ => by
  cases a with
  | none => exact ⟨_, rfl, rfl, rfl⟩
  | some a =>
    refine ⟨.sc (.bool (isNone (enc a))), by show dIs (enc a) .none = _; unfold dIs; rfl, ?_, sz_bool _⟩
    rw [NN.n]; rfl
theorem op_isNotN [NN α] : Op2P dIsNot (fun (a : Option α) (_ : Unit) => a.isSome) := fun a u _ _ => by
  cases a with
  | none => exact ⟨_, rfl, rfl, rfl⟩
  | some a =>
    refine ⟨.sc (.bool (!isNone (enc a))), by show dIsNot (enc a) .none = _; unfold dIsNot; rfl, ?_, sz_bool _⟩
    rw [NN.n]; rfl
theorem op_isND : Op2P dIs (fun (a : D) (_ : Unit) => isNone a) := fun a u _ _ => ⟨_, by show dIs a .none = _; unfold dIs; rfl, rfl, rfl⟩
theorem op_isNotND : Op2P dIsNot (fun (a : D) (_ : Unit) => !isNone a) := fun a u _ _ => ⟨_, by show dIsNot a .none = _; unfold dIsNot; rfl, rfl, rfl⟩
theorem op_isNf [NN α] : Op2P dIs (fun (a : α) (_ : Unit) => false) := fun a u _ _ => ⟨.sc (.bool (isNone (enc a))), by show dIs (enc a) .none = _; unfold dIs; rfl, by rw [NN.n]; rfl, rfl⟩
theorem op_isNotNf [NN α] : Op2P dIsNot (fun (a : α) (_ : Unit) => true) := fun a u _ _ => ⟨.sc (.bool (!isNone (enc a))), by show dIsNot (enc a) .none = _; unfold dIsNot; rfl, by rw [NN.n]; rfl, rfl⟩
end
theorem op_isB : Op2P dIs (fun (a b : Bool) => a == b) := fun a b _ _ => ⟨_, rfl, rfl, rfl⟩
theorem op_isNotB : Op2P dIsNot (fun (a b : Bool) => !(a == b)) := fun a b _ _ => ⟨_, rfl, rfl, rfl⟩

/-! ### numbers -/
theorem op_add : Op2P dAdd (fun (a b : Int) => a + b) := fun a b _ _ => ⟨_, rfl, rfl, rfl⟩
theorem op_sub : Op2P dSub (fun (a b : Int) => a - b) := fun a b _ _ => ⟨_, rfl, rfl, rfl⟩
theorem op_neg : Op1P dNeg (fun (a : Int) => -a) := fun a _ => ⟨_, rfl, rfl, rfl⟩
theorem op_lt : Op2P dLt (fun (a b : Int) => decide (a < b)) := fun a b _ _ => ⟨_, rfl, rfl, rfl⟩
theorem op_le : Op2P dLe (fun (a b : Int) => decide (a ≤ b)) := fun a b _ _ => ⟨_, rfl, rfl, rfl⟩
theorem op_gt : Op2P dGt (fun (a b : Int) => decide (b < a)) := fun a b _ _ => ⟨_, rfl, rfl, rfl⟩
theorem op_ge : Op2P dGe (fun (a b : Int) => decide (b ≤ a)) := fun a b _ _ => ⟨_, rfl, rfl, rfl⟩
theorem op_ltS : Op2P dLt (fun (a b : Str) => decide (a.cps.toList < b.cps.toList)) := fun a b _ _ => ⟨_, rfl, rfl, rfl⟩
theorem small_of {a : Int} (h : -18446744073709551616 < a ∧ a < 18446744073709551616) : small a = true := by
  rw [small_iff]
  omega
def tMul (a b : Int) : X Unit Int := rq ((-18446744073709551616 < a ∧ a < 18446744073709551616) ∨ (-18446744073709551616 < b ∧ b < 18446744073709551616)) (.ok (a * b))
def tDiv (a b : Int) : X Unit Int := rq (0 < b ∧ b < 1073741824) (.ok (a / b))
def tMod (a b : Int) : X Unit Int := rq (0 < b) (.ok (a % b))
def tPow (a b : Int) : X Unit Int := rq (0 ≤ b ∧ b ≤ 1000 ∧ -18446744073709551616 < a ∧ a < 18446744073709551616) (.ok (a ^ b.toNat))
theorem op_mul : Op2T dMul tMul := fun a b _ _ => OR.rq fun h => ⟨.sc (.int (a * b)), by
  show dMul (.int a) (.int b) = _
  rw [dMul_ii, if_pos]
  rcases h with h | h
  · rw [small_of h]; rfl
  · rw [small_of h, Bool.or_true], rfl, rfl⟩
theorem op_div : Op2T dDiv tDiv := fun a b _ _ => OR.rq fun h => ⟨.sc (.int (a / b)), by show dDiv (.int a) (.int b) = _; rw [dDiv_ii, if_pos (by simp [h.1, h.2])], rfl, rfl⟩
theorem op_mod : Op2T dMod tMod := fun a b _ _ => OR.rq fun h => ⟨.sc (.int (a % b)), by show dMod (.int a) (.int b) = _; rw [dMod_ii, if_pos (by simp [h])], rfl, rfl⟩
theorem op_pow : Op2T dPow tPow := fun a b _ _ => OR.rq fun h => ⟨.sc (.int (a ^ b.toNat)), by
  show dPow (.int a) (.int b) = _
  rw [dPow_ii, if_pos]
  simp only [Bool.and_eq_true, decide_eq_true_eq]
  exact ⟨⟨h.1, h.2.1⟩, by omega⟩, rfl, rfl⟩
theorem op_xor : Op2P dXor (fun (a b : Int) => Builtin.bitXor a b) := fun a b _ _ => ⟨_, rfl, rfl, rfl⟩
/-- by a number that is written -/
theorem en_mulr {e : Env} {A B : Env → R Lv} {a b : Int} (ha : EP e A (.ok a)) (hb : EP e B (.ok b)) (h : -18446744073709551616 < b ∧ b < 18446744073709551616) : EN e (c2 dMul A B) (.ok (a * b)) := by
  have := en_2 op_mul ha hb
  rw [x2_ok, tMul, rq_t (.inr h)] at this
  exact this
theorem en_mull {e : Env} {A B : Env → R Lv} {a b : Int} (ha : EP e A (.ok a)) (hb : EP e B (.ok b)) (h : -18446744073709551616 < a ∧ a < 18446744073709551616) : EN e (c2 dMul A B) (.ok (a * b)) := by
  have := en_2 op_mul ha hb
  rw [x2_ok, tMul, rq_t (.inl h)] at this
  exact this
theorem en_divr {e : Env} {A B : Env → R Lv} {a b : Int} (ha : EP e A (.ok a)) (hb : EP e B (.ok b)) (h : 0 < b ∧ b < 1073741824) : EN e (c2 dDiv A B) (.ok (a / b)) := by
  have := en_2 op_div ha hb
  rw [x2_ok, tDiv, rq_t h] at this
  exact this
theorem en_modr {e : Env} {A B : Env → R Lv} {a b : Int} (ha : EP e A (.ok a)) (hb : EP e B (.ok b)) (h : 0 < b) : EN e (c2 dMod A B) (.ok (a % b)) := by
  have := en_2 op_mod ha hb
  rw [x2_ok, tMod, rq_t h] at this
  exact this
/-! ### texts, lists -/
theorem slen_cat (a b : Str) : (a ++ b).length = a.length + b.length := by
  show (a.cps ++ b.cps).size = _
  rw [Array.size_append]
  rfl
def tCatS (a b : Str) : X Unit Str := rq (a.length + b.length ≤ 16777216) (.ok (a ++ b))
theorem op_cats : Op2T dAdd tCatS := fun a b _ _ => OR.rq fun h => ⟨.sc (.str (a ++ b)), by show dAdd (.str a) (.str b) = _; rw [dAdd_ss, if_pos (fits_of h)], rfl, sz_str.mpr (by rw [slen_cat]; exact h)⟩
theorem op_lenS : Op1P (fun d => dLen [d]) (fun (a : Str) => (a.length : Int)) := fun a ha => ⟨.sc (.int a.length), by show dLen [.str a] = _; rw [dLen_s, if_pos (fits_of ha.slen)], rfl, rfl⟩
def tIxS (z : Str) (i : Int) : X Unit Str := X.of ((atI z.cps.toList i).map fun c => (⟨#[c]⟩ : Str))
theorem op_ixS : Op2T dIx tIxS := fun z i hz _ => by
  have e : dIx (.str z) (.int i) = (atI z.cps.toList i).map fun c => .sc (.str ⟨#[c]⟩) := by show (if fits z.length = true then _ else none) = _; rw [if_pos (fits_of hz.slen)]
  show OR (dIx (.str z) (.int i)) _
  unfold tIxS
  rw [e]
  cases q : atI z.cps.toList i with
  | none => trivial
  | some c => exact ⟨_, rfl, rfl, sz_str.mpr (by show 1 ≤ _; decide)⟩
section
variable {α β : Type} [Enc α] [Enc β]
theorem atI_enc {l : List α} {i : Int} : atI (l.map (enc : α → D)) i = (atI l i).map enc := by
  unfold atI
  rw [List.length_map]
  cases ixN l.length i with
  | none => rfl
  | some j =>
    show (l.map enc)[j]? = (l[j]?).map enc
    rw [List.getElem?_map]
def tIx (l : List α) (i : Int) : X Unit α := X.of (atI l i)
theorem atI_mem {l : List α} {i : Int} {a : α} (h : atI l i = some a) : a ∈ l := by
  unfold atI at h
  cases q : ixN l.length i with
  | none => rw [q] at h; cases h
  | some j =>
    rw [q] at h
    exact List.mem_of_getElem? (show l[j]? = some a from h)
theorem op_ix : Op2T dIx (tIx (α := α)) := fun l i hl _ => by
  unfold tIx
  cases q : atI l i with
  | none => trivial
  | some a => exact ⟨.sc (enc a), by show dIx (.list (l.map enc)) (.int i) = _; rw [dIx_l, atI_enc, q]; rfl, rfl, hl.mem (atI_mem q)⟩
theorem op_len : Op1P (fun d => dLen [d]) (fun (l : List α) => (l.length : Int)) := fun l _ => ⟨.sc (.int l.length), by show dLen [.list (l.map enc)] = _; rw [dLen_l, List.length_map], rfl, rfl⟩
/-- t[k] of a tuple, k written -/
theorem en_tix {e : Env} {A B : Env → R Lv} {i : Nat} {t : X Unit α} {g : α → β} (ha : EP e A t) (hb : EP e B (.ok (i : Int))) (h : ∀ a : α, ∃ ds, (enc a : D) = .tuple ds ∧ ds[i]? = some (enc (g a))) : EN e (c2 dIx A B) (x1 (fun a => .ok (g a)) t) := by
  show RJ e ((A e).bind fun l e1 => (B e1).bind fun m e2 => ofO ((l.get e2).bind fun x => (m.get e2).bind fun y => dIx x y) e2) _ _
  refine ha.bind fun a l _ hl => ?_
  obtain ⟨m, h1, hm⟩ := hb.get
  rw [h1]
  show RJ e (ofO ((l.get e).bind fun x => (m.get e).bind fun y => dIx x y) e) _ _
  rw [hl.1, hm.1]
  obtain ⟨ds, h2, h3⟩ := h a
  have hz : Sz (g a) := by
    have z : szD (enc a) = true := hl.2
    rw [h2] at z
    have z : (decide (ds.length ≤ 16777216) && szAll ds) = true := z
    rw [Bool.and_eq_true, szAll_iff] at z
    exact z.2 _ (List.mem_of_getElem? h3)
  refine .ok (b := .sc (enc (g a))) ?_ ⟨rfl, hz⟩
  show ofO (dIx (enc a) (.int i)) e = _
  rw [h2, dIx_t, atI_nat, h3]
  rfl
end
section
variable {α β γ δ : Type} [Enc α] [Enc β] [Enc γ] [Enc δ]
theorem t2_0 (t : T2 α β) : ∃ ds, (enc t : D) = .tuple ds ∧ ds[0]? = some (enc t.a) := ⟨_, rfl, rfl⟩
theorem t2_1 (t : T2 α β) : ∃ ds, (enc t : D) = .tuple ds ∧ ds[1]? = some (enc t.b) := ⟨_, rfl, rfl⟩
theorem t3_0 (t : T3 α β γ) : ∃ ds, (enc t : D) = .tuple ds ∧ ds[0]? = some (enc t.a) := ⟨_, rfl, rfl⟩
theorem t3_1 (t : T3 α β γ) : ∃ ds, (enc t : D) = .tuple ds ∧ ds[1]? = some (enc t.b) := ⟨_, rfl, rfl⟩
theorem t3_2 (t : T3 α β γ) : ∃ ds, (enc t : D) = .tuple ds ∧ ds[2]? = some (enc t.c) := ⟨_, rfl, rfl⟩
theorem t4_0 (t : T4 α β γ δ) : ∃ ds, (enc t : D) = .tuple ds ∧ ds[0]? = some (enc t.a) := ⟨_, rfl, rfl⟩
theorem t4_1 (t : T4 α β γ δ) : ∃ ds, (enc t : D) = .tuple ds ∧ ds[1]? = some (enc t.b) := ⟨_, rfl, rfl⟩
theorem t4_2 (t : T4 α β γ δ) : ∃ ds, (enc t : D) = .tuple ds ∧ ds[2]? = some (enc t.c) := ⟨_, rfl, rfl⟩
theorem t4_3 (t : T4 α β γ δ) : ∃ ds, (enc t : D) = .tuple ds ∧ ds[3]? = some (enc t.d) := ⟨_, rfl, rfl⟩
end
/-! ### built-ins -/
theorem op_abs : Op1P (fun d => dAbs [d]) (fun (a : Int) => if a < 0 then -a else a) := fun a _ => ⟨_, rfl, rfl, rfl⟩
theorem op_int : Op1P (fun d => dIntOf [d]) (fun (a : Int) => a) := fun a _ => ⟨_, rfl, rfl, rfl⟩
theorem op_intB : Op1P (fun d => dIntOf [d]) (fun (a : Bool) => if a then (1 : Int) else 0) := fun a _ => ⟨_, rfl, rfl, rfl⟩
theorem op_boolB : Op1P (fun d => dBoolOf [d]) (fun (a : Bool) => a) := fun a _ => ⟨_, rfl, rfl, rfl⟩
theorem op_boolI : Op1P (fun d => dBoolOf [d]) (fun (a : Int) => a != 0) := fun a _ => ⟨_, rfl, rfl, rfl⟩
def tStr (a : Int) : X Unit Str := rq (a.natAbs.log2 < 1920 ∧ ((toString a : String) : Str).length ≤ 16777216) (.ok (toString a : String))
theorem op_str : Op1T (fun d => dStrOf [d]) tStr := fun a _ => OR.rq fun h => ⟨.sc (.str (toString a : String)), by show dStrOf [.int a] = _; rw [dStr_i, if_pos h.1], rfl, sz_str.mpr h.2⟩
theorem op_strS : Op1P (fun d => dStrOf [d]) (fun (a : Str) => a) := fun a h => ⟨_, rfl, rfl, h⟩
theorem asI_enc : ∀ l : List Int, asI (l.map enc) = some l
  | [] => rfl
  | a :: l => by
    show (asI (l.map enc)).map (a :: ·) = some (a :: l)
    rw [asI_enc l]
    rfl
theorem asB_enc : ∀ l : List Bool, asB (l.map enc) = some l
  | [] => rfl
  | a :: l => by
    show (asB (l.map enc)).map (a :: ·) = some (a :: l)
    rw [asB_enc l]
    rfl
theorem op_sum : Op1P (fun d => dSum [d]) (fun (l : List Int) => l.sum) := fun l _ => ⟨.sc (.int l.sum), by show (asI (l.map enc)).map (fun ns => NV.sc (.int ns.sum)) = _; rw [asI_enc]; rfl, rfl, rfl⟩
theorem op_any : Op1P (fun d => dAny [d]) (fun (l : List Bool) => l.any id) := fun l _ => ⟨.sc (.bool (l.any id)), by show (asB (l.map enc)).map (fun bs => NV.sc (.bool (bs.any id))) = _; rw [asB_enc]; rfl, rfl, rfl⟩
theorem op_all : Op1P (fun d => dAll [d]) (fun (l : List Bool) => l.all id) := fun l _ => ⟨.sc (.bool (l.all id)), by show (asB (l.map enc)).map (fun bs => NV.sc (.bool (bs.all id))) = _; rw [asB_enc]; rfl, rfl, rfl⟩
def tMaxL (l : List Int) : X Unit Int := X.of (maxI l)
def tMinL (l : List Int) : X Unit Int := X.of (minI l)
theorem op_maxL : Op1T (fun d => dMax [d]) tMaxL := fun l _ => by
  unfold tMaxL
  cases q : maxI l with
  | none => trivial
  | some m => exact ⟨.sc (.int m), by show ((asI (l.map enc)).bind maxI).map (fun m => NV.sc (.int m)) = _; rw [asI_enc, obind_some, q]; rfl, rfl, rfl⟩
theorem op_minL : Op1T (fun d => dMin [d]) tMinL := fun l _ => by
  unfold tMinL
  cases q : minI l with
  | none => trivial
  | some m => exact ⟨.sc (.int m), by show ((asI (l.map enc)).bind minI).map (fun m => NV.sc (.int m)) = _; rw [asI_enc, obind_some, q]; rfl, rfl, rfl⟩
theorem op_max : Op2P (fun d d' => dMax [d, d']) (fun (a b : Int) => if b > a then b else a) := fun a b _ _ => ⟨_, rfl, rfl, rfl⟩
theorem op_min : Op2P (fun d d' => dMin [d, d']) (fun (a b : Int) => if b < a then b else a) := fun a b _ _ => ⟨_, rfl, rfl, rfl⟩
/-! what isinstance says -/
section
variable {α β : Type} [Enc α] [Enc β] {T : String} {v : Bool}
theorem isi_I (h : isD T (.int 0) = v) (a : Int) : isD T (enc a : D) = v := h
theorem isi_B (h : isD T (.bool true) = v) (a : Bool) : isD T (enc a : D) = v := h
theorem isi_S (h : isD T (.str ⟨#[]⟩) = v) (a : Str) : isD T (enc a : D) = v := h
theorem isi_N (h : isD T .none = v) (a : Unit) : isD T (enc a : D) = v := h
theorem isi_L (h : isD T (.list []) = v) (a : List α) : isD T (enc a : D) = v := h
theorem isi_D (a : D) : isD T (enc a : D) = isD T a := rfl
theorem isi_O (h1 : isD T .none = false) (h : ∀ a : α, isD T (enc a : D) = true) (a : Option α) : isD T (enc a : D) = a.isSome := by
  cases a with
  | none => exact h1
  | some a => exact h a
theorem isi_Of (h1 : isD T .none = false) (h : ∀ a : α, isD T (enc a : D) = false) (a : Option α) : isD T (enc a : D) = false := by
  cases a with
  | none => exact h1
  | some a => exact h a
end
end DL

/-! Typed displays, slices, calls, what is walked, comprehensions. -/
namespace DL
open PySem PySem.Spec PyProof.Rows L2
open Enc (enc)
section
variable {β γ : Type} {e : Env}
theorem bind_assoc {α : Type} {r : R α} {f : α → Env → R β} {g : β → Env → R γ} : (r.bind f).bind g = r.bind fun a e1 => (f a e1).bind g := by
  cases r <;> rfl
theorem cons_b {A : Env → R Lv} {c : Env → R (List Lv)} {G : List Lv → Env → R β} : (cCons A c e).bind G = (A e).bind fun l e1 => (c e1).bind fun ls e2 => G (l :: ls) e2 := by
  show ((A e).bind fun l e1 => (c e1).bind fun ls e2 => R.ok (l :: ls) e2).bind G = _
  rw [bind_assoc]
  congr 1
  funext l e1
  rw [bind_assoc]
  rfl
theorem nil_b {G : List Lv → Env → R β} : (cNil e).bind G = G [] e := rfl
end
section
variable {α β γ δ ζ : Type} [Enc α] [Enc β] [Enc γ] [Enc δ] [Enc ζ] {e : Env} {A B C A4 A5 c : Env → R Lv} {ta : X Unit α} {tb : X Unit β} {tc : X Unit γ} {a : α} {b : β}
/-! ### displays -/
abbrev EA (e : Env) (n : Nat) (c : Env → R (List Lv)) (t : X Unit (List α)) : Prop := RJ e (c e) (fun l ls => ls = (l.map enc).map .val ∧ (∀ a ∈ l, Sz a) ∧ l.length = n) t
def tCons {α : Type} (ta : X Unit α) (t : X Unit (List α)) : X Unit (List α) := ta >>= fun a => t >>= fun l => .ok (a :: l)
theorem ea_nil : EA e 0 cNil (.ok ([] : List α)) := .ok rfl ⟨rfl, fun _ h => (by cases h), rfl⟩
theorem ea_cons {n : Nat} {c : Env → R (List Lv)} {t : X Unit (List α)} (ha : EV e A ta) (h : EA e n c t) : EA e (n + 1) (cCons A c) (tCons ta t) := by
  show RJ e ((A e).bind fun l e1 => (c e1).bind fun ls e2 => .ok (l :: ls) e2) _ _
  refine ha.bind fun a l _ hl => h.bind fun as ls _ hls => ?_
  refine .ok rfl ⟨by rw [hl.1, hls.1]; rfl, fun x hx => ?_, by rw [List.length_cons, hls.2.2]⟩
  rcases List.mem_cons.mp hx with rfl | hx
  · exact hl.2
  · exact hls.2.1 x hx
theorem ea_consp {n : Nat} {c : Env → R (List Lv)} {l : List α} (ha : EV e A (.ok a)) (h : EA e n c (.ok l)) : EA e (n + 1) (cCons A c) (.ok (a :: l)) := ea_cons ha h
theorem vals_map : ∀ ds : List D, vals (ds.map .val) = some ds
  | [] => rfl
  | d :: ds => by
    show (vals (ds.map .val)).map (d :: ·) = _
    rw [vals_map ds]
    rfl
theorem el_lst {n : Nat} {c : Env → R (List Lv)} {t : X Unit (List α)} (h : EA e n c t) (hn : n ≤ 16777216 := by decide) : EL e (cLst c) t := by
  cases t with
  | ok l =>
    obtain ⟨ls, h1, h2, h3, h4⟩ := h.get
    refine .ok (b := .nl (l.map enc)) ?_ ⟨rfl, sz_list.mpr ⟨by omega, h3⟩⟩
    rw [cLst_e, h1, bind_e]
    simp only [h2, vals_map, obind_some, List.length_map, fits_of (show l.length ≤ 16777216 by omega), if_true, ofO_some]
  | ex x => exact .ex (by rw [cLst_e, h.getx, bind_e])
  | st => exact .st
theorem en_t2 (ha : EV e A ta) (hb : EV e B tb) : EN e (cTup (cCons A (cCons B cNil))) (x2 (fun a b => .ok (⟨a, b⟩ : T2 α β)) ta tb) := by
  show RJ e ((cCons A (cCons B cNil) e).bind fun ls e1 => ofO ((vals ls).bind fun ds => if fits ds.length = true then some (NV.nt ds) else none) e1) _ _
  rw [cons_b]
  refine ha.bind fun a l _ hl => ?_
  rw [cons_b]
  refine hb.bind fun b m _ hm => ?_
  rw [hl.1, hm.1]
  exact .ok (b := .nt [enc a, enc b]) rfl ⟨rfl, sz_t2.mpr ⟨hl.2, hm.2⟩⟩
theorem en_t2p (ha : EV e A (.ok a)) (hb : EV e B (.ok b)) : EN e (cTup (cCons A (cCons B cNil))) (.ok (⟨a, b⟩ : T2 α β)) := en_t2 ha hb
theorem en_t3 (ha : EV e A ta) (hb : EV e B tb) (hc : EV e C tc) : EN e (cTup (cCons A (cCons B (cCons C cNil)))) (x3 (fun a b c => .ok (⟨a, b, c⟩ : T3 α β γ)) ta tb tc) := by
  show RJ e ((cCons A (cCons B (cCons C cNil)) e).bind fun ls e1 => ofO ((vals ls).bind fun ds => if fits ds.length = true then some (NV.nt ds) else none) e1) _ _
  rw [cons_b]
  refine ha.bind fun a l _ hl => ?_
  rw [cons_b]
  refine hb.bind fun b m _ hm => ?_
  rw [cons_b]
  refine hc.bind fun c o _ ho => ?_
  rw [hl.1, hm.1, ho.1]
  exact .ok (b := .nt [enc a, enc b, enc c]) rfl ⟨rfl, sz_t3.mpr ⟨hl.2, hm.2, ho.2⟩⟩
theorem en_t3p {c : γ} (ha : EV e A (.ok a)) (hb : EV e B (.ok b)) (hc : EV e C (.ok c)) : EN e (cTup (cCons A (cCons B (cCons C cNil)))) (.ok (⟨a, b, c⟩ : T3 α β γ)) := en_t3 ha hb hc
theorem en_t4 {td : X Unit δ} (ha : EV e A ta) (hb : EV e B tb) (hc : EV e C tc) (hd : EV e A4 td) : EN e (cTup (cCons A (cCons B (cCons C (cCons A4 cNil))))) (x4 (fun a b c d => .ok (⟨a, b, c, d⟩ : T4 α β γ δ)) ta tb tc td) := by
  show RJ e ((cCons A (cCons B (cCons C (cCons A4 cNil))) e).bind fun ls e1 => ofO ((vals ls).bind fun ds => if fits ds.length = true then some (NV.nt ds) else none) e1) _ _
  rw [cons_b]
  refine ha.bind fun a l _ hl => ?_
  rw [cons_b]
  refine hb.bind fun b m _ hm => ?_
  rw [cons_b]
  refine hc.bind fun c o _ ho => ?_
  rw [cons_b]
  refine hd.bind fun d p _ hp => ?_
  rw [hl.1, hm.1, ho.1, hp.1]
  exact .ok (b := .nt [enc a, enc b, enc c, enc d]) rfl ⟨rfl, sz_t4.mpr ⟨hl.2, hm.2, ho.2, hp.2⟩⟩
theorem en_t4p {c : γ} {d : δ} (ha : EV e A (.ok a)) (hb : EV e B (.ok b)) (hc : EV e C (.ok c)) (hd : EV e A4 (.ok d)) : EN e (cTup (cCons A (cCons B (cCons C (cCons A4 cNil))))) (.ok (⟨a, b, c, d⟩ : T4 α β γ δ)) := en_t4 ha hb hc hd
/-! ### new lists -/
def tCat (a b : List α) : X Unit (List α) := rq (a.length + b.length ≤ 16777216) (.ok (a ++ b))
theorem el_cat {ta tb : X Unit (List α)} (ha : EP e A ta) (hb : EP e B tb) : EL e (c2 dAdd A B) (x2 tCat ta tb) := by
  show RJ e ((A e).bind fun l e1 => (B e1).bind fun m e2 => ofO ((l.get e2).bind fun x => (m.get e2).bind fun y => dAdd x y) e2) _ _
  refine ha.bind fun a l _ hl => hb.bind fun b m _ hm => ?_
  refine RJ.rq fun h => ?_
  rw [hl.1, hm.1]
  refine .ok (b := .nl ((a ++ b).map enc)) ?_ ⟨rfl, sz_list.mpr ⟨by simpa using h, fun x hx => ?_⟩⟩
  · show ofO (dAdd (.list (a.map enc)) (.list (b.map enc))) e = _
    rw [dAdd_ll, List.length_map, List.length_map, if_pos (fits_of h), List.map_append]
    rfl
  · rcases List.mem_append.mp hx with hx | hx
    · exact hl.2.mem hx
    · exact hm.2.mem hx
theorem el_list (ta : X Unit (List α)) (ha : EP e A ta) : EL e (cB dList (cCons A cNil)) ta := by
  cases ta with
  | ok l =>
    obtain ⟨m, h1, h2, z⟩ := ha.get
    exact .ok (stB1 h1 h2 rfl) ⟨rfl, z⟩
  | ex x => exact .ex (by rw [cB_e, cCons_e, ha.getx, bind_e, bind_e])
  | st => exact .st
theorem dCut_map {l : List α} {lo hi : Option Int} : dCut (l.map (enc : α → D)) lo hi = (dCut l lo hi).map enc := by
  unfold dCut
  rw [List.length_map, List.map_take, List.map_drop]
theorem dCut_mem {l : List α} {lo hi : Option Int} {x : α} (h : x ∈ dCut l lo hi) : x ∈ l := List.mem_of_mem_drop (List.mem_of_mem_take h)
theorem dCut_len {l : List α} {lo hi : Option Int} : (dCut l lo hi).length ≤ l.length := by
  unfold dCut
  rw [List.length_take, List.length_drop]
  omega
abbrev EB (e : Env) (c : Env → R (Option Int)) (t : X Unit (Option Int)) : Prop := RJ e (c e) (fun a b => b = a) t
theorem eb_n : EB e cPartN (.ok none) := .ok rfl rfl
theorem eb_i {t : X Unit Int} (h : EP e A t) : EB e (cPart A) (x1 (fun i => .ok (some i)) t) := by
  show RJ e ((A e).bind fun l e1 => ofO ((l.get e1).bind fun d => (dInt d).map some) e1) _ _
  refine h.bind fun a l _ hl => ?_
  rw [hl.1]
  exact .ok rfl rfl
theorem eb_ip {i : Int} (h : EP e A (.ok i)) : EB e (cPart A) (.ok (some i)) := eb_i h
def tSl (l : List α) (lo hi : Option Int) : X Unit (List α) := .ok (dCut l lo hi)
theorem el_sl {ta : X Unit (List α)} {lo hi : Env → R (Option Int)} {tl th : X Unit (Option Int)} (ha : EP e A ta) (hl : EB e lo tl) (hh : EB e hi th) : EL e (cSl A lo hi) (x3 tSl ta tl th) := by
  show RJ e ((A e).bind fun l e1 => (lo e1).bind fun x e2 => (hi e2).bind fun y e3 => ofO ((l.get e3).bind fun d => dSl d x y) e3) _ _
  refine ha.bind fun a l _ h1 => hl.bind fun x x' _ h2 => hh.bind fun y y' _ h3 => ?_
  rw [h1.1, h2, h3]
  refine .ok (b := .nl ((dCut a x y).map enc)) ?_ ⟨rfl, sz_list.mpr ⟨Nat.le_trans dCut_len h1.2.len, fun z hz => h1.2.mem (dCut_mem hz)⟩⟩
  show ofO (some (NV.nl (dCut (a.map enc) x y))) e = _
  rw [dCut_map]
  rfl
theorem el_slp {l : List α} {lo hi : Env → R (Option Int)} {x y : Option Int} (ha : EP e A (.ok l)) (hl : EB e lo (.ok x)) (hh : EB e hi (.ok y)) : EL e (cSl A lo hi) (.ok (dCut l x y)) := el_sl ha hl hh
theorem cutS_len (a : Str) (lo hi : Option Int) : (cutS a lo hi).length ≤ a.length := by
  show ((cutS a lo hi).cps).size ≤ a.cps.size
  unfold cutS
  simp
  omega
def tSlS (l : Str) (lo hi : Option Int) : X Unit Str := .ok (cutS l lo hi)
theorem en_slS {ta : X Unit Str} {lo hi : Env → R (Option Int)} {tl th : X Unit (Option Int)} (ha : EP e A ta) (hl : EB e lo tl) (hh : EB e hi th) : EN e (cSl A lo hi) (x3 tSlS ta tl th) := by
  show RJ e ((A e).bind fun l e1 => (lo e1).bind fun x e2 => (hi e2).bind fun y e3 => ofO ((l.get e3).bind fun d => dSl d x y) e3) _ _
  refine ha.bind fun a l _ h1 => hl.bind fun x x' _ h2 => hh.bind fun y y' _ h3 => ?_
  rw [h1.1, h2, h3]
  refine .ok (b := .sc (.str (cutS a x y))) ?_ ⟨rfl, sz_str.mpr (Nat.le_trans (cutS_len _ _ _) h1.2.slen)⟩
  show ofO (if fits a.length = true then some (NV.sc (.str (cutS a x y))) else none) e = _
  rw [if_pos (fits_of h1.2.slen)]
  rfl
theorem en_slSp {l : Str} {lo hi : Env → R (Option Int)} {x y : Option Int} (ha : EP e A (.ok l)) (hl : EB e lo (.ok x)) (hh : EB e hi (.ok y)) : EN e (cSl A lo hi) (.ok (cutS l x y)) := en_slS ha hl hh

/-! ### what is walked -/
def irng (lo hi : Int) : List Int := (List.range (hi - lo).toNat).map fun (i : Nat) => lo + (i : Int)
theorem irng_len {lo hi : Int} : (irng lo hi).length = (hi - lo).toNat := by simp [irng]
theorem mem_irng {lo hi i : Int} : i ∈ irng lo hi ↔ lo ≤ i ∧ i < hi := by
  unfold irng
  rw [List.mem_map]
  constructor
  · rintro ⟨k, h1, rfl⟩
    rw [List.mem_range] at h1
    omega
  · rintro ⟨h1, h2⟩
    exact ⟨(i - lo).toNat, by rw [List.mem_range]; omega, by omega⟩
theorem irng_enc {lo hi : Int} : (irng lo hi).map enc = intsFrom lo (hi - lo).toNat := by
  unfold irng intsFrom
  rw [List.map_map]
  rfl
theorem irng_sz {lo hi : Int} (h : hi - lo ≤ 16777216) : Sz (irng lo hi) := sz_list.mpr ⟨by rw [irng_len]; omega, fun _ _ => rfl⟩
def tRng1 (n : Int) : X Unit (List Int) := rq (-4611686018427387904 ≤ n ∧ n ≤ 16777216) (.ok (irng 0 n))
def tRng2 (lo hi : Int) : X Unit (List Int) := rq (-4611686018427387904 ≤ lo ∧ lo < 4611686018427387904 ∧ -4611686018427387904 ≤ hi ∧ hi < 4611686018427387904 ∧ hi - lo ≤ 16777216) (.ok (irng lo hi))
theorem ei_rng1 {t : X Unit Int} (h : EP e A t) : EI e (cItR1 (cCons A cNil)) (x1 tRng1 t) := by
  show RJ e ((cCons A cNil e).bind fun ls e1 => match gets ls e1 with | some [.int j] => if inR j = true then .ok (intsFrom 0 j.toNat) e1 else .st | _ => .st) _ _
  rw [cons_b]
  refine h.bind fun n l _ hl => RJ.rq fun hn => ?_
  rw [nil_b, gets_cons, hl.1]
  refine .ok (b := (irng 0 n).map enc) ?_ ⟨rfl, irng_sz (by omega)⟩
  show (if inR n = true then R.ok (intsFrom 0 n.toNat) e else .st) = _
  rw [if_pos (by rw [inR_iff]; omega), irng_enc, Int.sub_zero]
theorem ei_rng1p {n : Int} (h : EP e A (.ok n)) (hn : -4611686018427387904 ≤ n ∧ n ≤ 16777216) : EI e (cItR1 (cCons A cNil)) (.ok (irng 0 n)) := by
  have := ei_rng1 h
  rw [x1_ok, tRng1, rq_t hn] at this
  exact this
theorem ei_rngL {l : List α} (h : EP e A (.ok l)) : EI e (cItR1 (cCons (cFrz (cB dLen (cCons A cNil))) cNil)) (.ok (irng 0 l.length)) := by
  obtain ⟨m, h1, h2, z⟩ := h.get
  exact ei_rng1p (EV.p (ev_frz (en_b1p (g := fun (l : List α) => (l.length : Int)) op_len h))) ⟨by omega, by have := z.len; omega⟩
theorem ei_rngS {l : Str} (h : EP e A (.ok l)) : EI e (cItR1 (cCons (cFrz (cB dLen (cCons A cNil))) cNil)) (.ok (irng 0 l.length)) := by
  obtain ⟨m, h1, h2, z⟩ := h.get
  exact ei_rng1p (EV.p (ev_frz (en_b1p (g := fun (l : Str) => (l.length : Int)) op_lenS h))) ⟨by omega, by have := z.slen; omega⟩
theorem ei_rng2 {t u : X Unit Int} (h : EP e A t) (h' : EP e B u) : EI e (cItR2 (cCons A (cCons B cNil))) (x2 tRng2 t u) := by
  show RJ e ((cCons A (cCons B cNil) e).bind fun ls e1 => match gets ls e1 with | some [.int i, .int j] => if (inR i && inR j) = true then .ok (intsFrom i (j - i).toNat) e1 else .st | _ => .st) _ _
  rw [cons_b]
  refine h.bind fun n l _ hl => ?_
  rw [cons_b]
  refine h'.bind fun k m _ hm => RJ.rq fun hn => ?_
  rw [nil_b, gets_cons, gets_cons, hl.1, hm.1]
  refine .ok (b := (irng n k).map enc) ?_ ⟨rfl, irng_sz (by omega)⟩
  show (if (inR n && inR k) = true then R.ok (intsFrom n (k - n).toNat) e else .st) = _
  rw [if_pos (by rw [Bool.and_eq_true, inR_iff, inR_iff]; omega), irng_enc]
theorem ei_rng2p {n k : Int} (h : EP e A (.ok n)) (h' : EP e B (.ok k)) (hn : -4611686018427387904 ≤ n ∧ n < 4611686018427387904 ∧ -4611686018427387904 ≤ k ∧ k < 4611686018427387904 ∧ k - n ≤ 16777216) : EI e (cItR2 (cCons A (cCons B cNil))) (.ok (irng n k)) := by
  have := ei_rng2 h h'
  rw [x2_ok, tRng2, rq_t hn] at this
  exact this
theorem ei_seq {t : X Unit (List α)} (h : EV e A t) : EI e (cItS A) t := by
  cases t with
  | ok l =>
    obtain ⟨m, h1, rfl, z⟩ := h.get
    exact .ok (b := l.map enc) (by rw [cItS_e, h1, bind_e]; rfl) ⟨rfl, z⟩
  | ex x => exact .ex (by rw [cItS_e, h.getx, bind_e])
  | st => exact .st
def signs (s : Str) : List Str := s.cps.toList.map fun c => ⟨#[c]⟩
theorem signs_len {s : Str} : (signs s).length = s.length := by
  unfold signs
  rw [List.length_map, Array.length_toList]
  rfl
theorem ei_str {t : X Unit Str} (h : EV e A t) : EI e (cItS A) (x1 (fun s => .ok (signs s)) t) := by
  show RJ e ((A e).bind fun l e1 => match l with | .val d => ofO (seqOf d) e1 | _ => .st) _ _
  refine h.bind fun s l _ hl => ?_
  rw [hl.1]
  refine .ok (b := (signs s).map enc) ?_ ⟨rfl, sz_list.mpr ⟨by rw [signs_len]; exact hl.2.slen, fun a ha => ?_⟩⟩
  · show ofO (some (s.cps.toList.map fun c => PyData.str ⟨#[c]⟩)) e = _
    unfold signs
    rw [List.map_map]
    rfl
  · obtain ⟨c, _, rfl⟩ := List.mem_map.mp ha
    exact sz_str.mpr (by show 1 ≤ _; decide)
theorem ei_strp {s : Str} (h : EV e A (.ok s)) : EI e (cItS A) (.ok (signs s)) := ei_str h
theorem ei_rev {t : X Unit (List α)} (h : EV e A t) : EI e (cItRev A) (x1 (fun l => .ok l.reverse) t) := by
  show RJ e ((A e).bind fun l e1 => match l with | .val (.list ds) => .ok ds.reverse e1 | _ => .st) _ _
  refine h.bind fun l m _ hl => ?_
  rw [hl.1]
  refine .ok (b := l.reverse.map enc) ?_ ⟨rfl, sz_list.mpr ⟨by rw [List.length_reverse]; exact hl.2.len, fun a ha => hl.2.mem (List.mem_reverse.mp ha)⟩⟩
  show R.ok (l.map enc).reverse e = _
  rw [List.map_reverse]
theorem ei_revp {l : List α} (h : EV e A (.ok l)) : EI e (cItRev A) (.ok l.reverse) := ei_rev h
/-- a written tuple of items of one kind -/
theorem ei_tup {n : Nat} {c : Env → R (List Lv)} {t : X Unit (List α)} (h : EA e n c t) (hn : n ≤ 16777216 := by decide) : EI e (cItS (cFrz (cTup c))) t := by
  cases t with
  | ok l =>
    obtain ⟨ls, h1, h2, h3, h4⟩ := h.get
    refine .ok (b := l.map enc) ?_ ⟨rfl, sz_list.mpr ⟨by omega, h3⟩⟩
    rw [cItS_e, cFrz_e, cTup_e, h1, bind_e]
    simp only [h2, vals_map, obind_some, List.length_map, fits_of (show l.length ≤ 16777216 by omega), if_true, ofO_some, bind_e]
    rfl
  | ex x => exact .ex (by rw [cItS_e, cFrz_e, cTup_e, h.getx, bind_e, bind_e, bind_e])
  | st => exact .st
/-! ### targets -/
structure Tg (n : Nat) (ws : List Nat) (f : D → Env → Option Env) (T : α → Env → Env) : Prop where
  step : ∀ (x : α) e, f (enc x) e = some (T x e)
  out : ∀ (x : α) e i, i ∉ ws → (T x e)[i]? = e[i]?
  len : ∀ (x : α) e, (T x e).length = e.length
  ov : ∀ (x : α) e e', e'.length = e.length → (∀ i, i ∉ ws → e'[i]? = e[i]?) → T x e' = T x e
  lt : ∀ i ∈ ws, i < n
def T1 (i : Nat) (x : α) (e : Env) : Env := e.set i (some (enc x))
theorem tg1 {n i : Nat} (h : i < n) : Tg n [i] (fSet i) (T1 i (α := α)) := by
  refine ⟨fun _ _ => rfl, fun x e j hj => ?_, fun x e => List.length_set, fun x e e' hl ho => ?_, fun j hj => ?_⟩
  · exact List.getElem?_set_ne fun z => hj (by rw [z]; exact List.mem_singleton_self _)
  · refine List.ext_getElem? fun j => ?_
    unfold T1
    by_cases hj : j = i
    · subst hj
      simp [List.getElem?_set, hl]
    · rw [List.getElem?_set_ne (Ne.symm hj), List.getElem?_set_ne (Ne.symm hj)]
      exact ho j fun z => hj (List.mem_singleton.mp z)
  · rw [List.mem_singleton.mp hj]; exact h
end
section
variable {α β γ : Type} [Enc α] [Enc β] [Enc γ]
def T2g (i j : Nat) (x : T2 α β) (e : Env) : Env := (e.set i (some (enc x.a))).set j (some (enc x.b))
theorem tg2 {n i j : Nat} (hi : i < n) (hj : j < n) : Tg n [i, j] (fTup 2 (fCons (fSet i) (fCons (fSet j) fNil))) (T2g i j (α := α) (β := β)) := by
  refine ⟨fun _ _ => rfl, fun x e k hk => ?_, fun x e => ?_, fun x e e' hl ho => ?_, fun k hk => ?_⟩
  · unfold T2g
    rw [List.getElem?_set_ne fun z => hk (by rw [z]; simp), List.getElem?_set_ne fun z => hk (by rw [z]; simp)]
  · unfold T2g
    rw [List.length_set, List.length_set]
  · refine List.ext_getElem? fun k => ?_
    unfold T2g
    by_cases h1 : k = i
    · subst h1
      simp [List.getElem?_set, hl]
    · by_cases h2 : k = j
      · subst h2
        simp [List.getElem?_set, hl, Ne.symm h1]
      · rw [List.getElem?_set_ne (Ne.symm h2), List.getElem?_set_ne (Ne.symm h1), List.getElem?_set_ne (Ne.symm h2), List.getElem?_set_ne (Ne.symm h1)]
        exact ho k (by simp [h1, h2])
  · rcases List.mem_cons.mp hk with rfl | hk
    · exact hi
    · rw [List.mem_singleton.mp hk]; exact hj
def T3g (i j k : Nat) (x : T3 α β γ) (e : Env) : Env := ((e.set i (some (enc x.a))).set j (some (enc x.b))).set k (some (enc x.c))
theorem tg3 {n i j k : Nat} (hi : i < n) (hj : j < n) (hk : k < n) : Tg n [i, j, k] (fTup 3 (fCons (fSet i) (fCons (fSet j) (fCons (fSet k) fNil)))) (T3g i j k (α := α) (β := β) (γ := γ)) := by
  refine ⟨fun _ _ => rfl, fun x e m hm => ?_, fun x e => ?_, fun x e e' hl ho => ?_, fun m hm => ?_⟩
  · unfold T3g
    rw [List.getElem?_set_ne fun z => hm (by rw [z]; simp), List.getElem?_set_ne fun z => hm (by rw [z]; simp), List.getElem?_set_ne fun z => hm (by rw [z]; simp)]
  · unfold T3g
    rw [List.length_set, List.length_set, List.length_set]
  · refine List.ext_getElem? fun m => ?_
    unfold T3g
    by_cases h1 : m = i
    · subst h1
      simp [List.getElem?_set, hl]
    · by_cases h2 : m = j
      · subst h2
        simp [List.getElem?_set, hl, Ne.symm h1]
      · by_cases h3 : m = k
        · subst h3
          simp [List.getElem?_set, hl, Ne.symm h1, Ne.symm h2]
        · rw [List.getElem?_set_ne (Ne.symm h3), List.getElem?_set_ne (Ne.symm h2), List.getElem?_set_ne (Ne.symm h1), List.getElem?_set_ne (Ne.symm h3), List.getElem?_set_ne (Ne.symm h2), List.getElem?_set_ne (Ne.symm h1)]
          exact ho m (by simp [h1, h2, h3])
  · simp at hm
    rcases hm with rfl | rfl | rfl
    · exact hi
    · exact hj
    · exact hk
end
/-! ### comprehensions -/
def compT {α β : Type} (p : α → X Unit Bool) (g : α → X Unit β) : List α → X Unit (List β)
  | [] => .ok []
  | a :: r => match p a with
    | .ok true => (match g a with
      | .ok b => (match compT p g r with
        | .ok bs => .ok (b :: bs)
        | _ => .st)
      | _ => .st)
    | .ok false => compT p g r
    | _ => .st
def tComp {α β : Type} (tl : X Unit (List α)) (p : α → X Unit Bool) (g : α → X Unit β) : X Unit (List β) := tl >>= fun l => compT p g l
theorem compT_pure {α β : Type} {p : α → Bool} {g : α → β} : ∀ l : List α, compT (fun a => .ok (p a)) (fun a => .ok (g a)) l = .ok ((l.filter p).map g)
  | [] => rfl
  | a :: r => by
    rw [compT]
    cases q : p a with
    | true => simp only [compT_pure r]; rw [List.filter_cons_of_pos q]; rfl
    | false => simp only [compT_pure r]; rw [List.filter_cons_of_neg (by simp [q])]
theorem compT_ok {α β : Type} {p : α → X Unit Bool} {g : α → X Unit β} {p' : α → Bool} {g' : α → β} : ∀ {l : List α}, (∀ a ∈ l, p a = .ok (p' a)) → (∀ a ∈ l, p' a = true → g a = .ok (g' a)) → compT p g l = .ok ((l.filter p').map g')
  | [], _, _ => rfl
  | a :: r, h1, h2 => by
    have ih := compT_ok (l := r) (fun a ha => h1 a (List.mem_cons_of_mem _ ha)) (fun a ha => h2 a (List.mem_cons_of_mem _ ha))
    rw [compT, h1 a List.mem_cons_self]
    cases q : p' a with
    | true => simp only [h2 a List.mem_cons_self q, ih]; rw [List.filter_cons_of_pos q]; rfl
    | false => simp only [ih]; rw [List.filter_cons_of_neg (by simp [q])]
theorem compT_map {α β : Type} {g : α → X Unit β} {g' : α → β} {l : List α} (h : ∀ a ∈ l, g a = .ok (g' a)) : compT (fun _ => .ok true) g l = .ok (l.map g') := by
  rw [compT_ok (p' := fun _ => true) (g' := g') (fun _ _ => rfl) (fun a ha _ => h a ha), List.filter_eq_self.mpr (fun _ _ => rfl)]
section
variable {α β : Type} [Enc α] [Enc β] {e : Env} {n : Nat} {ws : List Nat} {f : D → Env → Option Env} {T : α → Env → Env} {ci : Env → R (List D)} {t : Env → R Bool} {c : Env → R Lv} {tl : X Unit (List α)} {p : α → X Unit Bool} {g : α → X Unit β}
theorem clear_agree {e e' : Env} (hl : e'.length = e.length) (ho : ∀ i, i ∉ ws → e'[i]? = e[i]?) : (clearE ws e').length = e.length ∧ ∀ i, i ∉ ws → (clearE ws e')[i]? = e[i]? :=
  ⟨by rw [clearE_len, hl], fun i hi => by rw [clearE_out hi, ho i hi]⟩
theorem rstE_len : ∀ {vs : List Nat} {e0 e : Env}, (restoreE vs e0 e).length = e.length
  | [], _, _ => rfl
  | j :: vs, e0, e => by
    show (restoreE vs e0 (e.set j _)).length = _
    rw [rstE_len, List.length_set]
theorem rstE_out : ∀ {vs : List Nat} {e0 e : Env} {i : Nat}, i ∉ vs → (restoreE vs e0 e)[i]? = e[i]?
  | [], _, _, _, _ => rfl
  | j :: vs, e0, e, i, h => by
    rw [List.mem_cons, not_or] at h
    show (restoreE vs e0 (e.set j _))[i]? = _
    rw [rstE_out h.2, List.getElem?_set_ne (fun z => h.1 z.symm)]
theorem rstE_in : ∀ {vs : List Nat} {e0 e : Env} {i : Nat}, i ∈ vs → e.length = e0.length → (restoreE vs e0 e)[i]? = e0[i]?
  | [], _, _, _, h, _ => by cases h
  | j :: vs, e0, e, i, h, hl => by
    show (restoreE vs e0 (e.set j (e0.getD j none)))[i]? = _
    by_cases hv : i ∈ vs
    · exact rstE_in hv (by rw [List.length_set, hl])
    · have : i = j := by
        rcases List.mem_cons.mp h with z | z
        · exact z
        · exact absurd z hv
      subst this
      rw [rstE_out hv]
      by_cases hi : i < e.length
      · rw [List.getElem?_set_self hi, List.getD_eq_getElem?_getD, List.getElem?_eq_getElem (by omega)]
        rfl
      · rw [List.getElem?_eq_none (by rw [List.length_set]; omega), List.getElem?_eq_none (by omega)]
theorem restore_agree {e e' : Env} (hl : e'.length = e.length) (ho : ∀ i, i ∉ ws → e'[i]? = e[i]?) : restoreE ws e e' = e := by
  refine List.ext_getElem? fun i => ?_
  by_cases hi : i ∈ ws
  · exact rstE_in hi hl
  · rw [rstE_out hi, ho i hi]
theorem compL_T (hT : Tg n ws f T) (hn : n ≤ e.length) (hp : ∀ x, Sz x → ET (T x e) t (p x)) (hg : ∀ x, Sz x → EV (T x e) c (g x)) : ∀ (l : List α) (e' : Env) (bs : List β), (∀ a ∈ l, Sz a) → e'.length = e.length → (∀ i, i ∉ ws → e'[i]? = e[i]?) → compT p g l = .ok bs →
    ∃ e2, compL ws f t c (l.map enc) e' = .ok (bs.map enc) e2 ∧ e2.length = e.length ∧ (∀ i, i ∉ ws → e2[i]? = e[i]?) ∧ (∀ b ∈ bs, Sz b) ∧ bs.length ≤ l.length
  | [], e', bs, _, hl, ho, h => by
    cases h
    exact ⟨e', rfl, hl, ho, fun _ h => (by cases h), Nat.le_refl _⟩
  | a :: r, e', bs, hz, hl, ho, h => by
    have ha := hz a List.mem_cons_self
    obtain ⟨c1, c2⟩ := clear_agree (ws := ws) hl ho
    have h1 : f (enc a) (clearE ws e') = some (T a e) := by rw [hT.step, hT.ov a e _ c1 c2]
    have hp' := hp a ha
    have hg' := hg a ha
    have ex := hT.len a e
    have eo := hT.out a e
    rw [List.map_cons, compL, h1]
    simp only
    rw [compT] at h
    cases q : p a with
    | ex x u => rw [q] at h; cases h
    | st => rw [q] at h; cases h
    | ok k =>
      rw [q] at h hp'
      obtain ⟨k', h2, h3⟩ := hp'.get
      subst h3
      rw [h2]
      cases k' with
      | false =>
        have h : compT p g r = .ok bs := h
        obtain ⟨e2, i1, i2, i3, i4, i5⟩ := compL_T hT hn hp hg r (T a e) bs (fun a ha => hz a (List.mem_cons_of_mem _ ha)) ex eo h
        exact ⟨e2, i1, i2, i3, i4, Nat.le_succ_of_le i5⟩
      | true =>
        simp only at h ⊢
        cases q2 : g a with
        | ex x u => rw [q2] at h; cases h
        | st => rw [q2] at h; cases h
        | ok b =>
          rw [q2] at h hg'
          obtain ⟨l', h4, rfl, zb⟩ := hg'.get
          simp only [h4]
          cases q3 : compT p g r with
          | ex x u => rw [q3] at h; cases h
          | st => rw [q3] at h; cases h
          | ok bs' =>
            rw [q3] at h
            cases h
            obtain ⟨e2, i1, i2, i3, i4, i5⟩ := compL_T hT hn hp hg r (T a e) bs' (fun a ha => hz a (List.mem_cons_of_mem _ ha)) ex eo q3
            refine ⟨e2, by simp only [i1]; rfl, i2, i3, fun z hz' => ?_, Nat.succ_le_succ i5⟩
            rcases List.mem_cons.mp hz' with rfl | hz'
            · exact zb
            · exact i4 z hz'
theorem compT_noex {p : α → X Unit Bool} {g : α → X Unit β} : ∀ {l : List α} {x : Exc} {u : Unit}, compT p g l ≠ .ex x u
  | [], _, _ => by intro h; cases h
  | a :: r, x, u => by
    rw [compT]
    split
    · split
      · split
        · intro h; cases h
        · intro h; cases h
      · intro h; cases h
    · exact compT_noex
    · intro h; cases h
theorem el_comp (hT : Tg n ws f T) (hn : n ≤ e.length) (hi : EI e ci tl) (hp : ∀ x, Sz x → ET (T x e) t (p x)) (hg : ∀ x, Sz x → EV (T x e) c (g x)) : EL e (cComp ws ci f t c) (tComp tl p g) := by
  show RJ e ((ci e).bind fun ds e1 => if fits ds.length = true then (match compL ws f t c ds e1 with | .ok xs e2 => R.ok (NV.nl xs) (restoreE ws e1 e2) | _ => .st) else .st) _ _
  refine hi.bind fun l ds _ hl => ?_
  rw [hl.1, List.length_map, if_pos (fits_of hl.2.len)]
  cases q : compT p g l with
  | ok bs =>
    obtain ⟨e2, h1, h2, h3, h4, h5⟩ := compL_T hT hn hp hg l e bs (fun a ha => hl.2.mem ha) rfl (fun _ _ => rfl) q
    rw [h1]
    simp only
    rw [restore_agree h2 h3]
    exact .ok rfl ⟨rfl, sz_list.mpr ⟨Nat.le_trans h5 hl.2.len, h4⟩⟩
  | ex x u => exact absurd q compT_noex
  | st => exact .st
theorem el_compP {l : List α} {p : α → Bool} {g : α → β} (hT : Tg n ws f T) (hn : n ≤ e.length) (hi : EI e ci (.ok l)) (hp : ∀ x, Sz x → ET (T x e) t (.ok (p x))) (hg : ∀ x, Sz x → EV (T x e) c (.ok (g x))) : EL e (cComp ws ci f t c) (.ok ((l.filter p).map g)) := by
  have := el_comp hT hn hi hp hg
  rw [tComp, X.ok_b, compT_pure] at this
  exact this
theorem el_compM {l : List α} {g : α → β} (hT : Tg n ws f T) (hn : n ≤ e.length) (hi : EI e ci (.ok l)) (hg : ∀ x, Sz x → EV (T x e) c (.ok (g x))) : EL e (cComp ws ci f cYes c) (.ok (l.map g)) := by
  have := el_compP (p := fun _ => true) hT hn hi (fun _ _ => et_yes) hg
  rw [List.filter_eq_self.mpr (fun _ _ => rfl)] at this
  exact this
theorem el_compF {l : List α} {p : α → Bool} (hT : Tg n ws f T) (hn : n ≤ e.length) (hi : EI e ci (.ok l)) (hp : ∀ x, Sz x → ET (T x e) t (.ok (p x))) (hg : ∀ x, Sz x → EV (T x e) c (.ok x)) : EL e (cComp ws ci f t c) (.ok (l.filter p)) := by
  have := el_compP hT hn hi hp hg
  rw [List.map_id'] at this
  exact this
/-- .. over an own list -/
theorem el_compO {oi : Nat} {l : List α} {tc : X Unit (List β)} (ho : At e oi (enc l)) (h : EL (e.set oi none) (cComp ws (fun e => .ok (l.map enc) e) f t c) tc) : EL e (cCompO oi ws f t c) tc := by
  have h0 : e.getD oi none = some (.list (l.map enc)) := ho.getD
  have h2 : (e.set oi none).set oi (some (.list (l.map enc))) = e := by
    rw [List.set_set]
    refine List.ext_getElem? fun i => ?_
    by_cases hi : i = oi
    · subst hi
      rw [List.getElem?_set_self ho.lt]
      exact ho.1.symm
    · rw [List.getElem?_set_ne (Ne.symm hi)]
  have h1 : cCompO oi ws f t c e = hidE oi (l.map enc) (cComp ws (fun e => .ok (l.map enc) e) f t c (e.set oi none)) := by
    unfold cCompO
    rw [h0]
  cases tc with
  | ok bs =>
    obtain ⟨nv, h3, h4⟩ := h.get
    refine .ok ?_ h4
    rw [h1, h3]
    show R.ok nv ((e.set oi none).set oi (some (.list (l.map enc)))) = _
    rw [h2]
  | ex x u =>
    refine .ex ?_
    rw [h1, h.getx]
    show R.ex x ((e.set oi none).set oi (some (.list (l.map enc)))) = _
    rw [h2]
  | st => exact .st
theorem ei_own {l : List α} (h : Sz l) : EI e (fun e => .ok (l.map enc) e) (.ok l) := .ok rfl ⟨rfl, h⟩
end
/-! ### calls -/
structure FnT {α : Type} [Enc α] (m : List D → FR) (ds : List D) (t : X Unit α) : Prop where
  h : match t with
    | .ok a => Sz a ∧ ∃ outs, m ds = .ok (enc a) outs
    | .ex x _ => ∃ outs, m ds = .ex x outs
    | .st => True
def allFz (l : List Sh) : Bool := l.all isFz
theorem allFz_cons {m : Sh} {l : List Sh} (h : allFz (m :: l) = true) : isFz m = true ∧ allFz l = true := by
  unfold allFz at h
  rw [List.all_cons, Bool.and_eq_true] at h
  exact h
theorem indeps_fz : ∀ {ms : List Sh} {ds : List D}, allFz ms = true → indeps ms ds = true
  | [], _, _ => by simp [indeps]
  | m :: ms, [], _ => by simp [indeps]
  | m :: ms, d :: ds, h => by
    have ⟨h1, h2⟩ := allFz_cons h
    unfold indeps
    rw [h1, indeps_fz h2]
    rfl
theorem putB_all {ms : List Sh} {ks : List (Option Nat)} {ds : List D} {e : Env} (h : allFz ms = true) : putB ms ks ds e = e := putB_fz fun m hm => by
  unfold allFz at h
  rw [List.all_eq_true] at h
  exact isFz_iff.mp (h m hm)
def callG (modes : List Sh) (ks : List (Option Nat)) (rsh : Sh) (m : List D → FR) (dd : List D) : List Lv → Env → R D := fun ls e1 =>
  if ls.map Lv.slot = ks then
    match getsA ls e1 with
    | none => .st
    | some ds => match m (ds ++ dd) with
      | .ok r outs => if (!borrows modes ks || (indep rsh r && indeps modes outs)) = true then .ok r (putB modes ks outs e1) else .st
      | .ex x outs => if (!borrows modes ks || indeps modes outs) = true then .ex x (putB modes ks outs e1) else .st
      | .st => .st
  else .st
section
variable {α : Type} [Enc α] {modes : List Sh} {ks : List (Option Nat)} {rsh : Sh} {m : List D → FR} {dd ds : List D} {ls : List Lv} {e : Env} {t : X Unit α}
theorem call_core (hm : allFz modes = true) (h2 : ls.map Lv.slot = ks) (h3 : getsA ls e = some ds) (hf : FnT m (ds ++ dd) t) (hz : borrows modes ks = false ∨ ∀ g : α, indep rsh (enc g) = true) : RJ e (callG modes ks rsh m dd ls e) (fun a d => d = enc a ∧ Sz a) t := by
  unfold callG
  rw [if_pos h2, h3]
  simp only
  cases t with
  | ok a =>
    obtain ⟨z, outs, h⟩ := hf.h
    rw [h]
    simp only
    have : (!borrows modes ks || (indep rsh (enc a) && indeps modes outs)) = true := by
      rw [indeps_fz hm]
      rcases hz with hz | hz
      · rw [hz]; rfl
      · rw [hz a]; simp
    rw [if_pos this, putB_all hm]
    exact .ok rfl ⟨rfl, z⟩
  | ex x u =>
    obtain ⟨outs, h⟩ := hf.h
    rw [h]
    simp only
    rw [if_pos (by rw [indeps_fz hm]; simp), putB_all hm]
    exact .ex rfl
  | st => exact .st
end
section
variable {α β γ δ ζ ω : Type} [Enc α] [Enc β] [Enc γ] [Enc δ] [Enc ζ] [Enc ω] {modes : List Sh} {k1 k2 k3 k4 k5 : Option Nat} {rsh : Sh} {m : List D → FR} {dd : List D} {e : Env} {A1 A2 A3 A4 A5 : Env → R Lv} {t1 : X Unit α} {t2 : X Unit β} {t3 : X Unit γ} {t4 : X Unit δ} {t5 : X Unit ζ}
theorem eo_c0 {tf : X Unit ω} (hf : FnT m ([] ++ dd) tf) (hm : allFz modes = true) (hz : borrows modes [] = false ∨ ∀ g : ω, indep rsh (enc g) = true) : EO e (cCall modes [] rsh m dd cNil) tf := call_core (ls := []) hm rfl rfl hf hz
theorem eo_c1 {tf : α → X Unit ω} (hf : ∀ a, Sz a → FnT m ([enc a] ++ dd) (tf a)) (hm : allFz modes = true) (hz : borrows modes [k1] = false ∨ ∀ g : ω, indep rsh (enc g) = true) (h1 : EG e k1 A1 t1) : EO e (cCall modes [k1] rsh m dd (cCons A1 cNil)) (x1 tf t1) := by
  show RJ e ((cCons A1 cNil e).bind (callG modes [k1] rsh m dd)) _ _
  rw [cons_b]
  refine h1.bind fun a1 l1 _ q1 => ?_
  rw [nil_b]
  exact call_core hm (by simp [q1.1.1]) (by simp [getsA, q1.1.2]) (hf _ q1.2) hz
theorem eo_c2 {tf : α → β → X Unit ω} (hf : ∀ a b, Sz a → Sz b → FnT m ([enc a, enc b] ++ dd) (tf a b)) (hm : allFz modes = true) (hz : borrows modes [k1, k2] = false ∨ ∀ g : ω, indep rsh (enc g) = true) (h1 : EG e k1 A1 t1) (h2 : EG e k2 A2 t2) : EO e (cCall modes [k1, k2] rsh m dd (cCons A1 (cCons A2 cNil))) (x2 tf t1 t2) := by
  show RJ e ((cCons A1 (cCons A2 cNil) e).bind (callG modes [k1, k2] rsh m dd)) _ _
  rw [cons_b]
  refine h1.bind fun a1 l1 _ q1 => ?_
  rw [cons_b]
  refine h2.bind fun a2 l2 _ q2 => ?_
  rw [nil_b]
  exact call_core hm (by simp [q1.1.1, q2.1.1]) (by simp [getsA, q1.1.2, q2.1.2]) (hf _ _ q1.2 q2.2) hz
theorem eo_c3 {tf : α → β → γ → X Unit ω} (hf : ∀ a b c, Sz a → Sz b → Sz c → FnT m ([enc a, enc b, enc c] ++ dd) (tf a b c)) (hm : allFz modes = true) (hz : borrows modes [k1, k2, k3] = false ∨ ∀ g : ω, indep rsh (enc g) = true) (h1 : EG e k1 A1 t1) (h2 : EG e k2 A2 t2) (h3 : EG e k3 A3 t3) : EO e (cCall modes [k1, k2, k3] rsh m dd (cCons A1 (cCons A2 (cCons A3 cNil)))) (x3 tf t1 t2 t3) := by
  show RJ e ((cCons A1 (cCons A2 (cCons A3 cNil)) e).bind (callG modes [k1, k2, k3] rsh m dd)) _ _
  rw [cons_b]
  refine h1.bind fun a1 l1 _ q1 => ?_
  rw [cons_b]
  refine h2.bind fun a2 l2 _ q2 => ?_
  rw [cons_b]
  refine h3.bind fun a3 l3 _ q3 => ?_
  rw [nil_b]
  exact call_core hm (by simp [q1.1.1, q2.1.1, q3.1.1]) (by simp [getsA, q1.1.2, q2.1.2, q3.1.2]) (hf _ _ _ q1.2 q2.2 q3.2) hz
theorem eo_c4 {tf : α → β → γ → δ → X Unit ω} (hf : ∀ a b c d, Sz a → Sz b → Sz c → Sz d → FnT m ([enc a, enc b, enc c, enc d] ++ dd) (tf a b c d)) (hm : allFz modes = true) (hz : borrows modes [k1, k2, k3, k4] = false ∨ ∀ g : ω, indep rsh (enc g) = true) (h1 : EG e k1 A1 t1) (h2 : EG e k2 A2 t2) (h3 : EG e k3 A3 t3) (h4 : EG e k4 A4 t4) :
    EO e (cCall modes [k1, k2, k3, k4] rsh m dd (cCons A1 (cCons A2 (cCons A3 (cCons A4 cNil))))) (x4 tf t1 t2 t3 t4) := by
  show RJ e ((cCons A1 (cCons A2 (cCons A3 (cCons A4 cNil))) e).bind (callG modes [k1, k2, k3, k4] rsh m dd)) _ _
  rw [cons_b]
  refine h1.bind fun a1 l1 _ q1 => ?_
  rw [cons_b]
  refine h2.bind fun a2 l2 _ q2 => ?_
  rw [cons_b]
  refine h3.bind fun a3 l3 _ q3 => ?_
  rw [cons_b]
  refine h4.bind fun a4 l4 _ q4 => ?_
  rw [nil_b]
  exact call_core hm (by simp [q1.1.1, q2.1.1, q3.1.1, q4.1.1]) (by simp [getsA, q1.1.2, q2.1.2, q3.1.2, q4.1.2]) (hf _ _ _ _ q1.2 q2.2 q3.2 q4.2) hz
theorem eo_c5 {tf : α → β → γ → δ → ζ → X Unit ω} (hf : ∀ a b c d z, Sz a → Sz b → Sz c → Sz d → Sz z → FnT m ([enc a, enc b, enc c, enc d, enc z] ++ dd) (tf a b c d z)) (hm : allFz modes = true) (hz : borrows modes [k1, k2, k3, k4, k5] = false ∨ ∀ g : ω, indep rsh (enc g) = true) (h1 : EG e k1 A1 t1) (h2 : EG e k2 A2 t2) (h3 : EG e k3 A3 t3) (h4 : EG e k4 A4 t4) (h5 : EG e k5 A5 t5) :
    EO e (cCall modes [k1, k2, k3, k4, k5] rsh m dd (cCons A1 (cCons A2 (cCons A3 (cCons A4 (cCons A5 cNil)))))) (x5 tf t1 t2 t3 t4 t5) := by
  show RJ e ((cCons A1 (cCons A2 (cCons A3 (cCons A4 (cCons A5 cNil)))) e).bind (callG modes [k1, k2, k3, k4, k5] rsh m dd)) _ _
  rw [cons_b]
  refine h1.bind fun a1 l1 _ q1 => ?_
  rw [cons_b]
  refine h2.bind fun a2 l2 _ q2 => ?_
  rw [cons_b]
  refine h3.bind fun a3 l3 _ q3 => ?_
  rw [cons_b]
  refine h4.bind fun a4 l4 _ q4 => ?_
  rw [cons_b]
  refine h5.bind fun a5 l5 _ q5 => ?_
  rw [nil_b]
  exact call_core hm (by simp [q1.1.1, q2.1.1, q3.1.1, q4.1.1, q5.1.1]) (by simp [getsA, q1.1.2, q2.1.2, q3.1.2, q4.1.2, q5.1.2]) (hf _ _ _ _ _ q1.2 q2.2 q3.2 q4.2 q5.2) hz
end
end DL

/-! Typed statements. -/
namespace DL
open PySem PySem.Spec PyProof.Rows L2
open Enc (enc)
/-- r is what t says: the outcomes told by Φ, the state at an exception by Θ -/
structure SV {ε ω ρ : Type} (Θ : ε → Env → Prop) (Φ : ω → R ρ → Prop) (r : R ρ) (t : X ε ω) : Prop where
  h : match t with
    | .ok w => Φ w r
    | .ex x s => ∃ e', r = .ex x e' ∧ Θ s e'
    | .st => True
def Th0 : Unit → Env → Prop := fun _ _ => True
section
variable {ε ω ρ : Type} {Θ : ε → Env → Prop} {Φ : ω → R ρ → Prop} {r : R ρ} {t : X ε ω}
theorem SV.ok {w : ω} (h : Φ w r) : SV Θ Φ r (.ok w) := ⟨h⟩
theorem SV.st : SV Θ Φ r .st := ⟨trivial⟩
theorem SV.ex {x : Exc} {s : ε} {e : Env} (h : r = .ex x e) (hs : Θ s e) : SV Θ Φ r (.ex x s) := ⟨⟨e, h, hs⟩⟩
theorem SV.get {w : ω} (h : SV Θ Φ r (.ok w)) : Φ w r := h.h
theorem SV.getx {x : Exc} {s : ε} (h : SV Θ Φ r (.ex x s)) : ∃ e', r = .ex x e' ∧ Θ s e' := h.h
theorem SV.rq {p : Prop} [Decidable p] (h : p → SV Θ Φ r t) : SV Θ Φ r (DL.rq p t) := by
  unfold DL.rq
  split
  · exact h ‹_›
  · exact .st
theorem SV.iff {b : Bool} {t u : X ε ω} (h1 : b = true → SV Θ Φ r t) (h2 : b = false → SV Θ Φ r u) : SV Θ Φ r (if b = true then t else u) := by
  cases b with
  | true => exact h1 rfl
  | false => exact h2 rfl
theorem SV.j {α β : Type} {e : Env} {rb : R β} {v : α → β → Prop} {ta : X Unit α} {K : β → Env → R ρ} {k : α → X ε ω} {s : ε} (h : RJ e rb v ta) (hs : Θ s e) (hk : ∀ a b, v a b → SV Θ Φ (K b e) (k a)) : SV Θ Φ (rb.bind K) (xb s ta k) := by
  cases ta with
  | ok a =>
    obtain ⟨b, h1, h2⟩ := h.get
    rw [h1]
    exact hk a b h2
  | ex x u =>
    rw [h.getx]
    exact .ex rfl hs
  | st => exact .st
theorem SV.jp {α β : Type} {e : Env} {rb : R β} {v : α → β → Prop} {a : α} {K : β → Env → R ρ} (h : RJ e rb v (.ok a)) (hk : ∀ b, v a b → SV Θ Φ (K b e) t) : SV Θ Φ (rb.bind K) t := by
  obtain ⟨b, h1, h2⟩ := h.get
  rw [h1]
  exact hk b h2
end
section
variable {α β γ ε ω : Type} [Enc α] [Enc β] [Enc γ] {Θ : ε → Env → Prop} {Φ : ω → R Fl → Prop} {e : Env} {s : ε} {A B C : Env → R Lv} {rest : Env → R Fl} {t : X ε ω} {ta : X Unit α} {tb : X Unit β} {k : α → X ε ω} {i : Nat}
theorem sv_skip (h : SV Θ Φ (rest e) t) : SV Θ Φ (cSeq cNx rest e) t := h
theorem seq_assoc {a b c : Env → R Fl} : cSeq (cSeq a b) c e = cSeq a (cSeq b c) e := by
  rw [cSeq_e, cSeq_e, cSeq_e]
  cases a e with
  | ok fl e1 => cases fl <;> rfl
  | ex x e1 => rfl
  | st => rfl
theorem sv_assoc {a b c : Env → R Fl} (h : SV Θ Φ (cSeq a (cSeq b c) e) t) : SV Θ Φ (cSeq (cSeq a b) c e) t := by rw [seq_assoc]; exact h
theorem seq_end {a : Env → R Fl} : cSeq a cNx e = a e := by
  rw [cSeq_e]
  cases a e with
  | ok fl e1 => cases fl <;> rfl
  | ex x e1 => rfl
  | st => rfl
/-- the last statement, as if nothing came behind -/
theorem sv_end {a : Env → R Fl} (h : SV Θ Φ (cSeq a cNx e) t) : SV Θ Φ (a e) t := by rw [seq_end] at h; exact h
def asgK (f : D → Env → Option Env) (rest : Env → R Fl) : Lv → Env → R Fl := fun l e1 => match l with
  | .val d => (match f d e1 with
    | some e2 => rest e2
    | none => .st)
  | _ => .st
theorem sq_asg {f : D → Env → Option Env} : cSeq (cAsg A f) rest e = (A e).bind (asgK f rest) := by
  rw [cSeq_e, cAsg_e]
  cases A e with
  | ok l e1 =>
    cases l with
    | val d =>
      simp only [bind_e, asgK]
      cases f d e1 <;> rfl
    | _ => rfl
  | ex x e1 => rfl
  | st => rfl
theorem sv_asg (hA : EV e A ta) (hs : Θ s e) (h : ∀ a, Sz a → SV Θ Φ (rest (e.set i (some (enc a)))) (k a)) : SV Θ Φ (cSeq (cAsg A (fSet i)) rest e) (xb s ta k) := by
  rw [sq_asg]
  refine SV.j hA hs fun a l hl => ?_
  rw [hl.1]
  exact h a hl.2
theorem sv_asgT {f : D → Env → Option Env} {n : Nat} {ws : List Nat} {T : α → Env → Env} (hT : Tg n ws f T) (hA : EV e A ta) (hs : Θ s e) (h : ∀ a, Sz a → SV Θ Φ (rest (T a e)) (k a)) : SV Θ Φ (cSeq (cAsg A f) rest e) (xb s ta k) := by
  rw [sq_asg]
  refine SV.j hA hs fun a l hl => ?_
  rw [hl.1]
  show SV Θ Φ (match f (enc a) e with | some e2 => rest e2 | none => .st) _
  rw [hT.step]
  exact h a hl.2
theorem sq_drop : cSeq (cDrop A) rest e = (A e).bind fun _ e1 => rest e1 := by
  rw [cSeq_e, cDrop_e]
  cases A e <;> rfl
theorem sv_drop {t : X ε ω} (hA : EV e A ta) (hs : Θ s e) (h : SV Θ Φ (rest e) t) : SV Θ Φ (cSeq (cDrop A) rest e) (xb s ta fun _ => t) := by
  rw [sq_drop]
  exact SV.j hA hs fun a l hl => h
theorem sq_if {S : Env → R Bool} {P Q : Env → R Fl} : cSeq (cIf S P Q) rest e = (S e).bind fun b e1 => match b with | true => cSeq P rest e1 | false => cSeq Q rest e1 := by
  rw [cSeq_e, cIf_e]
  cases S e with
  | ok b e1 => cases b <;> rfl
  | ex x e1 => rfl
  | st => rfl
theorem sv_if {S : Env → R Bool} {P Q : Env → R Fl} {tS : X Unit Bool} {u v : X ε ω} (hS : ET e S tS) (hs : Θ s e) (hu : SV Θ Φ (cSeq P rest e) u) (hv : SV Θ Φ (cSeq Q rest e) v) : SV Θ Φ (cSeq (cIf S P Q) rest e) (xb s tS fun b => if b = true then u else v) := by
  rw [sq_if]
  refine SV.j hS hs fun b l hl => ?_
  subst hl
  cases l with
  | true => exact hu
  | false => exact hv
theorem sv_ifp {S : Env → R Bool} {P Q : Env → R Fl} {b : Bool} {u v : X ε ω} (hS : ET e S (.ok b)) (hu : SV Θ Φ (cSeq P rest e) u) (hv : SV Θ Φ (cSeq Q rest e) v) : SV Θ Φ (cSeq (cIf S P Q) rest e) (if b = true then u else v) := by
  rw [sq_if]
  refine SV.jp hS fun l hl => ?_
  subst hl
  cases l with
  | true => exact hu
  | false => exact hv
/-! returns, raises -/
theorem sq_ret : cSeq (cRet A) rest e = (A e).bind fun l e1 => match l with | .val d => .ok (.rt d) e1 | _ => .st := by
  rw [cSeq_e, cRet_e]
  cases A e with
  | ok l e1 => cases l <;> rfl
  | ex x e1 => rfl
  | st => rfl
theorem sv_ret {w : α → ω} (hA : EV e A ta) (hs : Θ s e) (h : ∀ a, Sz a → Φ (w a) (.ok (.rt (enc a)) e)) : SV Θ Φ (cSeq (cRet A) rest e) (xb s ta fun a => .ok (w a)) := by
  rw [sq_ret]
  refine SV.j hA hs fun a l hl => ?_
  rw [hl.1]
  exact .ok (h a hl.2)
theorem sv_retp {w : ω} {a : α} (hA : EV e A (.ok a)) (h : Sz a → Φ w (.ok (.rt (enc a)) e)) : SV Θ Φ (cSeq (cRet A) rest e) (.ok w) := by
  rw [sq_ret]
  refine SV.jp hA fun l hl => ?_
  rw [hl.1]
  exact .ok (h hl.2)
theorem sv_retN {w : ω} (h : Φ w (.ok (.rt .none) e)) : SV Θ Φ (cSeq cRetN rest e) (.ok w) := .ok h
theorem sq_retO {n : Env → R D} : cSeq (cRetO n) rest e = (n e).bind fun d e1 => .ok (.rt d) e1 := by
  rw [cSeq_e, cRetO_e]
  cases n e <;> rfl
theorem sv_retO {w : α → ω} {n : Env → R D} (hA : EO e n ta) (hs : Θ s e) (h : ∀ a, Sz a → Φ (w a) (.ok (.rt (enc a)) e)) : SV Θ Φ (cSeq (cRetO n) rest e) (xb s ta fun a => .ok (w a)) := by
  rw [sq_retO]
  refine SV.j hA hs fun a l hl => ?_
  rw [hl.1]
  exact .ok (h a hl.2)
/-- a name's own thing is handed back -/
theorem sv_retM {w : ω} {a : α} (hi : At e i (enc a)) (h : Sz a → Φ w (.ok (.rt (enc a)) (e.set i none))) : SV Θ Φ (cSeq (cRetO (cMove i)) rest e) (.ok w) := by
  rw [sq_retO, cMove_e, hi.getD]
  exact .ok (h hi.2)
/-- .. frozen -/
theorem sv_retZ {w : ω} {a : α} (hi : At e i (enc a)) (h : Sz a → Φ w (.ok (.rt (enc a)) (e.set i none))) : SV Θ Φ (cSeq (cRet (cMelt (cMove i))) rest e) (.ok w) := by
  rw [sq_ret, cMelt_e, cMove_e, hi.getD]
  exact .ok (h hi.2)
theorem sq_raise {cn : Str} : cSeq (cRaise cn A) rest e = (A e).bind fun _ e1 => .ex ⟨cn, none⟩ e1 := by
  rw [cSeq_e, cRaise_e]
  cases A e <;> rfl
theorem sv_raise {cn : Str} (hA : EV e A ta) (hs : Θ s e) : SV Θ Φ (cSeq (cRaise cn A) rest e) (xb s ta fun _ => .ex ⟨cn, none⟩ s) := by
  rw [sq_raise]
  exact SV.j hA hs fun a l hl => .ex rfl hs
theorem sv_raisep {cn : Str} {a : α} (hA : EV e A (.ok a)) (hs : Θ s e) : SV Θ Φ (cSeq (cRaise cn A) rest e) (.ex ⟨cn, none⟩ s) := by
  rw [sq_raise]
  exact SV.jp hA fun l hl => .ex rfl hs
/-! own lists -/
theorem sq_setO {n : Env → R D} : cSeq (cSetO i n) rest e = (n e).bind fun d e1 => rest (e1.set i (some d)) := by
  rw [cSeq_e, cSetO_e]
  cases n e <;> rfl
theorem sv_setO {n : Env → R D} (hA : EO e n ta) (hs : Θ s e) (h : ∀ a, Sz a → SV Θ Φ (rest (e.set i (some (enc a)))) (k a)) : SV Θ Φ (cSeq (cSetO i n) rest e) (xb s ta k) := by
  rw [sq_setO]
  refine SV.j hA hs fun a l hl => ?_
  rw [hl.1]
  exact h a hl.2
/-- what a method of the list at i does -/
def mutK {ρ : Type} (i : Nat) (g : List D → List D → Option (D × List D)) (K : Lv → Env → R ρ) : List Lv → Env → R ρ := fun ls e1 => match e1.getD i none, vals ls with
  | some (.list ds), some as => (match g ds as with
    | some (r, ds') => K (.val r) (e1.set i (some (.list ds')))
    | none => .st)
  | _, _ => .st
theorem mut_b {ρ : Type} {g : List D → List D → Option (D × List D)} {ca : Env → R (List Lv)} {K : Lv → Env → R ρ} {ds : List D} (h : e.getD i none = some (.list ds)) : (cMut i g ca e).bind K = (ca e).bind (mutK i g K) := by
  rw [cMut_e, h]
  simp only
  rw [DL.bind_assoc]
  congr 1
  funext ls e1
  unfold mutK
  cases h1 : e1.getD i none with
  | none => rfl
  | some d =>
    cases d with
    | list ds1 =>
      cases h2 : vals ls with
      | none => rfl
      | some as =>
        simp only
        cases h3 : g ds1 as with
        | none => rfl
        | some p =>
          obtain ⟨r, ds'⟩ := p
          rfl
    | _ => cases h2 : vals ls <;> rfl
theorem mutK_ok {ρ : Type} {g : List D → List D → Option (D × List D)} {K : Lv → Env → R ρ} {ls : List Lv} {ds ds' as : List D} {r : D} (h : e.getD i none = some (.list ds)) (h1 : vals ls = some as) (h2 : g ds as = some (r, ds')) : mutK i g K ls e = K (.val r) (e.set i (some (.list ds'))) := by
  unfold mutK
  rw [h, h1]
  simp only [h2]
theorem sz_app {l : List α} {a : α} (h : l.length + 1 ≤ 16777216) (hl : Sz l) (ha : Sz a) : Sz (l ++ [a]) := sz_list.mpr ⟨by simpa using h, fun x hx => by
  rcases List.mem_append.mp hx with hx | hx
  · exact hl.mem hx
  · rw [List.mem_singleton.mp hx]; exact ha⟩
theorem sz_cat {l m : List α} (h : l.length + m.length ≤ 16777216) (hl : Sz l) (hm : Sz m) : Sz (l ++ m) := sz_list.mpr ⟨by simpa using h, fun x hx => by
  rcases List.mem_append.mp hx with hx | hx
  · exact hl.mem hx
  · exact hm.mem hx⟩
theorem app_K {ρ : Type} {K : Lv → Env → R ρ} {l : List α} {a : α} (hl : At e i (enc l)) (h : l.length + 1 ≤ 16777216) : mutK i gApp K [.val (enc a)] e = K (.val .none) (e.set i (some (enc (l ++ [a])))) := by
  refine mutK_ok (ds := l.map enc) (as := [enc a]) hl.getD rfl ?_
  show (if fits ((l.map enc).length + 1) = true then some (PyData.none, l.map enc ++ [enc a]) else none) = _
  rw [List.length_map, if_pos (fits_of h), List.map_append]
  rfl
theorem sv_app {l : List α} (hl : At e i (enc l)) (hA : EV e A ta) (hs : Θ s e) (h : ∀ a, Sz a → Sz (l ++ [a]) → SV Θ Φ (rest (e.set i (some (enc (l ++ [a]))))) (k a)) :
    SV Θ Φ (cSeq (cDrop (cMut i gApp (cCons A cNil))) rest e) (xb s ta fun a => rq (l.length + 1 ≤ 16777216) (k a)) := by
  rw [sq_drop, mut_b (ds := l.map enc) hl.getD, cons_b]
  refine SV.j hA hs fun a m hm => SV.rq fun hz => ?_
  rw [nil_b, hm.1, app_K hl hz]
  exact h a hm.2 (sz_app hz hl.2 hm.2)
theorem ext_K {ρ : Type} {K : Lv → Env → R ρ} {l a : List α} (hl : At e i (enc l)) (h : l.length + a.length ≤ 16777216) : mutK i gExt K [.val (enc a)] e = K (.val .none) (e.set i (some (enc (l ++ a)))) := by
  refine mutK_ok (ds := l.map enc) (as := [enc a]) hl.getD rfl ?_
  show (if fits ((l.map enc).length + (a.map enc).length) = true then some (PyData.none, l.map enc ++ a.map enc) else none) = _
  rw [List.length_map, List.length_map, if_pos (fits_of h), List.map_append]
theorem sv_ext {l : List α} {ta : X Unit (List α)} {k : List α → X ε ω} (hl : At e i (enc l)) (hA : EV e A ta) (hs : Θ s e) (h : ∀ a, Sz a → Sz (l ++ a) → SV Θ Φ (rest (e.set i (some (enc (l ++ a))))) (k a)) :
    SV Θ Φ (cSeq (cDrop (cMut i gExt (cCons A cNil))) rest e) (xb s ta fun a => rq (l.length + a.length ≤ 16777216) (k a)) := by
  rw [sq_drop, mut_b (ds := l.map enc) hl.getD, cons_b]
  refine SV.j hA hs fun a m hm => SV.rq fun hz => ?_
  rw [nil_b, hm.1, ext_K hl hz]
  exact h a hm.2 (sz_cat hz hl.2 hm.2)
def insAt {α : Type} (l : List α) (i : Int) (a : α) : List α := l.take i.toNat ++ [a] ++ l.drop i.toNat
theorem sz_ins {l : List α} {j : Int} {a : α} (h : l.length + 1 ≤ 16777216) (hl : Sz l) (ha : Sz a) : Sz (insAt l j a) := sz_list.mpr ⟨by unfold insAt; simp; omega, fun x hx => by
  unfold insAt at hx
  simp only [List.mem_append, List.mem_singleton] at hx
  rcases hx with (hx | hx) | hx
  · exact hl.mem (List.mem_of_mem_take hx)
  · rw [hx]; exact ha
  · exact hl.mem (List.mem_of_mem_drop hx)⟩
theorem ins_K {ρ : Type} {K : Lv → Env → R ρ} {l : List α} {a : α} {j : Int} (hl : At e i (enc l)) (h : l.length + 1 ≤ 16777216 ∧ 0 ≤ j ∧ j < 4611686018427387904) : mutK i gIns K [.val (enc j), .val (enc a)] e = K (.val .none) (e.set i (some (enc (insAt l j a)))) := by
  refine mutK_ok (ds := l.map enc) (as := [.int j, enc a]) hl.getD rfl ?_
  show (if (fits ((l.map enc).length + 1) && decide (0 ≤ j) && inR j) = true then some (PyData.none, (l.map enc).take j.toNat ++ [enc a] ++ (l.map enc).drop j.toNat) else none) = some (PyData.none, (insAt l j a).map enc)
  have h1 : inR j = true := by rw [inR_iff]; omega
  rw [List.length_map, fits_of h.1, h1, decide_eq_true h.2.1]
  unfold insAt
  simp
theorem sv_ins {l : List α} {tj : X Unit Int} {k : Int → α → X ε ω} (hl : At e i (enc l)) (hB : EV e B tj) (hA : EV e A ta) (hs : Θ s e) (h : ∀ j a, Sz a → Sz (insAt l j a) → SV Θ Φ (rest (e.set i (some (enc (insAt l j a))))) (k j a)) :
    SV Θ Φ (cSeq (cDrop (cMut i gIns (cCons B (cCons A cNil)))) rest e) (xb s tj fun j => xb s ta fun a => rq (l.length + 1 ≤ 16777216 ∧ 0 ≤ j ∧ j < 4611686018427387904) (k j a)) := by
  rw [sq_drop, mut_b (ds := l.map enc) hl.getD, cons_b]
  refine SV.j hB hs fun j m hm => ?_
  rw [cons_b]
  refine SV.j hA hs fun a m' hm' => SV.rq fun hz => ?_
  rw [nil_b, hm.1, hm'.1, ins_K hl hz]
  exact h j a hm'.2 (sz_ins hz.1 hl.2 hm'.2)
def tPut {ε : Type} (l : List α) (a : α) (j : Int) : X ε (List α) := X.of ((ixN l.length j).map fun n => l.set n a)
theorem sz_set {l : List α} {a : α} {n : Nat} (hl : Sz l) (ha : Sz a) : Sz (l.set n a) := sz_list.mpr ⟨by rw [List.length_set]; exact hl.len, fun x hx => by
  rcases List.mem_or_eq_of_mem_set hx with hx | hx
  · exact hl.mem hx
  · rw [hx]; exact ha⟩
theorem sq_store : cSeq (cStore i A B) rest e = (A e).bind fun l e1 => match l with
    | .val d => (match e1.getD i none with
      | some _ => (B e1).bind fun m e2 => (match e2.getD i none, m.get e2 with
        | some (.list ds), some (.int k) => (match ixN ds.length k with
          | some j => rest (e2.set i (some (.list (ds.set j d))))
          | none => .st)
        | _, _ => .st)
      | none => .st)
    | _ => .st := by
  rw [cSeq_e, cStore_e]
  cases A e with
  | ex x e1 => rfl
  | st => rfl
  | ok l e1 =>
    cases l with
    | val d =>
      simp only [bind_e]
      cases e1.getD i none with
      | none => rfl
      | some d1 =>
        simp only
        cases B e1 with
        | ex x e2 => rfl
        | st => rfl
        | ok m e2 =>
          simp only [bind_e]
          cases h1 : e2.getD i none with
          | none => rfl
          | some d2 =>
            cases d2 with
            | list ds =>
              cases h2 : m.get e2 with
              | none => rfl
              | some d3 =>
                cases d3 with
                | int kk =>
                  simp only
                  cases ixN ds.length kk <;> rfl
                | _ => rfl
            | _ => cases m.get e2 <;> rfl
    | _ => rfl
theorem sv_store {l : List α} {tj : X Unit Int} {k : List α → X ε ω} (hl : At e i (enc l)) (hA : EV e A ta) (hB : EP e B tj) (hs : Θ s e) (h : ∀ l', Sz l' → SV Θ Φ (rest (e.set i (some (enc l')))) (k l')) :
    SV Θ Φ (cSeq (cStore i A B) rest e) (xb s ta fun a => xb s tj fun j => tPut l a j >>= k) := by
  rw [sq_store]
  refine SV.j hA hs fun a m hm => ?_
  rw [hm.1]
  simp only [hl.getD]
  refine SV.j hB hs fun j m' hm' => ?_
  rw [hm'.1, hl.getD]
  show SV Θ Φ (match ixN (l.map enc).length j with | some j => rest (e.set i (some (.list ((l.map enc).set j (enc a))))) | none => .st) _
  rw [List.length_map]
  unfold tPut
  cases ixN l.length j with
  | none => exact .st
  | some n =>
    show SV Θ Φ (rest (e.set i (some (.list ((l.map enc).set n (enc a)))))) (k (l.set n a))
    rw [← List.map_set]
    exact h _ (sz_set hl.2 hm.2)
/-! ### loops -/
inductive Lp (σ ω : Type) where
  | nx (s : σ)
  | bk (s : σ)
  | rt (w : ω)
def forX {ε σ α ω : Type} (step : σ → α → X ε (Lp σ ω)) (k : σ → X ε ω) : List α → σ → X ε ω
  | [], s => k s
  | d :: r, s => step s d >>= fun l => match l with
    | .nx s' => forX step k r s'
    | .bk s' => k s'
    | .rt w => .ok w
def forF {ε σ α : Type} (step : σ → α → X ε σ) : List α → σ → X ε σ
  | [], s => .ok s
  | d :: r, s => step s d >>= fun s' => forF step r s'
theorem forF_pure {ε σ α : Type} {f : σ → α → σ} : ∀ (l : List α) (s : σ), forF (ε := ε) (fun s a => .ok (f s a)) l s = .ok (l.foldl f s)
  | [], s => rfl
  | a :: r, s => by
    show forF _ r (f s a) = _
    exact forF_pure r (f s a)
def LΦ {σ ω : Type} (Q : σ → Env → Prop) (Φ : ω → R Fl → Prop) : Lp σ ω → R Fl → Prop
  | .nx s, r => ∃ e', (r = .ok .nx e' ∨ r = .ok .ct e') ∧ Q s e'
  | .bk s, r => ∃ e', r = .ok .bk e' ∧ Q s e'
  | .rt w, r => Φ w r ∧ ∃ v e', r = .ok (.rt v) e'
def NΦ {σ : Type} (Q : σ → Env → Prop) : σ → R Fl → Prop := fun s r => ∃ e', (r = .ok .nx e' ∨ r = .ok .ct e') ∧ Q s e'
theorem sq_for {ci : Env → R (List D)} {f : D → Env → Option Env} {b : Env → R Fl} : cSeq (cFor ci f b) rest e = (ci e).bind fun ds e1 => (match forL f b ds e1 with | .ok .nx e1 => rest e1 | .ok .bk e1 => .ok .bk e1 | .ok .ct e1 => .ok .ct e1 | .ok (.rt d) e1 => .ok (.rt d) e1 | .ex x e1 => .ex x e1 | .st => .st) := by
  rw [cSeq_e, cFor_e]
  cases ci e with
  | ok ds e1 => rfl
  | ex x e1 => rfl
  | st => rfl
theorem for_core {σ : Type} {f : D → Env → Option Env} {b : Env → R Fl} {n : Nat} {ws : List Nat} {T : α → Env → Env} {step : σ → α → X ε (Lp σ ω)} {k : σ → X ε ω} (Q : σ → Env → Prop) (hT : Tg n ws f T) (rest : Env → R Fl)
    (hb : ∀ s a e, Q s e → Sz a → SV Θ (LΦ Q Φ) (b (T a e)) (step s a)) (hk : ∀ s e, Q s e → SV Θ Φ (rest e) (k s)) : ∀ (l : List α) (s0 : σ) (e : Env), (∀ a ∈ l, Sz a) → Q s0 e →
    SV Θ Φ (match forL f b (l.map enc) e with | .ok .nx e1 => rest e1 | .ok .bk e1 => .ok .bk e1 | .ok .ct e1 => .ok .ct e1 | .ok (.rt d) e1 => .ok (.rt d) e1 | .ex x e1 => .ex x e1 | .st => .st) (forX step k l s0)
  | [], s0, e, _, h0 => hk s0 e h0
  | a :: l, s0, e, hz, h0 => by
    have hs := hb s0 a e h0 (hz a List.mem_cons_self)
    rw [List.map_cons, forL, hT.step]
    simp only
    rw [forX]
    cases q : step s0 a with
    | st => exact .st
    | ex x s =>
      rw [q] at hs
      obtain ⟨e', h1, h2⟩ := hs.getx
      rw [h1]
      exact .ex rfl h2
    | ok w =>
      rw [q] at hs
      have hs := hs.get
      cases w with
      | nx s =>
        obtain ⟨e', hs, hq⟩ := hs
        have := for_core Q hT rest hb hk l s e' (fun a ha => hz a (List.mem_cons_of_mem _ ha)) hq
        rcases hs with hs | hs
        · rw [hs]; exact this
        · rw [hs]; exact this
      | bk s =>
        obtain ⟨e', hs, hq⟩ := hs
        rw [hs]
        exact hk s e' hq
      | rt w =>
        obtain ⟨hw, v, e', hs⟩ := hs
        rw [hs] at hw ⊢
        exact .ok hw
theorem sv_for {σ : Type} {ci : Env → R (List D)} {f : D → Env → Option Env} {b : Env → R Fl} {n : Nat} {ws : List Nat} {T : α → Env → Env} {tl : X Unit (List α)} {step : σ → α → X ε (Lp σ ω)} {k : σ → X ε ω} {s0 : σ} (Q : σ → Env → Prop) (hT : Tg n ws f T)
    (hi : EI e ci tl) (hs : Θ s e) (h0 : Q s0 e) (hb : ∀ s a e, Q s e → Sz a → SV Θ (LΦ Q Φ) (b (T a e)) (step s a)) (hk : ∀ s e, Q s e → SV Θ Φ (rest e) (k s)) : SV Θ Φ (cSeq (cFor ci f b) rest e) (xb s tl fun l => forX step k l s0) := by
  rw [sq_for]
  refine SV.j hi hs fun l ds hl => ?_
  rw [hl.1]
  exact for_core Q hT rest hb hk l s0 e (fun a ha => hl.2.mem ha) h0
theorem forF_X {ε σ α ω : Type} {step : σ → α → X ε σ} {k : σ → X ε ω} : ∀ (l : List α) (s : σ), forX (fun s a => step s a >>= fun s' => .ok (.nx s')) k l s = (forF step l s >>= k)
  | [], s => rfl
  | a :: r, s => by
    rw [forX, forF]
    cases step s a with
    | ok s' => exact forF_X r s'
    | ex x u => rfl
    | st => rfl
theorem nphi_l {σ ω : Type} {Q : σ → Env → Prop} {Φ : ω → R Fl → Prop} {r : R Fl} {t : X ε σ} (h : SV Θ (NΦ Q) r t) : SV Θ (LΦ Q Φ) r (t >>= fun s' => .ok (.nx s')) := by
  cases t with
  | ok s => exact .ok h.get
  | ex x u => exact ⟨h.getx⟩
  | st => exact .st
theorem sv_forF {σ : Type} {ci : Env → R (List D)} {f : D → Env → Option Env} {b : Env → R Fl} {n : Nat} {ws : List Nat} {T : α → Env → Env} {tl : X Unit (List α)} {step : σ → α → X ε σ} {k : σ → X ε ω} {s0 : σ} (Q : σ → Env → Prop) (hT : Tg n ws f T)
    (hi : EI e ci tl) (hs : Θ s e) (h0 : Q s0 e) (hb : ∀ s a e, Q s e → Sz a → SV Θ (NΦ Q) (b (T a e)) (step s a)) (hk : ∀ s e, Q s e → SV Θ Φ (rest e) (k s)) : SV Θ Φ (cSeq (cFor ci f b) rest e) (xb s tl fun l => forF step l s0 >>= k) := by
  have := sv_for (Φ := Φ) (s := s) (step := fun s a => step s a >>= fun s' => .ok (.nx s')) Q hT hi hs h0 (fun s a e h z => nphi_l (hb s a e h z)) hk
  have e : (fun l => forX (fun s a => step s a >>= fun s' => .ok (.nx s')) k l s0) = fun l => forF step l s0 >>= k := by
    funext l
    exact forF_X l s0
  rw [e] at this
  exact this
/-- over an own list: the body may not speak of it -/
theorem sq_forO {f : D → Env → Option Env} {b : Env → R Fl} {l : List α} (ho : At e i (enc l)) : cSeq (cForO i f b) rest e = (match forL f b (l.map enc) (e.set i none) with | .ok .nx e1 => rest (e1.set i (some (enc l))) | .ok .bk e1 => .ok .bk (e1.set i (some (enc l))) | .ok .ct e1 => .ok .ct (e1.set i (some (enc l))) | .ok (.rt d) e1 => .ok (.rt d) (e1.set i (some (enc l))) | .ex x e1 => .ex x (e1.set i (some (enc l))) | .st => .st) := by
  have h0 : e.getD i none = some (.list (l.map enc)) := ho.getD
  rw [cSeq_e]
  unfold cForO
  rw [h0]
  simp only
  cases forL f b (l.map enc) (e.set i none) with
  | ok fl e1 => cases fl <;> rfl
  | ex x e1 => rfl
  | st => rfl
theorem sv_forOF {σ : Type} {f : D → Env → Option Env} {b : Env → R Fl} {n : Nat} {ws : List Nat} {T : α → Env → Env} {l : List α} {step : σ → α → X Unit σ} {k : σ → X Unit ω} {s0 : σ} (Q : σ → Env → Prop) (hT : Tg n ws f T) (ho : At e i (enc l))
    (h0 : Q s0 (e.set i none)) (hb : ∀ s a e, Q s e → Sz a → SV Th0 (NΦ Q) (b (T a e)) (step s a)) (hk : ∀ s e, Q s e → SV Th0 Φ (rest (e.set i (some (enc l)))) (k s)) : SV Th0 Φ (cSeq (cForO i f b) rest e) (forF step l s0 >>= k) := by
  rw [sq_forO ho]
  have hz : ∀ a ∈ l, Sz a := fun a ha => ho.sz.mem ha
  have key : ∀ (l' : List α) (s0 : σ) (e : Env), (∀ a ∈ l', Sz a) → Q s0 e → SV Th0 Φ (match forL f b (l'.map enc) e with | .ok .nx e1 => rest (e1.set i (some (enc l))) | .ok .bk e1 => .ok .bk (e1.set i (some (enc l))) | .ok .ct e1 => .ok .ct (e1.set i (some (enc l))) | .ok (.rt d) e1 => .ok (.rt d) (e1.set i (some (enc l))) | .ex x e1 => .ex x (e1.set i (some (enc l))) | .st => .st) (forF step l' s0 >>= k) := by
    intro l'
    induction l' with
    | nil => intro s0 e _ h0; exact hk s0 e h0
    | cons a r ih =>
      intro s0 e hz h0
      have hs := hb s0 a e h0 (hz a List.mem_cons_self)
      rw [List.map_cons, forL, hT.step]
      simp only
      rw [forF]
      cases q : step s0 a with
      | st => exact .st
      | ex x s =>
        rw [q] at hs
        obtain ⟨e', h1, h2⟩ := hs.getx
        rw [h1]
        exact .ex rfl trivial
      | ok w =>
        rw [q] at hs
        obtain ⟨e', hs, hq⟩ := hs.get
        have := ih w e' (fun a ha => hz a (List.mem_cons_of_mem _ ha)) hq
        rcases hs with hs | hs
        · rw [hs]; exact this
        · rw [hs]; exact this
  exact key l s0 _ hz h0
theorem sv_forO {σ : Type} {f : D → Env → Option Env} {b : Env → R Fl} {n : Nat} {ws : List Nat} {T : α → Env → Env} {l : List α} {step : σ → α → X Unit (Lp σ ω)} {k : σ → X Unit ω} {s0 : σ} (Q : σ → Env → Prop) (hT : Tg n ws f T) (ho : At e i (enc l)) (hΦ : ∀ w v e e', Φ w (.ok (.rt v) e) → Φ w (.ok (.rt v) e'))
    (h0 : Q s0 (e.set i none)) (hb : ∀ s a e, Q s e → Sz a → SV Th0 (LΦ Q Φ) (b (T a e)) (step s a)) (hk : ∀ s e, Q s e → SV Th0 Φ (rest (e.set i (some (enc l)))) (k s)) : SV Th0 Φ (cSeq (cForO i f b) rest e) (forX step k l s0) := by
  rw [sq_forO ho]
  have hz : ∀ a ∈ l, Sz a := fun a ha => ho.sz.mem ha
  have key : ∀ (l' : List α) (s0 : σ) (e : Env), (∀ a ∈ l', Sz a) → Q s0 e → SV Th0 Φ (match forL f b (l'.map enc) e with | .ok .nx e1 => rest (e1.set i (some (enc l))) | .ok .bk e1 => .ok .bk (e1.set i (some (enc l))) | .ok .ct e1 => .ok .ct (e1.set i (some (enc l))) | .ok (.rt d) e1 => .ok (.rt d) (e1.set i (some (enc l))) | .ex x e1 => .ex x (e1.set i (some (enc l))) | .st => .st) (forX step k l' s0) := by
    intro l'
    induction l' with
    | nil => intro s0 e _ h0; exact hk s0 e h0
    | cons a r ih =>
      intro s0 e hz h0
      have hs := hb s0 a e h0 (hz a List.mem_cons_self)
      rw [List.map_cons, forL, hT.step]
      simp only
      rw [forX]
      cases q : step s0 a with
      | st => exact .st
      | ex x s =>
        rw [q] at hs
        obtain ⟨e', h1, h2⟩ := hs.getx
        rw [h1]
        exact .ex rfl trivial
      | ok w =>
        rw [q] at hs
        have hs := hs.get
        cases w with
        | nx s =>
          obtain ⟨e', hs, hq⟩ := hs
          have := ih s e' (fun a ha => hz a (List.mem_cons_of_mem _ ha)) hq
          rcases hs with hs | hs
          · rw [hs]; exact this
          · rw [hs]; exact this
        | bk s =>
          obtain ⟨e', hs, hq⟩ := hs
          rw [hs]
          exact hk s e' hq
        | rt w =>
          obtain ⟨hw, v, e', hs⟩ := hs
          rw [hs] at hw ⊢
          exact .ok (hΦ _ _ _ _ hw)
  exact key l s0 _ hz h0
/-- a body's end -/
theorem sv_nx {σ : Type} {Q : σ → Env → Prop} {s : σ} (h : Q s e) : SV Θ (LΦ Q Φ) (cNx e) (X.ok (.nx s)) := .ok ⟨e, .inl rfl, h⟩
theorem sv_ct {σ : Type} {Q : σ → Env → Prop} {s : σ} (h : Q s e) : SV Θ (LΦ Q Φ) (cSeq cCt rest e) (X.ok (.nx s)) := .ok ⟨e, .inr rfl, h⟩
theorem sv_bk {σ : Type} {Q : σ → Env → Prop} {s : σ} (h : Q s e) : SV Θ (LΦ Q Φ) (cSeq cBk rest e) (X.ok (.bk s)) := .ok ⟨e, rfl, h⟩
theorem sv_nxF {σ : Type} {Q : σ → Env → Prop} {s : σ} (h : Q s e) : SV Θ (NΦ Q) (cNx e) (X.ok s) := .ok ⟨e, .inl rfl, h⟩
theorem sv_ctF {σ : Type} {Q : σ → Env → Prop} {s : σ} (h : Q s e) : SV Θ (NΦ Q) (cSeq cCt rest e) (X.ok s) := .ok ⟨e, .inr rfl, h⟩
/-! ways that meet again: a block that ends or returns -/
def xj {ε σ ω : Type} (t : X ε (Lp σ ω)) (k : σ → X ε ω) : X ε ω := t >>= fun l => match l with
  | .nx s => k s
  | .bk s => k s
  | .rt w => .ok w
def JΦ {σ ω : Type} (Q : σ → Env → Prop) (Φ : ω → R Fl → Prop) : Lp σ ω → R Fl → Prop
  | .nx s, r => ∃ e', r = .ok .nx e' ∧ Q s e'
  | .bk _, _ => False
  | .rt w, r => Φ w r ∧ ∃ v e', r = .ok (.rt v) e'
theorem sv_join {σ : Type} {P : Env → R Fl} {u : X ε (Lp σ ω)} {k : σ → X ε ω} (Q : σ → Env → Prop) (h : SV Θ (JΦ Q Φ) (P e) u) (hk : ∀ s e, Q s e → SV Θ Φ (rest e) (k s)) : SV Θ Φ (cSeq P rest e) (xj u k) := by
  cases u with
  | st => exact .st
  | ex x s =>
    obtain ⟨e', h1, h2⟩ := h.getx
    exact .ex (seq_ex h1) h2
  | ok l =>
    have h := h.get
    cases l with
    | nx s =>
      obtain ⟨e', h1, h2⟩ := h
      rw [seq_nx h1]
      exact hk s e' h2
    | bk s => exact h.elim
    | rt w =>
      obtain ⟨h1, v, e', h2⟩ := h
      rw [h2] at h1
      rw [seq_rt h2]
      exact .ok h1
theorem sv_jnx {σ : Type} {Q : σ → Env → Prop} {s : σ} (h : Q s e) : SV Θ (JΦ Q Φ) (cNx e) (X.ok (.nx s)) := .ok ⟨e, rfl, h⟩
/-- the join where all ways go on -/
def KΦ {σ : Type} (Q : σ → Env → Prop) : σ → R Fl → Prop := fun s r => ∃ e', r = .ok .nx e' ∧ Q s e'
theorem sv_joinF {σ : Type} {P : Env → R Fl} {u : X ε σ} {k : σ → X ε ω} (Q : σ → Env → Prop) (h : SV Θ (KΦ Q) (P e) u) (hk : ∀ s e, Q s e → SV Θ Φ (rest e) (k s)) : SV Θ Φ (cSeq P rest e) (u >>= k) := by
  cases u with
  | st => exact .st
  | ex x s =>
    obtain ⟨e', h1, h2⟩ := h.getx
    exact .ex (seq_ex h1) h2
  | ok s =>
    obtain ⟨e', h1, h2⟩ := h.get
    rw [seq_nx h1]
    exact hk s e' h2
theorem sv_jnxF {σ : Type} {Q : σ → Env → Prop} {s : σ} (h : Q s e) : SV Θ (KΦ Q) (cNx e) (X.ok s) := .ok ⟨e, rfl, h⟩
/-! while -/
def whX {ε σ ω : Type} (t : σ → X ε Bool) (step : σ → X ε (Lp σ ω)) (k : σ → X ε ω) : Nat → σ → X ε ω
  | 0, _ => .st
  | n + 1, s => t s >>= fun b => if b = true then step s >>= fun l => (match l with
    | .nx s' => whX t step k n s'
    | .bk s' => k s'
    | .rt w => .ok w) else k s
theorem sv_while {σ : Type} {S : Env → R Bool} {b : Env → R Fl} {tS : σ → X Unit Bool} {g : σ → ε} {step : σ → X ε (Lp σ ω)} {k : σ → X ε ω} (Q : σ → Env → Prop)
    (hS : ∀ s e, Q s e → ET e S (tS s)) (hg : ∀ s e, Q s e → Θ (g s) e) (hb : ∀ s e, Q s e → SV Θ (LΦ Q Φ) (b e) (step s)) (hk : ∀ s e, Q s e → SV Θ Φ (rest e) (k s)) : ∀ (n : Nat) (s0 : σ) (e : Env), Q s0 e →
    SV Θ Φ (cSeq (whileL S b n) rest e) (whX (fun s => xb (g s) (tS s) .ok) step k n s0)
  | 0, s0, e, h0 => .st
  | n + 1, s0, e, h0 => by
    have e1 : cSeq (whileL S b (n + 1)) rest e = (S e).bind fun kk e1 => match kk with
        | false => rest e1
        | true => match b e1 with
          | .ok .nx e2 => cSeq (whileL S b n) rest e2
          | .ok .ct e2 => cSeq (whileL S b n) rest e2
          | .ok .bk e2 => rest e2
          | .ok (.rt v) e2 => .ok (.rt v) e2
          | .ex x e2 => .ex x e2
          | .st => .st := by
      rw [cSeq_e, whileL]
      cases S e with
      | ex x e1 => rfl
      | st => rfl
      | ok kk e1 =>
        cases kk with
        | false => rfl
        | true =>
          simp only [bind_e]
          cases b e1 with
          | ex x e2 => rfl
          | st => rfl
          | ok fl e2 => cases fl <;> rfl
    rw [e1, whX]
    have hS' := hS s0 e h0
    cases q : tS s0 with
    | st => exact .st
    | ex x u =>
      rw [q] at hS'
      rw [hS'.getx]
      exact .ex rfl (hg s0 e h0)
    | ok kk =>
      rw [q] at hS'
      obtain ⟨kk', h1, h2⟩ := hS'.get
      subst h2
      rw [h1]
      cases kk' with
      | false => exact hk s0 e h0
      | true =>
        show SV Θ Φ (match b e with | .ok .nx e2 => _ | .ok .ct e2 => _ | .ok .bk e2 => _ | .ok (.rt v) e2 => _ | .ex x e2 => _ | .st => _) (step s0 >>= fun l => _)
        have hs := hb s0 e h0
        cases q2 : step s0 with
        | st => exact .st
        | ex x s =>
          rw [q2] at hs
          obtain ⟨e', h3, h4⟩ := hs.getx
          rw [h3]
          exact .ex rfl h4
        | ok w =>
          rw [q2] at hs
          have hs := hs.get
          cases w with
          | nx s =>
            obtain ⟨e', hs, hq⟩ := hs
            have := sv_while Q hS hg hb hk n s e' hq
            rcases hs with hs | hs
            · rw [hs]; exact this
            · rw [hs]; exact this
          | bk s =>
            obtain ⟨e', hs, hq⟩ := hs
            rw [hs]
            exact hk s e' hq
          | rt w =>
            obtain ⟨hw, v, e', hs⟩ := hs
            rw [hs] at hw ⊢
            exact .ok hw
end
/-! ### defs -/
section
variable {α : Type} [Enc α]
def FΦ : α → R Fl → Prop := fun a r => Sz a ∧ ((∃ e', r = .ok (.rt (enc a)) e') ∨ ((enc a : D) = .none ∧ ∃ e', r = .ok .nx e'))
theorem fphi {a : α} {e : Env} (h : Sz a) : FΦ a (.ok (.rt (enc a)) e) := ⟨h, .inl ⟨_, rfl⟩⟩
theorem fphiN {a : α} {e : Env} (h : (enc a : D) = .none) : FΦ a (.ok .nx e) := ⟨by rw [Sz, h]; rfl, .inr ⟨h, _, rfl⟩⟩
theorem fphiR {a : α} {e : Env} (h : (enc a : D) = .none) : FΦ a (.ok (.rt .none) e) := ⟨by rw [Sz, h]; rfl, .inl ⟨e, by rw [h]⟩⟩
theorem fphi_e {w : α} {v : D} {e e' : Env} (h : FΦ w (.ok (.rt v) e)) : FΦ w (.ok (.rt v) e') := by
  obtain ⟨z, h⟩ := h
  rcases h with ⟨e1, h⟩ | ⟨_, e1, h⟩
  · cases h; exact ⟨z, .inl ⟨_, rfl⟩⟩
  · cases h
theorem lphi {σ ω : Type} {Q : σ → Env → Prop} {Φ : ω → R Fl → Prop} {w : ω} {d : D} {e : Env} (h : Φ w (.ok (.rt d) e)) : LΦ Q Φ (.rt w) (.ok (.rt d) e) := ⟨h, _, _, rfl⟩
theorem jphi {σ ω : Type} {Q : σ → Env → Prop} {Φ : ω → R Fl → Prop} {w : ω} {d : D} {e : Env} (h : Φ w (.ok (.rt d) e)) : JΦ Q Φ (.rt w) (.ok (.rt d) e) := ⟨h, _, _, rfl⟩
theorem fn_t {b : Env → R Fl} {np n : Nat} {ds : List D} {t : X Unit α} {rz : Bool} (h : SV Th0 FΦ (b (ds.map some ++ List.replicate (n - np) none)) t) (hr : rz = true ∨ ∀ a : α, (enc a : D) ≠ .none) : FnT (runF rz b np n) ds t := by
  constructor
  cases t with
  | st => trivial
  | ex x u =>
    obtain ⟨e', h, _⟩ := h.getx
    exact ⟨_, run_ex h⟩
  | ok a =>
    obtain ⟨z, h⟩ := h.get
    rcases h with ⟨e', h⟩ | ⟨h1, e', h⟩
    · exact ⟨z, _, run_rt h⟩
    · rcases hr with rfl | hr
      · refine ⟨z, outsOf np e', ?_⟩
        rw [h1]
        exact run_nx h
      · exact absurd h1 (hr a)
end
end DL

/-! One lemma an operator; casts; things moved. Printed by mkdx.py. -/
namespace DL
open PySem PySem.Spec PyProof.Rows L2
open Enc (enc)
theorem ne_lit {i j : Nat} (h : Nat.beq i j = false) : i ≠ j := by
  intro z
  subst z
  rw [Nat.beq_refl] at h
  cases h
theorem lt_len {e : Env} {i n : Nat} (h : e.length = n) (hi : Nat.blt i n = true) : i < e.length := by
  rw [h]
  exact Nat.le_of_ble_eq_true hi
theorem le_len {e : Env} {n : Nat} (h : e.length = n) : n ≤ e.length := Nat.le_of_eq h.symm
theorem len_none {e : Env} {i n : Nat} (h : e.length = n) : (e.set i none).length = n := by rw [List.length_set, h]
@[simp] theorem xb_un {α : Type} {t : X Unit α} : xb () t X.ok = t := by cases t <;> rfl
@[simp] theorem xb_un' {α : Type} {t : X Unit α} : xb () t (fun a => X.ok a) = t := by cases t <;> rfl
@[simp] theorem X.b_ok {ε α : Type} {t : X ε α} : (t >>= fun a => X.ok a) = t := by cases t <;> rfl

section
variable {e : Env} {A B C : Env → R Lv}
theorem en_Add {a : Int} {b : Int} (ha : EP e A (.ok a)) (hb : EP e B (.ok b)) : EN e (c2 dAdd A B) (.ok (a + b)) := en_2p (g := fun (a : Int) (b : Int) => a + b) op_add ha hb
def tAdd (a : Int) (b : Int) : X Unit Int := .ok (a + b)
@[simp] theorem tAdd_e {a : Int} {b : Int} : tAdd a b = .ok (a + b) := rfl
theorem tp_Add : Op2T dAdd tAdd := Op2P.t (g := fun (a : Int) (b : Int) => a + b) op_add
theorem en_Sub {a : Int} {b : Int} (ha : EP e A (.ok a)) (hb : EP e B (.ok b)) : EN e (c2 dSub A B) (.ok (a - b)) := en_2p (g := fun (a : Int) (b : Int) => a - b) op_sub ha hb
def tSub (a : Int) (b : Int) : X Unit Int := .ok (a - b)
@[simp] theorem tSub_e {a : Int} {b : Int} : tSub a b = .ok (a - b) := rfl
theorem tp_Sub : Op2T dSub tSub := Op2P.t (g := fun (a : Int) (b : Int) => a - b) op_sub
theorem en_Lt {a : Int} {b : Int} (ha : EP e A (.ok a)) (hb : EP e B (.ok b)) : EN e (c2 dLt A B) (.ok (decide (a < b))) := en_2p (g := fun (a : Int) (b : Int) => decide (a < b)) op_lt ha hb
def tLt (a : Int) (b : Int) : X Unit Bool := .ok (decide (a < b))
@[simp] theorem tLt_e {a : Int} {b : Int} : tLt a b = .ok (decide (a < b)) := rfl
theorem tp_Lt : Op2T dLt tLt := Op2P.t (g := fun (a : Int) (b : Int) => decide (a < b)) op_lt
theorem en_Le {a : Int} {b : Int} (ha : EP e A (.ok a)) (hb : EP e B (.ok b)) : EN e (c2 dLe A B) (.ok (decide (a ≤ b))) := en_2p (g := fun (a : Int) (b : Int) => decide (a ≤ b)) op_le ha hb
def tLe (a : Int) (b : Int) : X Unit Bool := .ok (decide (a ≤ b))
@[simp] theorem tLe_e {a : Int} {b : Int} : tLe a b = .ok (decide (a ≤ b)) := rfl
theorem tp_Le : Op2T dLe tLe := Op2P.t (g := fun (a : Int) (b : Int) => decide (a ≤ b)) op_le
theorem en_Gt {a : Int} {b : Int} (ha : EP e A (.ok a)) (hb : EP e B (.ok b)) : EN e (c2 dGt A B) (.ok (decide (b < a))) := en_2p (g := fun (a : Int) (b : Int) => decide (b < a)) op_gt ha hb
def tGt (a : Int) (b : Int) : X Unit Bool := .ok (decide (b < a))
@[simp] theorem tGt_e {a : Int} {b : Int} : tGt a b = .ok (decide (b < a)) := rfl
theorem tp_Gt : Op2T dGt tGt := Op2P.t (g := fun (a : Int) (b : Int) => decide (b < a)) op_gt
theorem en_Ge {a : Int} {b : Int} (ha : EP e A (.ok a)) (hb : EP e B (.ok b)) : EN e (c2 dGe A B) (.ok (decide (b ≤ a))) := en_2p (g := fun (a : Int) (b : Int) => decide (b ≤ a)) op_ge ha hb
def tGe (a : Int) (b : Int) : X Unit Bool := .ok (decide (b ≤ a))
@[simp] theorem tGe_e {a : Int} {b : Int} : tGe a b = .ok (decide (b ≤ a)) := rfl
theorem tp_Ge : Op2T dGe tGe := Op2P.t (g := fun (a : Int) (b : Int) => decide (b ≤ a)) op_ge
theorem en_LtS {a : Str} {b : Str} (ha : EP e A (.ok a)) (hb : EP e B (.ok b)) : EN e (c2 dLt A B) (.ok (decide (a.cps.toList < b.cps.toList))) := en_2p (g := fun (a : Str) (b : Str) => decide (a.cps.toList < b.cps.toList)) op_ltS ha hb
def tLtS (a : Str) (b : Str) : X Unit Bool := .ok (decide (a.cps.toList < b.cps.toList))
@[simp] theorem tLtS_e {a : Str} {b : Str} : tLtS a b = .ok (decide (a.cps.toList < b.cps.toList)) := rfl
theorem tp_LtS : Op2T dLt tLtS := Op2P.t (g := fun (a : Str) (b : Str) => decide (a.cps.toList < b.cps.toList)) op_ltS
theorem en_InSS {a : Str} {b : Str} (ha : EP e A (.ok a)) (hb : EP e B (.ok b)) : EN e (c2 dIn A B) (.ok (inS a b)) := en_2p (g := fun (a : Str) (b : Str) => inS a b) op_inSS ha hb
def tInSS (a : Str) (b : Str) : X Unit Bool := .ok (inS a b)
@[simp] theorem tInSS_e {a : Str} {b : Str} : tInSS a b = .ok (inS a b) := rfl
theorem tp_InSS : Op2T dIn tInSS := Op2P.t (g := fun (a : Str) (b : Str) => inS a b) op_inSS
theorem en_NotInSS {a : Str} {b : Str} (ha : EP e A (.ok a)) (hb : EP e B (.ok b)) : EN e (c2 dNotIn A B) (.ok (!inS a b)) := en_2p (g := fun (a : Str) (b : Str) => !inS a b) op_notInSS ha hb
def tNotInSS (a : Str) (b : Str) : X Unit Bool := .ok (!inS a b)
@[simp] theorem tNotInSS_e {a : Str} {b : Str} : tNotInSS a b = .ok (!inS a b) := rfl
theorem tp_NotInSS : Op2T dNotIn tNotInSS := Op2P.t (g := fun (a : Str) (b : Str) => !inS a b) op_notInSS
theorem en_IsND {a : D} {b : Unit} (ha : EP e A (.ok a)) (hb : EP e B (.ok b)) : EN e (c2 dIs A B) (.ok (isNone a)) := en_2p (g := fun (a : D) (b : Unit) => isNone a) op_isND ha hb
def tIsND (a : D) (b : Unit) : X Unit Bool := .ok (isNone a)
@[simp] theorem tIsND_e {a : D} {b : Unit} : tIsND a b = .ok (isNone a) := rfl
theorem tp_IsND : Op2T dIs tIsND := Op2P.t (g := fun (a : D) (b : Unit) => isNone a) op_isND
theorem en_IsNotND {a : D} {b : Unit} (ha : EP e A (.ok a)) (hb : EP e B (.ok b)) : EN e (c2 dIsNot A B) (.ok (!isNone a)) := en_2p (g := fun (a : D) (b : Unit) => !isNone a) op_isNotND ha hb
def tIsNotND (a : D) (b : Unit) : X Unit Bool := .ok (!isNone a)
@[simp] theorem tIsNotND_e {a : D} {b : Unit} : tIsNotND a b = .ok (!isNone a) := rfl
theorem tp_IsNotND : Op2T dIsNot tIsNotND := Op2P.t (g := fun (a : D) (b : Unit) => !isNone a) op_isNotND
theorem en_IsB {a : Bool} {b : Bool} (ha : EP e A (.ok a)) (hb : EP e B (.ok b)) : EN e (c2 dIs A B) (.ok (a == b)) := en_2p (g := fun (a : Bool) (b : Bool) => a == b) op_isB ha hb
def tIsB (a : Bool) (b : Bool) : X Unit Bool := .ok (a == b)
@[simp] theorem tIsB_e {a : Bool} {b : Bool} : tIsB a b = .ok (a == b) := rfl
theorem tp_IsB : Op2T dIs tIsB := Op2P.t (g := fun (a : Bool) (b : Bool) => a == b) op_isB
theorem en_IsNotB {a : Bool} {b : Bool} (ha : EP e A (.ok a)) (hb : EP e B (.ok b)) : EN e (c2 dIsNot A B) (.ok (!(a == b))) := en_2p (g := fun (a : Bool) (b : Bool) => !(a == b)) op_isNotB ha hb
def tIsNotB (a : Bool) (b : Bool) : X Unit Bool := .ok (!(a == b))
@[simp] theorem tIsNotB_e {a : Bool} {b : Bool} : tIsNotB a b = .ok (!(a == b)) := rfl
theorem tp_IsNotB : Op2T dIsNot tIsNotB := Op2P.t (g := fun (a : Bool) (b : Bool) => !(a == b)) op_isNotB
theorem en_Xor {a : Int} {b : Int} (ha : EP e A (.ok a)) (hb : EP e B (.ok b)) : EN e (c2 dXor A B) (.ok (Builtin.bitXor a b)) := en_2p (g := fun (a : Int) (b : Int) => Builtin.bitXor a b) op_xor ha hb
def tXor (a : Int) (b : Int) : X Unit Int := .ok (Builtin.bitXor a b)
@[simp] theorem tXor_e {a : Int} {b : Int} : tXor a b = .ok (Builtin.bitXor a b) := rfl
theorem tp_Xor : Op2T dXor tXor := Op2P.t (g := fun (a : Int) (b : Int) => Builtin.bitXor a b) op_xor
theorem en_Eq {α : Type} [Enc α] [DecidableEq α] [Pl α] (hd : Pl.dep α ≤ 64) {a : α} {b : α} (ha : EP e A (.ok a)) (hb : EP e B (.ok b)) : EN e (c2 dEq A B) (.ok (decide (a = b))) := en_2p (g := fun (a : α) (b : α) => decide (a = b)) (op_eq hd) ha hb
def tEq {α : Type} [DecidableEq α]  (a : α) (b : α) : X Unit Bool := .ok (decide (a = b))
@[simp] theorem tEq_e {α : Type} [DecidableEq α]  {a : α} {b : α} : tEq a b = .ok (decide (a = b)) := rfl
theorem tp_Eq {α : Type} [Enc α] [DecidableEq α] [Pl α] (hd : Pl.dep α ≤ 64) : Op2T dEq (tEq (α := α)) := Op2P.t (g := fun (a : α) (b : α) => decide (a = b)) (op_eq hd)
theorem en_Ne {α : Type} [Enc α] [DecidableEq α] [Pl α] (hd : Pl.dep α ≤ 64) {a : α} {b : α} (ha : EP e A (.ok a)) (hb : EP e B (.ok b)) : EN e (c2 dNe A B) (.ok (!decide (a = b))) := en_2p (g := fun (a : α) (b : α) => !decide (a = b)) (op_ne hd) ha hb
def tNe {α : Type} [DecidableEq α]  (a : α) (b : α) : X Unit Bool := .ok (!decide (a = b))
@[simp] theorem tNe_e {α : Type} [DecidableEq α]  {a : α} {b : α} : tNe a b = .ok (!decide (a = b)) := rfl
theorem tp_Ne {α : Type} [Enc α] [DecidableEq α] [Pl α] (hd : Pl.dep α ≤ 64) : Op2T dNe (tNe (α := α)) := Op2P.t (g := fun (a : α) (b : α) => !decide (a = b)) (op_ne hd)
theorem en_In {α : Type} [Enc α] [DecidableEq α] [Pl α] (hd : Pl.dep α ≤ 63) {a : α} {b : List α} (ha : EP e A (.ok a)) (hb : EP e B (.ok b)) : EN e (c2 dIn A B) (.ok (decide (a ∈ b))) := en_2p (g := fun (a : α) (b : List α) => decide (a ∈ b)) (op_in hd) ha hb
def tIn {α : Type} [DecidableEq α]  (a : α) (b : List α) : X Unit Bool := .ok (decide (a ∈ b))
@[simp] theorem tIn_e {α : Type} [DecidableEq α]  {a : α} {b : List α} : tIn a b = .ok (decide (a ∈ b)) := rfl
theorem tp_In {α : Type} [Enc α] [DecidableEq α] [Pl α] (hd : Pl.dep α ≤ 63) : Op2T dIn (tIn (α := α)) := Op2P.t (g := fun (a : α) (b : List α) => decide (a ∈ b)) (op_in hd)
theorem en_NotIn {α : Type} [Enc α] [DecidableEq α] [Pl α] (hd : Pl.dep α ≤ 63) {a : α} {b : List α} (ha : EP e A (.ok a)) (hb : EP e B (.ok b)) : EN e (c2 dNotIn A B) (.ok (!decide (a ∈ b))) := en_2p (g := fun (a : α) (b : List α) => !decide (a ∈ b)) (op_notIn hd) ha hb
def tNotIn {α : Type} [DecidableEq α]  (a : α) (b : List α) : X Unit Bool := .ok (!decide (a ∈ b))
@[simp] theorem tNotIn_e {α : Type} [DecidableEq α]  {a : α} {b : List α} : tNotIn a b = .ok (!decide (a ∈ b)) := rfl
theorem tp_NotIn {α : Type} [Enc α] [DecidableEq α] [Pl α] (hd : Pl.dep α ≤ 63) : Op2T dNotIn (tNotIn (α := α)) := Op2P.t (g := fun (a : α) (b : List α) => !decide (a ∈ b)) (op_notIn hd)
theorem en_IsN {α : Type} [Enc α] [NN α]  {a : Option α} {b : Unit} (ha : EP e A (.ok a)) (hb : EP e B (.ok b)) : EN e (c2 dIs A B) (.ok (a.isNone)) := en_2p (g := fun (a : Option α) (b : Unit) => a.isNone) (op_isN) ha hb
def tIsN {α : Type}  (a : Option α) (b : Unit) : X Unit Bool := .ok (a.isNone)
@[simp] theorem tIsN_e {α : Type}  {a : Option α} {b : Unit} : tIsN a b = .ok (a.isNone) := rfl
theorem tp_IsN {α : Type} [Enc α] [NN α]  : Op2T dIs (tIsN (α := α)) := Op2P.t (g := fun (a : Option α) (b : Unit) => a.isNone) (op_isN)
theorem en_IsNotN {α : Type} [Enc α] [NN α]  {a : Option α} {b : Unit} (ha : EP e A (.ok a)) (hb : EP e B (.ok b)) : EN e (c2 dIsNot A B) (.ok (a.isSome)) := en_2p (g := fun (a : Option α) (b : Unit) => a.isSome) (op_isNotN) ha hb
def tIsNotN {α : Type}  (a : Option α) (b : Unit) : X Unit Bool := .ok (a.isSome)
@[simp] theorem tIsNotN_e {α : Type}  {a : Option α} {b : Unit} : tIsNotN a b = .ok (a.isSome) := rfl
theorem tp_IsNotN {α : Type} [Enc α] [NN α]  : Op2T dIsNot (tIsNotN (α := α)) := Op2P.t (g := fun (a : Option α) (b : Unit) => a.isSome) (op_isNotN)
theorem en_IsNf {α : Type} [Enc α] [NN α]  {a : α} {b : Unit} (ha : EP e A (.ok a)) (hb : EP e B (.ok b)) : EN e (c2 dIs A B) (.ok (false)) := en_2p (g := fun (a : α) (b : Unit) => false) (op_isNf) ha hb
def tIsNf {α : Type}  (a : α) (b : Unit) : X Unit Bool := .ok (false)
@[simp] theorem tIsNf_e {α : Type}  {a : α} {b : Unit} : tIsNf a b = .ok (false) := rfl
theorem tp_IsNf {α : Type} [Enc α] [NN α]  : Op2T dIs (tIsNf (α := α)) := Op2P.t (g := fun (a : α) (b : Unit) => false) (op_isNf)
theorem en_IsNotNf {α : Type} [Enc α] [NN α]  {a : α} {b : Unit} (ha : EP e A (.ok a)) (hb : EP e B (.ok b)) : EN e (c2 dIsNot A B) (.ok (true)) := en_2p (g := fun (a : α) (b : Unit) => true) (op_isNotNf) ha hb
def tIsNotNf {α : Type}  (a : α) (b : Unit) : X Unit Bool := .ok (true)
@[simp] theorem tIsNotNf_e {α : Type}  {a : α} {b : Unit} : tIsNotNf a b = .ok (true) := rfl
theorem tp_IsNotNf {α : Type} [Enc α] [NN α]  : Op2T dIsNot (tIsNotNf (α := α)) := Op2P.t (g := fun (a : α) (b : Unit) => true) (op_isNotNf)
theorem en_Abs {a : Int} (ha : EP e A (.ok a)) : EN e (cB dAbs (cCons A cNil)) (.ok (if a < 0 then -a else a)) := en_b1p (g := fun (a : Int) => if a < 0 then -a else a) op_abs ha
def tAbs (a : Int) : X Unit Int := .ok (if a < 0 then -a else a)
@[simp] theorem tAbs_e {a : Int} : tAbs a = .ok (if a < 0 then -a else a) := rfl
theorem tp_Abs : Op1T (fun d => dAbs [d]) tAbs := Op1P.t (g := fun (a : Int) => if a < 0 then -a else a) op_abs
theorem en_Int {a : Int} (ha : EP e A (.ok a)) : EN e (cB dIntOf (cCons A cNil)) (.ok (a)) := en_b1p (g := fun (a : Int) => a) op_int ha
def tInt (a : Int) : X Unit Int := .ok (a)
@[simp] theorem tInt_e {a : Int} : tInt a = .ok (a) := rfl
theorem tp_Int : Op1T (fun d => dIntOf [d]) tInt := Op1P.t (g := fun (a : Int) => a) op_int
theorem en_IntB {a : Bool} (ha : EP e A (.ok a)) : EN e (cB dIntOf (cCons A cNil)) (.ok (if a then (1 : Int) else 0)) := en_b1p (g := fun (a : Bool) => if a then (1 : Int) else 0) op_intB ha
def tIntB (a : Bool) : X Unit Int := .ok (if a then (1 : Int) else 0)
@[simp] theorem tIntB_e {a : Bool} : tIntB a = .ok (if a then (1 : Int) else 0) := rfl
theorem tp_IntB : Op1T (fun d => dIntOf [d]) tIntB := Op1P.t (g := fun (a : Bool) => if a then (1 : Int) else 0) op_intB
theorem en_BoolB {a : Bool} (ha : EP e A (.ok a)) : EN e (cB dBoolOf (cCons A cNil)) (.ok (a)) := en_b1p (g := fun (a : Bool) => a) op_boolB ha
def tBoolB (a : Bool) : X Unit Bool := .ok (a)
@[simp] theorem tBoolB_e {a : Bool} : tBoolB a = .ok (a) := rfl
theorem tp_BoolB : Op1T (fun d => dBoolOf [d]) tBoolB := Op1P.t (g := fun (a : Bool) => a) op_boolB
theorem en_BoolI {a : Int} (ha : EP e A (.ok a)) : EN e (cB dBoolOf (cCons A cNil)) (.ok (a != 0)) := en_b1p (g := fun (a : Int) => a != 0) op_boolI ha
def tBoolI (a : Int) : X Unit Bool := .ok (a != 0)
@[simp] theorem tBoolI_e {a : Int} : tBoolI a = .ok (a != 0) := rfl
theorem tp_BoolI : Op1T (fun d => dBoolOf [d]) tBoolI := Op1P.t (g := fun (a : Int) => a != 0) op_boolI
theorem en_StrS {a : Str} (ha : EP e A (.ok a)) : EN e (cB dStrOf (cCons A cNil)) (.ok (a)) := en_b1p (g := fun (a : Str) => a) op_strS ha
def tStrS (a : Str) : X Unit Str := .ok (a)
@[simp] theorem tStrS_e {a : Str} : tStrS a = .ok (a) := rfl
theorem tp_StrS : Op1T (fun d => dStrOf [d]) tStrS := Op1P.t (g := fun (a : Str) => a) op_strS
theorem en_LenS {a : Str} (ha : EP e A (.ok a)) : EN e (cB dLen (cCons A cNil)) (.ok ((a.length : Int))) := en_b1p (g := fun (a : Str) => (a.length : Int)) op_lenS ha
def tLenS (a : Str) : X Unit Int := .ok ((a.length : Int))
@[simp] theorem tLenS_e {a : Str} : tLenS a = .ok ((a.length : Int)) := rfl
theorem tp_LenS : Op1T (fun d => dLen [d]) tLenS := Op1P.t (g := fun (a : Str) => (a.length : Int)) op_lenS
theorem en_Sum {a : List Int} (ha : EP e A (.ok a)) : EN e (cB dSum (cCons A cNil)) (.ok (a.sum)) := en_b1p (g := fun (a : List Int) => a.sum) op_sum ha
def tSum (a : List Int) : X Unit Int := .ok (a.sum)
@[simp] theorem tSum_e {a : List Int} : tSum a = .ok (a.sum) := rfl
theorem tp_Sum : Op1T (fun d => dSum [d]) tSum := Op1P.t (g := fun (a : List Int) => a.sum) op_sum
theorem en_Any {a : List Bool} (ha : EP e A (.ok a)) : EN e (cB dAny (cCons A cNil)) (.ok (a.any id)) := en_b1p (g := fun (a : List Bool) => a.any id) op_any ha
def tAny (a : List Bool) : X Unit Bool := .ok (a.any id)
@[simp] theorem tAny_e {a : List Bool} : tAny a = .ok (a.any id) := rfl
theorem tp_Any : Op1T (fun d => dAny [d]) tAny := Op1P.t (g := fun (a : List Bool) => a.any id) op_any
theorem en_All {a : List Bool} (ha : EP e A (.ok a)) : EN e (cB dAll (cCons A cNil)) (.ok (a.all id)) := en_b1p (g := fun (a : List Bool) => a.all id) op_all ha
def tAll (a : List Bool) : X Unit Bool := .ok (a.all id)
@[simp] theorem tAll_e {a : List Bool} : tAll a = .ok (a.all id) := rfl
theorem tp_All : Op1T (fun d => dAll [d]) tAll := Op1P.t (g := fun (a : List Bool) => a.all id) op_all
theorem en_Len {α : Type} [Enc α] {a : List α} (ha : EP e A (.ok a)) : EN e (cB dLen (cCons A cNil)) (.ok (a.length : Int)) := en_b1p (g := fun (a : List α) => (a.length : Int)) op_len ha
def tLen {α : Type} (a : List α) : X Unit Int := .ok a.length
@[simp] theorem tLen_e {α : Type} {a : List α} : tLen a = .ok (a.length : Int) := rfl
theorem tp_Len {α : Type} [Enc α] : Op1T (fun d => dLen [d]) (tLen (α := α)) := Op1P.t (g := fun (a : List α) => (a.length : Int)) op_len
theorem en_Max {a : Int} {b : Int} (ha : EP e A (.ok a)) (hb : EP e B (.ok b)) : EN e (cB dMax (cCons A (cCons B cNil))) (.ok (if b > a then b else a)) := en_b2p (g := fun (a : Int) (b : Int) => if b > a then b else a) op_max ha hb
def tMax (a : Int) (b : Int) : X Unit Int := .ok (if b > a then b else a)
@[simp] theorem tMax_e {a : Int} {b : Int} : tMax a b = .ok (if b > a then b else a) := rfl
theorem tp_Max : Op2T (fun d d2 => dMax [d, d2]) tMax := Op2P.t (g := fun (a : Int) (b : Int) => if b > a then b else a) op_max
theorem en_Min {a : Int} {b : Int} (ha : EP e A (.ok a)) (hb : EP e B (.ok b)) : EN e (cB dMin (cCons A (cCons B cNil))) (.ok (if b < a then b else a)) := en_b2p (g := fun (a : Int) (b : Int) => if b < a then b else a) op_min ha hb
def tMin (a : Int) (b : Int) : X Unit Int := .ok (if b < a then b else a)
@[simp] theorem tMin_e {a : Int} {b : Int} : tMin a b = .ok (if b < a then b else a) := rfl
theorem tp_Min : Op2T (fun d d2 => dMin [d, d2]) tMin := Op2P.t (g := fun (a : Int) (b : Int) => if b < a then b else a) op_min
theorem en_Neg {a : Int} (ha : EP e A (.ok a)) : EN e (c1 dNeg A) (.ok (-a)) := en_1p (g := fun (a : Int) => -a) op_neg ha
def tNeg (a : Int) : X Unit Int := .ok (-a)
@[simp] theorem tNeg_e {a : Int} : tNeg a = .ok (-a) := rfl
theorem tp_Neg : Op1T dNeg tNeg := Op1P.t (g := fun (a : Int) => -a) op_neg
theorem en_chLtLt {a b c : Int} (ha : EP e A (.ok a)) (hb : EP e B (.ok b)) (hc : EP e C (.ok c)) : EN e (cChain dLt dLt A B C) (.ok (decide (a < b) && decide (b < c))) := en_chainp (tf := fun (a b : Int) => decide (a < b)) (tg := fun (b c : Int) => decide (b < c)) op_lt op_lt ha hb hc
theorem en_chLtLe {a b c : Int} (ha : EP e A (.ok a)) (hb : EP e B (.ok b)) (hc : EP e C (.ok c)) : EN e (cChain dLt dLe A B C) (.ok (decide (a < b) && decide (b ≤ c))) := en_chainp (tf := fun (a b : Int) => decide (a < b)) (tg := fun (b c : Int) => decide (b ≤ c)) op_lt op_le ha hb hc
theorem en_chLeLt {a b c : Int} (ha : EP e A (.ok a)) (hb : EP e B (.ok b)) (hc : EP e C (.ok c)) : EN e (cChain dLe dLt A B C) (.ok (decide (a ≤ b) && decide (b < c))) := en_chainp (tf := fun (a b : Int) => decide (a ≤ b)) (tg := fun (b c : Int) => decide (b < c)) op_le op_lt ha hb hc
theorem en_chLeLe {a b c : Int} (ha : EP e A (.ok a)) (hb : EP e B (.ok b)) (hc : EP e C (.ok c)) : EN e (cChain dLe dLe A B C) (.ok (decide (a ≤ b) && decide (b ≤ c))) := en_chainp (tf := fun (a b : Int) => decide (a ≤ b)) (tg := fun (b c : Int) => decide (b ≤ c)) op_le op_le ha hb hc
section
variable {α β : Type} [Enc α] [Enc β]
/-- t[k], k written -/
theorem en_tixp {i : Nat} {a : α} {g : α → β} (h : ∀ a : α, ∃ ds, (enc a : D) = .tuple ds ∧ ds[i]? = some (enc (g a))) (ha : EP e A (.ok a)) (hb : EP e B (.ok (i : Int))) : EN e (c2 dIx A B) (.ok (g a)) := en_tix ha hb h
theorem et_truL {a : List α} (ha : EP e A (.ok a)) : ET e (cTru A) (.ok (!a.isEmpty)) := et_trup (fun (a : List α) => !a.isEmpty) tru_L ha
def tTruL (a : List α) : X Unit Bool := .ok (!a.isEmpty)
theorem tt_truL {t : X Unit (List α)} (ha : EP e A t) : ET e (cTru A) (x1 tTruL t) := et_tru (fun (a : List α) => !a.isEmpty) tru_L ha
theorem et_truI {a : Int} (ha : EP e A (.ok a)) : ET e (cTru A) (.ok (a != 0)) := et_trup (fun (a : Int) => a != 0) tru_I ha
def tTruI (a : Int) : X Unit Bool := .ok (a != 0)
theorem tt_truI {t : X Unit Int} (ha : EP e A t) : ET e (cTru A) (x1 tTruI t) := et_tru (fun (a : Int) => a != 0) tru_I ha
theorem et_truB {a : Bool} (ha : EP e A (.ok a)) : ET e (cTru A) (.ok a) := et_trup (fun (a : Bool) => a) tru_B ha
def tTruB (a : Bool) : X Unit Bool := .ok a
theorem tt_truB {t : X Unit Bool} (ha : EP e A t) : ET e (cTru A) (x1 tTruB t) := et_tru (fun (a : Bool) => a) tru_B ha
theorem et_truS {a : Str} (ha : EP e A (.ok a)) : ET e (cTru A) (.ok ((a.length : Int) != 0)) := et_trup (fun (a : Str) => (a.length : Int) != 0) tru_S ha
def tTruS (a : Str) : X Unit Bool := .ok ((a.length : Int) != 0)
theorem tt_truS {t : X Unit Str} (ha : EP e A t) : ET e (cTru A) (x1 tTruS t) := et_tru (fun (a : Str) => (a.length : Int) != 0) tru_S ha
@[simp] theorem tTruL_e {a : List α} : tTruL a = .ok (!a.isEmpty) := rfl
@[simp] theorem tTruI_e {a : Int} : tTruI a = .ok (a != 0) := rfl
@[simp] theorem tTruB_e {a : Bool} : tTruB a = .ok a := rfl
@[simp] theorem tTruS_e {a : Str} : tTruS a = .ok ((a.length : Int) != 0) := rfl
/-! casts -/
variable {c : Env → R Lv} {n : Env → R NV} {a : α} {t : X Unit α}
theorem sz_up {f : α → β} (hf : ∀ a, (enc (f a) : D) = enc a) {a : α} (h : Sz a) : Sz (f a) := by rw [Sz, hf]; exact h
theorem ev_up (f : α → β) (hf : ∀ a, (enc (f a) : D) = enc a) (h : EV e c (.ok a)) : EV e c (.ok (f a)) := h.upp fun a l q => ⟨by rw [hf]; exact q.1, sz_up hf q.2⟩
theorem ev_upx (f : α → β) (hf : ∀ a, (enc (f a) : D) = enc a) (h : EV e c t) : EV e c (t >>= fun a => .ok (f a)) := h.up fun a l q => ⟨by rw [hf]; exact q.1, sz_up hf q.2⟩
theorem ep_up (f : α → β) (hf : ∀ a, (enc (f a) : D) = enc a) (h : EP e c (.ok a)) : EP e c (.ok (f a)) := h.upp fun a l q => ⟨by rw [hf]; exact q.1, sz_up hf q.2⟩
theorem ep_upx (f : α → β) (hf : ∀ a, (enc (f a) : D) = enc a) (h : EP e c t) : EP e c (t >>= fun a => .ok (f a)) := h.up fun a l q => ⟨by rw [hf]; exact q.1, sz_up hf q.2⟩
theorem ev_dn (f : α → Option β) (hf : ∀ a b, f a = some b → (enc b : D) = enc a) (h : EV e c t) : EV e c (t >>= fun a => X.of (f a)) := h.dn fun a b l q1 q => ⟨by rw [hf a b q1]; exact q.1, by rw [Sz, hf a b q1]; exact q.2⟩
theorem ep_dn (f : α → Option β) (hf : ∀ a b, f a = some b → (enc b : D) = enc a) (h : EP e c t) : EP e c (t >>= fun a => X.of (f a)) := h.dn fun a b l q1 q => ⟨by rw [hf a b q1]; exact q.1, by rw [Sz, hf a b q1]; exact q.2⟩
theorem up_some (a : α) : (enc (some a) : D) = enc a := rfl
theorem up_none (a : Unit) : (enc (none : Option α) : D) = enc a := rfl
theorem up_d (a : α) : (enc (enc a : D) : D) = enc a := rfl
theorem up_L {f : α → β} (hf : ∀ a, (enc (f a) : D) = enc a) (l : List α) : (enc (l.map f) : D) = enc l := by
  show PyData.list ((l.map f).map enc) = .list (l.map enc)
  rw [List.map_map]
  congr 1
  exact List.map_congr_left fun a _ => hf a
theorem up_O {f : α → β} (hf : ∀ a, (enc (f a) : D) = enc a) (l : Option α) : (enc (l.map f) : D) = enc l := by
  cases l with
  | none => rfl
  | some a => exact hf a
theorem dn_O (o : Option α) (b : α) (h : id o = some b) : (enc b : D) = enc o := by
  have h : o = some b := h
  rw [h]; rfl
end
def decI : D → Option Int
  | .int i => some i
  | _ => none
def decB : D → Option Bool
  | .bool i => some i
  | _ => none
def decS : D → Option Str
  | .str i => some i
  | _ => none
def decL : D → Option (List D)
  | .list i => some i
  | _ => none
theorem dn_I (d : D) (b : Int) (h : decI d = some b) : (enc b : D) = enc d := by
  unfold decI at h
  split at h
  · cases h; rfl
  · cases h
theorem dn_B (d : D) (b : Bool) (h : decB d = some b) : (enc b : D) = enc d := by
  unfold decB at h
  split at h
  · cases h; rfl
  · cases h
theorem dn_S (d : D) (b : Str) (h : decS d = some b) : (enc b : D) = enc d := by
  unfold decS at h
  split at h
  · cases h; rfl
  · cases h
theorem dn_LD (d : D) (b : List D) (h : decL d = some b) : (enc b : D) = enc d := by
  unfold decL at h
  split at h
  · cases h
    show PyData.list (b.map enc) = _
    rw [map_id_enc]
    rfl
  · cases h
end
/-! things moved -/
section
variable {α ε ω : Type} [Enc α] {Θ : ε → Env → Prop} {Φ : ω → R Fl → Prop} {e : Env} {s : ε} {rest : Env → R Fl} {t : X ε ω} {i j : Nat}
theorem sv_setM {a : α} (hj : At e j (enc a)) (h : SV Θ Φ (rest ((e.set j none).set i (some (enc a)))) t) : SV Θ Φ (cSeq (cSetO i (cMove j)) rest e) t := by
  rw [sq_setO, cMove_e, hj.getD]
  exact h
theorem sv_asgM {a : α} (hj : At e j (enc a)) (h : SV Θ Φ (rest ((e.set j none).set i (some (enc a)))) t) : SV Θ Φ (cSeq (cAsg (cMelt (cMove j)) (fSet i)) rest e) t := by
  rw [sq_asg, cMelt_e, cMove_e, hj.getD]
  exact h
theorem sv_appM {l : List α} {a : α} (hl : At e i (enc l)) (hij : j ≠ i) (hj : At e j (enc a)) (h : Sz (l ++ [a]) → SV Θ Φ (rest ((e.set j none).set i (some (enc (l ++ [a]))))) t) :
    SV Θ Φ (cSeq (cDrop (cMut i gApp (cCons (cMelt (cMove j)) cNil))) rest e) (rq (l.length + 1 ≤ 16777216) t) := by
  rw [sq_drop, mut_b (ds := l.map enc) hl.getD, cons_b, cMelt_e, cMove_e, hj.getD]
  refine SV.rq fun hz => ?_
  simp only [bind_e, cNil_e]
  rw [app_K (hl.keep hij) hz]
  exact h (sz_app hz hl.2 hj.2)
end
end DL

/-! Effects: calls that change a thing of the caller's; the pool; comprehensions that draw; try. -/
namespace DL
open PySem PySem.Spec PyProof.Rows L2
open Enc (enc)
/-- a def that changes its parameter p: value, the parameter behind it -/
structure FnO {α o : Type} [Enc α] [Enc o] (m : List D → FR) (ds : List D) (p : Nat) (t : X o (α × o)) : Prop where
  h : match t with
    | .ok w => Sz w.1 ∧ Sz w.2 ∧ ∃ outs, m ds = .ok (enc w.1) outs ∧ outs[p]? = some (enc w.2)
    | .ex x s => Sz s ∧ ∃ outs, m ds = .ex x outs ∧ outs[p]? = some (enc s)
    | .st => True
/-- only the p-th of the modes is owned -/
def oneAt : Nat → List Sh → Bool
  | 0, m :: ms => !isFz m && allFz ms
  | p + 1, m :: ms => isFz m && oneAt p ms
  | _, [] => false
theorem putB_one : ∀ {p : Nat} {ms : List Sh} {ks : List (Option Nat)} {outs : List D} {e : Env} {i : Nat} {d : D}, oneAt p ms = true → ks[p]? = some (some i) → outs[p]? = some d → putB ms ks outs e = e.set i (some d)
  | 0, m :: ms, ks, outs, e, i, d, h, h1, h2 => by
    cases ks with
    | nil => cases h1
    | cons k ks =>
      cases outs with
      | nil => cases h2
      | cons d' outs =>
        cases h1
        cases h2
        unfold oneAt at h
        rw [Bool.and_eq_true] at h
        have hm : isFz m = false := by
          have := h.1
          cases q : isFz m with
          | true => rw [q] at this; cases this
          | false => rfl
        unfold putB
        rw [hm, putB_all h.2]
  | p + 1, m :: ms, ks, outs, e, i, d, h, h1, h2 => by
    cases ks with
    | nil => cases h1
    | cons k ks =>
      cases outs with
      | nil => cases h2
      | cons d' outs =>
        unfold oneAt at h
        rw [Bool.and_eq_true] at h
        unfold putB
        rw [h.1]
        exact putB_one h.2 h1 h2
  | 0, [], _, _, _, _, _, h, _, _ => by cases h
  | _ + 1, [], _, _, _, _, _, h, _, _ => by cases h
section
variable {α o ε ω ρ : Type} [Enc α] [Enc o] {Θ : ε → Env → Prop} {Φ : ω → R ρ → Prop} {modes : List Sh} {ks : List (Option Nat)} {rsh : Sh} {m : List D → FR} {dd ds : List D} {ls : List Lv} {e : Env} {K : D → Env → R ρ} {i p : Nat}
theorem ec_fin {t : X o (α × o)} {k : α × o → X ε ω} {g : o → ε} (h1 : oneAt p modes = true) (hb : borrows modes ks = false) (hk : ks[p]? = some (some i)) (h2 : ls.map Lv.slot = ks) (h3 : getsA ls e = some ds) (hf : FnO m (ds ++ dd) p t)
    (hx : ∀ s, Sz s → Θ (g s) (e.set i (some (enc s)))) (hn : ∀ a s, Sz a → Sz s → SV Θ Φ (K (enc a) (e.set i (some (enc s)))) (k (a, s))) : SV Θ Φ ((callG modes ks rsh m dd ls e).bind K) (xc g t k) := by
  unfold callG
  rw [if_pos h2, h3]
  simp only
  cases t with
  | ok w =>
    obtain ⟨z1, z2, outs, h4, h5⟩ := hf.h
    rw [h4]
    simp only
    rw [if_pos (by rw [hb]; rfl), putB_one h1 hk h5]
    exact hn w.1 w.2 z1 z2
  | ex x s =>
    obtain ⟨z, outs, h4, h5⟩ := hf.h
    rw [h4]
    simp only
    rw [if_pos (by rw [hb]; rfl), putB_one h1 hk h5]
    exact .ex rfl (hx s z)
  | st => exact .st
/-- a def that owns nothing -/
theorem ec_fin0 {t : X Unit α} {k : α → X ε ω} {s : ε} (hm : allFz modes = true) (h2 : ls.map Lv.slot = ks) (h3 : getsA ls e = some ds) (hf : FnT m (ds ++ dd) t) (hz : borrows modes ks = false ∨ ∀ g : α, indep rsh (enc g) = true) (hs : Θ s e)
    (hn : ∀ a, Sz a → SV Θ Φ (K (enc a) e) (k a)) : SV Θ Φ ((callG modes ks rsh m dd ls e).bind K) (xb s t k) := SV.j (call_core hm h2 h3 hf hz) hs fun a d hd => by rw [hd.1]; exact hn a hd.2
end
/-! ### expressions that change something: each part in turn -/
section
variable {α β γ ε ω ρ : Type} [Enc α] [Enc β] [Enc γ] {Θ : ε → Env → Prop} {Φ : ω → R ρ → Prop} {e : Env} {A B C c : Env → R Lv} {K : Lv → Env → R ρ} {t : X ε ω} {ta : X Unit α} {k : α → X ε ω} {s : ε} {a : α} {b : β}
theorem ec_p (h : EV e c (.ok a)) (hk : Sz a → SV Θ Φ (K (.val (enc a)) e) t) : SV Θ Φ ((c e).bind K) t := SV.jp h fun l hl => by rw [hl.1]; exact hk hl.2
theorem ec_x (h : EV e c ta) (hs : Θ s e) (hk : ∀ a, Sz a → SV Θ Φ (K (.val (enc a)) e) (k a)) : SV Θ Φ ((c e).bind K) (xb s ta k) := SV.j h hs fun a l hl => by rw [hl.1]; exact hk a hl.2
theorem ec_plc {i : Nat} (h : At e i (enc a)) (hk : SV Θ Φ (K (.plc i) e) t) : SV Θ Φ ((cPlc i e).bind K) t := by rw [cPlc_e, h.getD]; exact hk
theorem ec_own {i : Nat} (h : At e i (enc a)) (hk : SV Θ Φ (K (.own i) e) t) : SV Θ Φ ((cOwnV i e).bind K) t := by rw [cOwnV_e, h.getD]; exact hk
theorem ec_melt {n : Env → R D} (h : SV Θ Φ ((n e).bind fun v e1 => K (.val v) e1) t) : SV Θ Φ ((cMelt n e).bind K) t := by
  show SV Θ Φ (((n e).bind fun d e1 => R.ok (Lv.val d) e1).bind K) t
  rw [DL.bind_assoc]
  exact h
theorem ec_call {modes : List Sh} {ks : List (Option Nat)} {rsh : Sh} {m : List D → FR} {dd : List D} {ca : Env → R (List Lv)} {K : D → Env → R ρ} (h : SV Θ Φ ((ca e).bind fun ls e1 => (callG modes ks rsh m dd ls e1).bind K) t) : SV Θ Φ ((cCall modes ks rsh m dd ca e).bind K) t := by
  show SV Θ Φ (((ca e).bind (callG modes ks rsh m dd)).bind K) t
  rw [DL.bind_assoc]
  exact h
theorem ec_cons {G : List Lv → Env → R ρ} {r : Env → R (List Lv)} (h : SV Θ Φ ((A e).bind fun l e1 => (r e1).bind fun ls e2 => G (l :: ls) e2) t) : SV Θ Φ ((cCons A r e).bind G) t := by rw [cons_b]; exact h
theorem ec_nil {G : List Lv → Env → R ρ} (h : SV Θ Φ (G [] e) t) : SV Θ Φ ((cNil e).bind G) t := h
def frzK (K : Lv → Env → R ρ) : NV → Env → R ρ := fun nv e1 => K (.val nv.d) e1
theorem ec_frz {n : Env → R NV} (h : SV Θ Φ ((n e).bind (frzK K)) t) : SV Θ Φ ((cFrz n e).bind K) t := by
  show SV Θ Φ (((n e).bind fun v e1 => R.ok (Lv.val v.d) e1).bind K) t
  rw [DL.bind_assoc]
  exact h
def ownK (K : D → Env → R ρ) : NV → Env → R ρ := fun nv e1 => match nv with
  | .nl ds => K (.list ds) e1
  | _ => .st
theorem ec_cown {n : Env → R NV} {K : D → Env → R ρ} (h : SV Θ Φ ((n e).bind (ownK K)) t) : SV Θ Φ ((cOwn n e).bind K) t := by
  have : (cOwn n e).bind K = (n e).bind (ownK K) := by
    rw [cOwn_e]
    cases n e with
    | ok v e1 => cases v <;> rfl
    | ex x e1 => rfl
    | st => rfl
  rw [this]
  exact h
def op2K (f : D → D → Option NV) (K : NV → Env → R ρ) : Lv → Lv → Env → R ρ := fun l m e2 => (ofO ((l.get e2).bind fun x => (m.get e2).bind fun y => f x y) e2).bind K
theorem ec_2 {f : D → D → Option NV} {K : NV → Env → R ρ} (h : SV Θ Φ ((A e).bind fun l e1 => (B e1).bind fun m e2 => op2K f K l m e2) t) : SV Θ Φ ((c2 f A B e).bind K) t := by
  show SV Θ Φ (((A e).bind fun l e1 => (B e1).bind fun m e2 => ofO ((l.get e2).bind fun x => (m.get e2).bind fun y => f x y) e2).bind K) t
  rw [DL.bind_assoc]
  have : (fun l e1 => ((B e1).bind fun m e2 => ofO ((l.get e2).bind fun x => (m.get e2).bind fun y => f x y) e2).bind K) = fun l e1 => (B e1).bind fun m e2 => op2K f K l m e2 := by
    funext l e1
    rw [DL.bind_assoc]
    rfl
  rw [this]
  exact h
theorem ec_op2 {f : D → D → Option NV} {g : α → β → X Unit γ} {l m : Lv} {k : γ → X ε ω} (hf : Op2T f g) (hl : l.get e = some (enc a)) (hm : m.get e = some (enc b)) (za : Sz a) (zb : Sz b) (hs : Θ s e) (hk : ∀ c, Sz c → SV Θ Φ (K (.val (enc c)) e) (k c)) : SV Θ Φ (op2K f (frzK K) l m e) (xb s (g a b) k) := by
  unfold op2K
  rw [hl, hm]
  exact SV.j (hf a b za zb).j hs fun c nv hc => by unfold frzK; rw [hc.1]; exact hk c hc.2
theorem ec_op2p {f : D → D → Option NV} {g : α → β → γ} {l m : Lv} (hf : Op2P f g) (hl : l.get e = some (enc a)) (hm : m.get e = some (enc b)) (za : Sz a) (zb : Sz b) (hk : Sz (g a b) → SV Θ Φ (K (.val (enc (g a b))) e) t) : SV Θ Φ (op2K f (frzK K) l m e) t := by
  unfold op2K
  rw [hl, hm]
  exact SV.jp (hf.t a b za zb).j fun nv hc => by unfold frzK; rw [hc.1]; exact hk hc.2
/-- tests -/
def op2T (f : D → D → Option NV) (K : Bool → Env → R ρ) : Lv → Lv → Env → R ρ := fun l m e2 => (ofO (((l.get e2).bind fun x => (m.get e2).bind fun y => f x y).bind fun v => dBool v.d) e2).bind K
theorem ec_t2 {f : D → D → Option NV} {K : Bool → Env → R ρ} (h : SV Θ Φ ((A e).bind fun l e1 => (B e1).bind fun m e2 => op2T f K l m e2) t) : SV Θ Φ ((cTst (c2 f A B) e).bind K) t := by
  have : (cTst (c2 f A B) e).bind K = (A e).bind fun l e1 => (B e1).bind fun m e2 => op2T f K l m e2 := by
    rw [cTst_e, c2_e]
    cases A e with
    | ex x e1 => rfl
    | st => rfl
    | ok l e1 =>
      simp only [bind_e]
      cases B e1 with
      | ex x e2 => rfl
      | st => rfl
      | ok m e2 =>
        simp only [op2T]
        cases (l.get e2).bind fun x => (m.get e2).bind fun y => f x y <;> rfl
  rw [this]
  exact h
theorem ec_opT {f : D → D → Option NV} {g : α → β → X Unit Bool} {K : Bool → Env → R ρ} {l m : Lv} {k : Bool → X ε ω} (hf : Op2T f g) (hl : l.get e = some (enc a)) (hm : m.get e = some (enc b)) (za : Sz a) (zb : Sz b) (hs : Θ s e) (hk : ∀ c, SV Θ Φ (K c e) (k c)) : SV Θ Φ (op2T f K l m e) (xb s (g a b) k) := by
  unfold op2T
  rw [hl, hm]
  have h := hf a b za zb
  show SV Θ Φ ((ofO ((f (enc a) (enc b)).bind fun v => dBool v.d) e).bind K) _
  cases q : g a b with
  | ok c =>
    rw [q] at h
    obtain ⟨nv, h1, h2, _⟩ := h
    rw [h1, obind_some, h2]
    exact hk c
  | ex x u => rw [q] at h; exact False.elim h
  | st => exact .st
theorem ec_opTp {f : D → D → Option NV} {g : α → β → Bool} {K : Bool → Env → R ρ} {l m : Lv} (hf : Op2P f g) (hl : l.get e = some (enc a)) (hm : m.get e = some (enc b)) (za : Sz a) (zb : Sz b) (hk : SV Θ Φ (K (g a b) e) t) : SV Θ Φ (op2T f K l m e) t := by
  unfold op2T
  rw [hl, hm]
  obtain ⟨nv, h1, h2, _⟩ := hf a b za zb
  show SV Θ Φ ((ofO ((f (enc a) (enc b)).bind fun v => dBool v.d) e).bind K) _
  rw [h1, obind_some, h2]
  exact hk
theorem ec_tp {S : Env → R Bool} {K : Bool → Env → R ρ} {b : Bool} (h : ET e S (.ok b)) (hk : SV Θ Φ (K b e) t) : SV Θ Φ ((S e).bind K) t := SV.jp h fun l hl => by rw [hl]; exact hk
theorem ec_tx {S : Env → R Bool} {K : Bool → Env → R ρ} {tb : X Unit Bool} {k : Bool → X ε ω} (h : ET e S tb) (hs : Θ s e) (hk : ∀ b, SV Θ Φ (K b e) (k b)) : SV Θ Φ ((S e).bind K) (xb s tb k) := SV.j h hs fun a l hl => by rw [hl]; exact hk a
theorem ec_and {S T : Env → R Bool} {K : Bool → Env → R ρ} (h : SV Θ Φ ((S e).bind fun b e1 => match b with | true => (T e1).bind K | false => K false e1) t) : SV Θ Φ ((cAnd S T e).bind K) t := by
  have : (cAnd S T e).bind K = (S e).bind fun b e1 => match b with | true => (T e1).bind K | false => K false e1 := by
    rw [cAnd_e]
    cases S e with
    | ok b e1 => cases b <;> rfl
    | ex x e1 => rfl
    | st => rfl
  rw [this]
  exact h
theorem ec_or {S T : Env → R Bool} {K : Bool → Env → R ρ} (h : SV Θ Φ ((S e).bind fun b e1 => match b with | true => K true e1 | false => (T e1).bind K) t) : SV Θ Φ ((cOr S T e).bind K) t := by
  have : (cOr S T e).bind K = (S e).bind fun b e1 => match b with | true => K true e1 | false => (T e1).bind K := by
    rw [cOr_e]
    cases S e with
    | ok b e1 => cases b <;> rfl
    | ex x e1 => rfl
    | st => rfl
  rw [this]
  exact h
theorem ec_not {S : Env → R Bool} {K : Bool → Env → R ρ} (h : SV Θ Φ ((S e).bind fun b e1 => K (!b) e1) t) : SV Θ Φ ((cNot S e).bind K) t := by
  show SV Θ Φ (((S e).bind fun v e1 => R.ok (!v) e1).bind K) t
  rw [DL.bind_assoc]
  exact h
theorem ec_truB {K : Bool → Env → R ρ} (h : SV Θ Φ ((A e).bind fun l e1 => (ofO ((l.get e1).bind dTru) e1).bind K) t) : SV Θ Φ ((cTru A e).bind K) t := by
  show SV Θ Φ (((A e).bind fun l e1 => ofO ((l.get e1).bind dTru) e1).bind K) t
  rw [DL.bind_assoc]
  exact h
theorem ec_truBk {K : Bool → Env → R ρ} {b : Bool} (h : SV Θ Φ (K b e) t) : SV Θ Φ ((ofO (((Lv.val (enc b)).get e).bind dTru) e).bind K) t := h
theorem ec_ifK {r1 r2 : R ρ} {b : Bool} {u v : X ε ω} (h1 : SV Θ Φ r1 u) (h2 : SV Θ Φ r2 v) : SV Θ Φ (match b with | true => r1 | false => r2) (if b = true then u else v) := by
  cases b with
  | true => exact h1
  | false => exact h2
theorem ec_if {β' : Type} {S : Env → R Bool} {P Q : Env → R β'} {K : β' → Env → R ρ} (h : SV Θ Φ ((S e).bind fun b e1 => match b with | true => (P e1).bind K | false => (Q e1).bind K) t) : SV Θ Φ ((cIf S P Q e).bind K) t := by
  have : (cIf S P Q e).bind K = (S e).bind fun b e1 => match b with | true => (P e1).bind K | false => (Q e1).bind K := by
    rw [cIf_e]
    cases S e with
    | ok b e1 => cases b <;> rfl
    | ex x e1 => rfl
    | st => rfl
  rw [this]
  exact h
/-- built-ins of one and two -/
def opbK (f : List D → Option NV) (K : NV → Env → R ρ) : List Lv → Env → R ρ := fun ls e1 => (ofO ((gets ls e1).bind f) e1).bind K
theorem ec_b {f : List D → Option NV} {K : NV → Env → R ρ} {ca : Env → R (List Lv)} (h : SV Θ Φ ((ca e).bind (opbK f K)) t) : SV Θ Φ ((cB f ca e).bind K) t := by
  show SV Θ Φ (((ca e).bind fun ls e1 => ofO ((gets ls e1).bind f) e1).bind K) t
  rw [DL.bind_assoc]
  exact h
theorem ec_opb1 {f : List D → Option NV} {g : α → X Unit γ} {l : Lv} {k : γ → X ε ω} (hf : Op1T (fun d => f [d]) g) (hl : l.get e = some (enc a)) (za : Sz a) (hs : Θ s e) (hk : ∀ c, Sz c → SV Θ Φ (K (.val (enc c)) e) (k c)) : SV Θ Φ (opbK f (frzK K) [l] e) (xb s (g a) k) := by
  unfold opbK
  rw [gets_cons, hl]
  exact SV.j (hf a za).j hs fun c nv hc => by unfold frzK; rw [hc.1]; exact hk c hc.2
theorem ec_opb1p {f : List D → Option NV} {g : α → γ} {l : Lv} (hf : Op1P (fun d => f [d]) g) (hl : l.get e = some (enc a)) (za : Sz a) (hk : Sz (g a) → SV Θ Φ (K (.val (enc (g a))) e) t) : SV Θ Φ (opbK f (frzK K) [l] e) t := by
  unfold opbK
  rw [gets_cons, hl]
  exact SV.jp (hf.t a za).j fun nv hc => by unfold frzK; rw [hc.1]; exact hk hc.2
theorem ec_opb2p {f : List D → Option NV} {g : α → β → γ} {l m : Lv} (hf : Op2P (fun d d' => f [d, d']) g) (hl : l.get e = some (enc a)) (hm : m.get e = some (enc b)) (za : Sz a) (zb : Sz b) (hk : Sz (g a b) → SV Θ Φ (K (.val (enc (g a b))) e) t) : SV Θ Φ (opbK f (frzK K) [l, m] e) t := by
  unfold opbK
  rw [gets_cons, gets_cons, hl, hm]
  exact SV.jp (hf.t a b za zb).j fun nv hc => by unfold frzK; rw [hc.1]; exact hk hc.2
/-- displays -/
def lstK (K : NV → Env → R ρ) : List Lv → Env → R ρ := fun ls e1 => (ofO ((vals ls).bind fun ds => if fits ds.length = true then some (NV.nl ds) else none) e1).bind K
theorem ec_lst {K : NV → Env → R ρ} {ca : Env → R (List Lv)} (h : SV Θ Φ ((ca e).bind (lstK K)) t) : SV Θ Φ ((cLst ca e).bind K) t := by
  show SV Θ Φ (((ca e).bind fun ls e1 => ofO ((vals ls).bind fun ds => if fits ds.length = true then some (NV.nl ds) else none) e1).bind K) t
  rw [DL.bind_assoc]
  exact h
theorem lst_K {K : NV → Env → R ρ} {l : List α} (h : l.length ≤ 16777216) : lstK K ((l.map enc).map .val) e = K (.nl (l.map enc)) e := by
  unfold lstK
  rw [vals_map, obind_some, List.length_map, if_pos (fits_of h)]
  rfl
def tupK (K : NV → Env → R ρ) : List Lv → Env → R ρ := fun ls e1 => (ofO ((vals ls).bind fun ds => if fits ds.length = true then some (NV.nt ds) else none) e1).bind K
theorem ec_tup {K : NV → Env → R ρ} {ca : Env → R (List Lv)} (h : SV Θ Φ ((ca e).bind (tupK K)) t) : SV Θ Φ ((cTup ca e).bind K) t := by
  show SV Θ Φ (((ca e).bind fun ls e1 => ofO ((vals ls).bind fun ds => if fits ds.length = true then some (NV.nt ds) else none) e1).bind K) t
  rw [DL.bind_assoc]
  exact h
theorem ec_lstF {l : List α} (h : l.length ≤ 16777216) (hz : ∀ x ∈ l, Sz x) (hk : Sz l → SV Θ Φ (K (.val (enc l)) e) t) : SV Θ Φ (lstK (frzK K) ((l.map enc).map .val) e) t := by
  rw [lst_K h]
  exact hk (sz_list.mpr ⟨h, hz⟩)
theorem ec_lstO {l : List α} {K : D → Env → R ρ} (h : l.length ≤ 16777216) (hz : ∀ x ∈ l, Sz x) (hk : Sz l → SV Θ Φ (K (enc l) e) t) : SV Θ Φ (lstK (ownK K) ((l.map enc).map .val) e) t := by
  rw [lst_K h]
  exact hk (sz_list.mpr ⟨h, hz⟩)
theorem ec_tup2 (za : Sz a) (zb : Sz b) (hk : Sz (⟨a, b⟩ : T2 α β) → SV Θ Φ (K (.val (enc (⟨a, b⟩ : T2 α β))) e) t) : SV Θ Φ (tupK (frzK K) [.val (enc a), .val (enc b)] e) t := hk (sz_t2.mpr ⟨za, zb⟩)
theorem ec_tup3 {c : γ} (za : Sz a) (zb : Sz b) (zc : Sz c) (hk : Sz (⟨a, b, c⟩ : T3 α β γ) → SV Θ Φ (K (.val (enc (⟨a, b, c⟩ : T3 α β γ))) e) t) : SV Θ Φ (tupK (frzK K) [.val (enc a), .val (enc b), .val (enc c)] e) t := hk (sz_t3.mpr ⟨za, zb, zc⟩)
theorem ec_tup4 {δ : Type} [Enc δ] {c : γ} {d : δ} (za : Sz a) (zb : Sz b) (zc : Sz c) (zd : Sz d) (hk : Sz (⟨a, b, c, d⟩ : T4 α β γ δ) → SV Θ Φ (K (.val (enc (⟨a, b, c, d⟩ : T4 α β γ δ))) e) t) : SV Θ Φ (tupK (frzK K) [.val (enc a), .val (enc b), .val (enc c), .val (enc d)] e) t := hk (sz_t4.mpr ⟨za, zb, zc, zd⟩)
theorem szn : ∀ x ∈ ([] : List α), Sz x := fun _ h => by cases h
theorem szc {l : List α} (h : Sz a) (hl : ∀ x ∈ l, Sz x) : ∀ x ∈ a :: l, Sz x := fun x hx => by
  rcases List.mem_cons.mp hx with rfl | hx
  · exact h
  · exact hl x hx
/-- what is walked -/
theorem ec_rng1 {K : List D → Env → R ρ} (h : SV Θ Φ ((A e).bind fun l e1 => (match gets [l] e1 with | some [.int j] => if inR j = true then R.ok (intsFrom 0 j.toNat) e1 else .st | _ => .st).bind K) t) : SV Θ Φ ((cItR1 (cCons A cNil) e).bind K) t := by
  show SV Θ Φ (((cCons A cNil e).bind fun ls e1 => match gets ls e1 with | some [.int j] => if inR j = true then R.ok (intsFrom 0 j.toNat) e1 else .st | _ => .st).bind K) t
  rw [cons_b, DL.bind_assoc]
  exact h
theorem ec_rng1k {K : List D → Env → R ρ} {n : Int} {k : List Int → X ε ω} (hs : Θ s e) (h : ∀ l, Sz l → SV Θ Φ (K (l.map enc) e) (k l)) : SV Θ Φ ((match gets [.val (enc n)] e with | some [.int j] => if inR j = true then R.ok (intsFrom 0 j.toNat) e else .st | _ => .st).bind K) (xb s (tRng1 n) k) := by
  unfold tRng1
  by_cases hn : -4611686018427387904 ≤ n ∧ n ≤ 16777216
  · rw [rq_t hn]
    show SV Θ Φ ((if inR n = true then R.ok (intsFrom 0 n.toNat) e else .st).bind K) _
    rw [if_pos (by rw [inR_iff]; omega)]
    have := h (irng 0 n) (irng_sz (by omega))
    rw [irng_enc, Int.sub_zero] at this
    exact this
  · unfold rq
    rw [if_neg hn]
    exact .st
theorem ec_seq {K : List D → Env → R ρ} (h : SV Θ Φ ((A e).bind fun l e1 => (match l with | .val d => ofO (seqOf d) e1 | _ => .st).bind K) t) : SV Θ Φ ((cItS A e).bind K) t := by
  show SV Θ Φ (((A e).bind fun l e1 => match l with | .val d => ofO (seqOf d) e1 | _ => .st).bind K) t
  rw [DL.bind_assoc]
  exact h
theorem ec_seqk {K : List D → Env → R ρ} {l : List α} (h : SV Θ Φ (K (l.map enc) e) t) : SV Θ Φ ((match Lv.val (enc l) with | .val d => ofO (seqOf d) e | _ => .st).bind K) t := h
/-- slices -/
theorem ec_sl {lo hi : Env → R (Option Int)} {K : NV → Env → R ρ} (h : SV Θ Φ ((A e).bind fun l e1 => (lo e1).bind fun x e2 => (hi e2).bind fun y e3 => (ofO ((l.get e3).bind fun d => dSl d x y) e3).bind K) t) : SV Θ Φ ((cSl A lo hi e).bind K) t := by
  have : (cSl A lo hi e).bind K = (A e).bind fun l e1 => (lo e1).bind fun x e2 => (hi e2).bind fun y e3 => (ofO ((l.get e3).bind fun d => dSl d x y) e3).bind K := by
    rw [cSl_e]
    cases A e with
    | ex x e1 => rfl
    | st => rfl
    | ok l e1 =>
      simp only [bind_e]
      cases lo e1 with
      | ex x e2 => rfl
      | st => rfl
      | ok x e2 =>
        simp only
        cases hi e2 <;> rfl
  rw [this]
  exact h
theorem ec_partN {K : Option Int → Env → R ρ} (h : SV Θ Φ (K none e) t) : SV Θ Φ ((cPartN e).bind K) t := h
theorem ec_part {K : Option Int → Env → R ρ} (h : SV Θ Φ ((A e).bind fun l e1 => (ofO ((l.get e1).bind fun d => (dInt d).map some) e1).bind K) t) : SV Θ Φ ((cPart A e).bind K) t := by
  show SV Θ Φ (((A e).bind fun l e1 => ofO ((l.get e1).bind fun d => (dInt d).map some) e1).bind K) t
  rw [DL.bind_assoc]
  exact h
theorem ec_partk {K : Option Int → Env → R ρ} {i : Int} (h : SV Θ Φ (K (some i) e) t) : SV Θ Φ ((ofO (((Lv.val (enc i)).get e).bind fun d => (dInt d).map some) e).bind K) t := h
theorem ec_slk {l : List α} {x y : Option Int} {lv : Lv} (hl : lv.get e = some (enc l)) (z : Sz l) (h : Sz (dCut l x y) → SV Θ Φ (K (.val (enc (dCut l x y))) e) t) : SV Θ Φ ((ofO ((lv.get e).bind fun d => dSl d x y) e).bind (frzK K)) t := by
  rw [hl]
  show SV Θ Φ (K (.val (.list (dCut (l.map enc) x y))) e) t
  rw [dCut_map]
  exact h (sz_list.mpr ⟨Nat.le_trans dCut_len z.len, fun w hw => z.mem (dCut_mem hw)⟩)
end
/-! ### statements whose expressions change something -/
section
variable {α β ε ω : Type} [Enc α] [Enc β] {Θ : ε → Env → Prop} {Φ : ω → R Fl → Prop} {e : Env} {s : ε} {A B : Env → R Lv} {rest : Env → R Fl} {t : X ε ω} {i : Nat} {a : α}
theorem es_asg {f : D → Env → Option Env} (h : SV Θ Φ ((A e).bind (asgK f rest)) t) : SV Θ Φ (cSeq (cAsg A f) rest e) t := by rw [sq_asg]; exact h
theorem es_asgk (h : SV Θ Φ (rest (e.set i (some (enc a)))) t) : SV Θ Φ (asgK (fSet i) rest (.val (enc a)) e) t := h
theorem es_asgkT {f : D → Env → Option Env} {n : Nat} {ws : List Nat} {T : α → Env → Env} (hT : Tg n ws f T) (h : SV Θ Φ (rest (T a e)) t) : SV Θ Φ (asgK f rest (.val (enc a)) e) t := by
  show SV Θ Φ (match f (enc a) e with | some e2 => rest e2 | none => .st) _
  rw [hT.step]
  exact h
theorem es_drop (h : SV Θ Φ ((A e).bind fun _ e1 => rest e1) t) : SV Θ Φ (cSeq (cDrop A) rest e) t := by rw [sq_drop]; exact h
theorem es_setO {n : Env → R D} (h : SV Θ Φ ((n e).bind fun d e1 => rest (e1.set i (some d))) t) : SV Θ Φ (cSeq (cSetO i n) rest e) t := by rw [sq_setO]; exact h
theorem es_ret (h : SV Θ Φ ((A e).bind fun l e1 => match l with | .val d => .ok (.rt d) e1 | _ => .st) t) : SV Θ Φ (cSeq (cRet A) rest e) t := by rw [sq_ret]; exact h
theorem es_retk {w : ω} (h : Φ w (.ok (.rt (enc a)) e)) : SV Θ Φ (match Lv.val (enc a) with | .val d => .ok (.rt d) e | _ => .st) (.ok w) := .ok h
theorem es_retO {n : Env → R D} (h : SV Θ Φ ((n e).bind fun d e1 => .ok (.rt d) e1) t) : SV Θ Φ (cSeq (cRetO n) rest e) t := by rw [sq_retO]; exact h
theorem es_retOk {w : ω} (h : Φ w (.ok (.rt (enc a)) e)) : SV Θ Φ (.ok (.rt (enc a)) e) (.ok w) := .ok h
theorem es_if {S : Env → R Bool} {P Q : Env → R Fl} (h : SV Θ Φ ((S e).bind fun b e1 => match b with | true => cSeq P rest e1 | false => cSeq Q rest e1) t) : SV Θ Φ (cSeq (cIf S P Q) rest e) t := by rw [sq_if]; exact h
theorem es_ifk {P Q : Env → R Fl} {b : Bool} {u v : X ε ω} (hu : SV Θ Φ (cSeq P rest e) u) (hv : SV Θ Φ (cSeq Q rest e) v) : SV Θ Φ (match b with | true => cSeq P rest e | false => cSeq Q rest e) (if b = true then u else v) := by
  cases b with
  | true => exact hu
  | false => exact hv
theorem es_mut {g : List D → List D → Option (D × List D)} {ca : Env → R (List Lv)} {l : List α} (hl : At e i (enc l)) (h : SV Θ Φ ((ca e).bind (mutK i g fun _ e1 => rest e1)) t) : SV Θ Φ (cSeq (cDrop (cMut i g ca)) rest e) t := by
  rw [sq_drop, mut_b (ds := l.map enc) hl.getD]
  exact h
theorem es_app {K : Lv → Env → R Fl} {l : List α} (hl : At e i (enc l)) (ha : Sz a) (h : Sz (l ++ [a]) → SV Θ Φ (K (.val .none) (e.set i (some (enc (l ++ [a]))))) t) : SV Θ Φ (mutK i gApp K [.val (enc a)] e) (rq (l.length + 1 ≤ 16777216) t) := SV.rq fun hz => by
  rw [app_K hl hz]
  exact h (sz_app hz hl.2 ha)
theorem es_ins {K : Lv → Env → R Fl} {l : List α} {j : Int} (hl : At e i (enc l)) (ha : Sz a) (h : Sz (insAt l j a) → SV Θ Φ (K (.val .none) (e.set i (some (enc (insAt l j a))))) t) : SV Θ Φ (mutK i gIns K [.val (enc j), .val (enc a)] e) (rq (l.length + 1 ≤ 16777216 ∧ 0 ≤ j ∧ j < 4611686018427387904) t) := SV.rq fun hz => by
  rw [ins_K hl hz]
  exact h (sz_ins hz.1 hl.2 ha)
/-- x.pop(i), x.pop() in an expression -/
def popAt {ε α : Type} (l : List α) (i : Int) : X ε (α × List α) := rq (-4611686018427387904 ≤ i ∧ i < 4611686018427387904) (X.of ((seqIndex? i l.length).bind fun k => (l[k]?).map fun a => (a, l.eraseIdx k)))
def popEnd {ε α : Type} (l : List α) : X ε (α × List α) := X.of ((l[l.length - 1]?).map fun a => (a, l.dropLast))
theorem ec_mut {ρ : Type} {Φ : ω → R ρ → Prop} {K : Lv → Env → R ρ} {g : List D → List D → Option (D × List D)} {ca : Env → R (List Lv)} {l : List α} (hl : At e i (enc l)) (h : SV Θ Φ ((ca e).bind (mutK i g K)) t) : SV Θ Φ ((cMut i g ca e).bind K) t := by
  rw [mut_b (ds := l.map enc) hl.getD]
  exact h
theorem ec_pop {ρ : Type} {Φ : ω → R ρ → Prop} {K : Lv → Env → R ρ} {l : List α} {j : Int} {k : α × List α → X ε ω} (hl : At e i (enc l)) (h : ∀ a l', Sz a → Sz l' → SV Θ Φ (K (.val (enc a)) (e.set i (some (enc l')))) (k (a, l'))) : SV Θ Φ (mutK i gPop K [.val (enc j)] e) (popAt l j >>= k) := by
  unfold popAt
  by_cases hj : -4611686018427387904 ≤ j ∧ j < 4611686018427387904
  · rw [rq_t hj]
    cases q : seqIndex? j l.length with
    | none => exact .st
    | some n =>
      rw [obind_some]
      cases q2 : l[n]? with
      | none => exact .st
      | some a =>
        have e1 : (l.map (enc : α → D)).eraseIdx n = (l.eraseIdx n).map enc := by rw [List.eraseIdx_eq_take_drop_succ, List.eraseIdx_eq_take_drop_succ, List.map_append, List.map_take, List.map_drop]
        rw [mutK_ok (ds := l.map enc) (as := [.int j]) (r := enc a) (ds' := (l.eraseIdx n).map enc) hl.getD rfl ?_]
        · exact h a _ (hl.sz.mem (List.mem_of_getElem? q2)) (sz_list.mpr ⟨Nat.le_trans (List.length_eraseIdx_le _ _) hl.sz.len, fun x hx => hl.sz.mem (List.mem_of_mem_eraseIdx hx)⟩)
        · show (if inR j = true then ((seqIndex? j (l.map enc).length).bind fun k => ((l.map enc)[k]?).map fun d => (d, (l.map enc).eraseIdx k)) else none) = _
          rw [if_pos (by rw [inR_iff]; omega), List.length_map, q, obind_some, List.getElem?_map, q2, e1]
          rfl
  · unfold rq
    rw [if_neg hj]
    exact .st
theorem ec_popE {ρ : Type} {Φ : ω → R ρ → Prop} {K : Lv → Env → R ρ} {l : List α} {k : α × List α → X ε ω} (hl : At e i (enc l)) (h : ∀ a l', Sz a → Sz l' → SV Θ Φ (K (.val (enc a)) (e.set i (some (enc l')))) (k (a, l'))) : SV Θ Φ (mutK i gPop K [] e) (popEnd l >>= k) := by
  unfold popEnd
  cases q2 : l[l.length - 1]? with
  | none => exact .st
  | some a =>
    have e1 : (l.map (enc : α → D)).dropLast = l.dropLast.map enc := by rw [List.map_dropLast]
    rw [mutK_ok (ds := l.map enc) (as := []) (r := enc a) (ds' := l.dropLast.map enc) hl.getD rfl ?_]
    · exact h a _ (hl.sz.mem (List.mem_of_getElem? q2)) (sz_list.mpr ⟨by rw [List.length_dropLast]; have := hl.sz.len; omega, fun x hx => hl.sz.mem (List.dropLast_subset _ hx)⟩)
    · show ((l.map enc)[(l.map enc).length - 1]?).map (fun d => (d, (l.map enc).dropLast)) = _
      rw [List.length_map, List.getElem?_map, q2, e1]
      rfl
end
end DL

/-! The pool; _law_same; comprehensions that draw; try. -/
namespace DL
open PySem PySem.Spec PyProof.Rows L2
open Enc (enc)
/-- the law's own pool -/
def PoolOk (d : D) : Prop := ∃ ns p a c t, d = poolD ns p a c t ∧ 0 ≤ p ∧ p ≤ (ns.length : Int) ∧ ns.length ≤ 63
def Pool : Type := {d : D // PoolOk d}
instance : Enc Pool := ⟨fun P => P.1⟩
theorem sz_pool (P : Pool) : Sz P := by
  obtain ⟨d, ns, p, a, c, t, rfl, h1, h2, h3⟩ := P
  show szD (poolD ns p a c t) = true
  unfold poolD
  have : szAll (ns.map PyData.int) = true := szAll_iff.mpr fun d hd => by
    obtain ⟨i, _, rfl⟩ := List.mem_map.mp hd
    rfl
  simp [szD, szAll, this]
  omega
theorem draw_ex (P : Pool) (n : Int) (h : 0 < n ∧ n < 1073741824) : ∃ w : Int × Pool, Lib.m__law_draw [enc P, .int n] = .ok (.int w.1) [enc w.2, .int n] ∧ 0 ≤ w.1 ∧ w.1 < n := by
  obtain ⟨d, ns, p, a, c, t, rfl, h1, h2, h3⟩ := P
  obtain ⟨r, p', a', c', t', e, r0, r1, q0, q1⟩ := draw_ok ns p a c t n h1 h2 h.1 h.2
  exact ⟨(r, ⟨poolD ns p' a' c' t', ns, p', a', c', t', rfl, q0, q1, h3⟩), e, r0, r1⟩
noncomputable def t__law_draw (P : Pool) (n : Int) : X Pool (Int × Pool) := @dite _ (0 < n ∧ n < 1073741824) inferInstance (fun h => .ok (Classical.choose (draw_ex P n h))) (fun _ => .st)
theorem draw_spec (P : Pool) {n : Int} (h : 0 < n ∧ n < 1073741824) : ∃ r P', t__law_draw P n = .ok (r, P') ∧ 0 ≤ r ∧ r < n := by
  unfold t__law_draw
  rw [dif_pos h]
  have := (Classical.choose_spec (draw_ex P n h)).2
  exact ⟨_, _, rfl, this⟩
theorem ty__law_draw (P : Pool) (n : Int) (_ : Sz P) (_ : Sz n) : FnO Lib.m__law_draw [enc P, enc n] 0 (t__law_draw P n) := by
  constructor
  unfold t__law_draw
  by_cases h : 0 < n ∧ n < 1073741824
  · rw [dif_pos h]
    have := (Classical.choose_spec (draw_ex P n h)).1
    exact ⟨sz_int _, sz_pool _, _, this, rfl⟩
  · rw [dif_neg h]
    trivial
def t__law_pool (ns : List Int) : X Unit Pool := if h : ns.length ≤ 63 then .ok ⟨poolD ns 0 0 0 0, ns, 0, 0, 0, 0, rfl, by omega, by omega, h⟩ else .st
theorem ty__law_pool (ns : List Int) (_ : Sz ns) : FnT Lib.m__law_pool [enc ns] (t__law_pool ns) := by
  constructor
  unfold t__law_pool
  by_cases h : ns.length ≤ 63
  · rw [dif_pos h]
    exact ⟨sz_pool _, _, pool_ok ns⟩
  · rw [dif_neg h]
    trivial
theorem okS_all {n : Nat} : ∀ {ds : List D}, (∀ d ∈ ds, okS n d = true) → ds.all (okS n) = true := fun h => List.all_eq_true.mpr h
mutual
theorem okS_of : ∀ (d : D) (n : Nat), d.plain = true → szD d = true → d.depth ≤ n → okS n d = true
  | .none, n, _, _, _ => by cases n <;> rfl
  | .bool _, n, _, _, _ => by cases n <;> rfl
  | .int _, n, _, _, _ => by cases n <;> rfl
  | .str _, n, _, _, _ => by cases n <;> rfl
  | .list ds, n, hp, hz, hd => by
    cases n with
    | zero =>
      have : PyData.depthAll ds + 1 ≤ 0 := hd
      omega
    | succ n =>
      have hd : PyData.depthAll ds + 1 ≤ n + 1 := hd
      have hz : (decide (ds.length ≤ 16777216) && szAll ds) = true := hz
      rw [Bool.and_eq_true] at hz
      show (decide (ds.length ≤ 16777216) && ds.all (okS n)) = true
      rw [hz.1, okS_ofAll ds n (by simpa [PyData.plain] using hp) hz.2 (by omega)]
      rfl
  | .tuple ds, n, hp, hz, hd => by
    cases n with
    | zero =>
      have : PyData.depthAll ds + 1 ≤ 0 := hd
      omega
    | succ n =>
      have hd : PyData.depthAll ds + 1 ≤ n + 1 := hd
      have hz : (decide (ds.length ≤ 16777216) && szAll ds) = true := hz
      rw [Bool.and_eq_true] at hz
      show (decide (ds.length ≤ 16777216) && ds.all (okS n)) = true
      rw [hz.1, okS_ofAll ds n (by simpa [PyData.plain] using hp) hz.2 (by omega)]
      rfl
  | .dict _, _, hp, _, _ => by cases hp
theorem okS_ofAll : ∀ (ds : List D) (n : Nat), PyData.plainAll ds = true → szAll ds = true → PyData.depthAll ds ≤ n → ds.all (okS n) = true
  | [], _, _, _, _ => rfl
  | d :: ds, n, hp, hz, hd => by
    have hp : (d.plain && PyData.plainAll ds) = true := hp
    have hz : (szD d && szAll ds) = true := hz
    have hd : max d.depth (PyData.depthAll ds) ≤ n := hd
    rw [Bool.and_eq_true] at hp hz
    rw [List.all_cons, okS_of d n hp.1 hz.1 (by omega), okS_ofAll ds n hp.2 hz.2 (by omega)]
    rfl
end
/-- both the same, or nothing is told -/
def t__law_same {α : Type} [DecidableEq α] (a b : α) : X Unit Bool := rq (a = b) (.ok true)
@[simp] theorem t_same {α : Type} [DecidableEq α] (a : α) : t__law_same a a = .ok true := rq_t rfl
theorem ty__law_same {α : Type} [Enc α] [DecidableEq α] [Pl α] {n : Nat} (hd : Pl.dep α ≤ n) (a b : α) (z : Sz a) (_ : Sz b) : FnT (Lib.m__law_same (n + 1)) [enc a, enc b] (t__law_same a b) := by
  constructor
  unfold t__law_same
  by_cases h : a = b
  · rw [rq_t h]
    subst h
    exact ⟨sz_bool _, _, same_ok n (enc a) (okS_of _ _ (Pl.pl a) z (Nat.le_trans (Pl.depth a) hd))⟩
  · unfold rq
    rw [if_neg h]
    trivial
/-! comprehensions whose element changes something -/
def cmpX {ε σ α β : Type} (step : σ → α → X ε (β × σ)) : List α → σ → X ε (List β × σ)
  | [], s => .ok ([], s)
  | a :: r, s => step s a >>= fun w => cmpX step r w.2 >>= fun v => .ok (w.1 :: v.1, v.2)
def EΦ {σ β : Type} [Enc β] (Q : σ → Env → Prop) : β × σ → R Lv → Prop := fun w r => ∃ e', r = .ok (.val (enc w.1)) e' ∧ Q w.2 e' ∧ Sz w.1
def noX {ε α : Type} (t : X ε α) : X Unit α := match t with
  | .ok a => .ok a
  | _ => .st
@[simp] theorem noX_ok {ε α : Type} {a : α} : noX (.ok a : X ε α) = .ok a := rfl
section
variable {α β σ : Type} [Enc α] [Enc β]
theorem cmpL_X {ws : List Nat} {f : D → Env → Option Env} {n : Nat} {T : α → Env → Env} {t : Env → R Bool} {c : Env → R Lv} {step : σ → α → X Unit (β × σ)} (Q : σ → Env → Prop) (hT : Tg n ws f T) (hq : ∀ s e e', Q s e → (∀ i, i ∉ ws → e'[i]? = e[i]?) → e'.length = e.length → Q s e')
    (ht : ∀ e, t e = .ok true e) (hc : ∀ s a e, Q s e → Sz a → SV Th0 (EΦ Q) (c (T a e)) (step s a)) : ∀ (l : List α) (s0 : σ) (e : Env) (w : List β × σ), (∀ a ∈ l, Sz a) → Q s0 e → cmpX step l s0 = .ok w →
    ∃ e', compL ws f t c (l.map enc) e = .ok (w.1.map enc) e' ∧ Q w.2 e' ∧ (∀ b ∈ w.1, Sz b) ∧ w.1.length = l.length
  | [], s0, e, w, _, h0, h => by cases h; exact ⟨e, rfl, h0, fun _ h => (by cases h), rfl⟩
  | a :: l, s0, e, w, hz, h0, h => by
    have ca := clear_agree (ws := ws) (e := e) (e' := e) rfl fun _ _ => rfl
    have q0 := hq s0 e (clearE ws e) h0 (fun i hi => ca.2 i hi) ca.1
    have hs := hc s0 a (clearE ws e) q0 (hz a List.mem_cons_self)
    rw [List.map_cons, compL, hT.step]
    simp only [ht]
    rw [cmpX] at h
    cases q : step s0 a with
    | st => rw [q] at h; cases h
    | ex x u => rw [q] at h; cases h
    | ok v =>
      rw [q] at hs h
      obtain ⟨e1, h1, h2, z1⟩ := hs.get
      rw [h1]
      simp only
      rw [X.ok_b] at h
      cases q2 : cmpX step l v.2 with
      | st => rw [q2] at h; cases h
      | ex x u => rw [q2] at h; cases h
      | ok v2 =>
        rw [q2] at h
        cases h
        obtain ⟨e2, i1, i2, i3, i4⟩ := cmpL_X Q hT hq ht hc l v.2 e1 v2 (fun a ha => hz a (List.mem_cons_of_mem _ ha)) h2 q2
        rw [i1]
        refine ⟨e2, rfl, i2, fun b hb => ?_, by simp [i4]⟩
        rcases List.mem_cons.mp hb with rfl | hb
        · exact z1
        · exact i3 b hb
theorem ec_comp {ε ω ρ : Type} {Θ : ε → Env → Prop} {Φ : ω → R ρ → Prop} {K : NV → Env → R ρ} {ci : Env → R (List D)} {e : Env} {tl : X Unit (List α)} {s : ε} {ws : List Nat} {f : D → Env → Option Env} {n : Nat} {T : α → Env → Env} {c : Env → R Lv} {step : σ → α → X Unit (β × σ)} {k : List β × σ → X ε ω} {s0 : σ}
    (Q : σ → Env → Prop) (hT : Tg n ws f T) (hi : EI e ci tl) (hs : Θ s e) (h0 : Q s0 e) (hq : ∀ s e e', Q s e → (∀ i, i ∉ ws → e'[i]? = e[i]?) → e'.length = e.length → Q s e') (hc : ∀ s a e, Q s e → Sz a → SV Th0 (EΦ Q) (c (T a e)) (step s a))
    (hk : ∀ bs s' e', Sz bs → Q s' e' → SV Θ Φ (K (.nl (bs.map enc)) e') (k (bs, s'))) : SV Θ Φ ((cComp ws ci f cYes c e).bind K) (xb s tl fun l => xb s (noX (cmpX step l s0)) k) := by
  have e1 : (cComp ws ci f cYes c e).bind K = (ci e).bind fun ds e1 => (if fits ds.length = true then (match compL ws f cYes c ds e1 with | .ok xs e2 => R.ok (NV.nl xs) (restoreE ws e1 e2) | _ => .st) else .st).bind K := by
    exact DL.bind_assoc
  rw [e1]
  refine SV.j hi hs fun l ds hl => ?_
  rw [hl.1, List.length_map, if_pos (fits_of hl.2.len)]
  cases q : cmpX step l s0 with
  | st => exact .st
  | ex x u => exact .st
  | ok w =>
    obtain ⟨e2, h1, h2, h3, h4⟩ := cmpL_X (t := cYes) Q hT hq (fun _ => rfl) hc l s0 e w (fun a ha => hl.2.mem ha) h0 q
    rw [h1]
    refine hk w.1 w.2 _ (sz_list.mpr ⟨by rw [h4]; exact hl.2.len, h3⟩) (hq _ _ _ h2 (fun i hi => rstE_out hi) rstE_len)
theorem ee_end {Q : σ → Env → Prop} {b : β} {s : σ} {e : Env} (hq : Q s e) (z : Sz b) : SV Th0 (EΦ Q) (R.ok (Lv.val (enc b)) e) (X.ok (b, s) : X Unit (β × σ)) := .ok ⟨e, rfl, hq, z⟩
theorem ee_start {Q : σ → Env → Prop} {c : Env → R Lv} {e : Env} {t : X Unit (β × σ)} (h : SV Th0 (EΦ Q) ((c e).bind fun l e1 => R.ok l e1) t) : SV Th0 (EΦ Q) (c e) t := by
  have : (c e).bind (fun l e1 => R.ok l e1) = c e := by cases c e <;> rfl
  rw [this] at h
  exact h
theorem At.off {ws : List Nat} {e e' : Env} {i : Nat} {d : D} (h : At e i d) (ho : ∀ i, i ∉ ws → e'[i]? = e[i]?) (hi : ws.elem i = false) : At e' i d := ⟨(ho i fun hm => by rw [List.elem_eq_contains, List.contains_iff_mem.mpr hm] at hi; cases hi).trans h.1, h.2⟩
end
/-! ### try -/
def xtry {ε ε' ω σ : Type} (hit : Str → Option Bool) (nf : Bool) (t : X ε' (Lp σ ω)) (hd : Exc → ε' → X Unit (Lp σ ω)) (rs : ε' → ε) : X ε (Lp σ ω) := match t with
  | .ok l => .ok l
  | .ex x u => (match hit x.cls with
    | some true => if (nf && x.fld.isSome) = true then .st else (match hd x u with
      | .ok l => .ok l
      | _ => .st)
    | some false => .ex x (rs u)
    | none => .st)
  | .st => .st
section
variable {ε ε' ω σ : Type} {Θ : ε → Env → Prop} {Θ' : ε' → Env → Prop} {Φ : ω → R Fl → Prop} {hit : Str → Option Bool} {b sb : Env → R Fl} {e : Env} {t : X ε' (Lp σ ω)} {hd : Exc → ε' → X Unit (Lp σ ω)} {rs : ε' → ε} {Q : σ → Env → Prop}
theorem sv_try (hb : SV Θ' (JΦ Q Φ) (b e) t) (hh : ∀ x u e', Θ' u e' → SV Th0 (JΦ Q Φ) (sb e') (hd x u)) (hr : ∀ u e', Θ' u e' → Θ (rs u) e') : SV Θ (JΦ Q Φ) (cTry hit b sb e) (xtry hit false t hd rs) := by
  unfold cTry
  cases t with
  | st => exact .st
  | ok l =>
    have hb := hb.get
    cases l with
    | nx s => obtain ⟨e', h1, h2⟩ := hb; rw [h1]; exact .ok ⟨e', rfl, h2⟩
    | bk s => exact hb.elim
    | rt w =>
      obtain ⟨h1, v, e', h2⟩ := hb
      rw [h2] at h1 ⊢
      exact .ok ⟨h1, v, e', rfl⟩
  | ex x u =>
    obtain ⟨e', h1, h2⟩ := hb.getx
    rw [h1]
    unfold xtry
    simp only
    cases q : hit x.cls with
    | none => exact .st
    | some k =>
      cases k with
      | false => exact .ex rfl (hr u e' h2)
      | true =>
        have h := hh x u e' h2
        simp only [Bool.false_and, Bool.false_eq_true, if_false]
        cases q2 : hd x u with
        | st => exact .st
        | ex y z => exact .st
        | ok l =>
          rw [q2] at h
          have h := h.get
          cases l with
          | nx s => obtain ⟨e2, h3, h4⟩ := h; rw [h3]; exact .ok ⟨e2, rfl, h4⟩
          | bk s => exact h.elim
          | rt w =>
            obtain ⟨h3, v, e2, h4⟩ := h
            rw [h4] at h3 ⊢
            exact .ok ⟨h3, v, e2, rfl⟩
/-- the name's slot is empty behind the suite -/
def OffQ (i : Nat) (Q : σ → Env → Prop) : σ → Env → Prop := fun s e => Q s (e.set i none)
theorem sv_tryAs {i : Nat} (hΦ : ∀ w v e e', Φ w (.ok (.rt v) e) → Φ w (.ok (.rt v) e')) (hb : SV Θ' (JΦ Q Φ) (b e) t) (hh : ∀ x u e', Θ' u e' → SV Th0 (JΦ (OffQ i Q) Φ) (sb (e'.set i (some (.str x.cls)))) (hd x u)) (hr : ∀ u e', Θ' u e' → Θ (rs u) e') : SV Θ (JΦ Q Φ) (cTryAs i hit b sb e) (xtry hit true t hd rs) := by
  unfold cTryAs
  cases t with
  | st => exact .st
  | ok l =>
    have hb := hb.get
    cases l with
    | nx s => obtain ⟨e', h1, h2⟩ := hb; rw [h1]; exact .ok ⟨e', rfl, h2⟩
    | bk s => exact hb.elim
    | rt w =>
      obtain ⟨h1, v, e', h2⟩ := hb
      rw [h2] at h1 ⊢
      exact .ok ⟨h1, v, e', rfl⟩
  | ex x u =>
    obtain ⟨e', h1, h2⟩ := hb.getx
    rw [h1]
    unfold xtry
    simp only
    cases q : hit x.cls with
    | none => exact .st
    | some k =>
      cases k with
      | false => exact .ex rfl (hr u e' h2)
      | true =>
        have h := hh x u e' h2
        cases q3 : x.fld with
        | some f => simp only [Option.isSome_some, Bool.and_self, if_true]; exact .st
        | none =>
          simp only [Option.isSome_none, Bool.and_false, Bool.false_eq_true, if_false]
          cases q2 : hd x u with
          | st => exact .st
          | ex y z => exact .st
          | ok l =>
            rw [q2] at h
            have h := h.get
            cases l with
            | nx s => obtain ⟨e2, h3, h4⟩ := h; rw [h3]; exact .ok ⟨_, rfl, h4⟩
            | bk s => exact h.elim
            | rt w =>
              obtain ⟨h3, v, e2, h4⟩ := h
              rw [h4] at h3 ⊢
              exact .ok ⟨hΦ _ _ _ _ h3, v, _, rfl⟩
end
/-- what is known of an exception's name -/
def AtX (e : Env) (i : Nat) (x : Exc) : Prop := e[i]? = some (some (.str x.cls))
theorem AtX.set {e : Env} {i : Nat} {x : Exc} (h : i < e.length) : AtX (e.set i (some (.str x.cls))) i x := List.getElem?_set_self h
theorem AtX.keep {e : Env} {i j : Nat} {x : Exc} {o : Option D} (h : AtX e j x) (hij : i ≠ j) : AtX (e.set i o) j x := (List.getElem?_set_ne hij).trans h
theorem AtX.off {ws : List Nat} {e e' : Env} {i : Nat} {x : Exc} (h : AtX e i x) (ho : ∀ i, i ∉ ws → e'[i]? = e[i]?) (hi : ws.elem i = false) : AtX e' i x := (ho i fun hm => by rw [List.elem_eq_contains, List.contains_iff_mem.mpr hm] at hi; cases hi).trans h
def tIsE (f : Str → Option Bool) (x : Exc) : X Unit Bool := X.of (f x.cls)
theorem en_isE {e : Env} {i : Nat} {x : Exc} {f : Str → Option Bool} (h : AtX e i x) : EN e (cIsE i f) (tIsE f x) := by
  have h0 : e.getD i none = some (.str x.cls) := by rw [List.getD_eq_getElem?_getD, h]; rfl
  show RJ e (match e.getD i none with | some (.str n) => ofO ((f n).map fun b => NV.sc (.bool b)) e | _ => .st) _ _
  rw [h0]
  unfold tIsE
  show RJ e (ofO ((f x.cls).map fun b => NV.sc (.bool b)) e) _ _
  cases f x.cls with
  | none => exact .st
  | some b => exact .ok rfl ⟨rfl, sz_bool _⟩
/-! the arguments of a call -/
theorem ga_nil {e : Env} : getsA [] e = some [] := rfl
theorem ga_val {e : Env} {d : D} {ls : List Lv} {ds : List D} (h : getsA ls e = some ds) : getsA (.val d :: ls) e = some (d :: ds) := by
  unfold getsA
  rw [h]
  rfl
theorem ga_own {e : Env} {i : Nat} {d : D} {ls : List Lv} {ds : List D} (hi : At e i d) (h : getsA ls e = some ds) : getsA (.own i :: ls) e = some (d :: ds) := by
  show (e.getD i none).bind (fun d => (getsA ls e).map (d :: ·)) = _
  rw [hi.getD, h]
  rfl
theorem ga_plc {e : Env} {i : Nat} {d : D} {ls : List Lv} {ds : List D} (hi : At e i d) (h : getsA ls e = some ds) : getsA (.plc i :: ls) e = some (d :: ds) := by
  show (e.getD i none).bind (fun d => (getsA ls e).map (d :: ·)) = _
  rw [hi.getD, h]
  rfl
def xc2 {ε ε' α β : Type} (g : ε' → ε) (t : X ε' (α × ε')) (f : α → ε' → X ε β) : X ε β := xc g t fun w => f w.1 w.2
@[simp] theorem xc2_ok {ε ε' α β : Type} {g : ε' → ε} {a : α} {s : ε'} {f : α → ε' → X ε β} : xc2 g (.ok (a, s)) f = f a s := rfl
theorem op_catL {α : Type} [Enc α] : Op2T dAdd (tCat (α := α)) := fun a b ha hb => OR.rq fun h => ⟨.nl (a.map enc ++ b.map enc), by
  show dAdd (.list (a.map enc)) (.list (b.map enc)) = _
  rw [dAdd_ll, List.length_map, List.length_map, if_pos (fits_of h)], by
  show PyData.list (a.map enc ++ b.map enc) = .list ((a ++ b).map enc)
  rw [List.map_append], sz_cat h ha hb⟩
/-! defs that change a parameter -/
def OΘ {o : Type} [Enc o] (n p : Nat) : o → Env → Prop := fun s e => e.length = n ∧ At e p (enc s)
def OΦ {α o : Type} [Enc α] [Enc o] (n p : Nat) : α × o → R Fl → Prop := fun w r => Sz w.1 ∧ ((∃ e', r = .ok (.rt (enc w.1)) e' ∧ e'.length = n ∧ At e' p (enc w.2)) ∨ ((enc w.1 : D) = .none ∧ ∃ e', r = .ok .nx e' ∧ e'.length = n ∧ At e' p (enc w.2)))
section
variable {α o : Type} [Enc α] [Enc o] {n p : Nat}
theorem ophi {a : α} {s : o} {e : Env} (h : Sz a) (hl : e.length = n) (hs : At e p (enc s)) : OΦ n p (a, s) (.ok (.rt (enc a)) e) := ⟨h, .inl ⟨_, rfl, hl, hs⟩⟩
theorem ophiN {a : α} {s : o} {e : Env} (h : (enc a : D) = .none) (hl : e.length = n) (hs : At e p (enc s)) : OΦ n p (a, s) (.ok .nx e) := ⟨by rw [Sz, h]; rfl, .inr ⟨h, _, rfl, hl, hs⟩⟩
theorem ophiR {a : α} {s : o} {e : Env} (h : (enc a : D) = .none) (hl : e.length = n) (hs : At e p (enc s)) : OΦ n p (a, s) (.ok (.rt .none) e) := ⟨by rw [Sz, h]; rfl, .inl ⟨e, by rw [h], hl, hs⟩⟩
theorem outs_at {np : Nat} {e : Env} {d : D} (h : At e p d) (hp : p < np) : (outsOf np e)[p]? = some d := by
  unfold outsOf
  rw [List.getElem?_map, List.getElem?_take, if_pos hp, h.1]
  rfl
theorem fn_o {b : Env → R Fl} {np : Nat} {ds : List D} {t : X o (α × o)} {rz : Bool} (hp : p < np) (h : SV (OΘ n p) (OΦ n p) (b (ds.map some ++ List.replicate (n - np) none)) t) (hr : rz = true ∨ ∀ a : α, (enc a : D) ≠ .none) : FnO (runF rz b np n) ds p t := by
  constructor
  cases t with
  | st => trivial
  | ex x u =>
    obtain ⟨e', h, _, ha⟩ := h.getx
    exact ⟨ha.2, _, run_ex h, outs_at ha hp⟩
  | ok a =>
    obtain ⟨z, h⟩ := h.get
    rcases h with ⟨e', h, _, ha⟩ | ⟨h1, e', h, _, ha⟩
    · exact ⟨z, ha.2, _, run_rt h, outs_at ha hp⟩
    · rcases hr with rfl | hr
      · refine ⟨z, ha.2, outsOf np e', ?_, outs_at ha hp⟩
        rw [h1]
        exact run_nx h
      · exact absurd h1 (hr _)
end
end DL

/-! sorted; further rules. -/
namespace DL
open PySem PySem.Spec PyProof.Rows L2
open Enc (enc)
/-- values that sorted takes -/
class Srt (α : Type) [Enc α] where
  al : ∀ a b : α, PySem.W.alike (enc a) (enc b) = true
  kd : (∀ a : α, isTupC (enc a) = true) ∨ (∀ a : α, isOthC (enc a) = true)
instance : Srt Int := ⟨fun _ _ => by simp [PySem.W.alike], .inr fun _ => rfl⟩
instance : Srt Bool := ⟨fun _ _ => by simp [PySem.W.alike], .inr fun _ => rfl⟩
instance : Srt Str := ⟨fun _ _ => by simp [PySem.W.alike], .inr fun _ => rfl⟩
section
variable {α β γ : Type} [Enc α] [Enc β] [Enc γ] [Srt α] [Srt β] [Srt γ]
theorem srt_all : ∀ l m : List α, PySem.W.alikeAll (l.map enc) (m.map enc) = true
  | [], _ => by simp [PySem.W.alikeAll]
  | _ :: _, [] => by simp [PySem.W.alikeAll]
  | x :: l, y :: m => by
    show PySem.W.alikeAll (enc x :: l.map enc) (enc y :: m.map enc) = true
    rw [PySem.W.alikeAll, Srt.al, srt_all l m]
    rfl
instance : Srt (List α) := ⟨fun l m => by
  show PySem.W.alike (.list (l.map enc)) (.list (m.map enc)) = true
  rw [PySem.W.alike]
  exact srt_all l m, .inr fun _ => rfl⟩
instance : Srt (T2 α β) := ⟨fun s t => by
  show PySem.W.alike (.tuple [enc s.a, enc s.b]) (.tuple [enc t.a, enc t.b]) = true
  simp [PySem.W.alike, PySem.W.alikeAll, Srt.al], .inl fun _ => rfl⟩
instance : Srt (T3 α β γ) := ⟨fun s t => by
  show PySem.W.alike (.tuple [enc s.a, enc s.b, enc s.c]) (.tuple [enc t.a, enc t.b, enc t.c]) = true
  simp [PySem.W.alike, PySem.W.alikeAll, Srt.al], .inl fun _ => rfl⟩
end
/-- Python's order -/
def dle {α : Type} [Enc α] (a b : α) : Bool := PySem.W.dataLe false (enc : α → D) a b
def srt {α : Type} [Enc α] (l : List α) : List α := l.mergeSort dle
section
variable {α : Type} [Enc α] [DecidableEq α] [Pl α] [Srt α] {e : Env} {A : Env → R Lv}
theorem srt_perm (l : List α) : (srt l).Perm l := List.mergeSort_perm _ _
theorem srt_len (l : List α) : (srt l).length = l.length := (srt_perm l).length_eq
theorem srt_mem {l : List α} {a : α} : a ∈ srt l ↔ a ∈ l := (srt_perm l).mem_iff
theorem srt_enc (l : List α) : sortD false (l.map enc) = (srt l).map enc := by
  unfold sortD srt
  exact (List.map_mergeSort (r := dle) (s := PySem.W.dataLe false id) (f := (enc : α → D)) (l := l) fun a _ b _ => rfl).symm
theorem okSort_l {l : List α} (hl : l.length ≤ 16777216) (hd : Pl.dep α < 60) : okSort (l.map enc) = true := by
  unfold okSort
  rw [Bool.and_eq_true, Bool.and_eq_true, Bool.and_eq_true]
  refine ⟨⟨⟨?_, ?_⟩, fits_of (by simpa using hl)⟩, ?_⟩
  · unfold likes
    rw [List.all_eq_true]
    intro d hd
    rw [List.all_eq_true]
    intro d' hd'
    obtain ⟨r, _, rfl⟩ := List.mem_map.mp hd
    obtain ⟨r', _, rfl⟩ := List.mem_map.mp hd'
    exact Srt.al r r'
  · unfold sortable
    rw [Bool.or_eq_true, List.all_eq_true, List.all_eq_true]
    rcases Srt.kd (α := α) with h | h
    · left
      intro d hd
      obtain ⟨r, _, rfl⟩ := List.mem_map.mp hd
      exact h r
    · right
      intro d hd
      obtain ⟨r, _, rfl⟩ := List.mem_map.mp hd
      exact h r
  · rw [List.all_eq_true]
    intro d hd'
    obtain ⟨r, _, rfl⟩ := List.mem_map.mp hd'
    exact decide_eq_true (Nat.lt_of_le_of_lt (Pl.depth r) hd)
theorem sz_perm {l m : List α} (h : l.Perm m) (hm : Sz m) : Sz l := sz_list.mpr ⟨by rw [h.length_eq]; exact hm.len, fun a ha => hm.mem (h.mem_iff.mp ha)⟩
theorem el_sorted {t : X Unit (List α)} (hd : Pl.dep α < 60) (ha : EP e A t) : EL e (cB dSorted (cCons A cNil)) (x1 (fun l => .ok (srt l)) t) := by
  show RJ e (((A e).bind fun l e1 => R.ok [l] e1).bind fun ls e1 => ofO ((gets ls e1).bind dSorted) e1) _ _
  rw [DL.bind_assoc]
  refine ha.bind fun l m _ hm => ?_
  show RJ e (ofO ((gets [m] e).bind dSorted) e) _ _
  rw [gets_cons, hm.1]
  refine .ok (b := .nl ((srt l).map enc)) ?_ ⟨rfl, sz_perm (srt_perm l) hm.2⟩
  show ofO (if okSort (l.map enc) = true then some (NV.nl (sortD false (l.map enc))) else none) e = _
  rw [if_pos (okSort_l hm.2.len hd), srt_enc]
  rfl
theorem el_sortedp {l : List α} (hd : Pl.dep α < 60) (ha : EP e A (.ok l)) : EL e (cB dSorted (cCons A cNil)) (.ok (srt l)) := el_sorted hd ha
end
/-! in a written tuple -/
section
variable {α : Type} [Enc α] [DecidableEq α] [Pl α] {e : Env} {A : Env → R Lv}
theorem dIn_t (x : D) (ds : List D) (hx : dShaped x = true) (hy : dShaped (.tuple ds) = true) : dIn x (.tuple ds) = some (.sc (.bool (inL x ds))) := by
  unfold dIn
  split
  · rename_i h; cases h
  · rename_i h; cases h
  · rename_i h; cases h; rw [hx, hy]; rfl
  · rename_i h1 h2 h3; first | exact absurd rfl (h1 _) | exact absurd rfl (h2 _) | exact absurd rfl (h3 _)
theorem dNotIn_t (x : D) (ds : List D) (hx : dShaped x = true) (hy : dShaped (.tuple ds) = true) : dNotIn x (.tuple ds) = some (.sc (.bool (!inL x ds))) := by
  unfold dNotIn
  split
  · rename_i h; cases h
  · rename_i h; cases h
  · rename_i h; cases h; rw [hx, hy]; rfl
  · rename_i h1 h2 h3; first | exact absurd rfl (h1 _) | exact absurd rfl (h2 _) | exact absurd rfl (h3 _)
theorem pl_shapedT (l : List α) (h : Pl.dep α ≤ 63) : dShaped (.tuple (l.map enc)) = true := by
  have := pl_shaped l (Nat.succ_le_succ h)
  exact this
theorem tup_ep {n : Nat} {c : Env → R (List Lv)} {l : List α} (h : EA e n c (.ok l)) (hn : n ≤ 16777216) : cFrz (cTup c) e = .ok (.val (.tuple (l.map enc))) e := by
  obtain ⟨ls, h1, h2, h3, h4⟩ := h.get
  rw [cFrz_e, cTup_e, h1, bind_e]
  simp only [h2, vals_map, obind_some, List.length_map, fits_of (show l.length ≤ 16777216 by omega), if_true, ofO_some, bind_e]
  rfl
theorem en_inT {n : Nat} {c : Env → R (List Lv)} {l : List α} {t : X Unit α} (hd : Pl.dep α ≤ 63) (ha : EP e A t) (h : EA e n c (.ok l)) (hn : n ≤ 16777216 := by decide) : EN e (c2 dIn A (cFrz (cTup c))) (x1 (fun a => .ok (decide (a ∈ l))) t) := by
  show RJ e ((A e).bind fun lv e1 => (cFrz (cTup c) e1).bind fun m e2 => ofO ((lv.get e2).bind fun x => (m.get e2).bind fun y => dIn x y) e2) _ _
  refine ha.bind fun a lv _ hl => ?_
  rw [tup_ep h hn]
  show RJ e (ofO ((lv.get e).bind fun x => (some (PyData.tuple (l.map enc))).bind fun y => dIn x y) e) _ _
  rw [hl.1, obind_some, obind_some, dIn_t _ _ (pl_shaped a (Nat.le_trans hd (by decide))) (pl_shapedT l hd), inL_enc]
  exact .ok rfl ⟨rfl, sz_bool _⟩
theorem en_inTp {n : Nat} {c : Env → R (List Lv)} {l : List α} {a : α} (hd : Pl.dep α ≤ 63) (ha : EP e A (.ok a)) (h : EA e n c (.ok l)) (hn : n ≤ 16777216 := by decide) : EN e (c2 dIn A (cFrz (cTup c))) (.ok (decide (a ∈ l))) := en_inT hd ha h hn
theorem en_notInT {n : Nat} {c : Env → R (List Lv)} {l : List α} {t : X Unit α} (hd : Pl.dep α ≤ 63) (ha : EP e A t) (h : EA e n c (.ok l)) (hn : n ≤ 16777216 := by decide) : EN e (c2 dNotIn A (cFrz (cTup c))) (x1 (fun a => .ok (!decide (a ∈ l))) t) := by
  show RJ e ((A e).bind fun lv e1 => (cFrz (cTup c) e1).bind fun m e2 => ofO ((lv.get e2).bind fun x => (m.get e2).bind fun y => dNotIn x y) e2) _ _
  refine ha.bind fun a lv _ hl => ?_
  rw [tup_ep h hn]
  show RJ e (ofO ((lv.get e).bind fun x => (some (PyData.tuple (l.map enc))).bind fun y => dNotIn x y) e) _ _
  rw [hl.1, obind_some, obind_some, dNotIn_t _ _ (pl_shaped a (Nat.le_trans hd (by decide))) (pl_shapedT l hd), inL_enc]
  exact .ok rfl ⟨rfl, sz_bool _⟩
theorem en_notInTp {n : Nat} {c : Env → R (List Lv)} {l : List α} {a : α} (hd : Pl.dep α ≤ 63) (ha : EP e A (.ok a)) (h : EA e n c (.ok l)) (hn : n ≤ 16777216 := by decide) : EN e (c2 dNotIn A (cFrz (cTup c))) (.ok (!decide (a ∈ l))) := en_notInT hd ha h hn
end
theorem sv_retT {α : Type} [Enc α] {e : Env} {A : Env → R Lv} {ta : X Unit α} {rest : Env → R Fl} (hA : EV e A ta) : SV Th0 FΦ (cSeq (cRet A) rest e) ta := by
  have := sv_ret (Θ := Th0) (Φ := FΦ) (s := ()) (rest := rest) (w := fun a : α => a) hA trivial (fun a z => fphi z)
  rw [xb_un'] at this
  exact this
theorem tt_truBt {e : Env} {A : Env → R Lv} {t : X Unit Bool} (ha : EP e A t) : ET e (cTru A) t := by
  have := tt_truB ha
  have e : x1 tTruB t = t := by cases t <;> rfl
  rw [e] at this
  exact this
/-! two values at once -/
def xp {ε α β γ : Type} (t : X ε (α × β)) (f : α → β → X ε γ) : X ε γ := t >>= fun w => f w.1 w.2
@[simp] theorem xp_ok {ε α β γ : Type} {a : α} {b : β} {f : α → β → X ε γ} : xp (.ok (a, b)) f = f a b := rfl
section
variable {α ε ω ρ : Type} [Enc α] {Θ : ε → Env → Prop} {Φ : ω → R ρ → Prop} {e : Env} {K : Lv → Env → R ρ} {l : List α} {i : Nat}
theorem ec_popx {j : Int} {k : α → List α → X ε ω} (hl : At e i (enc l)) (h : ∀ a l', Sz a → Sz l' → SV Θ Φ (K (.val (enc a)) (e.set i (some (enc l')))) (k a l')) : SV Θ Φ (mutK i gPop K [.val (enc j)] e) (xp (popAt l j) k) := ec_pop (k := fun w => k w.1 w.2) hl h
theorem ec_popEx {k : α → List α → X ε ω} (hl : At e i (enc l)) (h : ∀ a l', Sz a → Sz l' → SV Θ Φ (K (.val (enc a)) (e.set i (some (enc l')))) (k a l')) : SV Θ Φ (mutK i gPop K [] e) (xp (popEnd l) k) := ec_popE (k := fun w => k w.1 w.2) hl h
end
theorem lphi_e {σ ω : Type} {Q : σ → Env → Prop} {Φ : ω → R Fl → Prop} (h : ∀ w v e e', Φ w (.ok (.rt v) e) → Φ w (.ok (.rt v) e')) : ∀ (w : Lp σ ω) v e e', LΦ Q Φ w (.ok (.rt v) e) → LΦ Q Φ w (.ok (.rt v) e')
  | .nx s, v, e, e', ⟨e1, h1, _⟩ => by rcases h1 with h1 | h1 <;> cases h1
  | .bk s, v, e, e', ⟨e1, h1, _⟩ => by cases h1
  | .rt w, v, e, e', ⟨h1, _⟩ => ⟨h _ _ _ _ h1, _, _, rfl⟩
theorem jphi_e {σ ω : Type} {Q : σ → Env → Prop} {Φ : ω → R Fl → Prop} (h : ∀ w v e e', Φ w (.ok (.rt v) e) → Φ w (.ok (.rt v) e')) : ∀ (w : Lp σ ω) v e e', JΦ Q Φ w (.ok (.rt v) e) → JΦ Q Φ w (.ok (.rt v) e')
  | .nx s, v, e, e', ⟨e1, h1, _⟩ => by cases h1
  | .bk s, v, e, e', h => h.elim
  | .rt w, v, e, e', ⟨h1, _⟩ => ⟨h _ _ _ _ h1, _, _, rfl⟩
theorem len_eq {e e' : Env} {n : Nat} (h : e.length = n) (hl : e'.length = e.length) : e'.length = n := hl.trans h
section
variable {α ε ω : Type} [Enc α] {Θ : ε → Env → Prop} {Φ : ω → R Fl → Prop} {e : Env}
theorem es_for {ci : Env → R (List D)} {f : D → Env → Option Env} {b rest : Env → R Fl} {t : X ε ω} (h : SV Θ Φ ((ci e).bind fun ds e1 => (match forL f b ds e1 with | .ok .nx e1 => rest e1 | .ok .bk e1 => .ok .bk e1 | .ok .ct e1 => .ok .ct e1 | .ok (.rt d) e1 => .ok (.rt d) e1 | .ex x e1 => .ex x e1 | .st => .st)) t) : SV Θ Φ (cSeq (cFor ci f b) rest e) t := by
  rw [sq_for]
  exact h
theorem for_coreF {σ : Type} {f : D → Env → Option Env} {b : Env → R Fl} {n : Nat} {ws : List Nat} {T : α → Env → Env} {step : σ → α → X ε σ} {k : σ → X ε ω} (Q : σ → Env → Prop) (hT : Tg n ws f T) (rest : Env → R Fl)
    (hb : ∀ s a e, Q s e → Sz a → SV Θ (NΦ Q) (b (T a e)) (step s a)) (hk : ∀ s e, Q s e → SV Θ Φ (rest e) (k s)) (l : List α) (s0 : σ) (e : Env) (hz : ∀ a ∈ l, Sz a) (h0 : Q s0 e) :
    SV Θ Φ (match forL f b (l.map enc) e with | .ok .nx e1 => rest e1 | .ok .bk e1 => .ok .bk e1 | .ok .ct e1 => .ok .ct e1 | .ok (.rt d) e1 => .ok (.rt d) e1 | .ex x e1 => .ex x e1 | .st => .st) (forF step l s0 >>= k) := by
  have := for_core (Φ := Φ) (step := fun s a => step s a >>= fun s' => .ok (.nx s')) Q hT rest (fun s a e h z => nphi_l (hb s a e h z)) hk l s0 e hz h0
  rw [forF_X] at this
  exact this
theorem ec_compO {β σ ρ : Type} [Enc β] {Φ : ω → R ρ → Prop} {K : D → Env → R ρ} {ci : Env → R (List D)} {tl : X Unit (List α)} {s : ε} {ws : List Nat} {f : D → Env → Option Env} {n : Nat} {T : α → Env → Env} {c : Env → R Lv} {step : σ → α → X Unit (β × σ)} {k : List β × σ → X ε ω} {s0 : σ}
    (Q : σ → Env → Prop) (hT : Tg n ws f T) (hi : EI e ci tl) (hs : Θ s e) (h0 : Q s0 e) (hq : ∀ s e e', Q s e → (∀ i, i ∉ ws → e'[i]? = e[i]?) → e'.length = e.length → Q s e') (hc : ∀ s a e, Q s e → Sz a → SV Th0 (EΦ Q) (c (T a e)) (step s a))
    (hk : ∀ bs s' e', Sz bs → Q s' e' → SV Θ Φ (K (enc bs) e') (k (bs, s'))) : SV Θ Φ ((cComp ws ci f cYes c e).bind (ownK K)) (xb s tl fun l => xb s (noX (cmpX step l s0)) k) := ec_comp (K := ownK K) Q hT hi hs h0 hq hc hk
theorem ec_compF {β σ ρ : Type} [Enc β] {Φ : ω → R ρ → Prop} {K : Lv → Env → R ρ} {ci : Env → R (List D)} {tl : X Unit (List α)} {s : ε} {ws : List Nat} {f : D → Env → Option Env} {n : Nat} {T : α → Env → Env} {c : Env → R Lv} {step : σ → α → X Unit (β × σ)} {k : List β × σ → X ε ω} {s0 : σ}
    (Q : σ → Env → Prop) (hT : Tg n ws f T) (hi : EI e ci tl) (hs : Θ s e) (h0 : Q s0 e) (hq : ∀ s e e', Q s e → (∀ i, i ∉ ws → e'[i]? = e[i]?) → e'.length = e.length → Q s e') (hc : ∀ s a e, Q s e → Sz a → SV Th0 (EΦ Q) (c (T a e)) (step s a))
    (hk : ∀ bs s' e', Sz bs → Q s' e' → SV Θ Φ (K (.val (enc bs)) e') (k (bs, s'))) : SV Θ Φ ((cComp ws ci f cYes c e).bind (frzK K)) (xb s tl fun l => xb s (noX (cmpX step l s0)) k) := ec_comp (K := frzK K) Q hT hi hs h0 hq hc hk
end
end DL

/-! Lists of unlike things with a place for each; methods; moves; comprehensions whose test changes something. -/
namespace DL
open PySem PySem.Spec PyProof.Rows L2
open Enc (enc)
structure H2 (α β : Type) where
  a : α
  b : β
  deriving DecidableEq
structure H3 (α β γ : Type) where
  a : α
  b : β
  c : γ
  deriving DecidableEq
section
variable {α β γ : Type} [Enc α] [Enc β] [Enc γ]
instance : Enc (H2 α β) := ⟨fun t => .list [enc t.a, enc t.b]⟩
instance : Enc (H3 α β γ) := ⟨fun t => .list [enc t.a, enc t.b, enc t.c]⟩
theorem sz_h2 {t : H2 α β} : Sz t ↔ Sz t.a ∧ Sz t.b := by
  show (decide (2 ≤ 16777216) && (szD (enc t.a) && (szD (enc t.b) && true))) = true ↔ _
  simp [Sz]
theorem sz_h3 {t : H3 α β γ} : Sz t ↔ Sz t.a ∧ Sz t.b ∧ Sz t.c := by
  show (decide (3 ≤ 16777216) && (szD (enc t.a) && (szD (enc t.b) && (szD (enc t.c) && true)))) = true ↔ _
  simp [Sz]
theorem h2_0 (t : H2 α β) : ∃ ds, (enc t : D) = .list ds ∧ ds[0]? = some (enc t.a) := ⟨_, rfl, rfl⟩
theorem h2_1 (t : H2 α β) : ∃ ds, (enc t : D) = .list ds ∧ ds[1]? = some (enc t.b) := ⟨_, rfl, rfl⟩
theorem h3_0 (t : H3 α β γ) : ∃ ds, (enc t : D) = .list ds ∧ ds[0]? = some (enc t.a) := ⟨_, rfl, rfl⟩
theorem h3_1 (t : H3 α β γ) : ∃ ds, (enc t : D) = .list ds ∧ ds[1]? = some (enc t.b) := ⟨_, rfl, rfl⟩
theorem h3_2 (t : H3 α β γ) : ∃ ds, (enc t : D) = .list ds ∧ ds[2]? = some (enc t.c) := ⟨_, rfl, rfl⟩
theorem en_hix {e : Env} {A B : Env → R Lv} {i : Nat} {t : X Unit α} {g : α → β} (ha : EP e A t) (hb : EP e B (.ok (i : Int))) (h : ∀ a : α, ∃ ds, (enc a : D) = .list ds ∧ ds[i]? = some (enc (g a))) : EN e (c2 dIx A B) (x1 (fun a => .ok (g a)) t) := by
  show RJ e ((A e).bind fun l e1 => (B e1).bind fun m e2 => ofO ((l.get e2).bind fun x => (m.get e2).bind fun y => dIx x y) e2) _ _
  refine ha.bind fun a l _ hl => ?_
  obtain ⟨m, h1, hm⟩ := hb.get
  rw [h1]
  show RJ e (ofO ((l.get e).bind fun x => (m.get e).bind fun y => dIx x y) e) _ _
  rw [hl.1, hm.1]
  obtain ⟨ds, h2, h3⟩ := h a
  have hz : Sz (g a) := by
    have z : szD (enc a) = true := hl.2
    rw [h2] at z
    have z : (decide (ds.length ≤ 16777216) && szAll ds) = true := z
    rw [Bool.and_eq_true, szAll_iff] at z
    exact z.2 _ (List.mem_of_getElem? h3)
  refine .ok (b := .sc (enc (g a))) ?_ ⟨rfl, hz⟩
  show ofO (dIx (enc a) (.int i)) e = _
  rw [h2, dIx_l, atI_nat, h3]
  rfl
theorem en_hixp {e : Env} {A B : Env → R Lv} {i : Nat} {a : α} {g : α → β} (h : ∀ a : α, ∃ ds, (enc a : D) = .list ds ∧ ds[i]? = some (enc (g a))) (ha : EP e A (.ok a)) (hb : EP e B (.ok (i : Int))) : EN e (c2 dIx A B) (.ok (g a)) := en_hix ha hb h
def H2g (i j : Nat) (x : H2 α β) (e : Env) : Env := (e.set i (some (enc x.a))).set j (some (enc x.b))
theorem tgh2 {n i j : Nat} (hi : i < n) (hj : j < n) : Tg n [i, j] (fTup 2 (fCons (fSet i) (fCons (fSet j) fNil))) (H2g i j (α := α) (β := β)) := by
  have := tg2 (α := α) (β := β) hi hj
  exact ⟨fun _ _ => rfl, fun x e k hk => this.out ⟨x.a, x.b⟩ e k hk, fun x e => this.len ⟨x.a, x.b⟩ e, fun x e e' hl ho => this.ov ⟨x.a, x.b⟩ e e' hl ho, this.lt⟩
section
variable {ε ω ρ : Type} {Θ : ε → Env → Prop} {Φ : ω → R ρ → Prop} {e : Env} {t : X ε ω} {a : α} {b : β} {c : γ} {s : ε}
theorem ec_lstH2 {K : Lv → Env → R ρ} (za : Sz a) (zb : Sz b) (hk : Sz (⟨a, b⟩ : H2 α β) → SV Θ Φ (K (.val (enc (⟨a, b⟩ : H2 α β))) e) t) : SV Θ Φ (lstK (frzK K) [.val (enc a), .val (enc b)] e) t := hk (sz_h2.mpr ⟨za, zb⟩)
theorem ec_lstH3 {K : Lv → Env → R ρ} (za : Sz a) (zb : Sz b) (zc : Sz c) (hk : Sz (⟨a, b, c⟩ : H3 α β γ) → SV Θ Φ (K (.val (enc (⟨a, b, c⟩ : H3 α β γ))) e) t) : SV Θ Φ (lstK (frzK K) [.val (enc a), .val (enc b), .val (enc c)] e) t := hk (sz_h3.mpr ⟨za, zb, zc⟩)
theorem ec_lstH2O {K : D → Env → R ρ} (za : Sz a) (zb : Sz b) (hk : Sz (⟨a, b⟩ : H2 α β) → SV Θ Φ (K (enc (⟨a, b⟩ : H2 α β)) e) t) : SV Θ Φ (lstK (ownK K) [.val (enc a), .val (enc b)] e) t := hk (sz_h2.mpr ⟨za, zb⟩)
theorem ec_lstH3O {K : D → Env → R ρ} (za : Sz a) (zb : Sz b) (zc : Sz c) (hk : Sz (⟨a, b, c⟩ : H3 α β γ) → SV Θ Φ (K (enc (⟨a, b, c⟩ : H3 α β γ)) e) t) : SV Θ Φ (lstK (ownK K) [.val (enc a), .val (enc b), .val (enc c)] e) t := hk (sz_h3.mpr ⟨za, zb, zc⟩)
/-- an own thing moved -/
theorem ec_move {K : Lv → Env → R ρ} {i : Nat} (h : At e i (enc a)) (hk : SV Θ Φ (K (.val (enc a)) (e.set i none)) t) : SV Θ Φ ((cMelt (cMove i) e).bind K) t := by
  refine ec_melt ?_
  rw [cMove_e, h.getD]
  exact hk
end
/-! methods -/
theorem en_met {e : Env} {A B : Env → R Lv} {ta : X Unit α} {tb : X Unit β} {T : String} {g : D → List D → Option NV} {f : α → β → X Unit γ} (hT : ∀ a : α, dTy (enc a) = T) (hf : Op2T (fun d d' => g d [d']) f) (ha : EP e A ta) (hb : EP e B tb) : EN e (cMt T g A (cCons B cNil)) (x2 f ta tb) := by
  show RJ e ((A e).bind fun l e1 => (ofO ((l.get e1).bind fun x => if dTy x = T then some () else none) e1).bind fun _ e2 => (cCons B cNil e2).bind fun ls e3 => ofO ((l.get e3).bind fun x => (gets ls e3).bind fun ds => g x ds) e3) _ _
  refine ha.bind fun a l _ hl => ?_
  rw [hl.1, obind_some, if_pos (hT a)]
  show RJ e ((cCons B cNil e).bind fun ls e3 => ofO ((l.get e3).bind fun x => (gets ls e3).bind fun ds => g x ds) e3) _ _
  rw [cons_b]
  refine hb.bind fun b m _ hm => ?_
  show RJ e (ofO ((l.get e).bind fun x => (gets [m] e).bind fun ds => g x ds) e) _ _
  rw [hl.1, gets_cons, hm.1]
  exact (hf a b hl.2 hm.2).j
theorem en_metp {e : Env} {A B : Env → R Lv} {a : α} {b : β} {T : String} {g : D → List D → Option NV} {f : α → β → γ} (hT : ∀ a : α, dTy (enc a) = T) (hf : Op2P (fun d d' => g d [d']) f) (ha : EP e A (.ok a)) (hb : EP e B (.ok b)) : EN e (cMt T g A (cCons B cNil)) (.ok (f a b)) := en_met hT hf.t ha hb
theorem dTy_str (a : Str) : dTy (enc a) = "str" := rfl
theorem dTy_list (a : List α) : dTy (enc a) = "list" := rfl
def tJoin (a : Str) (ys : List Str) : X Unit Str := rq ((ys.map (·.length)).sum + ys.length * a.length ≤ 16777216 ∧ (Txt.join a ys).length ≤ 16777216) (.ok (Txt.join a ys))
theorem gJoin_e {a : Str} {ys : List Str} (h : (ys.map (·.length)).sum + ys.length * a.length ≤ 16777216) : gJoin (.str a) [.list (ys.map .str)] = some (.sc (.str (Txt.join a ys))) := by
  show (strsD (ys.map .str)).bind _ = _
  rw [strsD_map, obind_some, if_pos h]
theorem op_join : Op2T (fun d d' => gJoin d [d']) tJoin := fun a ys _ _ => OR.rq fun h => ⟨_, gJoin_e h.1, rfl, sz_str.mpr h.2⟩
theorem op_count [DecidableEq α] [Pl α] (h : Pl.dep α ≤ 63) : Op2P (fun d d' => gCountL d [d']) (fun (l : List α) (a : α) => (((l.countP fun b => decide (b = a)) : Nat) : Int)) := fun l a _ _ => ⟨.sc (.int ((l.map enc).countP fun z => PyData.eqv z (enc a) : Nat)), by
  show (if (dShaped (enc a) && dShaped (.list (l.map enc))) = true then _ else none) = _
  rw [if_pos (by rw [pl_shaped a (Nat.le_trans h (by decide)), show dShaped (.list (l.map enc)) = true from pl_shaped l (Nat.succ_le_succ h)]; rfl)], by
  show PyData.int _ = .int _
  rw [List.countP_map]
  have e1 : ((fun z => PyData.eqv z (enc a)) ∘ enc : α → Bool) = fun b => decide (b = a) := by
    funext b
    exact Pl.eqv b a
  rw [e1], rfl⟩
theorem el_lrev {e : Env} {A : Env → R Lv} {t : X Unit (List α)} (h : EV e A t) : EL e (cLrev A) (x1 (fun l => .ok l.reverse) t) := by
  show RJ e ((A e).bind fun l e1 => match l with | .val (.list ds) => R.ok (NV.nl ds.reverse) e1 | _ => R.st) _ _
  refine h.bind fun l m _ hm => ?_
  rw [hm.1]
  exact .ok (b := .nl (l.map enc).reverse) rfl ⟨by rw [List.map_reverse], sz_list.mpr ⟨by rw [List.length_reverse]; exact hm.2.len, fun a ha => hm.2.mem (List.mem_reverse.mp ha)⟩⟩
theorem el_lrevp {e : Env} {A : Env → R Lv} {l : List α} (h : EV e A (.ok l)) : EL e (cLrev A) (.ok l.reverse) := el_lrev h
end
section
variable {ε ω ρ : Type} {Θ : ε → Env → Prop} {Φ : ω → R ρ → Prop} {e : Env} {s : ε} {K : Lv → Env → R ρ} {A B : Env → R Lv}
theorem ec_join {a : Str} {t : X ε ω} (hA : EV e A (.ok a)) (h : SV Θ Φ ((B e).bind fun m e2 => (ofO ((m.get e2).bind fun d => gJoin (.str a) [d]) e2).bind (frzK K)) t) : SV Θ Φ ((cMt "str" gJoin A (cCons B cNil) e).bind (frzK K)) t := by
  obtain ⟨l, h1, h2, _⟩ := hA.get
  subst h2
  have e1 : (cMt "str" gJoin A (cCons B cNil) e).bind (frzK K) = (B e).bind fun m e2 => (ofO ((m.get e2).bind fun d => gJoin (.str a) [d]) e2).bind (frzK K) := by
    show ((A e).bind _).bind _ = _
    rw [h1, bind_e]
    show ((cCons B cNil e).bind fun ls e3 => ofO ((gets ls e3).bind fun ds => gJoin (.str a) ds) e3).bind (frzK K) = _
    rw [cons_b, DL.bind_assoc]
    cases B e with
    | ok m e2 =>
      show (ofO ((gets [m] e2).bind _) e2).bind _ = (ofO ((m.get e2).bind _) e2).bind _
      rw [gets_cons]
      cases m.get e2 <;> rfl
    | ex x e2 => rfl
    | st => rfl
  rw [e1]
  exact h
theorem ec_joink {a : Str} {ys : List Str} {m : Lv} {k : Str → X ε ω} (hm : m.get e = some (enc ys)) (hs : Θ s e) (hk : ∀ c, Sz c → SV Θ Φ (K (.val (enc c)) e) (k c)) : SV Θ Φ ((ofO ((m.get e).bind fun d => gJoin (.str a) [d]) e).bind (frzK K)) (xb s (tJoin a ys) k) := by
  rw [hm, obind_some]
  unfold tJoin
  by_cases h : (ys.map (·.length)).sum + ys.length * a.length ≤ 16777216 ∧ (Txt.join a ys).length ≤ 16777216
  · rw [rq_t h, show gJoin (.str a) [enc ys] = _ from gJoin_e h.1]
    exact hk _ (sz_str.mpr h.2)
  · unfold rq
    rw [if_neg h]
    exact .st
end
section
variable {α ε ω ρ : Type} [Enc α] [DecidableEq α] [Pl α] [Srt α] {Θ : ε → Env → Prop} {Φ : ω → R ρ → Prop} {e : Env} {K : Lv → Env → R ρ} {t : X ε ω}
theorem ec_sortk {l : List α} {lv : Lv} (hd : Pl.dep α < 60) (hl : lv.get e = some (enc l)) (z : Sz l) (hk : Sz (srt l) → SV Θ Φ (K (.val (enc (srt l))) e) t) : SV Θ Φ (opbK dSorted (frzK K) [lv] e) t := by
  unfold opbK
  rw [gets_cons, hl]
  show SV Θ Φ ((ofO (if okSort (l.map enc) = true then some (NV.nl (sortD false (l.map enc))) else none) e).bind (frzK K)) t
  rw [if_pos (okSort_l z.len hd), srt_enc]
  exact hk (sz_perm (srt_perm l) z)
end
/-! comprehensions whose test changes something -/
def cmpO {ε σ α β : Type} (step : σ → α → X ε (Option β × σ)) : List α → σ → X ε (List β × σ)
  | [], s => .ok ([], s)
  | a :: r, s => step s a >>= fun w => cmpO step r w.2 >>= fun v => .ok (match w.1 with | some b => b :: v.1 | none => v.1, v.2)
def tcK (c : Env → R Lv) : Bool → Env → R (Option Lv) := fun b e2 => match b with
  | true => (c e2).bind fun l e3 => .ok (some l) e3
  | false => .ok none e2
def EΦo {σ β : Type} [Enc β] (Q : σ → Env → Prop) : Option β × σ → R (Option Lv) → Prop := fun w r => ∃ e', r = .ok (w.1.map fun b => .val (enc b)) e' ∧ Q w.2 e' ∧ ∀ b, w.1 = some b → Sz b
section
variable {α β σ : Type} [Enc α] [Enc β]
theorem tcK_some {t : Env → R Bool} {c : Env → R Lv} {e e1 : Env} {l : Lv} (h : (t e).bind (tcK c) = .ok (some l) e1) : ∃ e2, t e = .ok true e2 ∧ c e2 = .ok l e1 := by
  cases q : t e with
  | ok b e2 =>
    rw [q] at h
    cases b with
    | true =>
      refine ⟨e2, rfl, ?_⟩
      have h : ((c e2).bind fun l e3 => R.ok (some l) e3) = .ok (some l) e1 := h
      cases q2 : c e2 with
      | ok l2 e3 => rw [q2] at h; cases h; rfl
      | ex x e3 => rw [q2] at h; cases h
      | st => rw [q2] at h; cases h
    | false => cases h
  | ex x e2 => rw [q] at h; cases h
  | st => rw [q] at h; cases h
theorem tcK_none {t : Env → R Bool} {c : Env → R Lv} {e e1 : Env} (h : (t e).bind (tcK c) = .ok none e1) : t e = .ok false e1 := by
  cases q : t e with
  | ok b e2 =>
    rw [q] at h
    cases b with
    | true =>
      have h : ((c e2).bind fun l e3 => R.ok (some l) e3) = .ok none e1 := h
      cases q2 : c e2 with
      | ok l2 e3 => rw [q2] at h; cases h
      | ex x e3 => rw [q2] at h; cases h
      | st => rw [q2] at h; cases h
    | false => cases h; rfl
  | ex x e2 => rw [q] at h; cases h
  | st => rw [q] at h; cases h
theorem cmpL_O {ws : List Nat} {f : D → Env → Option Env} {n : Nat} {T : α → Env → Env} {t : Env → R Bool} {c : Env → R Lv} {step : σ → α → X Unit (Option β × σ)} (Q : σ → Env → Prop) (hT : Tg n ws f T) (hq : ∀ s e e', Q s e → (∀ i, i ∉ ws → e'[i]? = e[i]?) → e'.length = e.length → Q s e')
    (hc : ∀ s a e, Q s e → Sz a → SV Th0 (EΦo Q) ((t (T a e)).bind (tcK c)) (step s a)) : ∀ (l : List α) (s0 : σ) (e : Env) (w : List β × σ), (∀ a ∈ l, Sz a) → Q s0 e → cmpO step l s0 = .ok w →
    ∃ e', compL ws f t c (l.map enc) e = .ok (w.1.map enc) e' ∧ Q w.2 e' ∧ (∀ b ∈ w.1, Sz b) ∧ w.1.length ≤ l.length
  | [], s0, e, w, _, h0, h => by cases h; exact ⟨e, rfl, h0, fun _ h => (by cases h), Nat.le_refl _⟩
  | a :: l, s0, e, w, hz, h0, h => by
    have ca := clear_agree (ws := ws) (e := e) (e' := e) rfl fun _ _ => rfl
    have q0 := hq s0 e (clearE ws e) h0 (fun i hi => ca.2 i hi) ca.1
    have hs := hc s0 a (clearE ws e) q0 (hz a List.mem_cons_self)
    rw [List.map_cons, compL, hT.step]
    rw [cmpO] at h
    cases q : step s0 a with
    | st => rw [q] at h; cases h
    | ex x u => rw [q] at h; cases h
    | ok v =>
      rw [q] at hs h
      obtain ⟨e1, h1, h2, z1⟩ := hs.get
      rw [X.ok_b] at h
      cases q2 : cmpO step l v.2 with
      | st => rw [q2] at h; cases h
      | ex x u => rw [q2] at h; cases h
      | ok v2 =>
        rw [q2] at h
        cases h
        obtain ⟨e2, i1, i2, i3, i4⟩ := cmpL_O Q hT hq hc l v.2 e1 v2 (fun a ha => hz a (List.mem_cons_of_mem _ ha)) h2 q2
        obtain ⟨o, s1⟩ := v
        cases o with
        | none =>
          have h3 := tcK_none h1
          simp only [h3]
          exact ⟨e2, i1, i2, i3, Nat.le_succ_of_le i4⟩
        | some b =>
          obtain ⟨e3, h3, h4⟩ := tcK_some h1
          simp only [h3, h4]
          rw [i1]
          refine ⟨e2, rfl, i2, fun b' hb => ?_, Nat.succ_le_succ i4⟩
          rcases List.mem_cons.mp hb with rfl | hb
          · exact z1 _ rfl
          · exact i3 b' hb
def compK {ρ : Type} (ws : List Nat) (f : D → Env → Option Env) (t : Env → R Bool) (c : Env → R Lv) (K : NV → Env → R ρ) : List D → Env → R ρ := fun ds e1 => (if fits ds.length = true then (match compL ws f t c ds e1 with | .ok xs e2 => R.ok (NV.nl xs) (restoreE ws e1 e2) | _ => .st) else .st).bind K
section
variable {ε ω ρ : Type} {Θ : ε → Env → Prop} {Φ : ω → R ρ → Prop} {e : Env} {s : ε}
theorem ec_comp0 {K : NV → Env → R ρ} {ws : List Nat} {ci : Env → R (List D)} {f : D → Env → Option Env} {t : Env → R Bool} {c : Env → R Lv} {tm : X ε ω} (h : SV Θ Φ ((ci e).bind (compK ws f t c K)) tm) : SV Θ Φ ((cComp ws ci f t c e).bind K) tm := by
  have e1 : (cComp ws ci f t c e).bind K = (ci e).bind (compK ws f t c K) := DL.bind_assoc
  rw [e1]
  exact h
theorem ec_cix {K : List D → Env → R ρ} {ci : Env → R (List D)} {tl : X Unit (List α)} {k : List α → X ε ω} (h : EI e ci tl) (hs : Θ s e) (hk : ∀ l, Sz l → SV Θ Φ (K (l.map enc) e) (k l)) : SV Θ Φ ((ci e).bind K) (xb s tl k) := SV.j h hs fun l ds hl => by rw [hl.1]; exact hk l hl.2
theorem ec_compk {K : NV → Env → R ρ} {ws : List Nat} {f : D → Env → Option Env} {n : Nat} {T : α → Env → Env} {t : Env → R Bool} {c : Env → R Lv} {step : σ → α → X Unit (Option β × σ)} {k : List β × σ → X ε ω} {s0 : σ} {l : List α}
    (Q : σ → Env → Prop) (hT : Tg n ws f T) (hl : Sz l) (hs : Θ s e) (h0 : Q s0 e) (hq : ∀ s e e', Q s e → (∀ i, i ∉ ws → e'[i]? = e[i]?) → e'.length = e.length → Q s e') (hc : ∀ s a e, Q s e → Sz a → SV Th0 (EΦo Q) ((t (T a e)).bind (tcK c)) (step s a))
    (hk : ∀ bs s' e', Sz bs → Q s' e' → SV Θ Φ (K (.nl (bs.map enc)) e') (k (bs, s'))) : SV Θ Φ (compK ws f t c K (l.map enc) e) (xb s (noX (cmpO step l s0)) k) := by
  unfold compK
  rw [List.length_map, if_pos (fits_of hl.len)]
  cases q : cmpO step l s0 with
  | st => exact .st
  | ex x u => exact .st
  | ok w =>
    obtain ⟨e2, h1, h2, h3, h4⟩ := cmpL_O Q hT hq hc l s0 e w (fun a ha => hl.mem ha) h0 q
    rw [h1]
    refine hk w.1 w.2 _ (sz_list.mpr ⟨Nat.le_trans h4 hl.len, h3⟩) (hq _ _ _ h2 (fun i hi => rstE_out hi) rstE_len)
theorem ec_compkF {K : Lv → Env → R ρ} {ws : List Nat} {f : D → Env → Option Env} {n : Nat} {T : α → Env → Env} {t : Env → R Bool} {c : Env → R Lv} {step : σ → α → X Unit (Option β × σ)} {k : List β × σ → X ε ω} {s0 : σ} {l : List α}
    (Q : σ → Env → Prop) (hT : Tg n ws f T) (hl : Sz l) (hs : Θ s e) (h0 : Q s0 e) (hq : ∀ s e e', Q s e → (∀ i, i ∉ ws → e'[i]? = e[i]?) → e'.length = e.length → Q s e') (hc : ∀ s a e, Q s e → Sz a → SV Th0 (EΦo Q) ((t (T a e)).bind (tcK c)) (step s a))
    (hk : ∀ bs s' e', Sz bs → Q s' e' → SV Θ Φ (K (.val (enc bs)) e') (k (bs, s'))) : SV Θ Φ (compK ws f t c (frzK K) (l.map enc) e) (xb s (noX (cmpO step l s0)) k) := ec_compk (K := frzK K) Q hT hl hs h0 hq hc hk
theorem ec_compkO {K : D → Env → R ρ} {ws : List Nat} {f : D → Env → Option Env} {n : Nat} {T : α → Env → Env} {t : Env → R Bool} {c : Env → R Lv} {step : σ → α → X Unit (Option β × σ)} {k : List β × σ → X ε ω} {s0 : σ} {l : List α}
    (Q : σ → Env → Prop) (hT : Tg n ws f T) (hl : Sz l) (hs : Θ s e) (h0 : Q s0 e) (hq : ∀ s e e', Q s e → (∀ i, i ∉ ws → e'[i]? = e[i]?) → e'.length = e.length → Q s e') (hc : ∀ s a e, Q s e → Sz a → SV Th0 (EΦo Q) ((t (T a e)).bind (tcK c)) (step s a))
    (hk : ∀ bs s' e', Sz bs → Q s' e' → SV Θ Φ (K (enc bs) e') (k (bs, s'))) : SV Θ Φ (compK ws f t c (ownK K) (l.map enc) e) (xb s (noX (cmpO step l s0)) k) := ec_compk (K := ownK K) Q hT hl hs h0 hq hc hk
end
section
variable {Q : σ → Env → Prop} {b : β} {s : σ} {e : Env}
theorem eo_some {c : Env → R Lv} {t : X Unit (Option β × σ)} (h : SV Th0 (EΦo Q) ((c e).bind fun l e3 => R.ok (some l) e3) t) : SV Th0 (EΦo Q) (tcK c true e) t := h
theorem eo_end (hq : Q s e) (z : Sz b) : SV Th0 (EΦo Q) (R.ok (some (Lv.val (enc b))) e) (X.ok (some b, s) : X Unit (Option β × σ)) := .ok ⟨e, rfl, hq, fun _ h => by cases h; exact z⟩
theorem eo_if {c : Env → R Lv} {v : Bool} {t1 t2 : X Unit (Option β × σ)} (h1 : SV Th0 (EΦo Q) ((c e).bind fun l e3 => R.ok (some l) e3) t1) (h2 : SV Th0 (EΦo Q) (R.ok none e) t2) : SV Th0 (EΦo Q) (tcK c v e) (if v = true then t1 else t2) := by
  cases v with
  | true => exact h1
  | false => exact h2
theorem eo_no (hq : Q s e) : SV Th0 (EΦo Q) (R.ok (none : Option Lv) e) (X.ok ((none : Option β), s) : X Unit (Option β × σ)) := .ok ⟨e, rfl, hq, fun _ h => by cases h⟩
theorem eo_yes {c : Env → R Lv} {t : X Unit (Option β × σ)} (h : SV Th0 (EΦo Q) ((c e).bind fun l e3 => R.ok (some l) e3) t) : SV Th0 (EΦo Q) ((cYes e).bind (tcK c)) t := h
end
end
end DL

/-! Walks over an own list that the body reads; bool. -/
namespace DL
open PySem PySem.Spec PyProof.Rows L2
open Enc (enc)
section
variable {α ε ω : Type} [Enc α] {Θ : ε → Env → Prop} {Φ : ω → R Fl → Prop} {e : Env} {i : Nat} {rest : Env → R Fl}
theorem sq_forR {f : D → Env → Option Env} {b : Env → R Fl} {l : List α} (ho : At e i (enc l)) : cSeq (cForR i f b) rest e = (match forL f (chk i (l.map enc) b) (l.map enc) e with | .ok .nx e1 => rest e1 | .ok .bk e1 => .ok .bk e1 | .ok .ct e1 => .ok .ct e1 | .ok (.rt d) e1 => .ok (.rt d) e1 | .ex x e1 => .ex x e1 | .st => .st) := by
  have h0 : e.getD i none = some (.list (l.map enc)) := ho.getD
  have e1 : cForR i f b e = forL f (chk i (l.map enc) b) (l.map enc) e := by
    unfold cForR
    simp only [h0]
  rw [cSeq_e, e1]
  all_goals (rcases forL f (chk i (l.map enc) b) (l.map enc) e with ⟨fl, e1⟩ | ⟨x, e1⟩ | _ <;> first | rfl | (cases fl <;> rfl))
theorem chk_L {σ : Type} {b : Env → R Fl} {l : List α} {t : X ε (Lp σ ω)} {Q : σ → Env → Prop} (hQ : ∀ s e, Q s e → At e i (enc l)) (h : SV Θ (LΦ Q Φ) (b e) t) : SV Θ (LΦ Q Φ) (chk i (l.map enc) b e) t := by
  unfold chk
  cases t with
  | st => exact .st
  | ex x u => obtain ⟨e', h1, h2⟩ := h.getx; rw [h1]; exact .ex rfl h2
  | ok w =>
    have h := h.get
    cases w with
    | nx s =>
      obtain ⟨e', h1, h2⟩ := h
      have h3 : e'.getD i none = some (.list (l.map enc)) := (hQ s e' h2).getD
      rcases h1 with h1 | h1
      · rw [h1]
        exact .ok ⟨e', .inl (chkE_ok h3), h2⟩
      · rw [h1]
        exact .ok ⟨e', .inr (chkE_ok h3), h2⟩
    | bk s => obtain ⟨e', h1, h2⟩ := h; rw [h1]; exact .ok ⟨e', rfl, h2⟩
    | rt w =>
      obtain ⟨h1, v, e', h2⟩ := h
      rw [h2] at h1 ⊢
      exact .ok ⟨h1, v, e', rfl⟩
theorem sv_forR {σ : Type} {f : D → Env → Option Env} {b : Env → R Fl} {n : Nat} {ws : List Nat} {T : α → Env → Env} {l : List α} {step : σ → α → X ε (Lp σ ω)} {k : σ → X ε ω} {s0 : σ} (Q : σ → Env → Prop) (hT : Tg n ws f T) (ho : At e i (enc l)) (hQ : ∀ s e, Q s e → At e i (enc l))
    (h0 : Q s0 e) (hb : ∀ s a e, Q s e → Sz a → SV Θ (LΦ Q Φ) (b (T a e)) (step s a)) (hk : ∀ s e, Q s e → SV Θ Φ (rest e) (k s)) : SV Θ Φ (cSeq (cForR i f b) rest e) (forX step k l s0) := by
  rw [sq_forR ho]
  exact for_core Q hT rest (fun s a e h z => chk_L hQ (hb s a e h z)) hk l s0 e (fun a ha => ho.sz.mem ha) h0
theorem sv_forRF {σ : Type} {f : D → Env → Option Env} {b : Env → R Fl} {n : Nat} {ws : List Nat} {T : α → Env → Env} {l : List α} {step : σ → α → X ε σ} {k : σ → X ε ω} {s0 : σ} (Q : σ → Env → Prop) (hT : Tg n ws f T) (ho : At e i (enc l)) (hQ : ∀ s e, Q s e → At e i (enc l))
    (h0 : Q s0 e) (hb : ∀ s a e, Q s e → Sz a → SV Θ (NΦ Q) (b (T a e)) (step s a)) (hk : ∀ s e, Q s e → SV Θ Φ (rest e) (k s)) : SV Θ Φ (cSeq (cForR i f b) rest e) (forF step l s0 >>= k) := by
  have := sv_forR (Φ := Φ) (step := fun s a => step s a >>= fun s' => .ok (.nx s')) (k := k) (rest := rest) Q hT ho hQ h0 (fun s a e h z => nphi_l (hb s a e h z)) hk
  rw [forF_X] at this
  exact this
end
section
variable {α : Type} [Enc α] {e : Env} {A : Env → R Lv}
theorem op_boolAB : Op1P (fun d => dBoolA [d]) (fun (a : Bool) => a) := fun a _ => ⟨_, rfl, rfl, rfl⟩
theorem op_boolAI : Op1P (fun d => dBoolA [d]) (fun (a : Int) => a != 0) := fun a _ => ⟨_, rfl, rfl, rfl⟩
theorem op_boolAL : Op1P (fun d => dBoolA [d]) (fun (a : List α) => !a.isEmpty) := fun a _ => ⟨_, rfl, by show PyData.bool (!(a.map enc).isEmpty) = .bool (!a.isEmpty); rw [List.isEmpty_map], rfl⟩
theorem en_BoolAB {a : Bool} (ha : EP e A (.ok a)) : EN e (cB dBoolA (cCons A cNil)) (.ok (a)) := en_b1p (g := fun (a : Bool) => a) op_boolAB ha
def tBoolAB (a : Bool) : X Unit Bool := .ok (a)
@[simp] theorem tBoolAB_e {a : Bool} : tBoolAB a = .ok (a) := rfl
theorem tp_BoolAB : Op1T (fun d => dBoolA [d]) tBoolAB := Op1P.t (g := fun (a : Bool) => a) op_boolAB
theorem en_BoolAI {a : Int} (ha : EP e A (.ok a)) : EN e (cB dBoolA (cCons A cNil)) (.ok (a != 0)) := en_b1p (g := fun (a : Int) => a != 0) op_boolAI ha
def tBoolAI (a : Int) : X Unit Bool := .ok (a != 0)
@[simp] theorem tBoolAI_e {a : Int} : tBoolAI a = .ok (a != 0) := rfl
theorem tp_BoolAI : Op1T (fun d => dBoolA [d]) tBoolAI := Op1P.t (g := fun (a : Int) => a != 0) op_boolAI
theorem en_BoolAL {a : List α} (ha : EP e A (.ok a)) : EN e (cB dBoolA (cCons A cNil)) (.ok (!a.isEmpty)) := en_b1p (g := fun (a : List α) => !a.isEmpty) op_boolAL ha
def tBoolAL (a : List α) : X Unit Bool := .ok (!a.isEmpty)
@[simp] theorem tBoolAL_e {a : List α} : tBoolAL a = .ok (!a.isEmpty) := rfl
theorem tp_BoolAL : Op1T (fun d => dBoolA [d]) (tBoolAL (α := α)) := Op1P.t (g := fun (a : List α) => !a.isEmpty) op_boolAL
end
end DL

/-! Calls of a def that is handed the caught exception. -/
namespace DL
open PySem PySem.Spec PyProof.Rows L2
open Enc (enc)
theorem eo_calX {α : Type} [Enc α] {e : Env} {i : Nat} {x : Exc} {m : List D → FR} {t : X Unit α} (h : AtX e i x) (hf : FnT m [.str x.cls] t) : EO e (cCallX i m) (noX t) := by
  have h0 : e.getD i none = some (.str x.cls) := by rw [List.getD_eq_getElem?_getD, h]; rfl
  show RJ e (cCallX i m e) _ _
  cases t with
  | ok a =>
    obtain ⟨z, outs, q⟩ := hf.h
    refine .ok (b := enc a) ?_ ⟨rfl, z⟩
    unfold cCallX
    simp only [h0, q]
  | ex x u => exact .st
  | st => exact .st
end DL

/-! not of a list. -/
namespace DL
open PySem PySem.Spec PyProof.Rows L2
open Enc (enc)
section
variable {α : Type} [Enc α] {e : Env} {A : Env → R Lv}
theorem ev_notL {t : X Unit (List α)} (ha : EP e A t) : EV e (cNotU A) (x1 (fun l => .ok l.isEmpty) t) := by
  show RJ e ((A e).bind fun l e1 => (ofO ((l.get e1).bind dTru) e1).bind fun k e2 => R.ok (Lv.val (.bool (!k))) e2) _ _
  refine ha.bind fun l m _ hm => ?_
  rw [hm.1]
  refine .ok (b := .val (.bool (l.isEmpty))) ?_ ⟨rfl, sz_bool _⟩
  show R.ok (Lv.val (.bool (!!(l.map enc).isEmpty))) e = _
  rw [Bool.not_not, List.isEmpty_map]
theorem ev_notLp {l : List α} (ha : EP e A (.ok l)) : EV e (cNotU A) (.ok l.isEmpty) := ev_notL ha
end
end DL

/-! sorted(xs, reverse=True) of ints. -/
namespace DL
open PySem PySem.Spec PyProof.Rows L2
open Enc (enc)
theorem ind_li : ∀ l : List Int, indep (.lst .fz) (enc l) = true
  | [] => rfl
  | i :: r => by
    show (noL (enc i) && noLs (r.map enc)) = true
    rw [show noLs (r.map enc) = true from ind_li r]
    rfl
theorem ind_ls : ∀ l : List Str, indep (.lst .fz) (enc l) = true
  | [] => rfl
  | i :: r => by
    show (noL (enc i) && noLs (r.map enc)) = true
    rw [show noLs (r.map enc) = true from ind_ls r]
    rfl
/-- membership, with the instance that the rules of in name -/
abbrev memD {α : Type} [DecidableEq α] (a : α) (b : List α) : Bool := decide (a ∈ b)
section
variable {e : Env} {A : Env → R Lv}
theorem el_sortR {t : X Unit (List Int)} (ha : EP e A t) : EL e (cB dSortR (cCons A cNil)) (x1 (fun l => .ok (sortR l)) t) := by
  show RJ e (((A e).bind fun l e1 => R.ok [l] e1).bind fun ls e1 => ofO ((gets ls e1).bind dSortR) e1) _ _
  rw [DL.bind_assoc]
  refine ha.bind fun l m _ hm => ?_
  show RJ e (ofO ((gets [m] e).bind dSortR) e) _ _
  rw [gets_cons, hm.1]
  refine .ok (b := .nl ((sortR l).map enc)) ?_ ⟨rfl, sz_perm (sortR_perm l) hm.2⟩
  show ofO ((asI (l.map enc)).map fun ns => NV.nl ((sortR ns).map PyData.int)) e = _
  rw [asI_enc]
  rfl
theorem el_sortRp {l : List Int} (ha : EP e A (.ok l)) : EL e (cB dSortR (cCons A cNil)) (.ok (sortR l)) := el_sortR ha
end
def tIndex (l : List Int) (i : Int) : X Unit Int := match l.findIdx? fun n => n == i with
  | some j => .ok ((j : Nat) : Int)
  | none => .st
theorem op_index : Op2T (fun d d' => gIndexL d [d']) tIndex := by
  intro l i _ _
  unfold tIndex
  cases q : l.findIdx? fun n => n == i with
  | none => trivial
  | some j => exact ⟨.sc (.int ((j : Nat) : Int)), by
      show ((asI (l.map enc)).bind fun ns => (ns.findIdx? fun n => n == i).map fun j => NV.sc (.int ((j : Nat) : Int))) = _
      rw [asI_enc]
      show (l.findIdx? fun n => n == i).map _ = _
      rw [q]
      rfl, rfl, rfl⟩
end DL

/-! Lists that a def handed an own list gives back: of pairs. -/
namespace DL
open PySem PySem.Spec PyProof.Rows L2
open Enc (enc)
theorem ind_lt2 : ∀ l : List (T2 Int Int), indep (.lst .fz) (enc l) = true
  | [] => rfl
  | i :: r => by
    show (noL (enc i) && noLs (r.map enc)) = true
    rw [show noLs (r.map enc) = true from ind_lt2 r]
    rfl
theorem ind_lb : ∀ l : List Bool, indep (.lst .fz) (enc l) = true
  | [] => rfl
  | i :: r => by
    show (noL (enc i) && noLs (r.map enc)) = true
    rw [show noLs (r.map enc) = true from ind_lb r]
    rfl
end DL

/-! Comprehensions out of which the element's exceptions come. -/
namespace DL
open PySem PySem.Spec PyProof.Rows L2
open Enc (enc)
def compTX {α β : Type} (p : α → X Unit Bool) (g : α → X Unit β) : List α → X Unit (List β)
  | [] => .ok []
  | a :: r => match p a with
    | .ok true => (match g a with
      | .ok b => (match compTX p g r with
        | .ok bs => .ok (b :: bs)
        | .ex x u => .ex x u
        | .st => .st)
      | .ex x u => .ex x u
      | .st => .st)
    | .ok false => compTX p g r
    | _ => .st
def tCompX {α β : Type} (tl : X Unit (List α)) (p : α → X Unit Bool) (g : α → X Unit β) : X Unit (List β) := tl >>= fun l => compTX p g l
theorem compTX_ok {α β : Type} {p : α → X Unit Bool} {g : α → X Unit β} {p' : α → Bool} {g' : α → β} : ∀ {l : List α}, (∀ a ∈ l, p a = .ok (p' a)) → (∀ a ∈ l, p' a = true → g a = .ok (g' a)) → compTX p g l = .ok ((l.filter p').map g')
  | [], _, _ => rfl
  | a :: r, h1, h2 => by
    have ih := compTX_ok (l := r) (fun a ha => h1 a (List.mem_cons_of_mem _ ha)) (fun a ha => h2 a (List.mem_cons_of_mem _ ha))
    rw [compTX, h1 a List.mem_cons_self]
    cases q : p' a with
    | true => simp only [h2 a List.mem_cons_self q, ih]; rw [List.filter_cons_of_pos q]; rfl
    | false => simp only [ih]; rw [List.filter_cons_of_neg (by simp [q])]
theorem tCompX_map {α β : Type} {g : α → X Unit β} {g' : α → β} {l : List α} (h : ∀ a ∈ l, g a = .ok (g' a)) : tCompX (X.ok l) (fun _ => X.ok true) g = .ok (l.map g') := by
  show compTX _ _ _ = _
  rw [compTX_ok (p' := fun _ => true) (g' := g') (fun _ _ => rfl) (fun a ha _ => h a ha), List.filter_eq_self.mpr (fun _ _ => rfl)]
section
variable {α β : Type} [Enc α] [Enc β] {e : Env} {n : Nat} {ws : List Nat} {f : D → Env → Option Env} {T : α → Env → Env} {ci : Env → R (List D)} {t : Env → R Bool} {c : Env → R Lv} {tl : X Unit (List α)} {p : α → X Unit Bool} {g : α → X Unit β}
theorem compLX_T (hT : Tg n ws f T) (hn : n ≤ e.length) (hp : ∀ x, Sz x → ET (T x e) t (p x)) (hg : ∀ x, Sz x → EV (T x e) c (g x)) : ∀ (l : List α) (e' : Env), (∀ a ∈ l, Sz a) → e'.length = e.length → (∀ i, i ∉ ws → e'[i]? = e[i]?) → match compTX p g l with
    | .ok bs => ∃ e2, compLX ws f t c (l.map enc) e' = .ok (bs.map enc) e2 ∧ e2.length = e.length ∧ (∀ i, i ∉ ws → e2[i]? = e[i]?) ∧ (∀ b ∈ bs, Sz b) ∧ bs.length ≤ l.length
    | .ex x _ => ∃ e2, compLX ws f t c (l.map enc) e' = .ex x e2 ∧ e2.length = e.length ∧ (∀ i, i ∉ ws → e2[i]? = e[i]?)
    | .st => True
  | [], e', _, hl, ho => ⟨e', rfl, hl, ho, fun _ h => (by cases h), Nat.le_refl _⟩
  | a :: r, e', hz, hl, ho => by
    have ha := hz a List.mem_cons_self
    obtain ⟨c1, c2⟩ := clear_agree (ws := ws) hl ho
    have h1 : f (enc a) (clearE ws e') = some (T a e) := by rw [hT.step, hT.ov a e _ c1 c2]
    have hp' := hp a ha
    have hg' := hg a ha
    have ex := hT.len a e
    have eo := hT.out a e
    have ih := compLX_T hT hn hp hg r (T a e) (fun a ha => hz a (List.mem_cons_of_mem _ ha)) ex eo
    rw [List.map_cons, compLX, compTX, h1]
    simp only
    cases q : p a with
    | ex x u => trivial
    | st => trivial
    | ok k =>
      rw [q] at hp'
      obtain ⟨k', h2, h3⟩ := hp'.get
      subst h3
      rw [h2]
      cases k' with
      | false =>
        simp only
        cases q3 : compTX p g r with
        | st => trivial
        | ex x u => rw [q3] at ih; exact ih
        | ok bs =>
          rw [q3] at ih
          obtain ⟨e2, i1, i2, i3, i4, i5⟩ := ih
          exact ⟨e2, i1, i2, i3, i4, Nat.le_succ_of_le i5⟩
      | true =>
        simp only
        cases q2 : g a with
        | ex x u =>
          rw [q2] at hg'
          have h4 := hg'.getx
          simp only [h4]
          exact ⟨_, rfl, ex, eo⟩
        | st => trivial
        | ok b =>
          rw [q2] at hg'
          obtain ⟨l', h4, rfl, zb⟩ := hg'.get
          simp only [h4]
          cases q3 : compTX p g r with
          | st => trivial
          | ex x u =>
            rw [q3] at ih
            obtain ⟨e2, i1, i2, i3⟩ := ih
            simp only [i1]
            exact ⟨e2, rfl, i2, i3⟩
          | ok bs =>
            rw [q3] at ih
            obtain ⟨e2, i1, i2, i3, i4, i5⟩ := ih
            simp only [i1]
            refine ⟨e2, rfl, i2, i3, fun z hz' => ?_, Nat.succ_le_succ i5⟩
            rcases List.mem_cons.mp hz' with rfl | hz'
            · exact zb
            · exact i4 z hz'
theorem el_compX (hT : Tg n ws f T) (hn : n ≤ e.length) (hi : EI e ci tl) (hp : ∀ x, Sz x → ET (T x e) t (p x)) (hg : ∀ x, Sz x → EV (T x e) c (g x)) : EL e (cCompX ws ci f t c) (tCompX tl p g) := by
  show RJ e ((ci e).bind fun ds e1 => if fits ds.length = true then (match compLX ws f t c ds e1 with | .ok xs e2 => R.ok (NV.nl xs) (restoreE ws e1 e2) | .ex x e2 => .ex x (restoreE ws e1 e2) | .st => .st) else .st) _ _
  refine hi.bind fun l ds _ hl => ?_
  rw [hl.1, List.length_map, if_pos (fits_of hl.2.len)]
  have key := compLX_T hT hn hp hg l e (fun a ha => hl.2.mem ha) rfl (fun _ _ => rfl)
  cases q : compTX p g l with
  | ok bs =>
    rw [q] at key
    obtain ⟨e2, h1, h2, h3, h4, h5⟩ := key
    rw [h1]
    simp only
    rw [restore_agree h2 h3]
    exact .ok rfl ⟨rfl, sz_list.mpr ⟨Nat.le_trans h5 hl.2.len, h4⟩⟩
  | ex x u =>
    rw [q] at key
    obtain ⟨e2, h1, h2, h3⟩ := key
    rw [h1]
    simp only
    rw [restore_agree h2 h3]
    exact .ex rfl
  | st => exact .st
end
end DL

/-! Reckoning with typed mirrors: lists, ranges, loops. -/
namespace DL
open PySem PySem.Spec PyProof.Rows L2
theorem ite_ok {ε α : Type} {p : Prop} [Decidable p] {a b : α} : (if p then (X.ok a : X ε α) else X.ok b) = X.ok (if p then a else b) := by split <;> rfl
theorem irng_nil {lo hi : Int} (h : hi ≤ lo) : irng lo hi = [] := by
  unfold irng
  rw [show (hi - lo).toNat = 0 by omega]
  rfl
theorem irng_cons {lo hi : Int} (h : lo < hi) : irng lo hi = lo :: irng (lo + 1) hi := by
  unfold irng
  obtain ⟨n, hn⟩ : ∃ n : Nat, (hi - lo).toNat = n + 1 := ⟨(hi - lo).toNat - 1, by omega⟩
  rw [hn, show (hi - (lo + 1)).toNat = n by omega, List.range_succ_eq_map, List.map_cons, List.map_map]
  congr 1
  · simp
  · refine List.map_congr_left fun a _ => ?_
    show lo + ((a + 1 : Nat) : Int) = lo + 1 + (a : Int)
    omega
theorem irng_nodup {lo hi : Int} : (irng lo hi).Nodup := by
  unfold irng
  refine List.Pairwise.map _ ?_ (List.nodup_range (n := (hi - lo).toNat))
  intro a b h z
  exact h (by omega)
theorem irng_get {lo hi : Int} {k : Nat} (h : k < (hi - lo).toNat) : (irng lo hi)[k]? = some (lo + k) := by
  unfold irng
  rw [List.getElem?_map, List.getElem?_range h]
  rfl
theorem irng_snoc {lo hi : Int} (h : lo ≤ hi) : irng lo (hi + 1) = irng lo hi ++ [hi] := by
  unfold irng
  rw [show (hi + 1 - lo).toNat = (hi - lo).toNat + 1 by omega, List.range_succ, List.map_append]
  congr 1
  show [lo + ((hi - lo).toNat : Int)] = [hi]
  congr 1
  omega
theorem tIx_nat {α : Type} {l : List α} {k : Nat} (h : k < l.length) : tIx l (k : Int) = .ok l[k] := by
  unfold tIx
  rw [atI_nat, List.getElem?_eq_getElem h]
  rfl
theorem tIx_ok {α : Type} {l : List α} {i : Int} (h0 : 0 ≤ i) (h : i < l.length) (d : α) : tIx l i = .ok (l.getD i.toNat d) := by
  obtain ⟨k, rfl⟩ := Int.eq_ofNat_of_zero_le h0
  rw [tIx_nat (by omega)]
  simp [List.getD_eq_getElem?_getD, List.getElem?_eq_getElem (show k < l.length by omega)]
theorem tIx_get {α : Type} {l : List α} {i : Int} {a : α} (h0 : 0 ≤ i) (h : l[i.toNat]? = some a) : tIx l i = .ok a := by
  obtain ⟨k, rfl⟩ := Int.eq_ofNat_of_zero_le h0
  unfold tIx
  rw [atI_nat]
  rw [Int.toNat_natCast] at h
  rw [h]
  rfl
theorem tIx_last {α : Type} {l : List α} {a : α} : tIx (l ++ [a]) (-(1 : Int)) = .ok a := by
  unfold tIx atI ixN
  rw [if_neg (by decide), if_pos (by simp; omega)]
  have : (-(1 : Int) + (((l ++ [a]).length : Nat) : Int)).toNat = l.length := by simp; omega
  rw [this]
  simp
theorem tPut_ok {ε α : Type} {l : List α} {a : α} {i : Int} (h0 : 0 ≤ i) (h : i < l.length) : (tPut l a i : X ε (List α)) = .ok (l.set i.toNat a) := by
  obtain ⟨k, rfl⟩ := Int.eq_ofNat_of_zero_le h0
  unfold tPut
  rw [ixN_nat, if_pos (by omega)]
  rfl
theorem sIx_nat {n d : Nat} {i : Int} (h0 : 0 ≤ i) : HT.sIx n d (some i) = min i.toNat n := by
  unfold HT.sIx
  simp only
  split <;> omega
theorem dCut_to {α : Type} {l : List α} {i : Int} (h0 : 0 ≤ i) : dCut l none (some i) = l.take i.toNat := by
  unfold dCut
  rw [sIx_nat h0, show HT.sIx l.length 0 none = 0 from rfl, List.drop_zero, Nat.sub_zero]
  by_cases h : i.toNat ≤ l.length
  · rw [Nat.min_eq_left h]
  · rw [Nat.min_eq_right (by omega), List.take_length, List.take_of_length_le (by omega)]
theorem dCut_from {α : Type} {l : List α} {i : Int} (h0 : 0 ≤ i) : dCut l (some i) none = l.drop i.toNat := by
  unfold dCut
  rw [sIx_nat h0, show HT.sIx l.length l.length none = l.length from rfl]
  by_cases h : i.toNat ≤ l.length
  · rw [Nat.min_eq_left h, List.take_of_length_le (by rw [List.length_drop]; exact Nat.le_refl _)]
  · rw [Nat.min_eq_right (by omega), Nat.sub_self, List.take_zero, List.drop_of_length_le (by omega)]
theorem tCat_ok {α : Type} {a b : List α} (h : a.length + b.length ≤ 16777216) : tCat a b = .ok (a ++ b) := rq_t h
theorem tRng1_ok {n : Int} (h0 : 0 ≤ n) (h : n ≤ 16777216) : tRng1 n = .ok (irng 0 n) := rq_t ⟨by omega, h⟩
theorem tRng2_ok {a b : Int} (h0 : -1000000000 ≤ a) (h1 : a ≤ 1000000000) (h2 : -1000000000 ≤ b) (h3 : b ≤ 1000000000) (h : b - a ≤ 16777216) : tRng2 a b = .ok (irng a b) := rq_t ⟨by omega, by omega, by omega, by omega, h⟩
theorem tMul_r {a b : Int} (h : -1000000000 ≤ b) (h' : b ≤ 1000000000) : tMul a b = .ok (a * b) := rq_t (.inr ⟨by omega, by omega⟩)
theorem tMul_l {a b : Int} (h : -1000000000 ≤ a) (h' : a ≤ 1000000000) : tMul a b = .ok (a * b) := rq_t (.inl ⟨by omega, by omega⟩)
theorem tDiv_ok {a b : Int} (h : 0 < b) (h' : b ≤ 1000000000) : tDiv a b = .ok (a / b) := rq_t ⟨h, by omega⟩
theorem tMod_ok {a b : Int} (h : 0 < b) : tMod a b = .ok (a % b) := rq_t h
theorem popAt_zero {ε α : Type} {a : α} {l : List α} : (popAt (a :: l) 0 : X ε (α × List α)) = .ok (a, l) := by
  unfold popAt
  rw [rq_t (by decide)]
  have : seqIndex? 0 (a :: l).length = some 0 := by simp [seqIndex?]
  rw [this]
  rfl
@[simp] theorem X.of_ok {ε α : Type} {a : α} : (X.of (some a) : X ε α) = .ok a := rfl
/-- a loop by what holds between the turns -/
theorem forF_inv {ε σ α : Type} {step : σ → α → X ε σ} (I : List α → σ → Prop) : ∀ (l pre : List α) (s : σ), I pre s → (∀ pre a s post, pre ++ a :: post = pre ++ a :: post → I pre s → a ∈ l → ∃ s', step s a = .ok s' ∧ I (pre ++ [a]) s') → ∃ s', forF step l s = .ok s' ∧ I (pre ++ l) s'
  | [], pre, s, h, _ => ⟨s, rfl, by rw [List.append_nil]; exact h⟩
  | a :: l, pre, s, h, st => by
    obtain ⟨s1, h1, h2⟩ := st pre a s l rfl h List.mem_cons_self
    obtain ⟨s2, h3, h4⟩ := forF_inv I l (pre ++ [a]) s1 h2 fun p b s post e i m => st p b s post e i (List.mem_cons_of_mem _ m)
    refine ⟨s2, ?_, by rw [List.append_cons]; exact h4⟩
    show (step s a >>= fun s' => forF step l s') = _
    rw [h1]
    exact h3
/-- .. with all states known -/
theorem forF_eq {ε σ α : Type} {step : σ → α → X ε σ} (f : σ → α → σ) : ∀ (l : List α) (s : σ) (P : σ → Prop), P s → (∀ s a, a ∈ l → P s → step s a = .ok (f s a) ∧ P (f s a)) → forF step l s = .ok (l.foldl f s) ∧ P (l.foldl f s)
  | [], s, P, h, _ => ⟨rfl, h⟩
  | a :: l, s, P, h, st => by
    obtain ⟨h1, h2⟩ := st s a List.mem_cons_self h
    obtain ⟨h3, h4⟩ := forF_eq f l (f s a) P h2 fun s b hb => st s b (List.mem_cons_of_mem _ hb)
    refine ⟨?_, h4⟩
    show (step s a >>= fun s' => forF step l s') = _
    rw [h1]
    exact h3
theorem forF_cons {ε σ α : Type} {step : σ → α → X ε σ} {a : α} {l : List α} {s : σ} : forF step (a :: l) s = (step s a >>= fun s' => forF step l s') := rfl
theorem forF_nil {ε σ α : Type} {step : σ → α → X ε σ} {s : σ} : forF step [] s = .ok s := rfl
/-- a loop that runs through, by what holds between the turns -/
theorem forX_inv {ε σ α ω : Type} {step : σ → α → X ε (Lp σ ω)} {k : σ → X ε ω} {w : X ε ω} (I : σ → Prop) : ∀ (l : List α) (s : σ), I s → (∀ a s, a ∈ l → I s → ∃ s', step s a = .ok (.nx s') ∧ I s') → (∀ s, I s → k s = w) → forX step k l s = w
  | [], s, h, _, hk => hk s h
  | a :: l, s, h, st, hk => by
    obtain ⟨s', h1, h2⟩ := st a s List.mem_cons_self h
    rw [forX, h1]
    exact forX_inv I l s' h2 (fun a s ha => st a s (List.mem_cons_of_mem _ ha)) hk
theorem forX_invP {ε σ α ω : Type} {step : σ → α → X ε (Lp σ ω)} {k : σ → X ε ω} {w : X ε ω} (I : Nat → σ → Prop) : ∀ (l : List α) (i : Nat) (s : σ), I i s → (∀ a s j, a ∈ l → i ≤ j → j < i + l.length → I j s → ∃ s', step s a = .ok (.nx s') ∧ I (j + 1) s') → (∀ s, I (i + l.length) s → k s = w) → forX step k l s = w
  | [], i, s, h, _, hk => hk s h
  | a :: l, i, s, h, st, hk => by
    obtain ⟨s', h1, h2⟩ := st a s i List.mem_cons_self (Nat.le_refl _) (by simp) h
    rw [forX, h1]
    exact forX_invP I l (i + 1) s' h2 (fun a s j ha h1 h2 => st a s j (List.mem_cons_of_mem _ ha) (by omega) (by rw [List.length_cons]; omega)) (fun s hs => hk s (by rw [List.length_cons, show i + (l.length + 1) = i + 1 + l.length by omega]; exact hs))
theorem cmpX_inv {ε σ α β : Type} {step : σ → α → X ε (β × σ)} (P : β → Prop) : ∀ (l : List α) (s : σ), (∀ a s, a ∈ l → ∃ b s', step s a = .ok (b, s') ∧ P b) → ∃ bs s', cmpX step l s = .ok (bs, s') ∧ bs.length = l.length ∧ ∀ b ∈ bs, P b
  | [], s, _ => ⟨[], s, rfl, rfl, fun _ h => by cases h⟩
  | a :: l, s, st => by
    obtain ⟨b, s1, h1, h2⟩ := st a s List.mem_cons_self
    obtain ⟨bs, s2, h3, h4, h5⟩ := cmpX_inv P l s1 fun a s ha => st a s (List.mem_cons_of_mem _ ha)
    refine ⟨b :: bs, s2, ?_, by simp [h4], fun c hc => ?_⟩
    · rw [cmpX, h1, X.ok_b]
      show (cmpX step l s1 >>= fun v => X.ok (b :: v.1, v.2)) = _
      rw [h3]
      rfl
    · rcases List.mem_cons.mp hc with rfl | hc
      · exact h2
      · exact h5 c hc
/-- the law from its typed mirror -/
theorem law_of {m : List D → FR} {t : List Int → X Unit Bool} (ht : ∀ ns, Sz ns → FnT m [Enc.enc ns] (t ns)) (hl : ∀ ns, ns.length ≤ 63 → t ns = .ok true) : ∀ ns : List Int, ns.length ≤ 63 → ∃ outs, m [.list (ns.map .int)] = .ok (.bool true) outs := by
  intro ns h
  have := ht ns (sz_list.mpr ⟨by omega, fun _ _ => rfl⟩)
  rw [hl ns h] at this
  exact this.h.2
end DL

/-! sorted: a list in order, the one such list. -/
namespace DL
open PySem PySem.Spec PyProof.Rows L2
open Enc (enc)
section
variable {α : Type} [Enc α] [DecidableEq α] [Pl α] [Srt α]
theorem dle_tot {α : Type} [Enc α] : PySem.W.TotalLe (dle (α := α)) := PySem.W.sortLe_total (listOrd itemOrd) false (fun b : α => PySem.W.keyToks (enc b))
theorem dle_anti {a b : α} (h1 : dle a b = true) (h2 : dle b a = true) : a = b := by
  have e1 : PySem.W.dataLt (enc b) (enc a) = false := by
    have : (!PySem.W.dataLt (enc b) (enc a)) = true := h1
    simpa using this
  have e2 : PySem.W.dataLt (enc a) (enc b) = false := by
    have : (!PySem.W.dataLt (enc a) (enc b)) = true := h2
    simpa using this
  have ek : PySem.W.keyToks (enc a) = PySem.W.keyToks (enc b) := lex_total _ _ e2 e1
  cases q : PyData.eqv (enc a) (enc b) with
  | true =>
    rw [Pl.eqv] at q
    exact of_decide_eq_true q
  | false =>
    have h := (PySem.W.toks_eqv (enc a) (enc b) (Srt.al a b)).2 q
    have h3 := h [] [Sum.inl 0]
    rw [ek, PySem.W.lex_pre, ← ek] at h3
    have h4 : PyProof.Rows.lexLt itemOrd (PySem.W.keyToks (enc a)) (PySem.W.keyToks (enc b)) = false := e2
    rw [ek, lex_irrefl] at h3
    cases h3
theorem srt_pw {α : Type} [Enc α] (l : List α) : (srt l).Pairwise (fun a b => dle a b = true) := PySem.W.sort_pairwise dle_tot l
theorem srt_uniq {l m : List α} (h : l.Perm m) : srt l = srt m :=
  List.Perm.eq_of_pairwise (le := fun a b => dle a b = true) (fun a b _ _ h1 h2 => dle_anti h1 h2) (srt_pw l) (srt_pw m) ((srt_perm l).trans (h.trans (srt_perm m).symm))
theorem srt_id {l : List α} (h : l.Pairwise (fun a b => dle a b = true)) : srt l = l :=
  List.Perm.eq_of_pairwise (le := fun a b => dle a b = true) (fun a b _ _ h1 h2 => dle_anti h1 h2) (srt_pw l) h (srt_perm l)
theorem srt_srt (l : List α) : srt (srt l) = srt l := srt_id (srt_pw l)
theorem srt_sub {l m : List α} (h : m.Sublist (srt l)) : srt m = m := srt_id ((srt_pw l).sublist h)
/-- lists with the same items, each once, sort alike -/
theorem srt_set {l m : List α} (hl : l.Nodup) (hm : m.Nodup) (h : ∀ a, a ∈ l ↔ a ∈ m) : srt l = srt m := srt_uniq ((List.perm_ext_iff_of_nodup hl hm).mpr h)
theorem srt_nodup {l : List α} (h : l.Nodup) : (srt l).Nodup := (srt_perm l).nodup_iff.mpr h
end
theorem dle_fst {β : Type} [Enc β] [DecidableEq β] [Pl β] [Srt β] {i j : Int} {x y : β} (h : dle (⟨i, x⟩ : T2 Int β) ⟨j, y⟩ = true) : i ≤ j := by
  have e1 : PySem.W.dataLt (.tuple [.int j, enc y]) (.tuple [.int i, enc x]) = false := by
    have : (!PySem.W.dataLt (.tuple [.int j, enc y]) (.tuple [.int i, enc x])) = true := h
    simpa using this
  rw [PySem.W.dataLt_pair (by simp [PySem.W.alike]) (Srt.al y x), PySem.W.dataLt_int] at e1
  simp only [PyData.eqv, beq_iff_eq] at e1
  by_cases hij : j = i
  · omega
  · rw [if_neg hij] at e1
    have := of_decide_eq_false e1
    omega
end DL

/-! Texts as lists of signs; comprehensions that draw. -/
namespace DL
open PySem PySem.Spec PyProof.Rows L2
abbrev wd (s : Str) : List Nat := s.cps.toList
theorem wd_inj {a b : Str} (h : wd a = wd b) : a = b := PySem.W.str_of_cps h
theorem wd_len (a : Str) : a.length = (wd a).length := by show a.cps.size = _; simp
theorem wd_cat (a b : Str) : wd (a ++ b) = wd a ++ wd b := by
  show (a.cps ++ b.cps).toList = _
  simp
theorem wd_cut (a : Str) (lo hi : Option Int) : wd (cutS a lo hi) = dCut (wd a) lo hi := by
  unfold cutS dCut
  rw [← wd_len]
theorem wd_join (ys : List Str) : wd (Txt.join ("" : Str) ys) = (ys.map wd).flatten := by
  have e0 : (("" : Str)).cps = #[] := by decide +kernel
  have key : ∀ (l : List Str) (acc : Array Nat), (l.foldl (fun acc p => acc ++ (("" : Str)).cps ++ p.cps) acc).toList = acc.toList ++ (l.map wd).flatten := by
    intro l
    induction l with
    | nil => intro acc; simp
    | cons y l ih =>
      intro acc
      rw [List.foldl_cons, ih, e0]
      simp [List.append_assoc]
  cases ys with
  | nil => rfl
  | cons y l =>
    show (l.foldl (fun acc p => acc ++ (("" : Str)).cps ++ p.cps) y.cps).toList = _
    rw [key]
    simp
theorem tCatS_ok {a b : Str} (h : (wd a).length + (wd b).length ≤ 16777216) : tCatS a b = .ok (a ++ b) := by
  unfold tCatS
  rw [rq_t (by rw [wd_len, wd_len]; exact h)]
theorem tIxS_nat {a : Str} {k c : Nat} (h : (wd a)[k]? = some c) : tIxS a (k : Int) = .ok ⟨#[c]⟩ := by
  unfold tIxS
  rw [atI_nat, h]
  rfl
def abc : Str := "abcdefghijklmnopqrstuvwxyz"
theorem abc_wd : wd abc = List.range' 97 26 := by decide +kernel
theorem abc_ix {i : Int} (h0 : 0 ≤ i) (h1 : i < 26) : tIxS ("abcdefghijklmnopqrstuvwxyz" : Str) i = .ok ⟨#[97 + i.toNat]⟩ := by
  obtain ⟨k, rfl⟩ := Int.eq_ofNat_of_zero_le h0
  refine tIxS_nat ?_
  show (wd abc)[k]? = _
  rw [abc_wd, List.getElem?_range' (by omega)]
  simp
theorem abc_in {c : Nat} (h0 : 97 ≤ c) (h1 : c < 123) : inS ⟨#[c]⟩ ("abcdefghijklmnopqrstuvwxyz" : Str) = true := by
  have : ∀ k : Fin 26, inS ⟨#[97 + k.val]⟩ ("abcdefghijklmnopqrstuvwxyz" : Str) = true := by decide +kernel
  have := this ⟨c - 97, by omega⟩
  simp only at this
  rw [show 97 + (c - 97) = c by omega] at this
  exact this
theorem cmpO_inv {ε σ α β : Type} {step : σ → α → X ε (Option β × σ)} (P : β → Prop) : ∀ (l : List α) (s : σ), (∀ a s, a ∈ l → ∃ b s', step s a = .ok (some b, s') ∧ P b) → ∃ bs s', cmpO step l s = .ok (bs, s') ∧ bs.length = l.length ∧ ∀ b ∈ bs, P b
  | [], s, _ => ⟨[], s, rfl, rfl, fun _ h => by cases h⟩
  | a :: l, s, st => by
    obtain ⟨b, s1, h1, h2⟩ := st a s List.mem_cons_self
    obtain ⟨bs, s2, h3, h4, h5⟩ := cmpO_inv P l s1 fun a s ha => st a s (List.mem_cons_of_mem _ ha)
    refine ⟨b :: bs, s2, ?_, by simp [h4], fun c hc => ?_⟩
    · rw [cmpO, h1, X.ok_b]
      show (cmpO step l s1 >>= fun v => X.ok (b :: v.1, v.2)) = _
      rw [h3]
      rfl
    · rcases List.mem_cons.mp hc with rfl | hc
      · exact h2
      · exact h5 c hc
theorem cmpO_sub {ε σ α : Type} {step : σ → α → X ε (Option α × σ)} : ∀ (l : List α) (s : σ), (∀ a s, a ∈ l → ∃ o s', step s a = .ok (o, s') ∧ (o = some a ∨ o = none)) → ∃ bs s', cmpO step l s = .ok (bs, s') ∧ bs.Sublist l
  | [], s, _ => ⟨[], s, rfl, List.Sublist.refl _⟩
  | a :: l, s, st => by
    obtain ⟨o, s1, h1, h2⟩ := st a s List.mem_cons_self
    obtain ⟨bs, s2, h3, h4⟩ := cmpO_sub l s1 fun a s ha => st a s (List.mem_cons_of_mem _ ha)
    rcases h2 with rfl | rfl
    · refine ⟨a :: bs, s2, ?_, h4.cons_cons a⟩
      rw [cmpO, h1, X.ok_b]
      show (cmpO step l s1 >>= fun v => X.ok (a :: v.1, v.2)) = _
      rw [h3]
      rfl
    · refine ⟨bs, s2, ?_, h4.cons a⟩
      rw [cmpO, h1, X.ok_b]
      show (cmpO step l s1 >>= fun v => X.ok (v.1, v.2)) = _
      rw [h3]
      rfl
end DL

/-! Reckoning with typed mirrors, more. -/
namespace DL
open PySem PySem.Spec PyProof.Rows L2
open Enc (enc)
theorem tComp_fil {α : Type} {p : α → X Unit Bool} {p' : α → Bool} {l : List α} (h : ∀ a ∈ l, p a = .ok (p' a)) : tComp (X.ok l) p (fun a => X.ok a) = .ok (l.filter p') := by
  show compT p (fun a => X.ok a) l = _
  rw [compT_ok (g' := fun a => a) h fun _ _ _ => rfl, List.map_id']
theorem tComp_map {α β : Type} {g : α → X Unit β} {g' : α → β} {l : List α} (h : ∀ a ∈ l, g a = .ok (g' a)) : tComp (X.ok l) (fun _ => X.ok true) g = .ok (l.map g') := compT_map h
theorem tComp_fm {α β : Type} {p : α → X Unit Bool} {p' : α → Bool} {g : α → X Unit β} {g' : α → β} {l : List α} (h : ∀ a ∈ l, p a = .ok (p' a)) (hg : ∀ a ∈ l, p' a = true → g a = .ok (g' a)) : tComp (X.ok l) p g = .ok ((l.filter p').map g') := compT_ok h hg
def isOk {α : Type} [DecidableEq α] (t : X Unit α) (a : α) : Bool := match t with
  | .ok b => decide (b = a)
  | _ => false
theorem isOk_eq {α : Type} [DecidableEq α] {t : X Unit α} {a : α} (h : isOk t a = true) : t = .ok a := by
  cases t with
  | ok b => rw [of_decide_eq_true (show decide (b = a) = true from h)]
  | ex x u => cases h
  | st => cases h
theorem isOk_ok {α : Type} [DecidableEq α] {a b : α} : isOk (.ok a) b = decide (a = b) := rfl
theorem forF_ex {ε σ α : Type} {step : σ → α → X ε σ} {a : α} {l : List α} {s : σ} {x : Exc} {u : ε} (h : step s a = .ex x u) : forF step (a :: l) s = .ex x u := by
  rw [forF_cons, h]
  rfl
theorem irng_map {β : Type} {n : Nat} {f : Int → β} {g : Nat → β} (h : ∀ k, k < n → f (k : Int) = g k) : (irng 0 (n : Int)).map f = (List.range n).map g := by
  unfold irng
  rw [List.map_map, show ((n : Int) - 0).toNat = n by omega]
  refine List.map_congr_left fun k hk => ?_
  show f (0 + (k : Int)) = g k
  rw [Int.zero_add]
  exact h k (List.mem_range.mp hk)
theorem irng_all {n : Nat} {p : Int → Bool} : (irng 0 (n : Int)).all p = (List.range n).all fun k => p (k : Int) := by
  unfold irng
  rw [List.all_map, show ((n : Int) - 0).toNat = n by omega]
  congr 1
  funext k
  show p (0 + (k : Int)) = _
  rw [Int.zero_add]
theorem irng_len0 {n : Nat} : (irng 0 (n : Int)).length = n := by
  unfold irng
  simp
theorem mem_irng0 {n : Nat} {i : Int} (h : i ∈ irng 0 (n : Int)) : ∃ k : Nat, k < n ∧ i = (k : Int) := by
  have := mem_irng.mp h
  exact ⟨i.toNat, by omega, by omega⟩
theorem popAt_ok {ε α : Type} {l : List α} {k : Nat} {a : α} (h : l[k]? = some a) (hl : l.length ≤ 1000000) : (popAt l (k : Int) : X ε (α × List α)) = .ok (a, l.eraseIdx k) := by
  have hk : k < l.length := (List.getElem?_eq_some_iff.mp h).1
  unfold popAt
  have h1 : (-4611686018427387904 : Int) ≤ (k : Int) ∧ (k : Int) < 4611686018427387904 := ⟨by omega, by omega⟩
  rw [rq_t h1]
  have : seqIndex? (k : Int) l.length = some k := by
    unfold seqIndex?
    simp only [show ¬ ((k : Int) < 0) by omega, if_false]
    rw [if_pos (by rw [Bool.and_eq_true, decide_eq_true_iff, decide_eq_true_iff]; omega), Int.toNat_natCast]
  rw [this]
  show X.of ((l[k]?).map fun a => (a, l.eraseIdx k)) = _
  rw [h]
  rfl
theorem tIx_mem {α : Type} {l : List α} {i : Int} (h0 : 0 ≤ i) (h1 : i < (l.length : Int)) : ∃ a, a ∈ l ∧ tIx l i = .ok a := by
  obtain ⟨k, rfl⟩ := Int.eq_ofNat_of_zero_le h0
  have hk : k < l.length := by omega
  exact ⟨l[k], List.getElem_mem hk, tIx_nat hk⟩
/-- a drawn one of a list -/
theorem pickX {α : Type} (P : Pool) {l : List α} (h0 : 0 < l.length) (h1 : l.length < 1000000) : ∃ a P', (xc2 (fun (pool_4 : Pool) => pool_4) (t__law_draw P (List.length l : Int)) fun (r3 : Int) (pool_4 : Pool) => (xb pool_4 (tIx l r3) fun (y5 : α) => (X.ok (y5, pool_4)))) = (.ok (a, P') : X Pool (α × Pool)) ∧ a ∈ l := by
  obtain ⟨r, P2, d, a0, a1⟩ := draw_spec P (n := (l.length : Int)) (by omega)
  obtain ⟨a, ha, e⟩ := tIx_mem a0 a1
  exact ⟨a, P2, by rw [d, xc2_ok, e, xb_ok], ha⟩
theorem xj_eq {ε σ ω : Type} {T : X ε (Lp σ ω)} {k : σ → X ε ω} {s : σ} (h : T = .ok (.nx s)) : xj T k = k s := by
  rw [h]
  rfl
theorem xj_rt {ε σ ω : Type} {T : X ε (Lp σ ω)} {k : σ → X ε ω} {w : ω} (h : T = .ok (.rt w)) : xj T k = .ok w := by
  rw [h]
  rfl
/-- a loop, by what holds while n turns are left -/
theorem forF_left {ε σ α : Type} {step : σ → α → X ε σ} (I : Nat → σ → Prop) (st : ∀ n s a, I (n + 1) s → ∃ s', step s a = .ok s' ∧ I n s') : ∀ (l : List α) (s : σ), I l.length s → ∃ s', forF step l s = .ok s' ∧ I 0 s'
  | [], s, h => ⟨s, rfl, h⟩
  | a :: l, s, h => by
    obtain ⟨s1, h1, h2⟩ := st l.length s a h
    obtain ⟨s2, h3, h4⟩ := forF_left I st l s1 h2
    exact ⟨s2, by rw [forF_cons, h1]; exact h3, h4⟩
end DL

/-! Shares: falling order, heaps, which are more even. -/
namespace DL
open PySem PySem.Spec PyProof.Rows L2
open Enc (enc)
theorem dle_int {a b : Int} (h : dle a b = true) : a ≤ b := by
  have e1 : PySem.W.dataLt (.int b) (.int a) = false := by
    have : (!PySem.W.dataLt (.int b) (.int a)) = true := h
    simpa using this
  rw [PySem.W.dataLt_int] at e1
  have := of_decide_eq_false e1
  omega
theorem dn_e (l : List Int) : (srt l).reverse = sortR l := by
  refine sortR_uniq ((List.reverse_perm _).trans (srt_perm l)) ?_
  rw [List.pairwise_reverse]
  exact (srt_pw l).imp fun h => dle_int h
theorem sortR_len (l : List Int) : (sortR l).length = l.length := (sortR_perm l).length_eq
theorem sortR_mem {l : List Int} {a : Int} : a ∈ sortR l ↔ a ∈ l := (sortR_perm l).mem_iff
theorem sortR_id {l : List Int} (h : l.Pairwise (· ≥ ·)) : sortR l = l := (sortR_uniq (List.Perm.refl _) h).symm
theorem sortR_idem (l : List Int) : sortR (sortR l) = sortR l := sortR_id (sortR_pw l)
theorem sortR_congr {l m : List Int} (h : l.Perm m) : sortR l = sortR m := sortR_uniq ((sortR_perm l).trans h) (sortR_pw l)
theorem sum_perm {l m : List Int} (h : l.Perm m) : l.sum = m.sum := by
  induction h with
  | nil => rfl
  | cons x _ ih => rw [List.sum_cons, List.sum_cons, ih]
  | swap x y l => simp only [List.sum_cons]; omega
  | trans _ _ h1 h2 => exact h1.trans h2
theorem sortR_sum (l : List Int) : (sortR l).sum = l.sum := sum_perm (sortR_perm l)
/-- what the k greatest have -/
def hp (l : List Int) (k : Nat) : Int := ((sortR l).take k).sum
def hps (l : List Int) : List Int := (List.range (l.length + 1)).map (hp l)
theorem hps_len (l : List Int) : (hps l).length = l.length + 1 := by simp [hps]
theorem hps_get {l : List Int} {k : Nat} (h : k ≤ l.length) : (hps l)[k]? = some (hp l k) := by
  unfold hps
  rw [List.getElem?_map, List.getElem?_range (by omega)]
  rfl
theorem hp_all (l : List Int) : hp l l.length = l.sum := by
  unfold hp
  rw [List.take_of_length_le (by rw [sortR_len]; exact Nat.le_refl _), sortR_sum]
theorem hp_sortR (l : List Int) : hp (sortR l) = hp l := by
  funext k
  unfold hp
  rw [sortR_idem]
/-- a is as even as b, or more -/
def Ev (a b : List Int) : Prop := a.length = b.length ∧ a.sum = b.sum ∧ ∀ k, k ≤ a.length → hp a k ≤ hp b k
def evB (a b : List Int) : Bool := decide (a.length = b.length) && (decide (a.sum = b.sum) && (List.range (a.length + 1)).all fun k => decide (hp a k ≤ hp b k))
theorem evB_iff {a b : List Int} : evB a b = true ↔ Ev a b := by
  unfold evB Ev
  rw [Bool.and_eq_true, Bool.and_eq_true, decide_eq_true_iff, decide_eq_true_iff, List.all_eq_true]
  refine and_congr_right fun _ => and_congr_right fun _ => ?_
  constructor
  · intro h k hk
    exact of_decide_eq_true (h k (List.mem_range.mpr (by omega)))
  · intro h k hk
    exact decide_eq_true (h k (by have := List.mem_range.mp hk; omega))
theorem evB_perm {a b c d : List Int} (h1 : a.Perm c) (h2 : b.Perm d) : evB a b = evB c d := by
  unfold evB
  have e1 : hp a = hp c := by funext k; unfold hp; rw [sortR_congr h1]
  have e2 : hp b = hp d := by funext k; unfold hp; rw [sortR_congr h2]
  rw [h1.length_eq, h2.length_eq, sum_perm h1, sum_perm h2, e1, e2]
theorem Ev.refl (a : List Int) : Ev a a := ⟨rfl, rfl, fun _ _ => Int.le_refl _⟩
theorem Ev.trans {a b c : List Int} (h1 : Ev a b) (h2 : Ev b c) : Ev a c :=
  ⟨h1.1.trans h2.1, h1.2.1.trans h2.2.1, fun k hk => Int.le_trans (h1.2.2 k hk) (h2.2.2 k (by rw [← h1.1]; exact hk))⟩
/-- what stands above t -/
def pt (t : Int) (l : List Int) : Int := (l.map fun x => max (x - t) 0).sum
theorem pt_perm {t : Int} {l m : List Int} (h : l.Perm m) : pt t l = pt t m := sum_perm (h.map _)
theorem pt_cons {t x : Int} {l : List Int} : pt t (x :: l) = max (x - t) 0 + pt t l := by simp [pt]
theorem pt_append {t : Int} {l m : List Int} : pt t (l ++ m) = pt t l + pt t m := by simp [pt, List.sum_append]
theorem pt_nonneg {t : Int} : ∀ l : List Int, 0 ≤ pt t l
  | [] => by simp [pt]
  | x :: l => by rw [pt_cons]; have := pt_nonneg (t := t) l; omega
theorem take_le {t : Int} : ∀ (S : List Int) (k : Nat), k ≤ S.length → (S.take k).sum ≤ (k : Int) * t + pt t S
  | S, 0, _ => by have := pt_nonneg (t := t) S; simp; omega
  | [], k + 1, h => by simp at h
  | x :: S, k + 1, h => by
    have := take_le (t := t) S k (by simpa using h)
    rw [List.take_succ_cons, List.sum_cons, pt_cons]
    have e : ((k + 1 : Nat) : Int) * t = (k : Int) * t + t := by rw [Int.natCast_succ, Int.add_mul, Int.one_mul]
    omega
theorem pt_zero {t : Int} : ∀ (S : List Int), (∀ x ∈ S, x ≤ t) → pt t S = 0
  | [], _ => by simp [pt]
  | x :: S, h => by
    rw [pt_cons, pt_zero S fun y hy => h y (List.mem_cons_of_mem _ hy)]
    have := h x List.mem_cons_self
    omega
theorem take_t : ∀ (S : List Int) (k : Nat) (c : Int), S.Pairwise (· ≥ ·) → (∀ x ∈ S, x ≤ c) → k ≤ S.length → ∃ t, t ≤ c ∧ (S.take k).sum = (k : Int) * t + pt t S
  | S, 0, c, _, hc, _ => ⟨c, Int.le_refl _, by rw [pt_zero S hc]; simp⟩
  | [], k + 1, c, _, _, h => by simp at h
  | x :: S, k + 1, c, hp, hc, h => by
    have hp := List.pairwise_cons.mp hp
    obtain ⟨t, h1, h2⟩ := take_t S k x hp.2 (fun y hy => hp.1 y hy) (by simpa using h)
    refine ⟨t, Int.le_trans h1 (hc x List.mem_cons_self), ?_⟩
    rw [List.take_succ_cons, List.sum_cons, pt_cons, h2]
    have e : ((k + 1 : Nat) : Int) * t = (k : Int) * t + t := by rw [Int.natCast_succ, Int.add_mul, Int.one_mul]
    omega
theorem pt_k {t : Int} : ∀ (S : List Int), S.Pairwise (· ≥ ·) → ∃ k, k ≤ S.length ∧ (S.take k).sum = (k : Int) * t + pt t S
  | [], _ => ⟨0, Nat.le_refl _, by simp [pt]⟩
  | x :: S, hp => by
    have hp := List.pairwise_cons.mp hp
    by_cases hx : x ≤ t
    · refine ⟨0, by simp, ?_⟩
      rw [pt_zero (x :: S)]
      · simp
      · intro y hy
        rcases List.mem_cons.mp hy with rfl | hy
        · exact hx
        · have := hp.1 y hy
          omega
    · obtain ⟨k, h1, h2⟩ := pt_k (t := t) S hp.2
      refine ⟨k + 1, by simpa using h1, ?_⟩
      rw [List.take_succ_cons, List.sum_cons, pt_cons, h2]
      have e : ((k + 1 : Nat) : Int) * t = (k : Int) * t + t := by rw [Int.natCast_succ, Int.add_mul, Int.one_mul]
      omega
theorem Ev.pt {a b : List Int} (h : Ev a b) (t : Int) : pt t a ≤ pt t b := by
  obtain ⟨k, h1, h2⟩ := pt_k (t := t) (sortR a) (sortR_pw a)
  rw [sortR_len] at h1
  have h3 := h.2.2 k h1
  have h4 := take_le (t := t) (sortR b) k (by rw [sortR_len, ← h.1]; exact h1)
  unfold hp at h3
  rw [pt_perm (sortR_perm a)] at h2
  rw [pt_perm (sortR_perm b)] at h4
  omega
theorem Ev.of_pt {a b : List Int} (h1 : a.length = b.length) (h2 : a.sum = b.sum) (h : ∀ t, DL.pt t a ≤ DL.pt t b) : Ev a b := by
  refine ⟨h1, h2, fun k hk => ?_⟩
  obtain ⟨c, hc⟩ : ∃ c : Int, ∀ x ∈ sortR b, x ≤ c := by
    generalize sortR b = l
    induction l with
    | nil => exact ⟨0, by simp⟩
    | cons x l ih =>
      obtain ⟨c, hc⟩ := ih
      refine ⟨max x c, fun y hy => ?_⟩
      rcases List.mem_cons.mp hy with rfl | hy
      · omega
      · have := hc y hy
        omega
  obtain ⟨t, _, h3⟩ := take_t (sortR b) k c (sortR_pw b) hc (by rw [sortR_len, ← h1]; exact hk)
  have h4 := take_le (t := t) (sortR a) k (by rw [sortR_len]; exact hk)
  rw [pt_perm (sortR_perm a)] at h4
  rw [pt_perm (sortR_perm b)] at h3
  have h5 := h t
  unfold hp
  omega
theorem Ev.append {a b : List Int} (h : Ev a b) (c : List Int) : Ev (a ++ c) (b ++ c) :=
  .of_pt (by simp [h.1]) (by simp [List.sum_append, h.2.1]) fun t => by
    rw [pt_append, pt_append]
    have := h.pt t
    omega
end DL

/-! Gifts of 1. -/
namespace DL
open PySem PySem.Spec PyProof.Rows L2
abbrev Dn (l : List Int) : Prop := l.Pairwise (· ≥ ·)
theorem Dn.le {l : List Int} (h : Dn l) {i j : Nat} (hij : i ≤ j) (hj : j < l.length) : l[j] ≤ l[i] := by
  rcases Nat.lt_or_ge i j with q | q
  · exact (List.pairwise_iff_getElem.mp h) i j (by omega) hj q
  · have : i = j := by omega
    subst this
    exact Int.le_refl _
theorem Dn.of {l : List Int} (h : ∀ i j (hi : i < j) (hj : j < l.length), l[j] ≤ l[i]) : Dn l := List.pairwise_iff_getElem.mpr fun i j hi hj hij => h i j hij hj
theorem sum_set : ∀ (l : List Int) (i : Nat) (x : Int) (h : i < l.length), (l.set i x).sum = l.sum - l[i] + x
  | [], i, x, h => by simp at h
  | a :: l, 0, x, h => by simp only [List.set_cons_zero, List.sum_cons, List.getElem_cons_zero]; omega
  | a :: l, i + 1, x, h => by
    have := sum_set l i x (by simpa using h)
    simp only [List.set_cons_succ, List.sum_cons, List.getElem_cons_succ, this]
    omega
/-- what is there behind a gift of 1 from j to i -/
def gift (l : List Int) (j i : Nat) : List Int := (l.set j (l.getD j 0 - 1)).set i ((l.set j (l.getD j 0 - 1)).getD i 0 + 1)
theorem gift_len {l : List Int} {j i : Nat} : (gift l j i).length = l.length := by simp [gift]
theorem getD_e {l : List Int} {i : Nat} (h : i < l.length) : l.getD i 0 = l[i] := by simp [List.getD_eq_getElem?_getD, List.getElem?_eq_getElem h]
theorem gift_e {l : List Int} {j i : Nat} (hj : j < l.length) (hi : i < l.length) (ne : j ≠ i) : gift l j i = (l.set j (l[j] - 1)).set i (l[i] + 1) := by
  unfold gift
  rw [getD_e hj, getD_e (by simpa using hi), List.getElem_set_ne ne]
theorem gift_get {l : List Int} {j i k : Nat} (hj : j < l.length) (hi : i < l.length) (ne : j ≠ i) (hk : k < l.length) : (gift l j i)[k]'(by rw [gift_len]; exact hk) = if k = i then l[i] + 1 else if k = j then l[j] - 1 else l[k] := by
  simp only [gift_e hj hi ne, List.getElem_set]
  by_cases h1 : i = k
  · subst h1
    simp
  · rw [if_neg h1, if_neg (Ne.symm h1)]
    by_cases h2 : j = k
    · subst h2
      simp
    · rw [if_neg h2, if_neg (Ne.symm h2)]
theorem take_set_sum {l : List Int} {i k : Nat} {x : Int} (h : i < l.length) : ((l.set i x).take k).sum = (l.take k).sum + if i < k then x - l[i] else 0 := by
  rw [List.take_set]
  by_cases hk : i < k
  · rw [sum_set _ _ _ (by rw [List.length_take]; omega), List.getElem_take, if_pos hk]
    omega
  · rw [List.set_eq_of_length_le (by rw [List.length_take]; omega), if_neg hk]
    omega
theorem gift_take {l : List Int} {j i k : Nat} (hj : j < l.length) (hi : i < l.length) (ne : j ≠ i) : ((gift l j i).take k).sum = (l.take k).sum - (if j < k then 1 else 0) + (if i < k then 1 else 0) := by
  rw [gift_e hj hi ne, take_set_sum (by simpa using hi), take_set_sum hj, List.getElem_set_ne ne]
  split <;> split <;> omega
theorem gift_sum {l : List Int} {j i : Nat} (hj : j < l.length) (hi : i < l.length) (ne : j ≠ i) : (gift l j i).sum = l.sum := by
  have := gift_take (k := l.length) hj hi ne
  rw [List.take_of_length_le (by rw [gift_len]; exact Nat.le_refl _), List.take_of_length_le (Nat.le_refl _), if_pos hj, if_pos hi] at this
  omega
theorem gift_lt {l : List Int} {j i : Nat} (hl : Dn l) (hj : j < l.length) (hi : i < l.length) (h : l[i] < l[j]) : j < i := by
  rcases Nat.lt_or_ge j i with q | q
  · exact q
  · have := hl.le q hj
    omega
/-- a gift makes shares more even -/
theorem gift_ev {l : List Int} {j i : Nat} (hl : Dn l) (hg : Dn (gift l j i)) (hj : j < l.length) (hi : i < l.length) (h : l[i] < l[j]) : Ev (gift l j i) l := by
  have lt := gift_lt hl hj hi h
  refine ⟨gift_len, gift_sum hj hi (by omega), fun k hk => ?_⟩
  unfold hp
  rw [sortR_id hg, sortR_id hl, gift_take hj hi (by omega)]
  split <;> split <;> omega
/-! ### the first and the last one -/
theorem fil_head {n : Nat} {p : Nat → Bool} (h : ∃ k, k < n ∧ p k = true) : ∃ i rest, (List.range n).filter p = i :: rest ∧ i < n ∧ p i = true ∧ ∀ k, k < i → p k = false := by
  cases q : (List.range n).filter p with
  | nil =>
    obtain ⟨k, hk, hp⟩ := h
    have := List.filter_eq_nil_iff.mp q k (List.mem_range.mpr hk)
    exact absurd hp this
  | cons i rest =>
    have hm : i ∈ (List.range n).filter p := by rw [q]; exact List.mem_cons_self
    obtain ⟨h1, h2⟩ := List.mem_filter.mp hm
    refine ⟨i, rest, rfl, List.mem_range.mp h1, h2, fun k hk => ?_⟩
    cases hp : p k with
    | false => rfl
    | true =>
      have hkm : k ∈ (List.range n).filter p := List.mem_filter.mpr ⟨List.mem_range.mpr (by have := List.mem_range.mp h1; omega), hp⟩
      have pw : ((List.range n).filter p).Pairwise (· < ·) := (List.pairwise_lt_range).sublist List.filter_sublist
      rw [q] at hkm pw
      rcases List.mem_cons.mp hkm with rfl | hr
      · omega
      · have := (List.pairwise_cons.mp pw).1 k hr
        omega
theorem fil_last {n : Nat} {p : Nat → Bool} (h : ∃ k, k < n ∧ p k = true) : ∃ init j, (List.range n).filter p = init ++ [j] ∧ j < n ∧ p j = true ∧ ∀ k, j < k → k < n → p k = false := by
  rcases List.eq_nil_or_concat ((List.range n).filter p) with q | ⟨init, j, q⟩
  · obtain ⟨k, hk, hp⟩ := h
    have := List.filter_eq_nil_iff.mp q k (List.mem_range.mpr hk)
    exact absurd hp this
  · rw [List.concat_eq_append] at q
    have hm : j ∈ (List.range n).filter p := by rw [q]; simp
    obtain ⟨h1, h2⟩ := List.mem_filter.mp hm
    refine ⟨init, j, q, List.mem_range.mp h1, h2, fun k hk hn => ?_⟩
    cases hp : p k with
    | false => rfl
    | true =>
      have hkm : k ∈ (List.range n).filter p := List.mem_filter.mpr ⟨List.mem_range.mpr hn, hp⟩
      have pw : ((List.range n).filter p).Pairwise (· < ·) := (List.pairwise_lt_range).sublist List.filter_sublist
      rw [q] at hkm pw
      rcases List.mem_append.mp hkm with hr | hr
      · have := (List.pairwise_append.mp pw).2.2 k hr j (by simp)
        omega
      · have := List.mem_singleton.mp hr
        omega
/-! ### the rule -/
theorem take_succ_sum {l : List Int} {k : Nat} (h : k < l.length) : (l.take (k + 1)).sum = (l.take k).sum + l[k] := by
  rw [List.take_succ_eq_append_getElem h, List.sum_append]
  simp
theorem take_mono {a b : List Int} (hl : a.length = b.length) : ∀ k, k ≤ a.length → (∀ m (h : m < k) (h1 : m < a.length) (h2 : m < b.length), a[m] ≤ b[m]) → (a.take k).sum ≤ (b.take k).sum
  | 0, _, _ => by simp
  | k + 1, hk, h => by
    have := take_mono hl k (by omega) fun m hm => h m (by omega)
    rw [take_succ_sum (by omega), take_succ_sum (by omega)]
    have := h k (by omega) (by omega) (by omega)
    omega
theorem take_mono_lt {a b : List Int} (hl : a.length = b.length) {j : Nat} (hja : j < a.length) (hjb : j < b.length) (hlt : a[j] < b[j]) : ∀ k, k ≤ a.length → j < k → (∀ m (h : m < k) (h1 : m < a.length) (h2 : m < b.length), a[m] ≤ b[m]) → (a.take k).sum < (b.take k).sum
  | 0, _, hjk, _ => by omega
  | k + 1, hk, hjk, h => by
    rw [take_succ_sum (by omega), take_succ_sum (by omega)]
    by_cases e : j = k
    · subst e
      have := take_mono hl j (by omega) fun m hm => h m (by omega)
      omega
    · have := take_mono_lt hl hja hjb hlt k (by omega) (by omega) fun m hm => h m (by omega)
      have := h k (by omega) (by omega) (by omega)
      omega
structure Way (aim have' : List Int) : Prop where
  len : have'.length = aim.length
  sum : have'.sum = aim.sum
  dom : ∀ k, k ≤ aim.length → (aim.take k).sum ≤ (have'.take k).sum
  dn : Dn have'
/-- how far it is -/
def far (aim h : List Int) : Int := ((List.range (aim.length + 1)).map fun k => (h.take k).sum - (aim.take k).sum).sum
theorem sum_le_map {α : Type} {f g : α → Int} : ∀ (l : List α), (∀ a ∈ l, f a ≤ g a) → (l.map f).sum ≤ (l.map g).sum
  | [], _ => by simp
  | a :: l, h => by
    have := sum_le_map l fun b hb => h b (List.mem_cons_of_mem _ hb)
    have := h a List.mem_cons_self
    simp only [List.map_cons, List.sum_cons]
    omega
theorem sum_lt_map {α : Type} {f g : α → Int} : ∀ (l : List α), (∀ a ∈ l, f a ≤ g a) → ∀ b, b ∈ l → f b < g b → (l.map f).sum < (l.map g).sum
  | [], _, b, hb, _ => by simp at hb
  | a :: l, h, b, hb, hlt => by
    have h1 := sum_le_map l fun b hb => h b (List.mem_cons_of_mem _ hb)
    have h2 := h a List.mem_cons_self
    simp only [List.map_cons, List.sum_cons]
    rcases List.mem_cons.mp hb with rfl | hb
    · omega
    · have := sum_lt_map l (fun b hb => h b (List.mem_cons_of_mem _ hb)) b hb hlt
      omega
theorem far_nonneg {aim h : List Int} (w : Way aim h) : 0 ≤ far aim h := by
  have := sum_le_map (f := fun _ => 0) (g := fun k => (h.take k).sum - (aim.take k).sum) (List.range (aim.length + 1)) fun k hk => by
    have := w.dom k (by have := List.mem_range.mp hk; omega)
    omega
  have e : ((List.range (aim.length + 1)).map fun _ => (0 : Int)).sum = 0 := by
    generalize List.range (aim.length + 1) = l
    induction l with
    | nil => rfl
    | cons a l ih => simp only [List.map_cons, List.sum_cons, ih]; rfl
  rw [e] at this
  exact this
theorem way_step {aim h : List Int} (ha : Dn aim) (w : Way aim h) (ne : h ≠ aim) : ∃ j i rest init, (List.range h.length).filter (fun k => decide (h.getD k 0 < aim.getD k 0)) = i :: rest ∧
    (List.range i).filter (fun k => decide (aim.getD k 0 < h.getD k 0)) = init ++ [j] ∧ j < i ∧ i < h.length ∧ h.getD i 0 + 2 ≤ h.getD j 0 ∧ Way aim (gift h j i) ∧ far aim (gift h j i) < far aim h := by
  have hl := w.len
  have ex1 : ∃ k, k < h.length ∧ decide (h.getD k 0 < aim.getD k 0) = true := by
    apply Classical.byContradiction
    intro hn
    have hn : ∀ k (hk : k < h.length), aim.getD k 0 ≤ h.getD k 0 := fun k hk => by
      apply Classical.byContradiction
      intro z
      exact hn ⟨k, hk, decide_eq_true (by omega)⟩
    have : ∃ k, ∃ (hk : k < h.length), aim.getD k 0 < h.getD k 0 := by
      apply Classical.byContradiction
      intro z
      refine ne (List.ext_getElem hl fun k h1 h2 => ?_)
      have e1 := hn k h1
      have e2 : ¬ aim.getD k 0 < h.getD k 0 := fun q => z ⟨k, h1, q⟩
      rw [getD_e h1, getD_e h2] at e1 e2
      omega
    obtain ⟨k, hk, hlt⟩ := this
    rw [getD_e hk, getD_e (by omega)] at hlt
    have := take_mono_lt hl.symm (by omega) hk hlt h.length (by omega) hk fun m _ h1 h2 => by
      have := hn m h2
      rw [getD_e h1, getD_e h2] at this
      exact this
    rw [List.take_of_length_le (by omega), List.take_of_length_le (by omega)] at this
    have := w.sum
    omega
  obtain ⟨i, rest, e1, hi, hpi, hbi⟩ := fil_head ex1
  have hpi := of_decide_eq_true hpi
  have hbi : ∀ k, k < i → aim.getD k 0 ≤ h.getD k 0 := fun k hk => by
    have := of_decide_eq_false (hbi k hk)
    omega
  have ex2 : ∃ k, k < i ∧ decide (aim.getD k 0 < h.getD k 0) = true := by
    apply Classical.byContradiction
    intro hn
    have hn : ∀ k, k < i → h.getD k 0 ≤ aim.getD k 0 := fun k hk => by
      apply Classical.byContradiction
      intro z
      exact hn ⟨k, hk, decide_eq_true (by omega)⟩
    have h1 := take_mono hl i (by omega) fun m hm h1 h2 => by
      have := hn m hm
      rw [getD_e h1, getD_e h2] at this
      exact this
    have h2 := w.dom (i + 1) (by omega)
    rw [take_succ_sum (by omega), take_succ_sum hi] at h2
    rw [getD_e hi, getD_e (by omega)] at hpi
    omega
  obtain ⟨init, j, e2, hj, hpj, hbj⟩ := fil_last ex2
  have hpj := of_decide_eq_true hpj
  have hbj : ∀ k, j < k → k < i → h.getD k 0 = aim.getD k 0 := fun k h1 h2 => by
    have := of_decide_eq_false (hbj k h1 h2)
    have := hbi k h2
    omega
  have hjl : j < h.length := by omega
  have hja : j < aim.length := by omega
  have hia : i < aim.length := by omega
  rw [getD_e hi, getD_e hia] at hpi
  rw [getD_e hjl, getD_e hja] at hpj
  have aj : aim[i] ≤ aim[j] := ha.le (by omega) hia
  have two : h[i] + 2 ≤ h[j] := by omega
  have nji : j ≠ i := by omega
  have gd : Dn (gift h j i) := by
    refine Dn.of fun p q hpq hq0 => ?_
    have hq : q < h.length := by rw [gift_len] at hq0; exact hq0
    rw [gift_get hjl hi nji hq, gift_get hjl hi nji (by omega : p < h.length)]
    have hpq' : h[q] ≤ h[p] := w.dn.le (by omega) hq
    by_cases c1 : q = i
    · subst c1
      rw [if_pos rfl, if_neg (by omega)]
      by_cases c2 : p = j
      · subst c2
        rw [if_pos rfl]
        omega
      · rw [if_neg c2]
        by_cases c3 : p < j
        · have := w.dn.le (show p ≤ j by omega) hjl
          omega
        · have e3 := hbj p (by omega) hpq
          rw [getD_e (by omega), getD_e (by omega)] at e3
          have := ha.le (show p ≤ q by omega) hia
          omega
    · rw [if_neg c1]
      by_cases c2 : q = j
      · subst c2
        rw [if_pos rfl, if_neg (by omega), if_neg (by omega)]
        omega
      · rw [if_neg c2]
        by_cases c3 : p = i
        · subst c3
          rw [if_pos rfl]
          omega
        · rw [if_neg c3]
          by_cases c4 : p = j
          · subst c4
            rw [if_pos rfl]
            by_cases c5 : q < i
            · have e3 := hbj q (by omega) c5
              rw [getD_e hq, getD_e (by omega)] at e3
              have := ha.le (show p ≤ q by omega) (show q < aim.length by omega)
              omega
            · have := w.dn.le (show i ≤ q by omega) hq
              omega
          · rw [if_neg c4]
            exact hpq'
  have str : ∀ k, j < k → k ≤ i → (aim.take k).sum < (h.take k).sum := fun k h1 h2 =>
    take_mono_lt hl.symm hja hjl hpj k (by omega) h1 fun m hm m1 m2 => by
      have := hbi m (by omega)
      rw [getD_e m1, getD_e m2] at this
      exact this
  refine ⟨j, i, rest, init, e1, e2, hj, hi, by rw [getD_e hi, getD_e hjl]; exact two, ⟨by rw [gift_len]; exact hl, by rw [gift_sum hjl hi nji]; exact w.sum, fun k hk => ?_, gd⟩, ?_⟩
  · rw [gift_take hjl hi nji]
    have := w.dom k hk
    by_cases c1 : j < k
    · by_cases c2 : i < k
      · rw [if_pos c1, if_pos c2]; omega
      · have := str k c1 (by omega)
        rw [if_pos c1, if_neg c2]
        omega
    · rw [if_neg c1, if_neg (by omega)]
      omega
  · refine sum_lt_map _ (fun k _ => ?_) i (List.mem_range.mpr (by omega)) ?_
    · rw [gift_take hjl hi nji]
      split <;> split <;> omega
    · rw [gift_take hjl hi nji, if_pos hj, if_neg (Nat.lt_irrefl _)]
      omega
/-- as even leads to a way -/
theorem Ev.way {a b : List Int} (h : Ev a b) : Way (sortR a) (sortR b) :=
  ⟨by rw [sortR_len, sortR_len, h.1], by rw [sortR_sum, sortR_sum, h.2.1], fun k hk => by
    have := h.2.2 k (by rw [sortR_len] at hk; exact hk)
    exact this, sortR_pw b⟩
end DL

noncomputable section
namespace DL.K51
open PySem PySem.Spec PyProof.Rows L2 DL DL.Lib
/-! ## The mirrors -/
def tab_WatchError : Str → Option Bool := tab [(("WatchError" : Str), true), (("InvalidNumber" : Str), true), (("TooMany" : Str), true)]
def tab_InvalidNumber : Str → Option Bool := tab [(("WatchError" : Str), false), (("InvalidNumber" : Str), true), (("TooMany" : Str), false)]
def tab_ValueError : Str → Option Bool := tab [(("WatchError" : Str), true), (("InvalidNumber" : Str), true), (("TooMany" : Str), true)]
def b_is_number : Env → R Fl :=
 cSeq (cIf (cOr (cTst (cIsi (isD "bool") (cVar 0))) (cNot (cTst (cIsi (isD "int") (cVar 0))))) (cRet (cK (.bool false))) (cNx))
 (cRet (cFrz (cChain dLe dLe (cVar 1) (cVar 0) (cVar 2))))
def m_is_number : List D → FR := runF true b_is_number 3 3
def b_checked_number : Env → R Fl :=
 cSeq (cIf (cNot (cTru (cMelt (cCall [.fz, .fz, .fz] [none, none, none] .fz m_is_number [] (cCons (cVar 0) (cCons (cVar 1) (cCons (cVar 2) (cNil)))))))) (cRaise ("InvalidNumber" : Str) (cFrz (c2 dAdd (cFrz (c2 dAdd (cFrz (c2 dAdd (cK (.str ("no number from " : Str))) (cFrz (cB dStrOf (cCons (cVar 1) (cNil)))))) (cK (.str (" to " : Str))))) (cFrz (cB dStrOf (cCons (cVar 2) (cNil))))))) (cNx))
 (cRet (cVar 0))
def m_checked_number : List D → FR := runF true b_checked_number 3 3
def b_evenest : Env → R Fl :=
 cSeq (cDrop (cMelt (cCall [.fz, .fz, .fz] [none] .fz m_checked_number [.int 0, .int 1000000] (cCons (cVar 0) (cNil)))))
 (cSeq (cIf (cNot (cTru (cMelt (cCall [.fz, .fz, .fz] [none, none, none] .fz m_is_number [] (cCons (cVar 1) (cCons (cK (.int 1)) (cCons (cK (.int 60)) (cNil)))))))) (cRaise ("InvalidNumber" : Str) (cK (.str ("nobody" : Str)))) (cNx))
 (cRet (cFrz (cComp [2] (cItR1 (cCons (cVar 1) (cNil))) (fSet 2) (cYes) (cFrz (c2 dAdd (cFrz (c2 dDiv (cVar 0) (cVar 1))) (cIf (cTst (c2 dLt (cVar 2) (cFrz (c2 dMod (cVar 0) (cVar 1))))) (cK (.int 1)) (cK (.int 0)))))))))
def m_evenest : List D → FR := runF true b_evenest 2 3
def b_checked_shares : Env → R Fl :=
 cSeq (cIf (cTst (c2 dGt (cFrz (cB dLen (cCons (cVar 0) (cNil)))) (cK (.int 60)))) (cRaise ("TooMany" : Str) (cK (.str ("shares" : Str)))) (cNx))
 (cRet (cFrz (cComp [1] (cItS (cVar 0)) (fSet 1) (cYes) (cMelt (cCall [.fz, .fz, .fz] [none] .fz m_checked_number [.int 0, .int 1000000] (cCons (cVar 1) (cNil)))))))
def m_checked_shares : List D → FR := runF true b_checked_shares 1 2
def l0_moved : Env → R Fl :=
 cSeq (cIf (cOr (cNot (cTru (cPlc 2))) (cTst (c2 dLt (cFrz (c2 dSub (cFrz (c2 dIx (cPlc 2) (cK (.int 0)))) (cFrz (c2 dIx (cPlc 2) (cFrz (c1 dNeg (cK (.int 1)))))))) (cK (.int 2))))) (cRet (cMelt (cMove 2))) (cNx))
 (cSeq (cAsg (cFrz (c2 dSub (cFrz (cMt "list" gCountL (cPlc 2) (cCons (cFrz (c2 dIx (cPlc 2) (cK (.int 0)))) (cNil)))) (cK (.int 1)))) (fSet 4))
 (cSeq (cAsg (cFrz (cMt "list" gIndexL (cPlc 2) (cCons (cFrz (c2 dIx (cPlc 2) (cFrz (c1 dNeg (cK (.int 1)))))) (cNil)))) (fSet 5))
 (cSeq (cStore 2 (cFrz (c2 dSub (cFrz (c2 dIx (cPlc 2) (cVar 4))) (cK (.int 1)))) (cVar 4))
 (cStore 2 (cFrz (c2 dAdd (cFrz (c2 dIx (cPlc 2) (cVar 5))) (cK (.int 1)))) (cVar 5)))))
def s1_moved : Env → R Fl :=
 cSetO 2 (cOwn (cB dSortR (cCons (cMelt (cCall [.fz] [none] .fz m_checked_shares [] (cCons (cVar 0) (cNil)))) (cNil))))
def s2_moved : Env → R Fl :=
 cDrop (cMelt (cCall [.fz, .fz, .fz] [none] .fz m_checked_number [.int 0, .int 1000000] (cCons (cVar 1) (cNil))))
def b_moved : Env → R Fl :=
 cSeq (s1_moved)
 (cSeq (s2_moved)
 (cSeq (cFor (cItR1 (cCons (cVar 1) (cNil))) (fSet 3) (l0_moved))
 (cRet (cMelt (cMove 2)))))
def m_moved : List D → FR := runF true b_moved 2 6
def b__law_down : Env → R Fl :=
 cRetO (cOwn (cLrev (cFrz (cB dSorted (cCons (cVar 0) (cNil))))))
def m__law_down : List D → FR := runF false b__law_down 1 1
def l0__law_reached : Env → R Fl :=
 cIf (cAnd (cTst (c2 dNe (cVar 7) (cVar 8))) (cTst (c2 dGt (cFrz (c2 dIx (cVar 6) (cVar 7))) (cK (.int 0))))) (cSeq (cSetO 9 (cOwn (cB dList (cCons (cVar 6) (cNil)))))
 (cSeq (cStore 9 (cFrz (c2 dSub (cFrz (c2 dIx (cPlc 9) (cVar 7))) (cK (.int 1)))) (cVar 7))
 (cSeq (cStore 9 (cFrz (c2 dAdd (cFrz (c2 dIx (cPlc 9) (cVar 8))) (cK (.int 1)))) (cVar 8))
 (cSeq (cSetO 9 (cCall [.fz] [some 9] (.lst .fz) m__law_down [] (cCons (cPlc 9) (cNil))))
 (cIf (cAnd (cTst (c2 dNotIn (cPlc 9) (cVar 2))) (cTst (c2 dNotIn (cPlc 9) (cPlc 5)))) (cDrop (cMut 5 gApp (cCons (cMelt (cMove 9)) (cNil)))) (cNx)))))) (cNx)
def l1__law_reached : Env → R Fl :=
 cFor (cItR1 (cCons (cFrz (cB dLen (cCons (cVar 6) (cNil)))) (cNil))) (fSet 8) (l0__law_reached)
def l2__law_reached : Env → R Fl :=
 cFor (cItR1 (cCons (cFrz (cB dLen (cCons (cVar 6) (cNil)))) (cNil))) (fSet 7) (l1__law_reached)
def l3__law_reached : Env → R Fl :=
 cSeq (cSetO 5 (cOwn (cLst (cNil))))
 (cSeq (cFor (cItS (cVar 3)) (fSet 6) (l2__law_reached))
 (cSeq (cAsg (cFrz (c2 dAdd (cVar 2) (cPlc 5))) (fSet 2))
 (cAsg (cMelt (cMove 5)) (fSet 3))))
def s4__law_reached : Env → R Fl :=
 cAsg (cFrz (cLst (cCons (cMelt (cCall [.fz] [none] (.lst .fz) m__law_down [] (cCons (cVar 0) (cNil)))) (cNil)))) (fSet 2)
def s5__law_reached : Env → R Fl :=
 cFor (cItR1 (cCons (cVar 1) (cNil))) (fSet 4) (l3__law_reached)
def b__law_reached : Env → R Fl :=
 cSeq (s4__law_reached)
 (cSeq (cAsg (cVar 2) (fSet 3))
 (cSeq (s5__law_reached)
 (cRet (cVar 2))))
def m__law_reached : List D → FR := runF true b__law_reached 2 10
def s0_steps_to_even : Env → R Fl :=
 cAsg (cFrz (cB dSortR (cCons (cMelt (cCall [.fz] [none] .fz m_checked_shares [] (cCons (cVar 0) (cNil)))) (cNil)))) (fSet 1)
def s1_steps_to_even : Env → R Fl :=
 cAsg (cMelt (cCall [.fz, .fz] [none, none] .fz m_evenest [] (cCons (cFrz (cB dSum (cCons (cVar 1) (cNil)))) (cCons (cFrz (cB dLen (cCons (cVar 1) (cNil)))) (cNil))))) (fSet 2)
def s2_steps_to_even : Env → R Fl :=
 cRet (cFrz (cB dSum (cCons (cFrz (cComp [3] (cItR1 (cCons (cFrz (cB dLen (cCons (cVar 1) (cNil)))) (cNil))) (fSet 3) (cYes) (cFrz (cB dMax (cCons (cK (.int 0)) (cCons (cFrz (c2 dSub (cFrz (c2 dIx (cVar 1) (cVar 3))) (cFrz (c2 dIx (cVar 2) (cVar 3))))) (cNil))))))) (cNil))))
def b_steps_to_even : Env → R Fl :=
 cSeq (s0_steps_to_even)
 (cSeq (cIf (cNot (cTru (cVar 1))) (cRet (cK (.int 0))) (cNx))
 (cSeq (s1_steps_to_even)
 (s2_steps_to_even)))
def m_steps_to_even : List D → FR := runF true b_steps_to_even 1 4
def b_gap : Env → R Fl :=
 cSeq (cAsg (cMelt (cCall [.fz] [none] .fz m_checked_shares [] (cCons (cVar 0) (cNil)))) (fSet 1))
 (cRet (cIf (cTru (cVar 1)) (cFrz (c2 dSub (cFrz (cB dMax (cCons (cVar 1) (cNil)))) (cFrz (cB dMin (cCons (cVar 1) (cNil)))))) (cK (.int 0))))
def m_gap : List D → FR := runF true b_gap 1 2
def b__law_heaps : Env → R Fl :=
 cSeq (cAsg (cMelt (cCall [.fz] [none] (.lst .fz) m__law_down [] (cCons (cVar 0) (cNil)))) (fSet 1))
 (cRet (cFrz (cComp [2] (cItR1 (cCons (cFrz (c2 dAdd (cFrz (cB dLen (cCons (cVar 1) (cNil)))) (cK (.int 1)))) (cNil))) (fSet 2) (cYes) (cFrz (cB dSum (cCons (cFrz (cSl (cVar 1) (cPartN) (cPart (cVar 2)))) (cNil)))))))
def m__law_heaps : List D → FR := runF true b__law_heaps 1 3
def s0__law_evener : Env → R Fl :=
 cAsg (cMelt (cCall [.fz] [none] .fz m__law_heaps [] (cCons (cVar 0) (cNil)))) (fSet 2)
def s1__law_evener : Env → R Fl :=
 cAsg (cMelt (cCall [.fz] [none] .fz m__law_heaps [] (cCons (cVar 1) (cNil)))) (fSet 3)
def s2__law_evener : Env → R Fl :=
 cIf (cOr (cTst (c2 dNe (cFrz (cB dLen (cCons (cVar 2) (cNil)))) (cFrz (cB dLen (cCons (cVar 3) (cNil)))))) (cTst (c2 dNe (cFrz (c2 dIx (cVar 2) (cFrz (c2 dSub (cFrz (cB dLen (cCons (cVar 2) (cNil)))) (cK (.int 1)))))) (cFrz (c2 dIx (cVar 3) (cFrz (c2 dSub (cFrz (cB dLen (cCons (cVar 3) (cNil)))) (cK (.int 1))))))))) (cRet (cK (.bool false))) (cNx)
def s3__law_evener : Env → R Fl :=
 cRet (cFrz (c2 dEq (cFrz (cB dLen (cCons (cFrz (cComp [4] (cItR1 (cCons (cFrz (cB dLen (cCons (cVar 2) (cNil)))) (cNil))) (fSet 4) (cTst (c2 dGt (cFrz (c2 dIx (cVar 2) (cVar 4))) (cFrz (c2 dIx (cVar 3) (cVar 4))))) (cVar 4))) (cNil)))) (cK (.int 0))))
def b__law_evener : Env → R Fl :=
 cSeq (s0__law_evener)
 (cSeq (s1__law_evener)
 (cSeq (s2__law_evener)
 (s3__law_evener)))
def m__law_evener : List D → FR := runF true b__law_evener 2 5
def l0_heaped : Env → R Fl :=
 cDrop (cMut 1 gApp (cCons (cFrz (c2 dAdd (cFrz (c2 dIx (cPlc 1) (cFrz (c1 dNeg (cK (.int 1)))))) (cVar 2))) (cNil)))
def b_heaped : Env → R Fl :=
 cSeq (cSetO 1 (cOwn (cLst (cCons (cK (.int 0)) (cNil)))))
 (cSeq (cFor (cItS (cFrz (cB dSortR (cCons (cMelt (cCall [.fz] [none] .fz m_checked_shares [] (cCons (cVar 0) (cNil)))) (cNil))))) (fSet 2) (l0_heaped))
 (cRet (cMelt (cMove 1))))
def m_heaped : List D → FR := runF true b_heaped 1 3
def s0_is_evener : Env → R Fl :=
 cAsg (cMelt (cCall [.fz] [none] .fz m_heaped [] (cCons (cVar 0) (cNil)))) (fSet 2)
def s1_is_evener : Env → R Fl :=
 cAsg (cMelt (cCall [.fz] [none] .fz m_heaped [] (cCons (cVar 1) (cNil)))) (fSet 3)
def s2_is_evener : Env → R Fl :=
 cIf (cOr (cTst (c2 dNe (cFrz (cB dLen (cCons (cVar 2) (cNil)))) (cFrz (cB dLen (cCons (cVar 3) (cNil)))))) (cTst (c2 dNe (cFrz (c2 dIx (cVar 2) (cFrz (c1 dNeg (cK (.int 1)))))) (cFrz (c2 dIx (cVar 3) (cFrz (c1 dNeg (cK (.int 1))))))))) (cRet (cK (.bool false))) (cNx)
def s3_is_evener : Env → R Fl :=
 cRet (cFrz (cB dAll (cCons (cFrz (cComp [4] (cItR1 (cCons (cFrz (cB dLen (cCons (cVar 2) (cNil)))) (cNil))) (fSet 4) (cYes) (cFrz (c2 dLe (cFrz (c2 dIx (cVar 2) (cVar 4))) (cFrz (c2 dIx (cVar 3) (cVar 4))))))) (cNil))))
def b_is_evener : Env → R Fl :=
 cSeq (s0_is_evener)
 (cSeq (s1_is_evener)
 (cSeq (s2_is_evener)
 (s3_is_evener)))
def m_is_evener : List D → FR := runF true b_is_evener 2 5
def b_joined : Env → R Fl :=
 cRet (cFrz (cB dSortR (cCons (cMelt (cCall [.fz] [none] .fz m_checked_shares [] (cCons (cFrz (c2 dAdd (cFrz (cB dList (cCons (cVar 0) (cNil)))) (cFrz (cB dList (cCons (cVar 1) (cNil)))))) (cNil)))) (cNil))))
def m_joined : List D → FR := runF true b_joined 2 2
def b__law_refused : Env → R Fl :=
 cSeq (cTryAs 2 tab_WatchError (cDrop (cMelt (cCall [.fz, .fz] [none, none] .fz m_evenest [] (cCons (cVar 0) (cCons (cVar 1) (cNil)))))) (cRet (cAndV (cFrz (cIsE 2 tab_InvalidNumber)) (cFrz (cIsE 2 tab_ValueError)))))
 (cRet (cK (.bool false)))
def m__law_refused : List D → FR := runF true b__law_refused 2 3
def b_squares : Env → R Fl :=
 cRet (cFrz (cB dSum (cCons (cFrz (cComp [1] (cItS (cMelt (cCall [.fz] [none] .fz m_checked_shares [] (cCons (cVar 0) (cNil))))) (fSet 1) (cYes) (cFrz (c2 dMul (cVar 1) (cVar 1))))) (cNil))))
def m_squares : List D → FR := runF true b_squares 1 2
def l0_uneven : Env → R Fl :=
 cAsg (cFrz (c2 dAdd (cVar 2) (cFrz (cB dSum (cCons (cFrz (cComp [4] (cItS (cFrz (cSl (cVar 1) (cPartN) (cPart (cVar 3))))) (fSet 4) (cYes) (cFrz (cB dAbs (cCons (cFrz (c2 dSub (cFrz (c2 dIx (cVar 1) (cVar 3))) (cVar 4))) (cNil)))))) (cNil)))))) (fSet 2)
def s1_uneven : Env → R Fl :=
 cAsg (cMelt (cCall [.fz] [none] .fz m_checked_shares [] (cCons (cVar 0) (cNil)))) (fSet 1)
def s2_uneven : Env → R Fl :=
 cFor (cItR1 (cCons (cFrz (cB dLen (cCons (cVar 1) (cNil)))) (cNil))) (fSet 3) (l0_uneven)
def b_uneven : Env → R Fl :=
 cSeq (s1_uneven)
 (cSeq (cAsg (cK (.int 0)) (fSet 2))
 (cSeq (s2_uneven)
 (cRet (cVar 2))))
def m_uneven : List D → FR := runF true b_uneven 1 5
def l0__law_uneven : Env → R Fl :=
 cAsg (cFrz (c2 dAdd (cVar 1) (cFrz (cB dSum (cCons (cFrz (cComp [3] (cItR1 (cCons (cVar 2) (cNil))) (fSet 3) (cYes) (cFrz (cB dAbs (cCons (cFrz (c2 dSub (cFrz (c2 dIx (cVar 0) (cVar 2))) (cFrz (c2 dIx (cVar 0) (cVar 3))))) (cNil)))))) (cNil)))))) (fSet 1)
def b__law_uneven : Env → R Fl :=
 cSeq (cAsg (cK (.int 0)) (fSet 1))
 (cSeq (cFor (cItR1 (cCons (cFrz (cB dLen (cCons (cVar 0) (cNil)))) (cNil))) (fSet 2) (l0__law_uneven))
 (cRet (cVar 1)))
def m__law_uneven : List D → FR := runF true b__law_uneven 1 4
def l0_law : Env → R Fl :=
 cSeq (cIf (cAnd (cTru (cMelt (cCall [.fz, .fz] [none, none] .fz m__law_evener [] (cCons (cVar 12) (cCons (cVar 2) (cNil)))))) (cOr (cTst (c2 dGt (cMelt (cCall [.fz] [none] .fz m_squares [] (cCons (cVar 12) (cNil)))) (cMelt (cCall [.fz] [none] .fz m_squares [] (cCons (cVar 2) (cNil)))))) (cTst (c2 dGt (cMelt (cCall [.fz] [none] .fz m_uneven [] (cCons (cVar 12) (cNil)))) (cMelt (cCall [.fz] [none] .fz m_uneven [] (cCons (cVar 2) (cNil)))))))) (cRet (cK (.bool false))) (cNx))
 (cIf (cAnd (cTru (cMelt (cCall [.fz, .fz] [none, none] .fz m_is_evener [] (cCons (cVar 12) (cCons (cVar 2) (cNil)))))) (cNot (cTru (cMelt (cCall [.fz, .fz] [none, none] .fz m__law_evener [] (cCons (cMelt (cCall [.fz, .fz] [none, none] .fz m_joined [] (cCons (cVar 12) (cCons (cVar 11) (cNil))))) (cCons (cMelt (cCall [.fz, .fz] [none, none] .fz m_joined [] (cCons (cVar 2) (cCons (cVar 11) (cNil))))) (cNil)))))))) (cRet (cK (.bool false))) (cNx))
def s1_law : Env → R Fl :=
 cSetO 1 (cCall [.fz] [none] (.lst .fz) m__law_pool [] (cCons (cVar 0) (cNil)))
def s2_law : Env → R Fl :=
 cAsg (cFrz (cComp [13] (cItR1 (cCons (cMelt (cCall [(.lst .fz), .fz] [some 1, none] .fz m__law_draw [] (cCons (cOwnV 1) (cCons (cK (.int 5)) (cNil))))) (cNil))) (fSet 13) (cYes) (cMelt (cCall [(.lst .fz), .fz] [some 1, none] .fz m__law_draw [] (cCons (cOwnV 1) (cCons (cK (.int 7)) (cNil))))))) (fSet 2)
def s3_law : Env → R Fl :=
 cIf (cNot (cTru (cMelt (cCall [.fz, .fz] [none, none] .fz (m__law_same 12) [] (cCons (cMelt (cCall [.fz] [none] .fz m_gap [] (cCons (cVar 2) (cNil)))) (cCons (cIf (cTst (c2 dGt (cFrz (cB dLen (cCons (cVar 2) (cNil)))) (cK (.int 0)))) (cFrz (c2 dSub (cFrz (cB dMax (cCons (cVar 2) (cNil)))) (cFrz (cB dMin (cCons (cVar 2) (cNil)))))) (cK (.int 0))) (cNil))))))) (cRet (cK (.bool false))) (cNx)
def s4_law : Env → R Fl :=
 cIf (cOr (cNot (cTru (cMelt (cCall [.fz, .fz] [none, none] .fz (m__law_same 12) [] (cCons (cMelt (cCall [.fz] [none] .fz m_squares [] (cCons (cVar 2) (cNil)))) (cCons (cFrz (cB dSum (cCons (cFrz (cComp [14] (cItS (cVar 2)) (fSet 14) (cYes) (cFrz (c2 dMul (cVar 14) (cVar 14))))) (cNil)))) (cNil))))))) (cNot (cTru (cMelt (cCall [.fz, .fz] [none, none] .fz (m__law_same 12) [] (cCons (cMelt (cCall [.fz] [none] .fz m_uneven [] (cCons (cVar 2) (cNil)))) (cCons (cMelt (cCall [.fz] [none] .fz m__law_uneven [] (cCons (cVar 2) (cNil)))) (cNil)))))))) (cRet (cK (.bool false))) (cNx)
def s5_law : Env → R Fl :=
 cAsg (cMelt (cCall [(.lst .fz), .fz] [some 1, none] .fz m__law_draw [] (cCons (cOwnV 1) (cCons (cK (.int 60)) (cNil))))) (fSet 3)
def s6_law : Env → R Fl :=
 cAsg (cFrz (c2 dAdd (cK (.int 1)) (cMelt (cCall [(.lst .fz), .fz] [some 1, none] .fz m__law_draw [] (cCons (cOwnV 1) (cCons (cK (.int 9)) (cNil))))))) (fSet 4)
def s7_law : Env → R Fl :=
 cAsg (cMelt (cCall [.fz, .fz] [none, none] .fz m_evenest [] (cCons (cVar 3) (cCons (cVar 4) (cNil))))) (fSet 5)
def s8_law : Env → R Fl :=
 cIf (cOr (cTst (c2 dNe (cFrz (cB dLen (cCons (cVar 5) (cNil)))) (cVar 4))) (cOr (cTst (c2 dNe (cFrz (cB dSum (cCons (cVar 5) (cNil)))) (cVar 3))) (cOr (cTst (c2 dNe (cVar 5) (cMelt (cCall [.fz] [none] (.lst .fz) m__law_down [] (cCons (cVar 5) (cNil)))))) (cTst (c2 dGt (cFrz (c2 dSub (cFrz (c2 dIx (cVar 5) (cK (.int 0)))) (cFrz (c2 dIx (cVar 5) (cFrz (c2 dSub (cVar 4) (cK (.int 1)))))))) (cK (.int 1))))))) (cRet (cK (.bool false))) (cNx)
def s9_law : Env → R Fl :=
 cAsg (cMelt (cCall [(.lst .fz), .fz] [some 1, none] .fz m__law_draw [] (cCons (cOwnV 1) (cCons (cK (.int 4)) (cNil))))) (fSet 6)
def s10_law : Env → R Fl :=
 cAsg (cMelt (cCall [.fz, .fz] [none, none] .fz m_moved [] (cCons (cFrz (cB dList (cCons (cVar 2) (cNil)))) (cCons (cVar 6) (cNil))))) (fSet 7)
def s11_law : Env → R Fl :=
 cAsg (cMelt (cCall [.fz, .fz] [none, none] .fz m__law_reached [] (cCons (cVar 2) (cCons (cVar 6) (cNil))))) (fSet 8)
def s12_law : Env → R Fl :=
 cIf (cOr (cTst (c2 dNotIn (cVar 7) (cVar 8))) (cTst (c2 dGt (cFrz (cB dLen (cCons (cFrz (cComp [12] (cItS (cVar 8)) (fSet 12) (cNot (cTru (cMelt (cCall [.fz, .fz] [none, none] .fz m__law_evener [] (cCons (cVar 7) (cCons (cVar 12) (cNil))))))) (cVar 12))) (cNil)))) (cK (.int 0))))) (cRet (cK (.bool false))) (cNx)
def s13_law : Env → R Fl :=
 cIf (cTst (c2 dGt (cFrz (cB dLen (cCons (cVar 2) (cNil)))) (cK (.int 0)))) (cSeq (cAsg (cMelt (cCall [.fz] [none] (.lst .fz) m__law_down [] (cCons (cMelt (cCall [.fz, .fz] [none, none] .fz m_evenest [] (cCons (cFrz (cB dSum (cCons (cVar 2) (cNil)))) (cCons (cFrz (cB dLen (cCons (cVar 2) (cNil)))) (cNil))))) (cNil)))) (fSet 9))
 (cSeq (cAsg (cMelt (cCall [.fz] [none] .fz m_steps_to_even [] (cCons (cVar 2) (cNil)))) (fSet 10))
 (cSeq (cIf (cOr (cTst (cIsi (isD "bool") (cVar 10))) (cOr (cTst (c2 dLt (cVar 10) (cK (.int 0)))) (cTst (c2 dGt (cVar 10) (cK (.int 30)))))) (cRet (cK (.bool false))) (cNx))
 (cSeq (cIf (cOr (cAnd (cTst (c2 dLt (cVar 10) (cK (.int 4)))) (cTst (c2 dNotIn (cVar 9) (cMelt (cCall [.fz, .fz] [none, none] .fz m__law_reached [] (cCons (cVar 2) (cCons (cVar 10) (cNil)))))))) (cAnd (cTst (c2 dGt (cVar 10) (cK (.int 0)))) (cTst (c2 dIn (cVar 9) (cMelt (cCall [.fz, .fz] [none, none] .fz m__law_reached [] (cCons (cVar 2) (cCons (cFrz (cB dMin (cCons (cK (.int 3)) (cCons (cFrz (c2 dSub (cVar 10) (cK (.int 1)))) (cNil))))) (cNil))))))))) (cRet (cK (.bool false))) (cNx))
 (cIf (cOr (cNot (cTru (cMelt (cCall [.fz, .fz] [none, none] .fz (m__law_same 12) [] (cCons (cMelt (cCall [.fz, .fz] [none, none] .fz m_moved [] (cCons (cVar 2) (cCons (cVar 10) (cNil))))) (cCons (cVar 9) (cNil))))))) (cAnd (cTst (c2 dGt (cVar 10) (cK (.int 0)))) (cTst (c2 dEq (cMelt (cCall [.fz, .fz] [none, none] .fz m_moved [] (cCons (cVar 2) (cCons (cFrz (c2 dSub (cVar 10) (cK (.int 1)))) (cNil))))) (cVar 9))))) (cRet (cK (.bool false))) (cNx)))))) (cIf (cOr (cTst (c2 dNe (cMelt (cCall [.fz] [none] .fz m_steps_to_even [] (cCons (cVar 2) (cNil)))) (cK (.int 0)))) (cTst (c2 dNe (cMelt (cCall [.fz, .fz] [none, none] .fz m_moved [] (cCons (cVar 2) (cCons (cK (.int 3)) (cNil))))) (cFrz (cLst (cNil)))))) (cRet (cK (.bool false))) (cNx))
def s14_law : Env → R Fl :=
 cAsg (cFrz (cComp [13] (cItR1 (cCons (cFrz (cB dLen (cCons (cVar 2) (cNil)))) (cNil))) (fSet 13) (cYes) (cMelt (cCall [(.lst .fz), .fz] [some 1, none] .fz m__law_draw [] (cCons (cOwnV 1) (cCons (cK (.int 7)) (cNil))))))) (fSet 11)
def s15_law : Env → R Fl :=
 cIf (cNot (cTru (cMelt (cCall [.fz, .fz] [none, none] .fz (m__law_same 12) [] (cCons (cMelt (cCall [.fz, .fz] [none, none] .fz m_joined [] (cCons (cVar 2) (cCons (cVar 11) (cNil))))) (cCons (cMelt (cCall [.fz] [none] (.lst .fz) m__law_down [] (cCons (cFrz (c2 dAdd (cVar 2) (cVar 11))) (cNil)))) (cNil))))))) (cRet (cK (.bool false))) (cNx)
def s16_law : Env → R Fl :=
 cIf (cOr (cNot (cTru (cMelt (cCall [.fz, .fz] [none, none] .fz m__law_refused [] (cCons (cMelt (cCall [(.lst .fz), .fz] [some 1, none] .fz m__law_pick [] (cCons (cOwnV 1) (cCons (cFrz (cLst (cCons (cFrz (c1 dNeg (cK (.int 1)))) (cCons (cK (.int 1000001)) (cCons (cK (.bool true)) (cNil)))))) (cNil))))) (cCons (cK (.int 5)) (cNil))))))) (cNot (cTru (cMelt (cCall [.fz, .fz] [none, none] .fz m__law_refused [] (cCons (cK (.int 5)) (cCons (cMelt (cCall [(.lst .fz), .fz] [some 1, none] .fz m__law_pick [] (cCons (cOwnV 1) (cCons (cFrz (cLst (cCons (cK (.int 0)) (cCons (cK (.int 61)) (cCons (cFrz (c1 dNeg (cK (.int 1)))) (cCons (cK (.bool true)) (cNil))))))) (cNil))))) (cNil)))))))) (cRet (cK (.bool false))) (cNx)
def s17_law : Env → R Fl :=
 cRet (cMelt (cCall [.fz, .fz] [none, none] .fz (m__law_same 12) [] (cCons (cMelt (cCall [.fz] [none] .fz m_steps_to_even [] (cCons (cFrz (cLst (cNil))) (cNil)))) (cCons (cK (.int 0)) (cNil)))))
def b_law : Env → R Fl :=
 cSeq (s1_law)
 (cSeq (s2_law)
 (cSeq (s3_law)
 (cSeq (s4_law)
 (cSeq (s5_law)
 (cSeq (s6_law)
 (cSeq (s7_law)
 (cSeq (s8_law)
 (cSeq (s9_law)
 (cSeq (s10_law)
 (cSeq (s11_law)
 (cSeq (s12_law)
 (cSeq (s13_law)
 (cSeq (s14_law)
 (cSeq (cFor (cItS (cVar 8)) (fSet 12) (l0_law))
 (cSeq (s15_law)
 (cSeq (s16_law)
 (s17_law)))))))))))))))))
def m_law : List D → FR := runF true b_law 1 15
end DL.K51
end

noncomputable section
namespace DL.K51
open PySem PySem.Spec PyProof.Rows L2 DL DL.Lib
open DL.Enc (enc)
def t_is_number (p_value : Int) (p_least : Int) (p_most : Int) : X Unit Bool :=
 (if ((false) || (!(true))) = true then
 (X.ok false)
 else
 (X.ok ((decide (p_least ≤ p_value)) && (decide (p_value ≤ p_most)))))
theorem ty_is_number (p_value : Int) (p_least : Int) (p_most : Int) (z_value : Sz p_value) (z_least : Sz p_least) (z_most : Sz p_most) : FnT m_is_number [enc p_value, enc p_least, enc p_most] (t_is_number p_value p_least p_most) := by
  unfold m_is_number
  refine fn_t ?_ (.inl rfl)
  generalize he : List.map some _ ++ _ = e
  have hl : e.length = 3 := by subst he; rfl
  have h_value : At e 0 (enc p_value) := by subst he; exact ⟨rfl, z_value⟩
  have h_least : At e 1 (enc p_least) := by subst he; exact ⟨rfl, z_least⟩
  have h_most : At e 2 (enc p_most) := by subst he; exact ⟨rfl, z_most⟩
  clear he
  unfold t_is_number b_is_number
  exact sv_end (sv_assoc (sv_ifp (et_orp (et_n (en_isip (g := (fun _ => false)) (fun _ => rfl) (EV.p (ev_var h_value)))) (et_notp (et_n (en_isip (g := (fun _ => true)) (fun _ => rfl) (EV.p (ev_var h_value))))))
 (sv_retp ev_bool (fun z => (fphi z)))
 (sv_skip (sv_retp (ev_frz (en_chLeLe (EV.p (ev_var h_least)) (EV.p (ev_var h_value)) (EV.p (ev_var h_most)))) (fun z => (fphi z))))))
def t_checked_number (p_value : Int) (p_least : Int) (p_most : Int) : X Unit Int :=
 (xb () (xNot (x3 t_is_number (X.ok p_value) (X.ok p_least) (X.ok p_most))) fun b1 => if b1 = true then
 (xb () (x2 tCatS (x2 tCatS (x2 tCatS (X.ok ("no number from " : Str)) (x1 tStr (X.ok p_least))) (X.ok (" to " : Str))) (x1 tStr (X.ok p_most))) fun _ => X.ex ⟨("InvalidNumber" : Str), none⟩ ())
 else
 (X.ok p_value))
theorem ty_checked_number (p_value : Int) (p_least : Int) (p_most : Int) (z_value : Sz p_value) (z_least : Sz p_least) (z_most : Sz p_most) : FnT m_checked_number [enc p_value, enc p_least, enc p_most] (t_checked_number p_value p_least p_most) := by
  unfold m_checked_number
  refine fn_t ?_ (.inl rfl)
  generalize he : List.map some _ ++ _ = e
  have hl : e.length = 3 := by subst he; rfl
  have h_value : At e 0 (enc p_value) := by subst he; exact ⟨rfl, z_value⟩
  have h_least : At e 1 (enc p_least) := by subst he; exact ⟨rfl, z_least⟩
  have h_most : At e 2 (enc p_most) := by subst he; exact ⟨rfl, z_most⟩
  clear he
  unfold t_checked_number b_checked_number
  exact sv_end (sv_assoc (sv_if (et_not (tt_truBt (EV.p (ev_melt (eo_c3 (tf := t_is_number) (fun a0 a1 a2 z0 z1 z2 => ty_is_number a0 a1 a2  z0 z1 z2 ) rfl (.inl rfl) (EV.g (ev_var h_value)) (EV.g (ev_var h_least)) (EV.g (ev_var h_most))))))) trivial
 (sv_raise (ev_frz (en_2 op_cats (EV.p (ev_frz (en_2 op_cats (EV.p (ev_frz (en_2 op_cats (EV.p ev_str) (EV.p (ev_frz (en_b1 op_str (EV.p (ev_var h_least)))))))) (EV.p ev_str)))) (EV.p (ev_frz (en_b1 op_str (EV.p (ev_var h_most))))))) trivial)
 (sv_skip (sv_retp (ev_var h_value) (fun z => (fphi z))))))
def t_checked_shares (p_shares : (List Int)) : X Unit (List Int) :=
 (if (decide ((60 : Int) < (List.length p_shares : Int))) = true then
 (X.ex ⟨("TooMany" : Str), none⟩ ())
 else
 (tComp (X.ok p_shares) (fun (u1 : Int) => X.ok true) (fun (u1 : Int) => (x1 (fun a0 => t_checked_number a0 (0 : Int) (1000000 : Int)) (X.ok u1)))))
theorem ty_checked_shares (p_shares : (List Int)) (z_shares : Sz p_shares) : FnT m_checked_shares [enc p_shares] (t_checked_shares p_shares) := by
  unfold m_checked_shares
  refine fn_t ?_ (.inl rfl)
  generalize he : List.map some _ ++ _ = e
  have hl : e.length = 2 := by subst he; rfl
  have h_shares : At e 0 (enc p_shares) := by subst he; exact ⟨rfl, z_shares⟩
  clear he
  unfold t_checked_shares b_checked_shares
  exact sv_end (sv_assoc (sv_ifp (et_n (en_Gt (EV.p (ev_frz (en_Len (EV.p (ev_var h_shares))))) (EV.p ev_int)))
 (sv_raisep ev_str trivial)
 (sv_skip (sv_retT (ev_frz (EL.n (el_comp (tg1 (i := 1) (n := 2) (Nat.le_of_ble_eq_true rfl)) (le_len hl) (ei_seq (ev_var h_shares)) (fun u1 hu1 => et_yes) (fun u1 hu1 => (ev_melt (eo_c1 (tf := (fun a0 => t_checked_number a0 (0 : Int) (1000000 : Int))) (fun a0 z0 => ty_checked_number a0 (0 : Int) (1000000 : Int) z0 (sz_int _) (sz_int _)) rfl (.inl rfl) (EV.g (ev_var (At.set (lt_len (i := 1) hl rfl) hu1)))))))))))))
def t_gap (p_shares : (List Int)) : X Unit Int :=
 (xb () (x1 t_checked_shares (X.ok p_shares)) fun (rows_1 : (List Int)) => (xIf (X.ok (!List.isEmpty rows_1)) (x2 tSub (x1 tMaxL (X.ok rows_1)) (x1 tMinL (X.ok rows_1))) (X.ok (0 : Int))))
theorem ty_gap (p_shares : (List Int)) (z_shares : Sz p_shares) : FnT m_gap [enc p_shares] (t_gap p_shares) := by
  unfold m_gap
  refine fn_t ?_ (.inl rfl)
  generalize he : List.map some _ ++ _ = e
  have hl : e.length = 2 := by subst he; rfl
  have h_shares : At e 0 (enc p_shares) := by subst he; exact ⟨rfl, z_shares⟩
  clear he
  unfold t_gap b_gap
  exact sv_end (sv_assoc (sv_asg (ev_melt (eo_c1 (tf := t_checked_shares) (fun a0 z0 => ty_checked_shares a0  z0 ) rfl (.inl rfl) (EV.g (ev_var h_shares)))) trivial (fun rows_1 hrows_1 => (sv_retT (if_j (et_truL (EV.p (ev_var (At.set (lt_len (i := 1) hl rfl) hrows_1)))) (ev_frz (en_2 tp_Sub (EV.p (ev_frz (en_b1 op_maxL (EV.p (ev_var (At.set (lt_len (i := 1) hl rfl) hrows_1)))))) (EV.p (ev_frz (en_b1 op_minL (EV.p (ev_var (At.set (lt_len (i := 1) hl rfl) hrows_1)))))))) ev_int)))))
def t_squares (p_shares : (List Int)) : X Unit Int :=
 (x1 tSum (tComp (x1 t_checked_shares (X.ok p_shares)) (fun (u1 : Int) => X.ok true) (fun (u1 : Int) => (x2 tMul (X.ok u1) (X.ok u1)))))
theorem ty_squares (p_shares : (List Int)) (z_shares : Sz p_shares) : FnT m_squares [enc p_shares] (t_squares p_shares) := by
  unfold m_squares
  refine fn_t ?_ (.inl rfl)
  generalize he : List.map some _ ++ _ = e
  have hl : e.length = 2 := by subst he; rfl
  have h_shares : At e 0 (enc p_shares) := by subst he; exact ⟨rfl, z_shares⟩
  clear he
  unfold t_squares b_squares
  exact sv_end (sv_retT (ev_frz (en_b1 tp_Sum (EV.p (ev_frz (EL.n (el_comp (tg1 (i := 1) (n := 2) (Nat.le_of_ble_eq_true rfl)) (le_len hl) (ei_seq (ev_melt (eo_c1 (tf := t_checked_shares) (fun a0 z0 => ty_checked_shares a0  z0 ) rfl (.inl rfl) (EV.g (ev_var h_shares))))) (fun u1 hu1 => et_yes) (fun u1 hu1 => (ev_frz (en_2 op_mul (EV.p (ev_var (At.set (lt_len (i := 1) hl rfl) hu1))) (EV.p (ev_var (At.set (lt_len (i := 1) hl rfl) hu1)))))))))))))
def lb0_uneven (rows_1 : (List Int)) : (Int) → (Int) → X Unit (Int) :=
 fun (s3 : Int) (a4 : Int) =>
 (xb () (x2 tAdd (X.ok s3) (x1 tSum (tComp (X.ok (dCut rows_1 none (some a4))) (fun (u6 : Int) => X.ok true) (fun (u6 : Int) => (x1 tAbs (x2 tSub (x2 tIx (X.ok rows_1) (X.ok a4)) (X.ok u6))))))) fun (total_5 : Int) => (X.ok (total_5)))
def t_uneven (p_shares : (List Int)) : X Unit Int :=
 (xb () (x1 t_checked_shares (X.ok p_shares)) fun (rows_1 : (List Int)) => (xb () (X.ok (0 : Int)) fun (total_2 : Int) => (xb () (X.ok (irng 0 (List.length rows_1 : Int))) fun l => forF (lb0_uneven rows_1) l (total_2) >>= (fun (s3 : Int) => (X.ok s3)))))
theorem ty_uneven (p_shares : (List Int)) (z_shares : Sz p_shares) : FnT m_uneven [enc p_shares] (t_uneven p_shares) := by
  unfold m_uneven
  refine fn_t ?_ (.inl rfl)
  generalize he : List.map some _ ++ _ = e
  have hl : e.length = 5 := by subst he; rfl
  have h_shares : At e 0 (enc p_shares) := by subst he; exact ⟨rfl, z_shares⟩
  clear he
  unfold t_uneven lb0_uneven b_uneven s2_uneven s1_uneven l0_uneven
  exact sv_end (sv_assoc (sv_asg (ev_melt (eo_c1 (tf := t_checked_shares) (fun a0 z0 => ty_checked_shares a0  z0 ) rfl (.inl rfl) (EV.g (ev_var h_shares)))) trivial (fun rows_1 hrows_1 => (sv_assoc (sv_asg ev_int trivial (fun total_2 htotal_2 => (sv_assoc (sv_forF (fun (s3 : Int) e => e.length = 5 ∧ At e 0 (enc p_shares) ∧ At e 1 (enc rows_1) ∧ At e 2 (enc s3)) (tg1 (i := 3) (n := 5) (Nat.le_of_ble_eq_true rfl)) (ei_rngL (EV.p (ev_var (At.keep (i := 2) (At.set (lt_len (i := 1) hl rfl) hrows_1) (ne_lit rfl))))) trivial ⟨(len_set (len_set hl)), (At.keep (i := 2) (At.keep (i := 1) h_shares (ne_lit rfl)) (ne_lit rfl)), (At.keep (i := 2) (At.set (lt_len (i := 1) hl rfl) hrows_1) (ne_lit rfl)), (At.set (lt_len (i := 2) (len_set hl) rfl) htotal_2)⟩ (fun s3 a4 es3 hs3 ha4 => sv_end (sv_asg (ev_frz (en_2 tp_Add (EV.p (ev_var (At.keep (i := 3) hs3.2.2.2 (ne_lit rfl)))) (EV.p (ev_frz (en_b1 tp_Sum (EV.p (ev_frz (EL.n (el_comp (tg1 (i := 4) (n := 5) (Nat.le_of_ble_eq_true rfl)) (le_len (len_set hs3.1)) (ei_seq (ev_frz (EL.n (el_slp (EV.p (ev_var (At.keep (i := 3) hs3.2.2.1 (ne_lit rfl)))) eb_n (eb_ip (EV.p (ev_var (At.set (lt_len (i := 3) hs3.1 rfl) ha4)))))))) (fun u6 hu6 => et_yes) (fun u6 hu6 => (ev_frz (en_b1 tp_Abs (EV.p (ev_frz (en_2 tp_Sub (EV.p (ev_frz (en_2 op_ix (EV.p (ev_var (At.keep (i := 4) (At.keep (i := 3) hs3.2.2.1 (ne_lit rfl)) (ne_lit rfl)))) (EV.p (ev_var (At.keep (i := 4) (At.set (lt_len (i := 3) hs3.1 rfl) ha4) (ne_lit rfl))))))) (EV.p (ev_var (At.set (lt_len (i := 4) (len_set hs3.1) rfl) hu6)))))))))))))))))) trivial (fun total_5 htotal_5 => (sv_nxF ⟨(len_set (len_set hs3.1)), (At.keep (i := 2) (At.keep (i := 3) hs3.2.1 (ne_lit rfl)) (ne_lit rfl)), (At.keep (i := 2) (At.keep (i := 3) hs3.2.2.1 (ne_lit rfl)) (ne_lit rfl)), (At.set (lt_len (i := 2) (len_set hs3.1) rfl) htotal_5)⟩)))) (fun s3 es3 hs3 => (sv_retp (ev_var hs3.2.2.2) (fun z => (fphi z))))))))))))
def lb0__law_uneven (p_shares : (List Int)) : (Int) → (Int) → X Unit (Int) :=
 fun (s2 : Int) (a3 : Int) =>
 (xb () (x2 tAdd (X.ok s2) (x1 tSum (tComp (x1 tRng1 (X.ok a3)) (fun (u5 : Int) => X.ok true) (fun (u5 : Int) => (x1 tAbs (x2 tSub (x2 tIx (X.ok p_shares) (X.ok a3)) (x2 tIx (X.ok p_shares) (X.ok u5)))))))) fun (total_4 : Int) => (X.ok (total_4)))
def t__law_uneven (p_shares : (List Int)) : X Unit Int :=
 (xb () (X.ok (0 : Int)) fun (total_1 : Int) => (xb () (X.ok (irng 0 (List.length p_shares : Int))) fun l => forF (lb0__law_uneven p_shares) l (total_1) >>= (fun (s2 : Int) => (X.ok s2))))
theorem ty__law_uneven (p_shares : (List Int)) (z_shares : Sz p_shares) : FnT m__law_uneven [enc p_shares] (t__law_uneven p_shares) := by
  unfold m__law_uneven
  refine fn_t ?_ (.inl rfl)
  generalize he : List.map some _ ++ _ = e
  have hl : e.length = 4 := by subst he; rfl
  have h_shares : At e 0 (enc p_shares) := by subst he; exact ⟨rfl, z_shares⟩
  clear he
  unfold t__law_uneven lb0__law_uneven b__law_uneven l0__law_uneven
  exact sv_end (sv_assoc (sv_asg ev_int trivial (fun total_1 htotal_1 => (sv_assoc (sv_forF (fun (s2 : Int) e => e.length = 4 ∧ At e 0 (enc p_shares) ∧ At e 1 (enc s2)) (tg1 (i := 2) (n := 4) (Nat.le_of_ble_eq_true rfl)) (ei_rngL (EV.p (ev_var (At.keep (i := 1) h_shares (ne_lit rfl))))) trivial ⟨(len_set hl), (At.keep (i := 1) h_shares (ne_lit rfl)), (At.set (lt_len (i := 1) hl rfl) htotal_1)⟩ (fun s2 a3 es2 hs2 ha3 => sv_end (sv_asg (ev_frz (en_2 tp_Add (EV.p (ev_var (At.keep (i := 2) hs2.2.2 (ne_lit rfl)))) (EV.p (ev_frz (en_b1 tp_Sum (EV.p (ev_frz (EL.n (el_comp (tg1 (i := 3) (n := 4) (Nat.le_of_ble_eq_true rfl)) (le_len (len_set hs2.1)) (ei_rng1 (EV.p (ev_var (At.set (lt_len (i := 2) hs2.1 rfl) ha3)))) (fun u5 hu5 => et_yes) (fun u5 hu5 => (ev_frz (en_b1 tp_Abs (EV.p (ev_frz (en_2 tp_Sub (EV.p (ev_frz (en_2 op_ix (EV.p (ev_var (At.keep (i := 3) (At.keep (i := 2) hs2.2.1 (ne_lit rfl)) (ne_lit rfl)))) (EV.p (ev_var (At.keep (i := 3) (At.set (lt_len (i := 2) hs2.1 rfl) ha3) (ne_lit rfl))))))) (EV.p (ev_frz (en_2 op_ix (EV.p (ev_var (At.keep (i := 3) (At.keep (i := 2) hs2.2.1 (ne_lit rfl)) (ne_lit rfl)))) (EV.p (ev_var (At.set (lt_len (i := 3) (len_set hs2.1) rfl) hu5))))))))))))))))))))) trivial (fun total_4 htotal_4 => (sv_nxF ⟨(len_set (len_set hs2.1)), (At.keep (i := 1) (At.keep (i := 2) hs2.2.1 (ne_lit rfl)) (ne_lit rfl)), (At.set (lt_len (i := 1) (len_set hs2.1) rfl) htotal_4)⟩)))) (fun s2 es2 hs2 => (sv_retp (ev_var hs2.2.2) (fun z => (fphi z)))))))))
def t_evenest (p_total : Int) (p_many : Int) : X Unit (List Int) :=
 (xb () (x1 (fun a0 => t_checked_number a0 (0 : Int) (1000000 : Int)) (X.ok p_total)) fun _ => (xb () (xNot (x3 t_is_number (X.ok p_many) (X.ok (1 : Int)) (X.ok (60 : Int)))) fun b2 => if b2 = true then
 (X.ex ⟨("InvalidNumber" : Str), none⟩ ())
 else
 (tComp (x1 tRng1 (X.ok p_many)) (fun (u1 : Int) => X.ok true) (fun (u1 : Int) => (x2 tAdd (x2 tDiv (X.ok p_total) (X.ok p_many)) (xIf (x2 tLt (X.ok u1) (x2 tMod (X.ok p_total) (X.ok p_many))) (X.ok (1 : Int)) (X.ok (0 : Int))))))))
theorem ty_evenest (p_total : Int) (p_many : Int) (z_total : Sz p_total) (z_many : Sz p_many) : FnT m_evenest [enc p_total, enc p_many] (t_evenest p_total p_many) := by
  unfold m_evenest
  refine fn_t ?_ (.inl rfl)
  generalize he : List.map some _ ++ _ = e
  have hl : e.length = 3 := by subst he; rfl
  have h_total : At e 0 (enc p_total) := by subst he; exact ⟨rfl, z_total⟩
  have h_many : At e 1 (enc p_many) := by subst he; exact ⟨rfl, z_many⟩
  clear he
  unfold t_evenest b_evenest
  exact sv_end (sv_assoc (sv_drop (ev_melt (eo_c1 (tf := (fun a0 => t_checked_number a0 (0 : Int) (1000000 : Int))) (fun a0 z0 => ty_checked_number a0 (0 : Int) (1000000 : Int) z0 (sz_int _) (sz_int _)) rfl (.inl rfl) (EV.g (ev_var h_total)))) trivial (sv_assoc (sv_if (et_not (tt_truBt (EV.p (ev_melt (eo_c3 (tf := t_is_number) (fun a0 a1 a2 z0 z1 z2 => ty_is_number a0 a1 a2  z0 z1 z2 ) rfl (.inl rfl) (EV.g (ev_var h_many)) (EV.g ev_int) (EV.g ev_int)))))) trivial
 (sv_raisep ev_str trivial)
 (sv_skip (sv_retT (ev_frz (EL.n (el_comp (tg1 (i := 2) (n := 3) (Nat.le_of_ble_eq_true rfl)) (le_len hl) (ei_rng1 (EV.p (ev_var h_many))) (fun u1 hu1 => et_yes) (fun u1 hu1 => (ev_frz (en_2 tp_Add (EV.p (ev_frz (en_2 op_div (EV.p (ev_var (At.keep (i := 2) h_total (ne_lit rfl)))) (EV.p (ev_var (At.keep (i := 2) h_many (ne_lit rfl))))))) (EV.p (if_j (et_n (en_2 tp_Lt (EV.p (ev_var (At.set (lt_len (i := 2) hl rfl) hu1))) (EV.p (ev_frz (en_2 op_mod (EV.p (ev_var (At.keep (i := 2) h_total (ne_lit rfl)))) (EV.p (ev_var (At.keep (i := 2) h_many (ne_lit rfl))))))))) ev_int ev_int))))))))))))))
def t__law_down (p_shares : (List Int)) : X Unit (List Int) :=
 (xb () (X.ok (List.reverse (srt p_shares))) fun a => X.ok a)
theorem ty__law_down (p_shares : (List Int)) (z_shares : Sz p_shares) : FnT m__law_down [enc p_shares] (t__law_down p_shares) := by
  unfold m__law_down
  refine fn_t ?_ (.inr (fun _ h => by cases h))
  generalize he : List.map some _ ++ _ = e
  have hl : e.length = 1 := by subst he; rfl
  have h_shares : At e 0 (enc p_shares) := by subst he; exact ⟨rfl, z_shares⟩
  clear he
  unfold t__law_down b__law_down
  exact sv_end (sv_retO (w := fun a => a) (eo_own (el_lrevp (ev_frz (EL.n (el_sortedp (by decide) (EV.p (ev_var h_shares))))))) trivial (fun _ z => (fphi z)))
def lb0_moved : ((List Int)) → (Int) → X Unit (Lp ((List Int)) ((List Int))) :=
 fun (s2 : (List Int)) (a3 : Int) =>
 (xb () (xOr (X.ok (!(!List.isEmpty s2))) (x2 tLt (x2 tSub (x2 tIx (X.ok s2) (X.ok (0 : Int))) (x2 tIx (X.ok s2) (X.ok (-(1 : Int))))) (X.ok (2 : Int)))) fun b12 => if b12 = true then
 (X.ok (Lp.rt s2))
 else
 (xb () (x2 tSub (x2 (fun (l : (List Int)) a => X.ok ((List.countP (fun b => decide (b = a)) l : Nat) : Int)) (X.ok s2) (x2 tIx (X.ok s2) (X.ok (0 : Int)))) (X.ok (1 : Int))) fun (giver_4 : Int) => (xb () (x2 tIndex (X.ok s2) (x2 tIx (X.ok s2) (X.ok (-(1 : Int))))) fun (getter_5 : Int) => (xb () (x2 tSub (x2 tIx (X.ok s2) (X.ok giver_4)) (X.ok (1 : Int))) fun v10 => xb () (X.ok giver_4) fun j11 => tPut s2 v10 j11 >>= fun (have_6 : (List Int)) => (xb () (x2 tAdd (x2 tIx (X.ok have_6) (X.ok getter_5)) (X.ok (1 : Int))) fun v8 => xb () (X.ok getter_5) fun j9 => tPut have_6 v8 j9 >>= fun (have_7 : (List Int)) => (X.ok (Lp.nx (have_7))))))))
def t_moved (p_shares : (List Int)) (p_most : Int) : X Unit (List Int) :=
 (xb () (x1 (fun l => X.ok (sortR l)) (x1 t_checked_shares (X.ok p_shares))) fun (have_1 : (List Int)) => (xb () (x1 (fun a0 => t_checked_number a0 (0 : Int) (1000000 : Int)) (X.ok p_most)) fun _ => (xb () (x1 tRng1 (X.ok p_most)) fun l => forX lb0_moved (fun (s2 : (List Int)) => (X.ok s2)) l (have_1))))
theorem ty_moved (p_shares : (List Int)) (p_most : Int) (z_shares : Sz p_shares) (z_most : Sz p_most) : FnT m_moved [enc p_shares, enc p_most] (t_moved p_shares p_most) := by
  unfold m_moved
  refine fn_t ?_ (.inl rfl)
  generalize he : List.map some _ ++ _ = e
  have hl : e.length = 6 := by subst he; rfl
  have h_shares : At e 0 (enc p_shares) := by subst he; exact ⟨rfl, z_shares⟩
  have h_most : At e 1 (enc p_most) := by subst he; exact ⟨rfl, z_most⟩
  clear he
  unfold t_moved lb0_moved b_moved s2_moved s1_moved l0_moved
  exact sv_end (sv_assoc (sv_setO (eo_own (el_sortR (EV.p (ev_melt (eo_c1 (tf := t_checked_shares) (fun a0 z0 => ty_checked_shares a0  z0 ) rfl (.inl rfl) (EV.g (ev_var h_shares))))))) trivial (fun have_1 hhave_1 => (sv_assoc (sv_drop (ev_melt (eo_c1 (tf := (fun a0 => t_checked_number a0 (0 : Int) (1000000 : Int))) (fun a0 z0 => ty_checked_number a0 (0 : Int) (1000000 : Int) z0 (sz_int _) (sz_int _)) rfl (.inl rfl) (EV.g (ev_var (At.keep (i := 2) h_most (ne_lit rfl)))))) trivial (sv_assoc (sv_for (fun (s2 : (List Int)) e => e.length = 6 ∧ At e 0 (enc p_shares) ∧ At e 1 (enc p_most) ∧ At e 2 (enc s2)) (tg1 (i := 3) (n := 6) (Nat.le_of_ble_eq_true rfl)) (ei_rng1 (EV.p (ev_var (At.keep (i := 2) h_most (ne_lit rfl))))) trivial ⟨(len_set hl), (At.keep (i := 2) h_shares (ne_lit rfl)), (At.keep (i := 2) h_most (ne_lit rfl)), (At.set (lt_len (i := 2) hl rfl) hhave_1)⟩ (fun s2 a3 es2 hs2 ha3 => sv_end (sv_assoc (sv_if (et_or (et_notp (et_truL (ep_plc (At.keep (i := 3) hs2.2.2.2 (ne_lit rfl))))) (et_n (en_2 tp_Lt (EV.p (ev_frz (en_2 tp_Sub (EV.p (ev_frz (en_2 op_ix (ep_plc (At.keep (i := 3) hs2.2.2.2 (ne_lit rfl))) (EV.p ev_int)))) (EV.p (ev_frz (en_2 op_ix (ep_plc (At.keep (i := 3) hs2.2.2.2 (ne_lit rfl))) (EV.p (ev_frz (en_Neg (EV.p ev_int)))))))))) (EV.p ev_int)))) trivial
 (sv_retZ (At.keep (i := 3) hs2.2.2.2 (ne_lit rfl)) (fun z => (lphi (fphi z))))
 (sv_skip (sv_assoc (sv_asg (ev_frz (en_2 tp_Sub (EV.p (ev_frz (en_met (f := fun (l : (List Int)) (a : Int) => X.ok ((List.countP (fun b => decide (b = a)) l : Nat) : Int)) dTy_list (op_count (by decide)).t (ep_plc (At.keep (i := 3) hs2.2.2.2 (ne_lit rfl))) (EV.p (ev_frz (en_2 op_ix (ep_plc (At.keep (i := 3) hs2.2.2.2 (ne_lit rfl))) (EV.p ev_int))))))) (EV.p ev_int))) trivial (fun giver_4 hgiver_4 => (sv_assoc (sv_asg (ev_frz (en_met dTy_list op_index (ep_plc (At.keep (i := 4) (At.keep (i := 3) hs2.2.2.2 (ne_lit rfl)) (ne_lit rfl))) (EV.p (ev_frz (en_2 op_ix (ep_plc (At.keep (i := 4) (At.keep (i := 3) hs2.2.2.2 (ne_lit rfl)) (ne_lit rfl))) (EV.p (ev_frz (en_Neg (EV.p ev_int))))))))) trivial (fun getter_5 hgetter_5 => (sv_assoc (sv_store (At.keep (i := 5) (At.keep (i := 4) (At.keep (i := 3) hs2.2.2.2 (ne_lit rfl)) (ne_lit rfl)) (ne_lit rfl)) (ev_frz (en_2 tp_Sub (EV.p (ev_frz (en_2 op_ix (ep_plc (At.keep (i := 5) (At.keep (i := 4) (At.keep (i := 3) hs2.2.2.2 (ne_lit rfl)) (ne_lit rfl)) (ne_lit rfl))) (EV.p (ev_var (At.keep (i := 5) (At.set (lt_len (i := 4) (len_set hs2.1) rfl) hgiver_4) (ne_lit rfl))))))) (EV.p ev_int))) (EV.p (ev_var (At.keep (i := 5) (At.set (lt_len (i := 4) (len_set hs2.1) rfl) hgiver_4) (ne_lit rfl)))) trivial (fun have_6 hhave_6 => (sv_store (At.set (lt_len (i := 2) (len_set (len_set (len_set hs2.1))) rfl) hhave_6) (ev_frz (en_2 tp_Add (EV.p (ev_frz (en_2 op_ix (ep_plc (At.set (lt_len (i := 2) (len_set (len_set (len_set hs2.1))) rfl) hhave_6)) (EV.p (ev_var (At.keep (i := 2) (At.set (lt_len (i := 5) (len_set (len_set hs2.1)) rfl) hgetter_5) (ne_lit rfl))))))) (EV.p ev_int))) (EV.p (ev_var (At.keep (i := 2) (At.set (lt_len (i := 5) (len_set (len_set hs2.1)) rfl) hgetter_5) (ne_lit rfl)))) trivial (fun have_7 hhave_7 => (sv_nx ⟨(len_set (len_set (len_set (len_set (len_set hs2.1))))), (At.keep (i := 2) (At.keep (i := 2) (At.keep (i := 5) (At.keep (i := 4) (At.keep (i := 3) hs2.2.1 (ne_lit rfl)) (ne_lit rfl)) (ne_lit rfl)) (ne_lit rfl)) (ne_lit rfl)), (At.keep (i := 2) (At.keep (i := 2) (At.keep (i := 5) (At.keep (i := 4) (At.keep (i := 3) hs2.2.2.1 (ne_lit rfl)) (ne_lit rfl)) (ne_lit rfl)) (ne_lit rfl)) (ne_lit rfl)), (At.set (lt_len (i := 2) (len_set (len_set (len_set (len_set hs2.1)))) rfl) hhave_7)⟩)))))))))))))))) (fun s2 es2 hs2 => (sv_retZ hs2.2.2.2 (fun z => (fphi z)))))))))))
def lb0__law_reached (s3 : ((List (List Int)) × (List (List Int)))) (a7 : (List Int)) (a9 : Int) : ((List (List Int))) → (Int) → X Unit ((List (List Int))) :=
 fun (s10 : (List (List Int))) (a11 : Int) =>
 (xb () (xAnd (X.ok (!decide (a9 = a11))) (x2 tGt (x2 tIx (X.ok a7) (X.ok a9)) (X.ok (0 : Int)))) fun b21 => if b21 = true then
 (xb () (X.ok a7) fun (trial_12 : (List Int)) => (xb () (x2 tSub (x2 tIx (X.ok trial_12) (X.ok a9)) (X.ok (1 : Int))) fun v19 => xb () (X.ok a9) fun j20 => tPut trial_12 v19 j20 >>= fun (trial_13 : (List Int)) => (xb () (x2 tAdd (x2 tIx (X.ok trial_13) (X.ok a11)) (X.ok (1 : Int))) fun v17 => xb () (X.ok a11) fun j18 => tPut trial_13 v17 j18 >>= fun (trial_14 : (List Int)) => (xb () (x1 t__law_down (X.ok trial_14)) fun (trial_15 : (List Int)) => (if ((!memD trial_15 s3.1) && (!memD trial_15 s10)) = true then
 (rq (List.length s10 + 1 ≤ 16777216) (X.ok ((s10 ++ [trial_15]))))
 else
 (X.ok (s10)))))))
 else
 (X.ok (s10)))
def lb1__law_reached (s3 : ((List (List Int)) × (List (List Int)))) (a7 : (List Int)) : ((List (List Int))) → (Int) → X Unit ((List (List Int))) :=
 fun (s8 : (List (List Int))) (a9 : Int) =>
 (xb () (X.ok (irng 0 (List.length a7 : Int))) fun l => forF (lb0__law_reached s3 a7 a9) l (s8) >>= (fun (s10 : (List (List Int))) => (X.ok (s10))))
def lb2__law_reached (s3 : ((List (List Int)) × (List (List Int)))) : ((List (List Int))) → ((List Int)) → X Unit ((List (List Int))) :=
 fun (s6 : (List (List Int))) (a7 : (List Int)) =>
 (xb () (X.ok (irng 0 (List.length a7 : Int))) fun l => forF (lb1__law_reached s3 a7) l (s6) >>= (fun (s8 : (List (List Int))) => (X.ok (s8))))
def lb3__law_reached : ((List (List Int)) × (List (List Int))) → (Int) → X Unit ((List (List Int)) × (List (List Int))) :=
 fun (s3 : (List (List Int)) × (List (List Int))) (a4 : Int) =>
 (xb () (X.ok ([] : List (List Int))) fun (longer_5 : (List (List Int))) => (xb () (X.ok s3.2) fun l => forF (lb2__law_reached s3) l (longer_5) >>= (fun (s6 : (List (List Int))) => (xb () (x2 tCat (X.ok s3.1) (X.ok s6)) fun (found_22 : (List (List Int))) => (X.ok (found_22, s6))))))
def t__law_reached (p_shares : (List Int)) (p_most : Int) : X Unit (List (List Int)) :=
 (xb () (tCons (x1 t__law_down (X.ok p_shares)) (X.ok ([] : List (List Int)))) fun (found_1 : (List (List Int))) => (xb () (X.ok found_1) fun (rows_2 : (List (List Int))) => (xb () (x1 tRng1 (X.ok p_most)) fun l => forF lb3__law_reached l (found_1, rows_2) >>= (fun (s3 : (List (List Int)) × (List (List Int))) => (X.ok s3.1)))))
theorem ty__law_reached (p_shares : (List Int)) (p_most : Int) (z_shares : Sz p_shares) (z_most : Sz p_most) : FnT m__law_reached [enc p_shares, enc p_most] (t__law_reached p_shares p_most) := by
  unfold m__law_reached
  refine fn_t ?_ (.inl rfl)
  generalize he : List.map some _ ++ _ = e
  have hl : e.length = 10 := by subst he; rfl
  have h_shares : At e 0 (enc p_shares) := by subst he; exact ⟨rfl, z_shares⟩
  have h_most : At e 1 (enc p_most) := by subst he; exact ⟨rfl, z_most⟩
  clear he
  unfold t__law_reached lb3__law_reached lb2__law_reached lb1__law_reached lb0__law_reached b__law_reached s5__law_reached s4__law_reached l3__law_reached l2__law_reached l1__law_reached l0__law_reached
  exact sv_end (sv_assoc (sv_asg (ev_frz (EL.n (el_lst (ea_cons (ev_melt (eo_c1 (tf := t__law_down) (fun a0 z0 => ty__law_down a0  z0 ) rfl (.inl rfl) (EV.g (ev_var h_shares)))) (ea_nil (α := (List Int))))))) trivial (fun found_1 hfound_1 => (sv_assoc (sv_asg (ev_var (At.set (lt_len (i := 2) hl rfl) hfound_1)) trivial (fun rows_2 hrows_2 => (sv_assoc (sv_forF (fun (s3 : (List (List Int)) × (List (List Int))) e => e.length = 10 ∧ At e 0 (enc p_shares) ∧ At e 1 (enc p_most) ∧ At e 2 (enc s3.1) ∧ At e 3 (enc s3.2)) (tg1 (i := 4) (n := 10) (Nat.le_of_ble_eq_true rfl)) (ei_rng1 (EV.p (ev_var (At.keep (i := 3) (At.keep (i := 2) h_most (ne_lit rfl)) (ne_lit rfl))))) trivial ⟨(len_set (len_set hl)), (At.keep (i := 3) (At.keep (i := 2) h_shares (ne_lit rfl)) (ne_lit rfl)), (At.keep (i := 3) (At.keep (i := 2) h_most (ne_lit rfl)) (ne_lit rfl)), (At.keep (i := 3) (At.set (lt_len (i := 2) hl rfl) hfound_1) (ne_lit rfl)), (At.set (lt_len (i := 3) (len_set hl) rfl) hrows_2)⟩ (fun s3 a4 es3 hs3 ha4 => sv_end (sv_assoc (sv_setO (eo_own (el_lst (ea_nil (α := (List Int))))) trivial (fun longer_5 hlonger_5 => (sv_assoc (sv_forF (fun (s6 : (List (List Int))) e => e.length = 10 ∧ At e 0 (enc p_shares) ∧ At e 1 (enc p_most) ∧ At e 2 (enc s3.1) ∧ At e 3 (enc s3.2) ∧ At e 4 (enc a4) ∧ At e 5 (enc s6)) (tg1 (i := 6) (n := 10) (Nat.le_of_ble_eq_true rfl)) (ei_seq (ev_var (At.keep (i := 5) (At.keep (i := 4) hs3.2.2.2.2 (ne_lit rfl)) (ne_lit rfl)))) trivial ⟨(len_set (len_set hs3.1)), (At.keep (i := 5) (At.keep (i := 4) hs3.2.1 (ne_lit rfl)) (ne_lit rfl)), (At.keep (i := 5) (At.keep (i := 4) hs3.2.2.1 (ne_lit rfl)) (ne_lit rfl)), (At.keep (i := 5) (At.keep (i := 4) hs3.2.2.2.1 (ne_lit rfl)) (ne_lit rfl)), (At.keep (i := 5) (At.keep (i := 4) hs3.2.2.2.2 (ne_lit rfl)) (ne_lit rfl)), (At.keep (i := 5) (At.set (lt_len (i := 4) hs3.1 rfl) ha4) (ne_lit rfl)), (At.set (lt_len (i := 5) (len_set hs3.1) rfl) hlonger_5)⟩ (fun s6 a7 es6 hs6 ha7 => sv_end (sv_forF (fun (s8 : (List (List Int))) e => e.length = 10 ∧ At e 0 (enc p_shares) ∧ At e 1 (enc p_most) ∧ At e 2 (enc s3.1) ∧ At e 3 (enc s3.2) ∧ At e 4 (enc a4) ∧ At e 6 (enc a7) ∧ At e 5 (enc s8)) (tg1 (i := 7) (n := 10) (Nat.le_of_ble_eq_true rfl)) (ei_rngL (EV.p (ev_var (At.set (lt_len (i := 6) hs6.1 rfl) ha7)))) trivial ⟨(len_set hs6.1), (At.keep (i := 6) hs6.2.1 (ne_lit rfl)), (At.keep (i := 6) hs6.2.2.1 (ne_lit rfl)), (At.keep (i := 6) hs6.2.2.2.1 (ne_lit rfl)), (At.keep (i := 6) hs6.2.2.2.2.1 (ne_lit rfl)), (At.keep (i := 6) hs6.2.2.2.2.2.1 (ne_lit rfl)), (At.set (lt_len (i := 6) hs6.1 rfl) ha7), (At.keep (i := 6) hs6.2.2.2.2.2.2 (ne_lit rfl))⟩ (fun s8 a9 es8 hs8 ha9 => sv_end (sv_forF (fun (s10 : (List (List Int))) e => e.length = 10 ∧ At e 0 (enc p_shares) ∧ At e 1 (enc p_most) ∧ At e 2 (enc s3.1) ∧ At e 3 (enc s3.2) ∧ At e 4 (enc a4) ∧ At e 6 (enc a7) ∧ At e 7 (enc a9) ∧ At e 5 (enc s10)) (tg1 (i := 8) (n := 10) (Nat.le_of_ble_eq_true rfl)) (ei_rngL (EV.p (ev_var (At.keep (i := 7) hs8.2.2.2.2.2.2.1 (ne_lit rfl))))) trivial ⟨(len_set hs8.1), (At.keep (i := 7) hs8.2.1 (ne_lit rfl)), (At.keep (i := 7) hs8.2.2.1 (ne_lit rfl)), (At.keep (i := 7) hs8.2.2.2.1 (ne_lit rfl)), (At.keep (i := 7) hs8.2.2.2.2.1 (ne_lit rfl)), (At.keep (i := 7) hs8.2.2.2.2.2.1 (ne_lit rfl)), (At.keep (i := 7) hs8.2.2.2.2.2.2.1 (ne_lit rfl)), (At.set (lt_len (i := 7) hs8.1 rfl) ha9), (At.keep (i := 7) hs8.2.2.2.2.2.2.2 (ne_lit rfl))⟩ (fun s10 a11 es10 hs10 ha11 => sv_end (sv_if (et_and (et_n (en_Ne (by decide) (EV.p (ev_var (At.keep (i := 8) hs10.2.2.2.2.2.2.2.1 (ne_lit rfl)))) (EV.p (ev_var (At.set (lt_len (i := 8) hs10.1 rfl) ha11))))) (et_n (en_2 tp_Gt (EV.p (ev_frz (en_2 op_ix (EV.p (ev_var (At.keep (i := 8) hs10.2.2.2.2.2.2.1 (ne_lit rfl)))) (EV.p (ev_var (At.keep (i := 8) hs10.2.2.2.2.2.2.2.1 (ne_lit rfl))))))) (EV.p ev_int)))) trivial
 (sv_assoc (sv_setO (eo_own (el_list (X.ok a7) (EV.p (ev_var (At.keep (i := 8) hs10.2.2.2.2.2.2.1 (ne_lit rfl)))))) trivial (fun trial_12 htrial_12 => (sv_assoc (sv_store (At.set (lt_len (i := 9) (len_set hs10.1) rfl) htrial_12) (ev_frz (en_2 tp_Sub (EV.p (ev_frz (en_2 op_ix (ep_plc (At.set (lt_len (i := 9) (len_set hs10.1) rfl) htrial_12)) (EV.p (ev_var (At.keep (i := 9) (At.keep (i := 8) hs10.2.2.2.2.2.2.2.1 (ne_lit rfl)) (ne_lit rfl))))))) (EV.p ev_int))) (EV.p (ev_var (At.keep (i := 9) (At.keep (i := 8) hs10.2.2.2.2.2.2.2.1 (ne_lit rfl)) (ne_lit rfl)))) trivial (fun trial_13 htrial_13 => (sv_assoc (sv_store (At.set (lt_len (i := 9) (len_set (len_set hs10.1)) rfl) htrial_13) (ev_frz (en_2 tp_Add (EV.p (ev_frz (en_2 op_ix (ep_plc (At.set (lt_len (i := 9) (len_set (len_set hs10.1)) rfl) htrial_13)) (EV.p (ev_var (At.keep (i := 9) (At.keep (i := 9) (At.set (lt_len (i := 8) hs10.1 rfl) ha11) (ne_lit rfl)) (ne_lit rfl))))))) (EV.p ev_int))) (EV.p (ev_var (At.keep (i := 9) (At.keep (i := 9) (At.set (lt_len (i := 8) hs10.1 rfl) ha11) (ne_lit rfl)) (ne_lit rfl)))) trivial (fun trial_14 htrial_14 => (sv_assoc (sv_setO (eo_c1 (tf := t__law_down) (fun a0 z0 => ty__law_down a0  z0 ) rfl (.inr (by first | exact fun _ => rfl | exact ind_li | exact ind_ls)) (eg_plc (At.set (lt_len (i := 9) (len_set (len_set (len_set hs10.1))) rfl) htrial_14))) trivial (fun trial_15 htrial_15 => (sv_ifp (et_andp (et_n (en_NotIn (by decide) (ep_plc (At.set (lt_len (i := 9) (len_set (len_set (len_set (len_set hs10.1)))) rfl) htrial_15)) (EV.p (ev_var (At.keep (i := 9) (At.keep (i := 9) (At.keep (i := 9) (At.keep (i := 9) (At.keep (i := 8) hs10.2.2.2.1 (ne_lit rfl)) (ne_lit rfl)) (ne_lit rfl)) (ne_lit rfl)) (ne_lit rfl)))))) (et_n (en_NotIn (by decide) (ep_plc (At.set (lt_len (i := 9) (len_set (len_set (len_set (len_set hs10.1)))) rfl) htrial_15)) (ep_plc (At.keep (i := 9) (At.keep (i := 9) (At.keep (i := 9) (At.keep (i := 9) (At.keep (i := 8) hs10.2.2.2.2.2.2.2.2 (ne_lit rfl)) (ne_lit rfl)) (ne_lit rfl)) (ne_lit rfl)) (ne_lit rfl))))))
 (sv_appM (At.keep (i := 9) (At.keep (i := 9) (At.keep (i := 9) (At.keep (i := 9) (At.keep (i := 8) hs10.2.2.2.2.2.2.2.2 (ne_lit rfl)) (ne_lit rfl)) (ne_lit rfl)) (ne_lit rfl)) (ne_lit rfl)) (ne_lit rfl) (At.set (lt_len (i := 9) (len_set (len_set (len_set (len_set hs10.1)))) rfl) htrial_15) (fun h16 => (sv_nxF ⟨(len_set (len_none (len_set (len_set (len_set (len_set (len_set hs10.1))))))), (At.keep (i := 5) (At.keep (i := 9) (At.keep (i := 9) (At.keep (i := 9) (At.keep (i := 9) (At.keep (i := 9) (At.keep (i := 8) hs10.2.1 (ne_lit rfl)) (ne_lit rfl)) (ne_lit rfl)) (ne_lit rfl)) (ne_lit rfl)) (ne_lit rfl)) (ne_lit rfl)), (At.keep (i := 5) (At.keep (i := 9) (At.keep (i := 9) (At.keep (i := 9) (At.keep (i := 9) (At.keep (i := 9) (At.keep (i := 8) hs10.2.2.1 (ne_lit rfl)) (ne_lit rfl)) (ne_lit rfl)) (ne_lit rfl)) (ne_lit rfl)) (ne_lit rfl)) (ne_lit rfl)), (At.keep (i := 5) (At.keep (i := 9) (At.keep (i := 9) (At.keep (i := 9) (At.keep (i := 9) (At.keep (i := 9) (At.keep (i := 8) hs10.2.2.2.1 (ne_lit rfl)) (ne_lit rfl)) (ne_lit rfl)) (ne_lit rfl)) (ne_lit rfl)) (ne_lit rfl)) (ne_lit rfl)), (At.keep (i := 5) (At.keep (i := 9) (At.keep (i := 9) (At.keep (i := 9) (At.keep (i := 9) (At.keep (i := 9) (At.keep (i := 8) hs10.2.2.2.2.1 (ne_lit rfl)) (ne_lit rfl)) (ne_lit rfl)) (ne_lit rfl)) (ne_lit rfl)) (ne_lit rfl)) (ne_lit rfl)), (At.keep (i := 5) (At.keep (i := 9) (At.keep (i := 9) (At.keep (i := 9) (At.keep (i := 9) (At.keep (i := 9) (At.keep (i := 8) hs10.2.2.2.2.2.1 (ne_lit rfl)) (ne_lit rfl)) (ne_lit rfl)) (ne_lit rfl)) (ne_lit rfl)) (ne_lit rfl)) (ne_lit rfl)), (At.keep (i := 5) (At.keep (i := 9) (At.keep (i := 9) (At.keep (i := 9) (At.keep (i := 9) (At.keep (i := 9) (At.keep (i := 8) hs10.2.2.2.2.2.2.1 (ne_lit rfl)) (ne_lit rfl)) (ne_lit rfl)) (ne_lit rfl)) (ne_lit rfl)) (ne_lit rfl)) (ne_lit rfl)), (At.keep (i := 5) (At.keep (i := 9) (At.keep (i := 9) (At.keep (i := 9) (At.keep (i := 9) (At.keep (i := 9) (At.keep (i := 8) hs10.2.2.2.2.2.2.2.1 (ne_lit rfl)) (ne_lit rfl)) (ne_lit rfl)) (ne_lit rfl)) (ne_lit rfl)) (ne_lit rfl)) (ne_lit rfl)), (At.set (lt_len (i := 5) (len_none (len_set (len_set (len_set (len_set (len_set hs10.1)))))) rfl) h16)⟩)))
 (sv_skip (sv_nxF ⟨(len_set (len_set (len_set (len_set (len_set hs10.1))))), (At.keep (i := 9) (At.keep (i := 9) (At.keep (i := 9) (At.keep (i := 9) (At.keep (i := 8) hs10.2.1 (ne_lit rfl)) (ne_lit rfl)) (ne_lit rfl)) (ne_lit rfl)) (ne_lit rfl)), (At.keep (i := 9) (At.keep (i := 9) (At.keep (i := 9) (At.keep (i := 9) (At.keep (i := 8) hs10.2.2.1 (ne_lit rfl)) (ne_lit rfl)) (ne_lit rfl)) (ne_lit rfl)) (ne_lit rfl)), (At.keep (i := 9) (At.keep (i := 9) (At.keep (i := 9) (At.keep (i := 9) (At.keep (i := 8) hs10.2.2.2.1 (ne_lit rfl)) (ne_lit rfl)) (ne_lit rfl)) (ne_lit rfl)) (ne_lit rfl)), (At.keep (i := 9) (At.keep (i := 9) (At.keep (i := 9) (At.keep (i := 9) (At.keep (i := 8) hs10.2.2.2.2.1 (ne_lit rfl)) (ne_lit rfl)) (ne_lit rfl)) (ne_lit rfl)) (ne_lit rfl)), (At.keep (i := 9) (At.keep (i := 9) (At.keep (i := 9) (At.keep (i := 9) (At.keep (i := 8) hs10.2.2.2.2.2.1 (ne_lit rfl)) (ne_lit rfl)) (ne_lit rfl)) (ne_lit rfl)) (ne_lit rfl)), (At.keep (i := 9) (At.keep (i := 9) (At.keep (i := 9) (At.keep (i := 9) (At.keep (i := 8) hs10.2.2.2.2.2.2.1 (ne_lit rfl)) (ne_lit rfl)) (ne_lit rfl)) (ne_lit rfl)) (ne_lit rfl)), (At.keep (i := 9) (At.keep (i := 9) (At.keep (i := 9) (At.keep (i := 9) (At.keep (i := 8) hs10.2.2.2.2.2.2.2.1 (ne_lit rfl)) (ne_lit rfl)) (ne_lit rfl)) (ne_lit rfl)) (ne_lit rfl)), (At.keep (i := 9) (At.keep (i := 9) (At.keep (i := 9) (At.keep (i := 9) (At.keep (i := 8) hs10.2.2.2.2.2.2.2.2 (ne_lit rfl)) (ne_lit rfl)) (ne_lit rfl)) (ne_lit rfl)) (ne_lit rfl))⟩)))))))))))))))
 (sv_skip (sv_nxF ⟨(len_set hs10.1), (At.keep (i := 8) hs10.2.1 (ne_lit rfl)), (At.keep (i := 8) hs10.2.2.1 (ne_lit rfl)), (At.keep (i := 8) hs10.2.2.2.1 (ne_lit rfl)), (At.keep (i := 8) hs10.2.2.2.2.1 (ne_lit rfl)), (At.keep (i := 8) hs10.2.2.2.2.2.1 (ne_lit rfl)), (At.keep (i := 8) hs10.2.2.2.2.2.2.1 (ne_lit rfl)), (At.keep (i := 8) hs10.2.2.2.2.2.2.2.1 (ne_lit rfl)), (At.keep (i := 8) hs10.2.2.2.2.2.2.2.2 (ne_lit rfl))⟩)))) (fun s10 es10 hs10 => (sv_nxF ⟨hs10.1, hs10.2.1, hs10.2.2.1, hs10.2.2.2.1, hs10.2.2.2.2.1, hs10.2.2.2.2.2.1, hs10.2.2.2.2.2.2.1, hs10.2.2.2.2.2.2.2.2⟩)))) (fun s8 es8 hs8 => (sv_nxF ⟨hs8.1, hs8.2.1, hs8.2.2.1, hs8.2.2.2.1, hs8.2.2.2.2.1, hs8.2.2.2.2.2.1, hs8.2.2.2.2.2.2.2⟩)))) (fun s6 es6 hs6 => (sv_assoc (sv_asg (ev_frz (EL.n (el_cat (EV.p (ev_var hs6.2.2.2.1)) (ep_plc hs6.2.2.2.2.2.2)))) trivial (fun found_22 hfound_22 => (sv_asgM (At.keep (i := 2) hs6.2.2.2.2.2.2 (ne_lit rfl)) (sv_nxF ⟨(len_set (len_none (len_set hs6.1))), (At.keep (i := 3) (At.keep (i := 5) (At.keep (i := 2) hs6.2.1 (ne_lit rfl)) (ne_lit rfl)) (ne_lit rfl)), (At.keep (i := 3) (At.keep (i := 5) (At.keep (i := 2) hs6.2.2.1 (ne_lit rfl)) (ne_lit rfl)) (ne_lit rfl)), (At.keep (i := 3) (At.keep (i := 5) (At.set (lt_len (i := 2) hs6.1 rfl) hfound_22) (ne_lit rfl)) (ne_lit rfl)), (At.set (lt_len (i := 3) (len_none (len_set hs6.1)) rfl) (At.sz hs6.2.2.2.2.2.2))⟩)))))))))))) (fun s3 es3 hs3 => (sv_retp (ev_var hs3.2.2.2.1) (fun z => (fphi z))))))))))))
def t__law_heaps (p_shares : (List Int)) : X Unit (List Int) :=
 (xb () (x1 t__law_down (X.ok p_shares)) fun (rows_1 : (List Int)) => (tComp (x1 tRng1 (X.ok ((List.length rows_1 : Int) + (1 : Int)))) (fun (u2 : Int) => X.ok true) (fun (u2 : Int) => (X.ok (List.sum (dCut rows_1 none (some u2)))))))
theorem ty__law_heaps (p_shares : (List Int)) (z_shares : Sz p_shares) : FnT m__law_heaps [enc p_shares] (t__law_heaps p_shares) := by
  unfold m__law_heaps
  refine fn_t ?_ (.inl rfl)
  generalize he : List.map some _ ++ _ = e
  have hl : e.length = 3 := by subst he; rfl
  have h_shares : At e 0 (enc p_shares) := by subst he; exact ⟨rfl, z_shares⟩
  clear he
  unfold t__law_heaps b__law_heaps
  exact sv_end (sv_assoc (sv_asg (ev_melt (eo_c1 (tf := t__law_down) (fun a0 z0 => ty__law_down a0  z0 ) rfl (.inl rfl) (EV.g (ev_var h_shares)))) trivial (fun rows_1 hrows_1 => (sv_retT (ev_frz (EL.n (el_comp (tg1 (i := 2) (n := 3) (Nat.le_of_ble_eq_true rfl)) (le_len (len_set hl)) (ei_rng1 (EV.p (ev_frz (en_Add (EV.p (ev_frz (en_Len (EV.p (ev_var (At.set (lt_len (i := 1) hl rfl) hrows_1)))))) (EV.p ev_int))))) (fun u2 hu2 => et_yes) (fun u2 hu2 => (ev_frz (en_Sum (EV.p (ev_frz (EL.n (el_slp (EV.p (ev_var (At.keep (i := 2) (At.set (lt_len (i := 1) hl rfl) hrows_1) (ne_lit rfl)))) eb_n (eb_ip (EV.p (ev_var (At.set (lt_len (i := 2) (len_set hl) rfl) hu2))))))))))))))))))
def t__law_evener (p_one : (List Int)) (p_other : (List Int)) : X Unit Bool :=
 (xb () (x1 t__law_heaps (X.ok p_one)) fun (first_1 : (List Int)) => (xb () (x1 t__law_heaps (X.ok p_other)) fun (second_2 : (List Int)) => (xb () (xOr (X.ok (!decide ((List.length first_1 : Int) = (List.length second_2 : Int)))) (x2 tNe (x2 tIx (X.ok first_1) (X.ok ((List.length first_1 : Int) - (1 : Int)))) (x2 tIx (X.ok second_2) (X.ok ((List.length second_2 : Int) - (1 : Int)))))) fun b4 => if b4 = true then
 (X.ok false)
 else
 (x2 tEq (x1 tLen (tComp (X.ok (irng 0 (List.length first_1 : Int))) (fun (u3 : Int) => (x2 tGt (x2 tIx (X.ok first_1) (X.ok u3)) (x2 tIx (X.ok second_2) (X.ok u3)))) (fun (u3 : Int) => (X.ok u3)))) (X.ok (0 : Int))))))
theorem ty__law_evener (p_one : (List Int)) (p_other : (List Int)) (z_one : Sz p_one) (z_other : Sz p_other) : FnT m__law_evener [enc p_one, enc p_other] (t__law_evener p_one p_other) := by
  unfold m__law_evener
  refine fn_t ?_ (.inl rfl)
  generalize he : List.map some _ ++ _ = e
  have hl : e.length = 5 := by subst he; rfl
  have h_one : At e 0 (enc p_one) := by subst he; exact ⟨rfl, z_one⟩
  have h_other : At e 1 (enc p_other) := by subst he; exact ⟨rfl, z_other⟩
  clear he
  unfold t__law_evener b__law_evener s3__law_evener s2__law_evener s1__law_evener s0__law_evener
  exact sv_end (sv_assoc (sv_asg (ev_melt (eo_c1 (tf := t__law_heaps) (fun a0 z0 => ty__law_heaps a0  z0 ) rfl (.inl rfl) (EV.g (ev_var h_one)))) trivial (fun first_1 hfirst_1 => (sv_assoc (sv_asg (ev_melt (eo_c1 (tf := t__law_heaps) (fun a0 z0 => ty__law_heaps a0  z0 ) rfl (.inl rfl) (EV.g (ev_var (At.keep (i := 2) h_other (ne_lit rfl)))))) trivial (fun second_2 hsecond_2 => (sv_assoc (sv_if (et_or (et_n (en_Ne (by decide) (EV.p (ev_frz (en_Len (EV.p (ev_var (At.keep (i := 3) (At.set (lt_len (i := 2) hl rfl) hfirst_1) (ne_lit rfl))))))) (EV.p (ev_frz (en_Len (EV.p (ev_var (At.set (lt_len (i := 3) (len_set hl) rfl) hsecond_2)))))))) (et_n (en_2 (tp_Ne (by decide) ) (EV.p (ev_frz (en_2 op_ix (EV.p (ev_var (At.keep (i := 3) (At.set (lt_len (i := 2) hl rfl) hfirst_1) (ne_lit rfl)))) (EV.p (ev_frz (en_Sub (EV.p (ev_frz (en_Len (EV.p (ev_var (At.keep (i := 3) (At.set (lt_len (i := 2) hl rfl) hfirst_1) (ne_lit rfl))))))) (EV.p ev_int))))))) (EV.p (ev_frz (en_2 op_ix (EV.p (ev_var (At.set (lt_len (i := 3) (len_set hl) rfl) hsecond_2))) (EV.p (ev_frz (en_Sub (EV.p (ev_frz (en_Len (EV.p (ev_var (At.set (lt_len (i := 3) (len_set hl) rfl) hsecond_2)))))) (EV.p ev_int)))))))))) trivial
 (sv_retp ev_bool (fun z => (fphi z)))
 (sv_skip (sv_retT (ev_frz (en_2 (tp_Eq (by decide) ) (EV.p (ev_frz (en_b1 tp_Len (EV.p (ev_frz (EL.n (el_comp (tg1 (i := 4) (n := 5) (Nat.le_of_ble_eq_true rfl)) (le_len (len_set (len_set hl))) (ei_rngL (EV.p (ev_var (At.keep (i := 3) (At.set (lt_len (i := 2) hl rfl) hfirst_1) (ne_lit rfl))))) (fun u3 hu3 => (et_n (en_2 tp_Gt (EV.p (ev_frz (en_2 op_ix (EV.p (ev_var (At.keep (i := 4) (At.keep (i := 3) (At.set (lt_len (i := 2) hl rfl) hfirst_1) (ne_lit rfl)) (ne_lit rfl)))) (EV.p (ev_var (At.set (lt_len (i := 4) (len_set (len_set hl)) rfl) hu3)))))) (EV.p (ev_frz (en_2 op_ix (EV.p (ev_var (At.keep (i := 4) (At.set (lt_len (i := 3) (len_set hl) rfl) hsecond_2) (ne_lit rfl)))) (EV.p (ev_var (At.set (lt_len (i := 4) (len_set (len_set hl)) rfl) hu3))))))))) (fun u3 hu3 => (ev_var (At.set (lt_len (i := 4) (len_set (len_set hl)) rfl) hu3)))))))))) (EV.p ev_int)))))))))))))
def t_steps_to_even (p_shares : (List Int)) : X Unit Int :=
 (xb () (x1 (fun l => X.ok (sortR l)) (x1 t_checked_shares (X.ok p_shares))) fun (rows_1 : (List Int)) => (if (!(!List.isEmpty rows_1)) = true then
 (X.ok (0 : Int))
 else
 (xb () (x2 t_evenest (X.ok (List.sum rows_1)) (X.ok (List.length rows_1 : Int))) fun (best_2 : (List Int)) => (x1 tSum (tComp (X.ok (irng 0 (List.length rows_1 : Int))) (fun (u3 : Int) => X.ok true) (fun (u3 : Int) => (x2 tMax (X.ok (0 : Int)) (x2 tSub (x2 tIx (X.ok rows_1) (X.ok u3)) (x2 tIx (X.ok best_2) (X.ok u3))))))))))
theorem ty_steps_to_even (p_shares : (List Int)) (z_shares : Sz p_shares) : FnT m_steps_to_even [enc p_shares] (t_steps_to_even p_shares) := by
  unfold m_steps_to_even
  refine fn_t ?_ (.inl rfl)
  generalize he : List.map some _ ++ _ = e
  have hl : e.length = 4 := by subst he; rfl
  have h_shares : At e 0 (enc p_shares) := by subst he; exact ⟨rfl, z_shares⟩
  clear he
  unfold t_steps_to_even b_steps_to_even s2_steps_to_even s1_steps_to_even s0_steps_to_even
  exact sv_end (sv_assoc (sv_asg (ev_frz (EL.n (el_sortR (EV.p (ev_melt (eo_c1 (tf := t_checked_shares) (fun a0 z0 => ty_checked_shares a0  z0 ) rfl (.inl rfl) (EV.g (ev_var h_shares)))))))) trivial (fun rows_1 hrows_1 => (sv_assoc (sv_ifp (et_notp (et_truL (EV.p (ev_var (At.set (lt_len (i := 1) hl rfl) hrows_1)))))
 (sv_retp ev_int (fun z => (fphi z)))
 (sv_skip (sv_assoc (sv_asg (ev_melt (eo_c2 (tf := t_evenest) (fun a0 a1 z0 z1 => ty_evenest a0 a1  z0 z1 ) rfl (.inl rfl) (EV.g (ev_frz (en_Sum (EV.p (ev_var (At.set (lt_len (i := 1) hl rfl) hrows_1)))))) (EV.g (ev_frz (en_Len (EV.p (ev_var (At.set (lt_len (i := 1) hl rfl) hrows_1)))))))) trivial (fun best_2 hbest_2 => (sv_retT (ev_frz (en_b1 tp_Sum (EV.p (ev_frz (EL.n (el_comp (tg1 (i := 3) (n := 4) (Nat.le_of_ble_eq_true rfl)) (le_len (len_set (len_set hl))) (ei_rngL (EV.p (ev_var (At.keep (i := 2) (At.set (lt_len (i := 1) hl rfl) hrows_1) (ne_lit rfl))))) (fun u3 hu3 => et_yes) (fun u3 hu3 => (ev_frz (en_b2 tp_Max (EV.p ev_int) (EV.p (ev_frz (en_2 tp_Sub (EV.p (ev_frz (en_2 op_ix (EV.p (ev_var (At.keep (i := 3) (At.keep (i := 2) (At.set (lt_len (i := 1) hl rfl) hrows_1) (ne_lit rfl)) (ne_lit rfl)))) (EV.p (ev_var (At.set (lt_len (i := 3) (len_set (len_set hl)) rfl) hu3)))))) (EV.p (ev_frz (en_2 op_ix (EV.p (ev_var (At.keep (i := 3) (At.set (lt_len (i := 2) (len_set hl) rfl) hbest_2) (ne_lit rfl)))) (EV.p (ev_var (At.set (lt_len (i := 3) (len_set (len_set hl)) rfl) hu3))))))))))))))))))))))))))))
def lb0_heaped : ((List Int)) → (Int) → X Unit ((List Int)) :=
 fun (s2 : (List Int)) (a3 : Int) =>
 (xb () (x2 tAdd (x2 tIx (X.ok s2) (X.ok (-(1 : Int)))) (X.ok a3)) fun (y4 : Int) => rq (List.length s2 + 1 ≤ 16777216) (X.ok ((s2 ++ [y4]))))
def t_heaped (p_shares : (List Int)) : X Unit (List Int) :=
 (xb () (X.ok ([(0 : Int)] : List Int)) fun (found_1 : (List Int)) => (xb () (x1 (fun l => X.ok (sortR l)) (x1 t_checked_shares (X.ok p_shares))) fun l => forF lb0_heaped l (found_1) >>= (fun (s2 : (List Int)) => (X.ok s2))))
theorem ty_heaped (p_shares : (List Int)) (z_shares : Sz p_shares) : FnT m_heaped [enc p_shares] (t_heaped p_shares) := by
  unfold m_heaped
  refine fn_t ?_ (.inl rfl)
  generalize he : List.map some _ ++ _ = e
  have hl : e.length = 3 := by subst he; rfl
  have h_shares : At e 0 (enc p_shares) := by subst he; exact ⟨rfl, z_shares⟩
  clear he
  unfold t_heaped lb0_heaped b_heaped l0_heaped
  exact sv_end (sv_assoc (sv_setO (eo_own (el_lst (ea_consp ev_int (ea_nil (α := Int))))) trivial (fun found_1 hfound_1 => (sv_assoc (sv_forF (fun (s2 : (List Int)) e => e.length = 3 ∧ At e 0 (enc p_shares) ∧ At e 1 (enc s2)) (tg1 (i := 2) (n := 3) (Nat.le_of_ble_eq_true rfl)) (ei_seq (ev_frz (EL.n (el_sortR (EV.p (ev_melt (eo_c1 (tf := t_checked_shares) (fun a0 z0 => ty_checked_shares a0  z0 ) rfl (.inl rfl) (EV.g (ev_var (At.keep (i := 1) h_shares (ne_lit rfl))))))))))) trivial ⟨(len_set hl), (At.keep (i := 1) h_shares (ne_lit rfl)), (At.set (lt_len (i := 1) hl rfl) hfound_1)⟩ (fun s2 a3 es2 hs2 ha3 => sv_end (sv_app (At.keep (i := 2) hs2.2.2 (ne_lit rfl)) (ev_frz (en_2 tp_Add (EV.p (ev_frz (en_2 op_ix (ep_plc (At.keep (i := 2) hs2.2.2 (ne_lit rfl))) (EV.p (ev_frz (en_Neg (EV.p ev_int))))))) (EV.p (ev_var (At.set (lt_len (i := 2) hs2.1 rfl) ha3))))) trivial (fun y4 _ hy4 => (sv_nxF ⟨(len_set (len_set hs2.1)), (At.keep (i := 1) (At.keep (i := 2) hs2.2.1 (ne_lit rfl)) (ne_lit rfl)), (At.set (lt_len (i := 1) (len_set hs2.1) rfl) hy4)⟩)))) (fun s2 es2 hs2 => (sv_retZ hs2.2.2 (fun z => (fphi z)))))))))
def t_is_evener (p_one : (List Int)) (p_other : (List Int)) : X Unit Bool :=
 (xb () (x1 t_heaped (X.ok p_one)) fun (first_1 : (List Int)) => (xb () (x1 t_heaped (X.ok p_other)) fun (second_2 : (List Int)) => (xb () (xOr (X.ok (!decide ((List.length first_1 : Int) = (List.length second_2 : Int)))) (x2 tNe (x2 tIx (X.ok first_1) (X.ok (-(1 : Int)))) (x2 tIx (X.ok second_2) (X.ok (-(1 : Int)))))) fun b4 => if b4 = true then
 (X.ok false)
 else
 (x1 tAll (tComp (X.ok (irng 0 (List.length first_1 : Int))) (fun (u3 : Int) => X.ok true) (fun (u3 : Int) => (x2 tLe (x2 tIx (X.ok first_1) (X.ok u3)) (x2 tIx (X.ok second_2) (X.ok u3)))))))))
theorem ty_is_evener (p_one : (List Int)) (p_other : (List Int)) (z_one : Sz p_one) (z_other : Sz p_other) : FnT m_is_evener [enc p_one, enc p_other] (t_is_evener p_one p_other) := by
  unfold m_is_evener
  refine fn_t ?_ (.inl rfl)
  generalize he : List.map some _ ++ _ = e
  have hl : e.length = 5 := by subst he; rfl
  have h_one : At e 0 (enc p_one) := by subst he; exact ⟨rfl, z_one⟩
  have h_other : At e 1 (enc p_other) := by subst he; exact ⟨rfl, z_other⟩
  clear he
  unfold t_is_evener b_is_evener s3_is_evener s2_is_evener s1_is_evener s0_is_evener
  exact sv_end (sv_assoc (sv_asg (ev_melt (eo_c1 (tf := t_heaped) (fun a0 z0 => ty_heaped a0  z0 ) rfl (.inl rfl) (EV.g (ev_var h_one)))) trivial (fun first_1 hfirst_1 => (sv_assoc (sv_asg (ev_melt (eo_c1 (tf := t_heaped) (fun a0 z0 => ty_heaped a0  z0 ) rfl (.inl rfl) (EV.g (ev_var (At.keep (i := 2) h_other (ne_lit rfl)))))) trivial (fun second_2 hsecond_2 => (sv_assoc (sv_if (et_or (et_n (en_Ne (by decide) (EV.p (ev_frz (en_Len (EV.p (ev_var (At.keep (i := 3) (At.set (lt_len (i := 2) hl rfl) hfirst_1) (ne_lit rfl))))))) (EV.p (ev_frz (en_Len (EV.p (ev_var (At.set (lt_len (i := 3) (len_set hl) rfl) hsecond_2)))))))) (et_n (en_2 (tp_Ne (by decide) ) (EV.p (ev_frz (en_2 op_ix (EV.p (ev_var (At.keep (i := 3) (At.set (lt_len (i := 2) hl rfl) hfirst_1) (ne_lit rfl)))) (EV.p (ev_frz (en_Neg (EV.p ev_int))))))) (EV.p (ev_frz (en_2 op_ix (EV.p (ev_var (At.set (lt_len (i := 3) (len_set hl) rfl) hsecond_2))) (EV.p (ev_frz (en_Neg (EV.p ev_int)))))))))) trivial
 (sv_retp ev_bool (fun z => (fphi z)))
 (sv_skip (sv_retT (ev_frz (en_b1 tp_All (EV.p (ev_frz (EL.n (el_comp (tg1 (i := 4) (n := 5) (Nat.le_of_ble_eq_true rfl)) (le_len (len_set (len_set hl))) (ei_rngL (EV.p (ev_var (At.keep (i := 3) (At.set (lt_len (i := 2) hl rfl) hfirst_1) (ne_lit rfl))))) (fun u3 hu3 => et_yes) (fun u3 hu3 => (ev_frz (en_2 tp_Le (EV.p (ev_frz (en_2 op_ix (EV.p (ev_var (At.keep (i := 4) (At.keep (i := 3) (At.set (lt_len (i := 2) hl rfl) hfirst_1) (ne_lit rfl)) (ne_lit rfl)))) (EV.p (ev_var (At.set (lt_len (i := 4) (len_set (len_set hl)) rfl) hu3)))))) (EV.p (ev_frz (en_2 op_ix (EV.p (ev_var (At.keep (i := 4) (At.set (lt_len (i := 3) (len_set hl) rfl) hsecond_2) (ne_lit rfl)))) (EV.p (ev_var (At.set (lt_len (i := 4) (len_set (len_set hl)) rfl) hu3)))))))))))))))))))))))))
def t_joined (p_one : (List Int)) (p_other : (List Int)) : X Unit (List Int) :=
 (x1 (fun l => X.ok (sortR l)) (x1 t_checked_shares (x2 tCat (X.ok p_one) (X.ok p_other))))
theorem ty_joined (p_one : (List Int)) (p_other : (List Int)) (z_one : Sz p_one) (z_other : Sz p_other) : FnT m_joined [enc p_one, enc p_other] (t_joined p_one p_other) := by
  unfold m_joined
  refine fn_t ?_ (.inl rfl)
  generalize he : List.map some _ ++ _ = e
  have hl : e.length = 2 := by subst he; rfl
  have h_one : At e 0 (enc p_one) := by subst he; exact ⟨rfl, z_one⟩
  have h_other : At e 1 (enc p_other) := by subst he; exact ⟨rfl, z_other⟩
  clear he
  unfold t_joined b_joined
  exact sv_end (sv_retT (ev_frz (EL.n (el_sortR (EV.p (ev_melt (eo_c1 (tf := t_checked_shares) (fun a0 z0 => ty_checked_shares a0  z0 ) rfl (.inl rfl) (EV.g (ev_frz (EL.n (el_cat (EV.p (ev_frz (EL.n (el_list (X.ok p_one) (EV.p (ev_var h_one)))))) (EV.p (ev_frz (EL.n (el_list (X.ok p_other) (EV.p (ev_var h_other)))))))))))))))))
noncomputable def t__law_pick (p_pool : Pool) (p_rows : (List D)) : X Pool (D × Pool) :=
 (xc2 (fun (pool_4 : Pool) => pool_4) (t__law_draw p_pool (List.length p_rows : Int)) fun (r3 : Int) (pool_4 : Pool) => (xb pool_4 (tIx p_rows r3) fun (y5 : D) => (X.ok (y5, pool_4))))
theorem ty__law_pick (p_pool : Pool) (p_rows : (List D)) (z_pool : Sz p_pool) (z_rows : Sz p_rows) : FnO m__law_pick [enc p_pool, enc p_rows] 0 (t__law_pick p_pool p_rows) := by
  unfold m__law_pick
  refine fn_o (n := 2) (by decide) ?_ (.inl rfl)
  generalize he : List.map some _ ++ _ = e
  have hl : e.length = 2 := by subst he; rfl
  have h_pool : At e 0 (enc p_pool) := by subst he; exact ⟨rfl, z_pool⟩
  have h_rows : At e 1 (enc p_rows) := by subst he; exact ⟨rfl, z_rows⟩
  clear he
  unfold t__law_pick b__law_pick
  exact sv_end (es_ret (ec_frz (ec_2 (ec_p (ev_var h_rows) (fun h1 => (ec_melt (ec_call (ec_cons (ec_own h_pool (ec_cons (ec_p (ev_frz (en_Len (EV.p (ev_var h_rows)))) (fun h2 => (ec_nil (ec_fin (i := 0) (p := 0) rfl rfl rfl rfl (ga_own h_pool (ga_val ga_nil)) (ty__law_draw p_pool (List.length p_rows : Int) z_pool h2) (fun pool_4 hpool_4 => ⟨(len_set hl), (At.set (lt_len (i := 0) hl rfl) hpool_4)⟩) (fun r3 pool_4 hr3 hpool_4 => (ec_op2 op_ix rfl rfl h1 hr3 ⟨(len_set hl), (At.set (lt_len (i := 0) hl rfl) hpool_4)⟩ (fun y5 hy5 => (es_retk (a := y5) (ophi hy5 (len_set hl) (At.set (lt_len (i := 0) hl rfl) hpool_4))))))))))))))))))))
def t_is_number_2 (p_value : D) (p_least : Int) (p_most : Int) : X Unit Bool :=
 (if ((isD "bool" p_value) || (!(isD "int" p_value))) = true then
 (X.ok false)
 else
 (xChain tLe tLe (X.ok p_least) ((X.ok p_value) >>= fun a => X.of (decI a)) (X.ok p_most)))
theorem ty_is_number_2 (p_value : D) (p_least : Int) (p_most : Int) (z_value : Sz p_value) (z_least : Sz p_least) (z_most : Sz p_most) : FnT m_is_number [enc p_value, enc p_least, enc p_most] (t_is_number_2 p_value p_least p_most) := by
  unfold m_is_number
  refine fn_t ?_ (.inl rfl)
  generalize he : List.map some _ ++ _ = e
  have hl : e.length = 3 := by subst he; rfl
  have h_value : At e 0 (enc p_value) := by subst he; exact ⟨rfl, z_value⟩
  have h_least : At e 1 (enc p_least) := by subst he; exact ⟨rfl, z_least⟩
  have h_most : At e 2 (enc p_most) := by subst he; exact ⟨rfl, z_most⟩
  clear he
  unfold t_is_number_2 b_is_number
  exact sv_end (sv_assoc (sv_ifp (et_orp (et_n (en_isip (g := (fun a => isD "bool" a)) isi_D (EV.p (ev_var h_value)))) (et_notp (et_n (en_isip (g := (fun a => isD "int" a)) isi_D (EV.p (ev_var h_value))))))
 (sv_retp ev_bool (fun z => (fphi z)))
 (sv_skip (sv_retT (ev_frz (en_chain tp_Le tp_Le (EV.p (ev_var h_least)) (ep_dn decI dn_I (EV.p (ev_var h_value))) (EV.p (ev_var h_most))))))))
def t_checked_number_2 (p_value : D) (p_least : Int) (p_most : Int) : X Unit D :=
 (xb () (xNot (x3 t_is_number_2 (X.ok p_value) (X.ok p_least) (X.ok p_most))) fun b1 => if b1 = true then
 (xb () (x2 tCatS (x2 tCatS (x2 tCatS (X.ok ("no number from " : Str)) (x1 tStr (X.ok p_least))) (X.ok (" to " : Str))) (x1 tStr (X.ok p_most))) fun _ => X.ex ⟨("InvalidNumber" : Str), none⟩ ())
 else
 (X.ok p_value))
theorem ty_checked_number_2 (p_value : D) (p_least : Int) (p_most : Int) (z_value : Sz p_value) (z_least : Sz p_least) (z_most : Sz p_most) : FnT m_checked_number [enc p_value, enc p_least, enc p_most] (t_checked_number_2 p_value p_least p_most) := by
  unfold m_checked_number
  refine fn_t ?_ (.inl rfl)
  generalize he : List.map some _ ++ _ = e
  have hl : e.length = 3 := by subst he; rfl
  have h_value : At e 0 (enc p_value) := by subst he; exact ⟨rfl, z_value⟩
  have h_least : At e 1 (enc p_least) := by subst he; exact ⟨rfl, z_least⟩
  have h_most : At e 2 (enc p_most) := by subst he; exact ⟨rfl, z_most⟩
  clear he
  unfold t_checked_number_2 b_checked_number
  exact sv_end (sv_assoc (sv_if (et_not (tt_truBt (EV.p (ev_melt (eo_c3 (tf := t_is_number_2) (fun a0 a1 a2 z0 z1 z2 => ty_is_number_2 a0 a1 a2  z0 z1 z2 ) rfl (.inl rfl) (EV.g (ev_var h_value)) (EV.g (ev_var h_least)) (EV.g (ev_var h_most))))))) trivial
 (sv_raise (ev_frz (en_2 op_cats (EV.p (ev_frz (en_2 op_cats (EV.p (ev_frz (en_2 op_cats (EV.p ev_str) (EV.p (ev_frz (en_b1 op_str (EV.p (ev_var h_least)))))))) (EV.p ev_str)))) (EV.p (ev_frz (en_b1 op_str (EV.p (ev_var h_most))))))) trivial)
 (sv_skip (sv_retp (ev_var h_value) (fun z => (fphi z))))))
def t_evenest_2 (p_total : D) (p_many : Int) : X Unit (List Int) :=
 (xb () (x1 (fun a0 => t_checked_number_2 a0 (0 : Int) (1000000 : Int)) (X.ok p_total)) fun _ => (xb () (xNot (x3 t_is_number (X.ok p_many) (X.ok (1 : Int)) (X.ok (60 : Int)))) fun b2 => if b2 = true then
 (X.ex ⟨("InvalidNumber" : Str), none⟩ ())
 else
 (tComp (x1 tRng1 (X.ok p_many)) (fun (u1 : Int) => X.ok true) (fun (u1 : Int) => (x2 tAdd (x2 tDiv ((X.ok p_total) >>= fun a => X.of (decI a)) (X.ok p_many)) (xIf (x2 tLt (X.ok u1) (x2 tMod ((X.ok p_total) >>= fun a => X.of (decI a)) (X.ok p_many))) (X.ok (1 : Int)) (X.ok (0 : Int))))))))
theorem ty_evenest_2 (p_total : D) (p_many : Int) (z_total : Sz p_total) (z_many : Sz p_many) : FnT m_evenest [enc p_total, enc p_many] (t_evenest_2 p_total p_many) := by
  unfold m_evenest
  refine fn_t ?_ (.inl rfl)
  generalize he : List.map some _ ++ _ = e
  have hl : e.length = 3 := by subst he; rfl
  have h_total : At e 0 (enc p_total) := by subst he; exact ⟨rfl, z_total⟩
  have h_many : At e 1 (enc p_many) := by subst he; exact ⟨rfl, z_many⟩
  clear he
  unfold t_evenest_2 b_evenest
  exact sv_end (sv_assoc (sv_drop (ev_melt (eo_c1 (tf := (fun a0 => t_checked_number_2 a0 (0 : Int) (1000000 : Int))) (fun a0 z0 => ty_checked_number_2 a0 (0 : Int) (1000000 : Int) z0 (sz_int _) (sz_int _)) rfl (.inl rfl) (EV.g (ev_var h_total)))) trivial (sv_assoc (sv_if (et_not (tt_truBt (EV.p (ev_melt (eo_c3 (tf := t_is_number) (fun a0 a1 a2 z0 z1 z2 => ty_is_number a0 a1 a2  z0 z1 z2 ) rfl (.inl rfl) (EV.g (ev_var h_many)) (EV.g ev_int) (EV.g ev_int)))))) trivial
 (sv_raisep ev_str trivial)
 (sv_skip (sv_retT (ev_frz (EL.n (el_comp (tg1 (i := 2) (n := 3) (Nat.le_of_ble_eq_true rfl)) (le_len hl) (ei_rng1 (EV.p (ev_var h_many))) (fun u1 hu1 => et_yes) (fun u1 hu1 => (ev_frz (en_2 tp_Add (EV.p (ev_frz (en_2 op_div (ep_dn decI dn_I (EV.p (ev_var (At.keep (i := 2) h_total (ne_lit rfl))))) (EV.p (ev_var (At.keep (i := 2) h_many (ne_lit rfl))))))) (EV.p (if_j (et_n (en_2 tp_Lt (EV.p (ev_var (At.set (lt_len (i := 2) hl rfl) hu1))) (EV.p (ev_frz (en_2 op_mod (ep_dn decI dn_I (EV.p (ev_var (At.keep (i := 2) h_total (ne_lit rfl))))) (EV.p (ev_var (At.keep (i := 2) h_many (ne_lit rfl))))))))) ev_int ev_int))))))))))))))
def t__law_refused (p_total : D) (p_many : Int) : X Unit Bool :=
 (xj (σ := Unit) (xtry tab_WatchError true (xb () (x2 t_evenest_2 (X.ok p_total) (X.ok p_many)) fun _ => (X.ok (Lp.nx ()))) (fun q2 (u3 : Unit) => (xb () (xAnd (tIsE tab_InvalidNumber q2) (tIsE tab_ValueError q2)) fun a => X.ok (Lp.rt a))) (fun (u3 : Unit) => ())) fun s1 => (X.ok false))
theorem ty__law_refused (p_total : D) (p_many : Int) (z_total : Sz p_total) (z_many : Sz p_many) : FnT m__law_refused [enc p_total, enc p_many] (t__law_refused p_total p_many) := by
  unfold m__law_refused
  refine fn_t ?_ (.inl rfl)
  generalize he : List.map some _ ++ _ = e
  have hl : e.length = 3 := by subst he; rfl
  have h_total : At e 0 (enc p_total) := by subst he; exact ⟨rfl, z_total⟩
  have h_many : At e 1 (enc p_many) := by subst he; exact ⟨rfl, z_many⟩
  clear he
  unfold t__law_refused b__law_refused
  exact sv_end (sv_assoc (sv_join (fun (s1 : Unit) e => e.length = 3 ∧ At e 0 (enc p_total) ∧ At e 1 (enc p_many)) (sv_tryAs (i := 2) (Θ' := (fun (u3 : Unit) e => e.length = 3 ∧ At e 0 (enc p_total) ∧ At e 1 (enc p_many))) (fun _ _ _ _ h => fphi_e h) (sv_end (sv_drop (ev_melt (eo_c2 (tf := t_evenest_2) (fun a0 a1 z0 z1 => ty_evenest_2 a0 a1  z0 z1 ) rfl (.inl rfl) (EV.g (ev_var h_total)) (EV.g (ev_var h_many)))) ⟨hl, h_total, h_many⟩ (sv_jnx ⟨hl, h_total, h_many⟩))) (fun q2 u3 eu3 hu3 => sv_end (sv_ret (w := fun a => (Lp.rt a)) (ev_andV (tb := X.st) (ev_frz (en_isE (AtX.set (lt_len (i := 2) hu3.1 rfl)))) (ev_frz (en_isE (AtX.set (lt_len (i := 2) hu3.1 rfl))))) trivial (fun _ z => (jphi (fphi z))))) (fun u3 eu3 hu3 => trivial)) (fun s1 es1 hs1 => (sv_retp ev_bool (fun z => (fphi z))))))
def t_evenest_3 (p_total : Int) (p_many : D) : X Unit (List Int) :=
 (xb () (x1 (fun a0 => t_checked_number a0 (0 : Int) (1000000 : Int)) (X.ok p_total)) fun _ => (xb () (xNot (x3 t_is_number_2 (X.ok p_many) (X.ok (1 : Int)) (X.ok (60 : Int)))) fun b2 => if b2 = true then
 (X.ex ⟨("InvalidNumber" : Str), none⟩ ())
 else
 (tComp (x1 tRng1 ((X.ok p_many) >>= fun a => X.of (decI a))) (fun (u1 : Int) => X.ok true) (fun (u1 : Int) => (x2 tAdd (x2 tDiv (X.ok p_total) ((X.ok p_many) >>= fun a => X.of (decI a))) (xIf (x2 tLt (X.ok u1) (x2 tMod (X.ok p_total) ((X.ok p_many) >>= fun a => X.of (decI a)))) (X.ok (1 : Int)) (X.ok (0 : Int))))))))
theorem ty_evenest_3 (p_total : Int) (p_many : D) (z_total : Sz p_total) (z_many : Sz p_many) : FnT m_evenest [enc p_total, enc p_many] (t_evenest_3 p_total p_many) := by
  unfold m_evenest
  refine fn_t ?_ (.inl rfl)
  generalize he : List.map some _ ++ _ = e
  have hl : e.length = 3 := by subst he; rfl
  have h_total : At e 0 (enc p_total) := by subst he; exact ⟨rfl, z_total⟩
  have h_many : At e 1 (enc p_many) := by subst he; exact ⟨rfl, z_many⟩
  clear he
  unfold t_evenest_3 b_evenest
  exact sv_end (sv_assoc (sv_drop (ev_melt (eo_c1 (tf := (fun a0 => t_checked_number a0 (0 : Int) (1000000 : Int))) (fun a0 z0 => ty_checked_number a0 (0 : Int) (1000000 : Int) z0 (sz_int _) (sz_int _)) rfl (.inl rfl) (EV.g (ev_var h_total)))) trivial (sv_assoc (sv_if (et_not (tt_truBt (EV.p (ev_melt (eo_c3 (tf := t_is_number_2) (fun a0 a1 a2 z0 z1 z2 => ty_is_number_2 a0 a1 a2  z0 z1 z2 ) rfl (.inl rfl) (EV.g (ev_var h_many)) (EV.g ev_int) (EV.g ev_int)))))) trivial
 (sv_raisep ev_str trivial)
 (sv_skip (sv_retT (ev_frz (EL.n (el_comp (tg1 (i := 2) (n := 3) (Nat.le_of_ble_eq_true rfl)) (le_len hl) (ei_rng1 (ep_dn decI dn_I (EV.p (ev_var h_many)))) (fun u1 hu1 => et_yes) (fun u1 hu1 => (ev_frz (en_2 tp_Add (EV.p (ev_frz (en_2 op_div (EV.p (ev_var (At.keep (i := 2) h_total (ne_lit rfl)))) (ep_dn decI dn_I (EV.p (ev_var (At.keep (i := 2) h_many (ne_lit rfl)))))))) (EV.p (if_j (et_n (en_2 tp_Lt (EV.p (ev_var (At.set (lt_len (i := 2) hl rfl) hu1))) (EV.p (ev_frz (en_2 op_mod (EV.p (ev_var (At.keep (i := 2) h_total (ne_lit rfl)))) (ep_dn decI dn_I (EV.p (ev_var (At.keep (i := 2) h_many (ne_lit rfl)))))))))) ev_int ev_int))))))))))))))
def t__law_refused_2 (p_total : Int) (p_many : D) : X Unit Bool :=
 (xj (σ := Unit) (xtry tab_WatchError true (xb () (x2 t_evenest_3 (X.ok p_total) (X.ok p_many)) fun _ => (X.ok (Lp.nx ()))) (fun q2 (u3 : Unit) => (xb () (xAnd (tIsE tab_InvalidNumber q2) (tIsE tab_ValueError q2)) fun a => X.ok (Lp.rt a))) (fun (u3 : Unit) => ())) fun s1 => (X.ok false))
theorem ty__law_refused_2 (p_total : Int) (p_many : D) (z_total : Sz p_total) (z_many : Sz p_many) : FnT m__law_refused [enc p_total, enc p_many] (t__law_refused_2 p_total p_many) := by
  unfold m__law_refused
  refine fn_t ?_ (.inl rfl)
  generalize he : List.map some _ ++ _ = e
  have hl : e.length = 3 := by subst he; rfl
  have h_total : At e 0 (enc p_total) := by subst he; exact ⟨rfl, z_total⟩
  have h_many : At e 1 (enc p_many) := by subst he; exact ⟨rfl, z_many⟩
  clear he
  unfold t__law_refused_2 b__law_refused
  exact sv_end (sv_assoc (sv_join (fun (s1 : Unit) e => e.length = 3 ∧ At e 0 (enc p_total) ∧ At e 1 (enc p_many)) (sv_tryAs (i := 2) (Θ' := (fun (u3 : Unit) e => e.length = 3 ∧ At e 0 (enc p_total) ∧ At e 1 (enc p_many))) (fun _ _ _ _ h => fphi_e h) (sv_end (sv_drop (ev_melt (eo_c2 (tf := t_evenest_3) (fun a0 a1 z0 z1 => ty_evenest_3 a0 a1  z0 z1 ) rfl (.inl rfl) (EV.g (ev_var h_total)) (EV.g (ev_var h_many)))) ⟨hl, h_total, h_many⟩ (sv_jnx ⟨hl, h_total, h_many⟩))) (fun q2 u3 eu3 hu3 => sv_end (sv_ret (w := fun a => (Lp.rt a)) (ev_andV (tb := X.st) (ev_frz (en_isE (AtX.set (lt_len (i := 2) hu3.1 rfl)))) (ev_frz (en_isE (AtX.set (lt_len (i := 2) hu3.1 rfl))))) trivial (fun _ z => (jphi (fphi z))))) (fun u3 eu3 hu3 => trivial)) (fun s1 es1 hs1 => (sv_retp ev_bool (fun z => (fphi z))))))
def lb0_law (bs11 : (List Int)) (bs45 : (List Int)) : (Unit) → ((List Int)) → X Unit (Lp (Unit) (Bool)) :=
 fun (s48 : Unit) (a49 : (List Int)) =>
 (xb () (xAnd (x2 t__law_evener (X.ok a49) (X.ok bs11)) (xOr (x2 tGt (x1 t_squares (X.ok a49)) (x1 t_squares (X.ok bs11))) (x2 tGt (x1 t_uneven (X.ok a49)) (x1 t_uneven (X.ok bs11))))) fun b51 => if b51 = true then
 (X.ok (Lp.rt false))
 else
 (xb () (xAnd (x2 t_is_evener (X.ok a49) (X.ok bs11)) (xNot (x2 t__law_evener (x2 t_joined (X.ok a49) (X.ok bs45)) (x2 t_joined (X.ok bs11) (X.ok bs45))))) fun b50 => if b50 = true then
 (X.ok (Lp.rt false))
 else
 (X.ok (Lp.nx ()))))
noncomputable def t_law (p_script : (List Int)) : X Unit Bool :=
 (xb () (x1 t__law_pool (X.ok p_script)) fun (pool_1 : Pool) => (xc2 (fun (pool_5 : Pool) => ()) (t__law_draw pool_1 (5 : Int)) fun (r4 : Int) (pool_5 : Pool) => (xb () (tRng1 r4) fun (l2 : List Int) => (xb () (noX (cmpO (fun (s7 : Pool) (u6 : Int) => ((xc2 (fun (pool_10 : Pool) => ()) (t__law_draw s7 (7 : Int)) fun (r9 : Int) (pool_10 : Pool) => (X.ok (some r9, (pool_10)))) : X Unit (Option Int × (Pool)))) l2 (pool_5))) fun w => (fun (bs11 : (List Int)) (s12 : Pool) => (xb () (xNot (x2 (t__law_same (α := Int)) (x1 t_gap (X.ok bs11)) (xIf (X.ok (decide ((0 : Int) < (List.length bs11 : Int)))) (x2 tSub (x1 tMaxL (X.ok bs11)) (x1 tMinL (X.ok bs11))) (X.ok (0 : Int))))) fun b69 => if b69 = true then
 (X.ok false)
 else
 (xb () (xOr (xNot (x2 (t__law_same (α := Int)) (x1 t_squares (X.ok bs11)) (x1 tSum (tComp (X.ok bs11) (fun (u14 : Int) => X.ok true) (fun (u14 : Int) => (x2 tMul (X.ok u14) (X.ok u14))))))) (xNot (x2 (t__law_same (α := Int)) (x1 t_uneven (X.ok bs11)) (x1 t__law_uneven (X.ok bs11))))) fun b68 => if b68 = true then
 (X.ok false)
 else
 (xc2 (fun (pool_17 : Pool) => ()) (t__law_draw s12 (60 : Int)) fun (r16 : Int) (pool_17 : Pool) => (xc2 (fun (pool_22 : Pool) => ()) (t__law_draw pool_17 (9 : Int)) fun (r21 : Int) (pool_22 : Pool) => (xb () (x2 t_evenest (X.ok r16) (X.ok ((1 : Int) + r21))) fun (told_25 : (List Int)) => (xb () (xOr (X.ok (!decide ((List.length told_25 : Int) = ((1 : Int) + r21)))) (xOr (X.ok (!decide ((List.sum told_25) = r16))) (xOr (x2 tNe (X.ok told_25) (x1 t__law_down (X.ok told_25))) (x2 tGt (x2 tSub (x2 tIx (X.ok told_25) (X.ok (0 : Int))) (x2 tIx (X.ok told_25) (X.ok (((1 : Int) + r21) - (1 : Int))))) (X.ok (1 : Int)))))) fun b67 => if b67 = true then
 (X.ok false)
 else
 (xc2 (fun (pool_28 : Pool) => ()) (t__law_draw pool_22 (4 : Int)) fun (r27 : Int) (pool_28 : Pool) => (xb () (x2 t_moved (X.ok bs11) (X.ok r27)) fun (due_30 : (List Int)) => (xb () (x2 t__law_reached (X.ok bs11) (X.ok r27)) fun (every_31 : (List (List Int))) => (xb () (xOr (X.ok (!memD due_30 every_31)) (x2 tGt (x1 tLen (tComp (X.ok every_31) (fun (u32 : (List Int)) => (xNot (x2 t__law_evener (X.ok due_30) (X.ok u32)))) (fun (u32 : (List Int)) => (X.ok u32)))) (X.ok (0 : Int)))) fun b66 => if b66 = true then
 (X.ok false)
 else
 (xj (σ := Unit) (if (decide ((0 : Int) < (List.length bs11 : Int))) = true then
 (xb () (x1 t__law_down (x2 t_evenest (X.ok (List.sum bs11)) (X.ok (List.length bs11 : Int)))) fun (best_35 : (List Int)) => (xb () (x1 t_steps_to_even (X.ok bs11)) fun (steps_36 : Int) => (if ((false) || ((decide (steps_36 < (0 : Int))) || (decide ((30 : Int) < steps_36)))) = true then
 (X.ok (Lp.rt false))
 else
 (xb () (xOr (xAnd (X.ok (decide (steps_36 < (4 : Int)))) (x2 tNotIn (X.ok best_35) (x2 t__law_reached (X.ok bs11) (X.ok steps_36)))) (xAnd (X.ok (decide ((0 : Int) < steps_36))) (x2 tIn (X.ok best_35) (x2 t__law_reached (X.ok bs11) (X.ok (if (steps_36 - (1 : Int)) < (3 : Int) then (steps_36 - (1 : Int)) else (3 : Int))))))) fun b38 => if b38 = true then
 (X.ok (Lp.rt false))
 else
 (xb () (xOr (xNot (x2 (t__law_same (α := (List Int))) (x2 t_moved (X.ok bs11) (X.ok steps_36)) (X.ok best_35))) (xAnd (X.ok (decide ((0 : Int) < steps_36))) (x2 tEq (x2 t_moved (X.ok bs11) (X.ok (steps_36 - (1 : Int)))) (X.ok best_35)))) fun b37 => if b37 = true then
 (X.ok (Lp.rt false))
 else
 (X.ok (Lp.nx ())))))))
 else
 (xb () (xOr (x2 tNe (x1 t_steps_to_even (X.ok bs11)) (X.ok (0 : Int))) (x2 tNe (x2 t_moved (X.ok bs11) (X.ok (3 : Int))) (X.ok ([] : List Int)))) fun b39 => if b39 = true then
 (X.ok (Lp.rt false))
 else
 (X.ok (Lp.nx ())))) fun s33 => (xb () (X.ok (irng 0 (List.length bs11 : Int))) fun l => xb () (noX (cmpX (fun (s41 : Pool) (u40 : Int) => (xc2 (fun (pool_44 : Pool) => ()) (t__law_draw s41 (7 : Int)) fun (r43 : Int) (pool_44 : Pool) => (X.ok (r43, (pool_44))))) l (pool_28))) fun w => (fun (bs45 : (List Int)) (s46 : Pool) => (xb () (X.ok every_31) fun l => forX (lb0_law bs11 bs45) (fun (s48 : Unit) => (xb () (xNot (x2 (t__law_same (α := (List Int))) (x2 t_joined (X.ok bs11) (X.ok bs45)) (x1 t__law_down (x2 tCat (X.ok bs11) (X.ok bs45))))) fun b65 => if b65 = true then
 (X.ok false)
 else
 (xc2 (fun (pool_57 : Pool) => ()) (t__law_pick s46 ([(enc (-(1 : Int)) : D), (enc (1000001 : Int) : D), (enc true : D)] : List D)) fun (r56 : D) (pool_57 : Pool) => (xb () (t__law_refused r56 (5 : Int)) fun (r59 : Bool) => (if (!r59) = true then (X.ok false) else (xc2 (fun (pool_63 : Pool) => ()) (t__law_pick pool_57 ([(enc (0 : Int) : D), (enc (61 : Int) : D), (enc (-(1 : Int)) : D), (enc true : D)] : List D)) fun (r62 : D) (pool_63 : Pool) => (xb () (t__law_refused_2 (5 : Int) r62) fun (r64 : Bool) => (if (!r64) = true then
 (X.ok false)
 else
 (x2 (t__law_same (α := Int)) (x1 t_steps_to_even (X.ok ([] : List Int))) (X.ok (0 : Int))))))))))) l ())) w.1 w.2))))))))))))) w.1 w.2))))
theorem ty_law (p_script : (List Int)) (z_script : Sz p_script) : FnT m_law [enc p_script] (t_law p_script) := by
  unfold m_law
  refine fn_t ?_ (.inl rfl)
  generalize he : List.map some _ ++ _ = e
  have hl : e.length = 15 := by subst he; rfl
  have h_script : At e 0 (enc p_script) := by subst he; exact ⟨rfl, z_script⟩
  clear he
  unfold t_law lb0_law b_law s17_law s16_law s15_law s14_law s13_law s12_law s11_law s10_law s9_law s8_law s7_law s6_law s5_law s4_law s3_law s2_law s1_law l0_law
  exact sv_end (sv_assoc (sv_setO (eo_c1 (tf := t__law_pool) (fun a z => ty__law_pool a z) rfl (.inl rfl) (EV.g (ev_var h_script))) trivial (fun pool_1 hpool_1 => (sv_assoc (es_asg (ec_frz (ec_comp0 (ec_rng1 (ec_melt (ec_call (ec_cons (ec_own (At.set (lt_len (i := 1) hl rfl) hpool_1) (ec_cons (ec_p ev_int (fun h3 => (ec_nil (ec_fin (i := 1) (p := 0) rfl rfl rfl rfl (ga_own (At.set (lt_len (i := 1) hl rfl) hpool_1) (ga_val ga_nil)) (ty__law_draw pool_1 (5 : Int) hpool_1 h3) (fun pool_5 hpool_5 => trivial) (fun r4 pool_5 hr4 hpool_5 => (ec_rng1k trivial (fun l2 hl2 => (ec_compkF (fun (s7 : Pool) e => e.length = 15 ∧ At e 0 (enc p_script) ∧ At e 1 (enc s7)) (tg1 (i := 13) (n := 15) (Nat.le_of_ble_eq_true rfl)) hl2 trivial ⟨(len_set (len_set hl)), (At.keep (i := 1) (At.keep (i := 1) h_script (ne_lit rfl)) (ne_lit rfl)), (At.set (lt_len (i := 1) (len_set hl) rfl) hpool_5)⟩ (fun s7 es7 e' hs7 ho hl => ⟨(len_eq hs7.1 hl), (At.off hs7.2.1 ho rfl), (At.off hs7.2.2 ho rfl)⟩) (fun s7 u6 es7 hs7 hu6 => (eo_yes (ec_melt (ec_call (ec_cons (ec_own (At.keep (i := 13) hs7.2.2 (ne_lit rfl)) (ec_cons (ec_p ev_int (fun h8 => (ec_nil (ec_fin (i := 1) (p := 0) rfl rfl rfl rfl (ga_own (At.keep (i := 13) hs7.2.2 (ne_lit rfl)) (ga_val ga_nil)) (ty__law_draw s7 (7 : Int) (At.sz hs7.2.2) h8) (fun pool_10 hpool_10 => trivial) (fun r9 pool_10 hr9 hpool_10 => (eo_end ⟨(len_set (len_set hs7.1)), (At.keep (i := 1) (At.keep (i := 13) hs7.2.1 (ne_lit rfl)) (ne_lit rfl)), (At.set (lt_len (i := 1) (len_set hs7.1) rfl) hpool_10)⟩ hr9))))))))))))) (fun bs11 s12 es12 hbs11 hs12 => (es_asgk (sv_assoc (sv_if (et_not (tt_truBt (EV.p (ev_melt (eo_c2 (tf := t__law_same) (fun a b z1 z2 => ty__law_same (n := 11) (by decide) a b z1 z2) rfl (.inl rfl) (EV.g (ev_melt (eo_c1 (tf := t_gap) (fun a0 z0 => ty_gap a0  z0 ) rfl (.inl rfl) (EV.g (ev_var (At.set (lt_len (i := 2) hs12.1 rfl) hbs11)))))) (EV.g (if_j (et_n (en_Gt (EV.p (ev_frz (en_Len (EV.p (ev_var (At.set (lt_len (i := 2) hs12.1 rfl) hbs11)))))) (EV.p ev_int))) (ev_frz (en_2 tp_Sub (EV.p (ev_frz (en_b1 op_maxL (EV.p (ev_var (At.set (lt_len (i := 2) hs12.1 rfl) hbs11)))))) (EV.p (ev_frz (en_b1 op_minL (EV.p (ev_var (At.set (lt_len (i := 2) hs12.1 rfl) hbs11)))))))) ev_int))))))) trivial
 (sv_retp ev_bool (fun z => (fphi z)))
 (sv_skip (sv_assoc (sv_if (et_or (et_not (tt_truBt (EV.p (ev_melt (eo_c2 (tf := t__law_same) (fun a b z1 z2 => ty__law_same (n := 11) (by decide) a b z1 z2) rfl (.inl rfl) (EV.g (ev_melt (eo_c1 (tf := t_squares) (fun a0 z0 => ty_squares a0  z0 ) rfl (.inl rfl) (EV.g (ev_var (At.set (lt_len (i := 2) hs12.1 rfl) hbs11)))))) (EV.g (ev_frz (en_b1 tp_Sum (EV.p (ev_frz (EL.n (el_comp (tg1 (i := 14) (n := 15) (Nat.le_of_ble_eq_true rfl)) (le_len (len_set hs12.1)) (ei_seq (ev_var (At.set (lt_len (i := 2) hs12.1 rfl) hbs11))) (fun u14 hu14 => et_yes) (fun u14 hu14 => (ev_frz (en_2 op_mul (EV.p (ev_var (At.set (lt_len (i := 14) (len_set hs12.1) rfl) hu14))) (EV.p (ev_var (At.set (lt_len (i := 14) (len_set hs12.1) rfl) hu14)))))))))))))))))) (et_not (tt_truBt (EV.p (ev_melt (eo_c2 (tf := t__law_same) (fun a b z1 z2 => ty__law_same (n := 11) (by decide) a b z1 z2) rfl (.inl rfl) (EV.g (ev_melt (eo_c1 (tf := t_uneven) (fun a0 z0 => ty_uneven a0  z0 ) rfl (.inl rfl) (EV.g (ev_var (At.set (lt_len (i := 2) hs12.1 rfl) hbs11)))))) (EV.g (ev_melt (eo_c1 (tf := t__law_uneven) (fun a0 z0 => ty__law_uneven a0  z0 ) rfl (.inl rfl) (EV.g (ev_var (At.set (lt_len (i := 2) hs12.1 rfl) hbs11)))))))))))) trivial
 (sv_retp ev_bool (fun z => (fphi z)))
 (sv_skip (sv_assoc (es_asg (ec_melt (ec_call (ec_cons (ec_own (At.keep (i := 2) hs12.2.2 (ne_lit rfl)) (ec_cons (ec_p ev_int (fun h15 => (ec_nil (ec_fin (i := 1) (p := 0) rfl rfl rfl rfl (ga_own (At.keep (i := 2) hs12.2.2 (ne_lit rfl)) (ga_val ga_nil)) (ty__law_draw s12 (60 : Int) (At.sz hs12.2.2) h15) (fun pool_17 hpool_17 => trivial) (fun r16 pool_17 hr16 hpool_17 => (es_asgk (sv_assoc (es_asg (ec_frz (ec_2 (ec_p ev_int (fun h19 => (ec_melt (ec_call (ec_cons (ec_own (At.keep (i := 3) (At.set (lt_len (i := 1) (len_set hs12.1) rfl) hpool_17) (ne_lit rfl)) (ec_cons (ec_p ev_int (fun h20 => (ec_nil (ec_fin (i := 1) (p := 0) rfl rfl rfl rfl (ga_own (At.keep (i := 3) (At.set (lt_len (i := 1) (len_set hs12.1) rfl) hpool_17) (ne_lit rfl)) (ga_val ga_nil)) (ty__law_draw pool_17 (9 : Int) hpool_17 h20) (fun pool_22 hpool_22 => trivial) (fun r21 pool_22 hr21 hpool_22 => (ec_op2p op_add rfl rfl h19 hr21 (fun h23 => (es_asgk (sv_assoc (sv_asg (ev_melt (eo_c2 (tf := t_evenest) (fun a0 a1 z0 z1 => ty_evenest a0 a1  z0 z1 ) rfl (.inl rfl) (EV.g (ev_var (At.keep (i := 4) (At.keep (i := 1) (At.set (lt_len (i := 3) (len_set (len_set hs12.1)) rfl) hr16) (ne_lit rfl)) (ne_lit rfl)))) (EV.g (ev_var (At.set (lt_len (i := 4) (len_set (len_set (len_set (len_set hs12.1)))) rfl) h23))))) trivial (fun told_25 htold_25 => (sv_assoc (sv_if (et_or (et_n (en_Ne (by decide) (EV.p (ev_frz (en_Len (EV.p (ev_var (At.set (lt_len (i := 5) (len_set (len_set (len_set (len_set (len_set hs12.1))))) rfl) htold_25)))))) (EV.p (ev_var (At.keep (i := 5) (At.set (lt_len (i := 4) (len_set (len_set (len_set (len_set hs12.1)))) rfl) h23) (ne_lit rfl)))))) (et_or (et_n (en_Ne (by decide) (EV.p (ev_frz (en_Sum (EV.p (ev_var (At.set (lt_len (i := 5) (len_set (len_set (len_set (len_set (len_set hs12.1))))) rfl) htold_25)))))) (EV.p (ev_var (At.keep (i := 5) (At.keep (i := 4) (At.keep (i := 1) (At.set (lt_len (i := 3) (len_set (len_set hs12.1)) rfl) hr16) (ne_lit rfl)) (ne_lit rfl)) (ne_lit rfl)))))) (et_or (et_n (en_2 (tp_Ne (by decide) ) (EV.p (ev_var (At.set (lt_len (i := 5) (len_set (len_set (len_set (len_set (len_set hs12.1))))) rfl) htold_25))) (EV.p (ev_melt (eo_c1 (tf := t__law_down) (fun a0 z0 => ty__law_down a0  z0 ) rfl (.inl rfl) (EV.g (ev_var (At.set (lt_len (i := 5) (len_set (len_set (len_set (len_set (len_set hs12.1))))) rfl) htold_25)))))))) (et_n (en_2 tp_Gt (EV.p (ev_frz (en_2 tp_Sub (EV.p (ev_frz (en_2 op_ix (EV.p (ev_var (At.set (lt_len (i := 5) (len_set (len_set (len_set (len_set (len_set hs12.1))))) rfl) htold_25))) (EV.p ev_int)))) (EV.p (ev_frz (en_2 op_ix (EV.p (ev_var (At.set (lt_len (i := 5) (len_set (len_set (len_set (len_set (len_set hs12.1))))) rfl) htold_25))) (EV.p (ev_frz (en_Sub (EV.p (ev_var (At.keep (i := 5) (At.set (lt_len (i := 4) (len_set (len_set (len_set (len_set hs12.1)))) rfl) h23) (ne_lit rfl)))) (EV.p ev_int)))))))))) (EV.p ev_int)))))) trivial
 (sv_retp ev_bool (fun z => (fphi z)))
 (sv_skip (sv_assoc (es_asg (ec_melt (ec_call (ec_cons (ec_own (At.keep (i := 5) (At.keep (i := 4) (At.set (lt_len (i := 1) (len_set (len_set (len_set hs12.1))) rfl) hpool_22) (ne_lit rfl)) (ne_lit rfl)) (ec_cons (ec_p ev_int (fun h26 => (ec_nil (ec_fin (i := 1) (p := 0) rfl rfl rfl rfl (ga_own (At.keep (i := 5) (At.keep (i := 4) (At.set (lt_len (i := 1) (len_set (len_set (len_set hs12.1))) rfl) hpool_22) (ne_lit rfl)) (ne_lit rfl)) (ga_val ga_nil)) (ty__law_draw pool_22 (4 : Int) hpool_22 h26) (fun pool_28 hpool_28 => trivial) (fun r27 pool_28 hr27 hpool_28 => (es_asgk (sv_assoc (sv_asg (ev_melt (eo_c2 (tf := t_moved) (fun a0 a1 z0 z1 => ty_moved a0 a1  z0 z1 ) rfl (.inl rfl) (EV.g (ev_frz (EL.n (el_list (X.ok bs11) (EV.p (ev_var (At.keep (i := 6) (At.keep (i := 1) (At.keep (i := 5) (At.keep (i := 4) (At.keep (i := 1) (At.keep (i := 3) (At.keep (i := 1) (At.set (lt_len (i := 2) hs12.1 rfl) hbs11) (ne_lit rfl)) (ne_lit rfl)) (ne_lit rfl)) (ne_lit rfl)) (ne_lit rfl)) (ne_lit rfl)) (ne_lit rfl)))))))) (EV.g (ev_var (At.set (lt_len (i := 6) (len_set (len_set (len_set (len_set (len_set (len_set (len_set hs12.1))))))) rfl) hr27))))) trivial (fun due_30 hdue_30 => (sv_assoc (sv_asg (ev_melt (eo_c2 (tf := t__law_reached) (fun a0 a1 z0 z1 => ty__law_reached a0 a1  z0 z1 ) rfl (.inl rfl) (EV.g (ev_var (At.keep (i := 7) (At.keep (i := 6) (At.keep (i := 1) (At.keep (i := 5) (At.keep (i := 4) (At.keep (i := 1) (At.keep (i := 3) (At.keep (i := 1) (At.set (lt_len (i := 2) hs12.1 rfl) hbs11) (ne_lit rfl)) (ne_lit rfl)) (ne_lit rfl)) (ne_lit rfl)) (ne_lit rfl)) (ne_lit rfl)) (ne_lit rfl)) (ne_lit rfl)))) (EV.g (ev_var (At.keep (i := 7) (At.set (lt_len (i := 6) (len_set (len_set (len_set (len_set (len_set (len_set (len_set hs12.1))))))) rfl) hr27) (ne_lit rfl)))))) trivial (fun every_31 hevery_31 => (sv_assoc (sv_if (et_or (et_n (en_NotIn (by decide) (EV.p (ev_var (At.keep (i := 8) (At.set (lt_len (i := 7) (len_set (len_set (len_set (len_set (len_set (len_set (len_set (len_set hs12.1)))))))) rfl) hdue_30) (ne_lit rfl)))) (EV.p (ev_var (At.set (lt_len (i := 8) (len_set (len_set (len_set (len_set (len_set (len_set (len_set (len_set (len_set hs12.1))))))))) rfl) hevery_31))))) (et_n (en_2 tp_Gt (EV.p (ev_frz (en_b1 tp_Len (EV.p (ev_frz (EL.n (el_comp (tg1 (i := 12) (n := 15) (Nat.le_of_ble_eq_true rfl)) (le_len (len_set (len_set (len_set (len_set (len_set (len_set (len_set (len_set (len_set (len_set hs12.1))))))))))) (ei_seq (ev_var (At.set (lt_len (i := 8) (len_set (len_set (len_set (len_set (len_set (len_set (len_set (len_set (len_set hs12.1))))))))) rfl) hevery_31))) (fun u32 hu32 => (et_not (tt_truBt (EV.p (ev_melt (eo_c2 (tf := t__law_evener) (fun a0 a1 z0 z1 => ty__law_evener a0 a1  z0 z1 ) rfl (.inl rfl) (EV.g (ev_var (At.keep (i := 12) (At.keep (i := 8) (At.set (lt_len (i := 7) (len_set (len_set (len_set (len_set (len_set (len_set (len_set (len_set hs12.1)))))))) rfl) hdue_30) (ne_lit rfl)) (ne_lit rfl)))) (EV.g (ev_var (At.set (lt_len (i := 12) (len_set (len_set (len_set (len_set (len_set (len_set (len_set (len_set (len_set (len_set hs12.1)))))))))) rfl) hu32))))))))) (fun u32 hu32 => (ev_var (At.set (lt_len (i := 12) (len_set (len_set (len_set (len_set (len_set (len_set (len_set (len_set (len_set (len_set hs12.1)))))))))) rfl) hu32)))))))))) (EV.p ev_int)))) trivial
 (sv_retp ev_bool (fun z => (fphi z)))
 (sv_skip (sv_assoc (sv_join (fun (s33 : Unit) e => e.length = 15 ∧ At e 0 (enc p_script) ∧ At e 2 (enc bs11) ∧ At e 3 (enc r16) ∧ At e 4 (enc ((1 : Int) + r21)) ∧ At e 5 (enc told_25) ∧ At e 1 (enc pool_28) ∧ At e 6 (enc r27) ∧ At e 7 (enc due_30) ∧ At e 8 (enc every_31)) (sv_end (sv_ifp (et_n (en_Gt (EV.p (ev_frz (en_Len (EV.p (ev_var (At.keep (i := 8) (At.keep (i := 7) (At.keep (i := 6) (At.keep (i := 1) (At.keep (i := 5) (At.keep (i := 4) (At.keep (i := 1) (At.keep (i := 3) (At.keep (i := 1) (At.set (lt_len (i := 2) hs12.1 rfl) hbs11) (ne_lit rfl)) (ne_lit rfl)) (ne_lit rfl)) (ne_lit rfl)) (ne_lit rfl)) (ne_lit rfl)) (ne_lit rfl)) (ne_lit rfl)) (ne_lit rfl))))))) (EV.p ev_int)))
 (sv_assoc (sv_asg (ev_melt (eo_c1 (tf := t__law_down) (fun a0 z0 => ty__law_down a0  z0 ) rfl (.inl rfl) (EV.g (ev_melt (eo_c2 (tf := t_evenest) (fun a0 a1 z0 z1 => ty_evenest a0 a1  z0 z1 ) rfl (.inl rfl) (EV.g (ev_frz (en_Sum (EV.p (ev_var (At.keep (i := 8) (At.keep (i := 7) (At.keep (i := 6) (At.keep (i := 1) (At.keep (i := 5) (At.keep (i := 4) (At.keep (i := 1) (At.keep (i := 3) (At.keep (i := 1) (At.set (lt_len (i := 2) hs12.1 rfl) hbs11) (ne_lit rfl)) (ne_lit rfl)) (ne_lit rfl)) (ne_lit rfl)) (ne_lit rfl)) (ne_lit rfl)) (ne_lit rfl)) (ne_lit rfl)) (ne_lit rfl))))))) (EV.g (ev_frz (en_Len (EV.p (ev_var (At.keep (i := 8) (At.keep (i := 7) (At.keep (i := 6) (At.keep (i := 1) (At.keep (i := 5) (At.keep (i := 4) (At.keep (i := 1) (At.keep (i := 3) (At.keep (i := 1) (At.set (lt_len (i := 2) hs12.1 rfl) hbs11) (ne_lit rfl)) (ne_lit rfl)) (ne_lit rfl)) (ne_lit rfl)) (ne_lit rfl)) (ne_lit rfl)) (ne_lit rfl)) (ne_lit rfl)) (ne_lit rfl)))))))))))) trivial (fun best_35 hbest_35 => (sv_assoc (sv_asg (ev_melt (eo_c1 (tf := t_steps_to_even) (fun a0 z0 => ty_steps_to_even a0  z0 ) rfl (.inl rfl) (EV.g (ev_var (At.keep (i := 9) (At.keep (i := 8) (At.keep (i := 7) (At.keep (i := 6) (At.keep (i := 1) (At.keep (i := 5) (At.keep (i := 4) (At.keep (i := 1) (At.keep (i := 3) (At.keep (i := 1) (At.set (lt_len (i := 2) hs12.1 rfl) hbs11) (ne_lit rfl)) (ne_lit rfl)) (ne_lit rfl)) (ne_lit rfl)) (ne_lit rfl)) (ne_lit rfl)) (ne_lit rfl)) (ne_lit rfl)) (ne_lit rfl)) (ne_lit rfl)))))) trivial (fun steps_36 hsteps_36 => (sv_assoc (sv_ifp (et_orp (et_n (en_isip (g := (fun _ => false)) (fun _ => rfl) (EV.p (ev_var (At.set (lt_len (i := 10) (len_set (len_set (len_set (len_set (len_set (len_set (len_set (len_set (len_set (len_set (len_set hs12.1))))))))))) rfl) hsteps_36))))) (et_orp (et_n (en_Lt (EV.p (ev_var (At.set (lt_len (i := 10) (len_set (len_set (len_set (len_set (len_set (len_set (len_set (len_set (len_set (len_set (len_set hs12.1))))))))))) rfl) hsteps_36))) (EV.p ev_int))) (et_n (en_Gt (EV.p (ev_var (At.set (lt_len (i := 10) (len_set (len_set (len_set (len_set (len_set (len_set (len_set (len_set (len_set (len_set (len_set hs12.1))))))))))) rfl) hsteps_36))) (EV.p ev_int)))))
 (sv_retp ev_bool (fun z => (jphi (fphi z))))
 (sv_skip (sv_assoc (sv_if (et_or (et_and (et_n (en_Lt (EV.p (ev_var (At.set (lt_len (i := 10) (len_set (len_set (len_set (len_set (len_set (len_set (len_set (len_set (len_set (len_set (len_set hs12.1))))))))))) rfl) hsteps_36))) (EV.p ev_int))) (et_n (en_2 (tp_NotIn (by decide) ) (EV.p (ev_var (At.keep (i := 10) (At.set (lt_len (i := 9) (len_set (len_set (len_set (len_set (len_set (len_set (len_set (len_set (len_set (len_set hs12.1)))))))))) rfl) hbest_35) (ne_lit rfl)))) (EV.p (ev_melt (eo_c2 (tf := t__law_reached) (fun a0 a1 z0 z1 => ty__law_reached a0 a1  z0 z1 ) rfl (.inl rfl) (EV.g (ev_var (At.keep (i := 10) (At.keep (i := 9) (At.keep (i := 8) (At.keep (i := 7) (At.keep (i := 6) (At.keep (i := 1) (At.keep (i := 5) (At.keep (i := 4) (At.keep (i := 1) (At.keep (i := 3) (At.keep (i := 1) (At.set (lt_len (i := 2) hs12.1 rfl) hbs11) (ne_lit rfl)) (ne_lit rfl)) (ne_lit rfl)) (ne_lit rfl)) (ne_lit rfl)) (ne_lit rfl)) (ne_lit rfl)) (ne_lit rfl)) (ne_lit rfl)) (ne_lit rfl)) (ne_lit rfl)))) (EV.g (ev_var (At.set (lt_len (i := 10) (len_set (len_set (len_set (len_set (len_set (len_set (len_set (len_set (len_set (len_set (len_set hs12.1))))))))))) rfl) hsteps_36))))))))) (et_and (et_n (en_Gt (EV.p (ev_var (At.set (lt_len (i := 10) (len_set (len_set (len_set (len_set (len_set (len_set (len_set (len_set (len_set (len_set (len_set hs12.1))))))))))) rfl) hsteps_36))) (EV.p ev_int))) (et_n (en_2 (tp_In (by decide) ) (EV.p (ev_var (At.keep (i := 10) (At.set (lt_len (i := 9) (len_set (len_set (len_set (len_set (len_set (len_set (len_set (len_set (len_set (len_set hs12.1)))))))))) rfl) hbest_35) (ne_lit rfl)))) (EV.p (ev_melt (eo_c2 (tf := t__law_reached) (fun a0 a1 z0 z1 => ty__law_reached a0 a1  z0 z1 ) rfl (.inl rfl) (EV.g (ev_var (At.keep (i := 10) (At.keep (i := 9) (At.keep (i := 8) (At.keep (i := 7) (At.keep (i := 6) (At.keep (i := 1) (At.keep (i := 5) (At.keep (i := 4) (At.keep (i := 1) (At.keep (i := 3) (At.keep (i := 1) (At.set (lt_len (i := 2) hs12.1 rfl) hbs11) (ne_lit rfl)) (ne_lit rfl)) (ne_lit rfl)) (ne_lit rfl)) (ne_lit rfl)) (ne_lit rfl)) (ne_lit rfl)) (ne_lit rfl)) (ne_lit rfl)) (ne_lit rfl)) (ne_lit rfl)))) (EV.g (ev_frz (en_Min (EV.p ev_int) (EV.p (ev_frz (en_Sub (EV.p (ev_var (At.set (lt_len (i := 10) (len_set (len_set (len_set (len_set (len_set (len_set (len_set (len_set (len_set (len_set (len_set hs12.1))))))))))) rfl) hsteps_36))) (EV.p ev_int)))))))))))))) trivial
 (sv_retp ev_bool (fun z => (jphi (fphi z))))
 (sv_skip (sv_if (et_or (et_not (tt_truBt (EV.p (ev_melt (eo_c2 (tf := t__law_same) (fun a b z1 z2 => ty__law_same (n := 11) (by decide) a b z1 z2) rfl (.inl rfl) (EV.g (ev_melt (eo_c2 (tf := t_moved) (fun a0 a1 z0 z1 => ty_moved a0 a1  z0 z1 ) rfl (.inl rfl) (EV.g (ev_var (At.keep (i := 10) (At.keep (i := 9) (At.keep (i := 8) (At.keep (i := 7) (At.keep (i := 6) (At.keep (i := 1) (At.keep (i := 5) (At.keep (i := 4) (At.keep (i := 1) (At.keep (i := 3) (At.keep (i := 1) (At.set (lt_len (i := 2) hs12.1 rfl) hbs11) (ne_lit rfl)) (ne_lit rfl)) (ne_lit rfl)) (ne_lit rfl)) (ne_lit rfl)) (ne_lit rfl)) (ne_lit rfl)) (ne_lit rfl)) (ne_lit rfl)) (ne_lit rfl)) (ne_lit rfl)))) (EV.g (ev_var (At.set (lt_len (i := 10) (len_set (len_set (len_set (len_set (len_set (len_set (len_set (len_set (len_set (len_set (len_set hs12.1))))))))))) rfl) hsteps_36)))))) (EV.g (ev_var (At.keep (i := 10) (At.set (lt_len (i := 9) (len_set (len_set (len_set (len_set (len_set (len_set (len_set (len_set (len_set (len_set hs12.1)))))))))) rfl) hbest_35) (ne_lit rfl))))))))) (et_and (et_n (en_Gt (EV.p (ev_var (At.set (lt_len (i := 10) (len_set (len_set (len_set (len_set (len_set (len_set (len_set (len_set (len_set (len_set (len_set hs12.1))))))))))) rfl) hsteps_36))) (EV.p ev_int))) (et_n (en_2 (tp_Eq (by decide) ) (EV.p (ev_melt (eo_c2 (tf := t_moved) (fun a0 a1 z0 z1 => ty_moved a0 a1  z0 z1 ) rfl (.inl rfl) (EV.g (ev_var (At.keep (i := 10) (At.keep (i := 9) (At.keep (i := 8) (At.keep (i := 7) (At.keep (i := 6) (At.keep (i := 1) (At.keep (i := 5) (At.keep (i := 4) (At.keep (i := 1) (At.keep (i := 3) (At.keep (i := 1) (At.set (lt_len (i := 2) hs12.1 rfl) hbs11) (ne_lit rfl)) (ne_lit rfl)) (ne_lit rfl)) (ne_lit rfl)) (ne_lit rfl)) (ne_lit rfl)) (ne_lit rfl)) (ne_lit rfl)) (ne_lit rfl)) (ne_lit rfl)) (ne_lit rfl)))) (EV.g (ev_frz (en_Sub (EV.p (ev_var (At.set (lt_len (i := 10) (len_set (len_set (len_set (len_set (len_set (len_set (len_set (len_set (len_set (len_set (len_set hs12.1))))))))))) rfl) hsteps_36))) (EV.p ev_int))))))) (EV.p (ev_var (At.keep (i := 10) (At.set (lt_len (i := 9) (len_set (len_set (len_set (len_set (len_set (len_set (len_set (len_set (len_set (len_set hs12.1)))))))))) rfl) hbest_35) (ne_lit rfl)))))))) trivial
 (sv_retp ev_bool (fun z => (jphi (fphi z))))
 (sv_skip (sv_jnx ⟨(len_set (len_set (len_set (len_set (len_set (len_set (len_set (len_set (len_set (len_set (len_set (len_set hs12.1)))))))))))), (At.keep (i := 10) (At.keep (i := 9) (At.keep (i := 8) (At.keep (i := 7) (At.keep (i := 6) (At.keep (i := 1) (At.keep (i := 5) (At.keep (i := 4) (At.keep (i := 1) (At.keep (i := 3) (At.keep (i := 1) (At.keep (i := 2) hs12.2.1 (ne_lit rfl)) (ne_lit rfl)) (ne_lit rfl)) (ne_lit rfl)) (ne_lit rfl)) (ne_lit rfl)) (ne_lit rfl)) (ne_lit rfl)) (ne_lit rfl)) (ne_lit rfl)) (ne_lit rfl)) (ne_lit rfl)), (At.keep (i := 10) (At.keep (i := 9) (At.keep (i := 8) (At.keep (i := 7) (At.keep (i := 6) (At.keep (i := 1) (At.keep (i := 5) (At.keep (i := 4) (At.keep (i := 1) (At.keep (i := 3) (At.keep (i := 1) (At.set (lt_len (i := 2) hs12.1 rfl) hbs11) (ne_lit rfl)) (ne_lit rfl)) (ne_lit rfl)) (ne_lit rfl)) (ne_lit rfl)) (ne_lit rfl)) (ne_lit rfl)) (ne_lit rfl)) (ne_lit rfl)) (ne_lit rfl)) (ne_lit rfl)), (At.keep (i := 10) (At.keep (i := 9) (At.keep (i := 8) (At.keep (i := 7) (At.keep (i := 6) (At.keep (i := 1) (At.keep (i := 5) (At.keep (i := 4) (At.keep (i := 1) (At.set (lt_len (i := 3) (len_set (len_set hs12.1)) rfl) hr16) (ne_lit rfl)) (ne_lit rfl)) (ne_lit rfl)) (ne_lit rfl)) (ne_lit rfl)) (ne_lit rfl)) (ne_lit rfl)) (ne_lit rfl)) (ne_lit rfl)), (At.keep (i := 10) (At.keep (i := 9) (At.keep (i := 8) (At.keep (i := 7) (At.keep (i := 6) (At.keep (i := 1) (At.keep (i := 5) (At.set (lt_len (i := 4) (len_set (len_set (len_set (len_set hs12.1)))) rfl) h23) (ne_lit rfl)) (ne_lit rfl)) (ne_lit rfl)) (ne_lit rfl)) (ne_lit rfl)) (ne_lit rfl)) (ne_lit rfl)), (At.keep (i := 10) (At.keep (i := 9) (At.keep (i := 8) (At.keep (i := 7) (At.keep (i := 6) (At.keep (i := 1) (At.set (lt_len (i := 5) (len_set (len_set (len_set (len_set (len_set hs12.1))))) rfl) htold_25) (ne_lit rfl)) (ne_lit rfl)) (ne_lit rfl)) (ne_lit rfl)) (ne_lit rfl)) (ne_lit rfl)), (At.keep (i := 10) (At.keep (i := 9) (At.keep (i := 8) (At.keep (i := 7) (At.keep (i := 6) (At.set (lt_len (i := 1) (len_set (len_set (len_set (len_set (len_set (len_set hs12.1)))))) rfl) hpool_28) (ne_lit rfl)) (ne_lit rfl)) (ne_lit rfl)) (ne_lit rfl)) (ne_lit rfl)), (At.keep (i := 10) (At.keep (i := 9) (At.keep (i := 8) (At.keep (i := 7) (At.set (lt_len (i := 6) (len_set (len_set (len_set (len_set (len_set (len_set (len_set hs12.1))))))) rfl) hr27) (ne_lit rfl)) (ne_lit rfl)) (ne_lit rfl)) (ne_lit rfl)), (At.keep (i := 10) (At.keep (i := 9) (At.keep (i := 8) (At.set (lt_len (i := 7) (len_set (len_set (len_set (len_set (len_set (len_set (len_set (len_set hs12.1)))))))) rfl) hdue_30) (ne_lit rfl)) (ne_lit rfl)) (ne_lit rfl)), (At.keep (i := 10) (At.keep (i := 9) (At.set (lt_len (i := 8) (len_set (len_set (len_set (len_set (len_set (len_set (len_set (len_set (len_set hs12.1))))))))) rfl) hevery_31) (ne_lit rfl)) (ne_lit rfl))⟩)))))))))))))))
 (sv_if (et_or (et_n (en_2 (tp_Ne (by decide) ) (EV.p (ev_melt (eo_c1 (tf := t_steps_to_even) (fun a0 z0 => ty_steps_to_even a0  z0 ) rfl (.inl rfl) (EV.g (ev_var (At.keep (i := 8) (At.keep (i := 7) (At.keep (i := 6) (At.keep (i := 1) (At.keep (i := 5) (At.keep (i := 4) (At.keep (i := 1) (At.keep (i := 3) (At.keep (i := 1) (At.set (lt_len (i := 2) hs12.1 rfl) hbs11) (ne_lit rfl)) (ne_lit rfl)) (ne_lit rfl)) (ne_lit rfl)) (ne_lit rfl)) (ne_lit rfl)) (ne_lit rfl)) (ne_lit rfl)) (ne_lit rfl))))))) (EV.p ev_int))) (et_n (en_2 (tp_Ne (by decide) ) (EV.p (ev_melt (eo_c2 (tf := t_moved) (fun a0 a1 z0 z1 => ty_moved a0 a1  z0 z1 ) rfl (.inl rfl) (EV.g (ev_var (At.keep (i := 8) (At.keep (i := 7) (At.keep (i := 6) (At.keep (i := 1) (At.keep (i := 5) (At.keep (i := 4) (At.keep (i := 1) (At.keep (i := 3) (At.keep (i := 1) (At.set (lt_len (i := 2) hs12.1 rfl) hbs11) (ne_lit rfl)) (ne_lit rfl)) (ne_lit rfl)) (ne_lit rfl)) (ne_lit rfl)) (ne_lit rfl)) (ne_lit rfl)) (ne_lit rfl)) (ne_lit rfl)))) (EV.g ev_int)))) (EV.p (ev_frz (EL.n (el_lst (ea_nil (α := Int))))))))) trivial
 (sv_retp ev_bool (fun z => (jphi (fphi z))))
 (sv_skip (sv_jnx ⟨(len_set (len_set (len_set (len_set (len_set (len_set (len_set (len_set (len_set (len_set hs12.1)))))))))), (At.keep (i := 8) (At.keep (i := 7) (At.keep (i := 6) (At.keep (i := 1) (At.keep (i := 5) (At.keep (i := 4) (At.keep (i := 1) (At.keep (i := 3) (At.keep (i := 1) (At.keep (i := 2) hs12.2.1 (ne_lit rfl)) (ne_lit rfl)) (ne_lit rfl)) (ne_lit rfl)) (ne_lit rfl)) (ne_lit rfl)) (ne_lit rfl)) (ne_lit rfl)) (ne_lit rfl)) (ne_lit rfl)), (At.keep (i := 8) (At.keep (i := 7) (At.keep (i := 6) (At.keep (i := 1) (At.keep (i := 5) (At.keep (i := 4) (At.keep (i := 1) (At.keep (i := 3) (At.keep (i := 1) (At.set (lt_len (i := 2) hs12.1 rfl) hbs11) (ne_lit rfl)) (ne_lit rfl)) (ne_lit rfl)) (ne_lit rfl)) (ne_lit rfl)) (ne_lit rfl)) (ne_lit rfl)) (ne_lit rfl)) (ne_lit rfl)), (At.keep (i := 8) (At.keep (i := 7) (At.keep (i := 6) (At.keep (i := 1) (At.keep (i := 5) (At.keep (i := 4) (At.keep (i := 1) (At.set (lt_len (i := 3) (len_set (len_set hs12.1)) rfl) hr16) (ne_lit rfl)) (ne_lit rfl)) (ne_lit rfl)) (ne_lit rfl)) (ne_lit rfl)) (ne_lit rfl)) (ne_lit rfl)), (At.keep (i := 8) (At.keep (i := 7) (At.keep (i := 6) (At.keep (i := 1) (At.keep (i := 5) (At.set (lt_len (i := 4) (len_set (len_set (len_set (len_set hs12.1)))) rfl) h23) (ne_lit rfl)) (ne_lit rfl)) (ne_lit rfl)) (ne_lit rfl)) (ne_lit rfl)), (At.keep (i := 8) (At.keep (i := 7) (At.keep (i := 6) (At.keep (i := 1) (At.set (lt_len (i := 5) (len_set (len_set (len_set (len_set (len_set hs12.1))))) rfl) htold_25) (ne_lit rfl)) (ne_lit rfl)) (ne_lit rfl)) (ne_lit rfl)), (At.keep (i := 8) (At.keep (i := 7) (At.keep (i := 6) (At.set (lt_len (i := 1) (len_set (len_set (len_set (len_set (len_set (len_set hs12.1)))))) rfl) hpool_28) (ne_lit rfl)) (ne_lit rfl)) (ne_lit rfl)), (At.keep (i := 8) (At.keep (i := 7) (At.set (lt_len (i := 6) (len_set (len_set (len_set (len_set (len_set (len_set (len_set hs12.1))))))) rfl) hr27) (ne_lit rfl)) (ne_lit rfl)), (At.keep (i := 8) (At.set (lt_len (i := 7) (len_set (len_set (len_set (len_set (len_set (len_set (len_set (len_set hs12.1)))))))) rfl) hdue_30) (ne_lit rfl)), (At.set (lt_len (i := 8) (len_set (len_set (len_set (len_set (len_set (len_set (len_set (len_set (len_set hs12.1))))))))) rfl) hevery_31)⟩))))) (fun s33 es33 hs33 => (sv_assoc (es_asg (ec_frz (ec_compF (fun (s41 : Pool) e => e.length = 15 ∧ At e 0 (enc p_script) ∧ At e 2 (enc bs11) ∧ At e 3 (enc r16) ∧ At e 4 (enc ((1 : Int) + r21)) ∧ At e 5 (enc told_25) ∧ At e 6 (enc r27) ∧ At e 7 (enc due_30) ∧ At e 8 (enc every_31) ∧ At e 1 (enc s41)) (tg1 (i := 13) (n := 15) (Nat.le_of_ble_eq_true rfl)) (ei_rngL (EV.p (ev_var hs33.2.2.1))) trivial ⟨hs33.1, hs33.2.1, hs33.2.2.1, hs33.2.2.2.1, hs33.2.2.2.2.1, hs33.2.2.2.2.2.1, hs33.2.2.2.2.2.2.2.1, hs33.2.2.2.2.2.2.2.2.1, hs33.2.2.2.2.2.2.2.2.2, hs33.2.2.2.2.2.2.1⟩ (fun s41 es41 e' hs41 ho hl => ⟨(len_eq hs41.1 hl), (At.off hs41.2.1 ho rfl), (At.off hs41.2.2.1 ho rfl), (At.off hs41.2.2.2.1 ho rfl), (At.off hs41.2.2.2.2.1 ho rfl), (At.off hs41.2.2.2.2.2.1 ho rfl), (At.off hs41.2.2.2.2.2.2.1 ho rfl), (At.off hs41.2.2.2.2.2.2.2.1 ho rfl), (At.off hs41.2.2.2.2.2.2.2.2.1 ho rfl), (At.off hs41.2.2.2.2.2.2.2.2.2 ho rfl)⟩) (fun s41 u40 es41 hs41 hu40 => ee_start (ec_melt (ec_call (ec_cons (ec_own (At.keep (i := 13) hs41.2.2.2.2.2.2.2.2.2 (ne_lit rfl)) (ec_cons (ec_p ev_int (fun h42 => (ec_nil (ec_fin (i := 1) (p := 0) rfl rfl rfl rfl (ga_own (At.keep (i := 13) hs41.2.2.2.2.2.2.2.2.2 (ne_lit rfl)) (ga_val ga_nil)) (ty__law_draw s41 (7 : Int) (At.sz hs41.2.2.2.2.2.2.2.2.2) h42) (fun pool_44 hpool_44 => trivial) (fun r43 pool_44 hr43 hpool_44 => (ee_end ⟨(len_set (len_set hs41.1)), (At.keep (i := 1) (At.keep (i := 13) hs41.2.1 (ne_lit rfl)) (ne_lit rfl)), (At.keep (i := 1) (At.keep (i := 13) hs41.2.2.1 (ne_lit rfl)) (ne_lit rfl)), (At.keep (i := 1) (At.keep (i := 13) hs41.2.2.2.1 (ne_lit rfl)) (ne_lit rfl)), (At.keep (i := 1) (At.keep (i := 13) hs41.2.2.2.2.1 (ne_lit rfl)) (ne_lit rfl)), (At.keep (i := 1) (At.keep (i := 13) hs41.2.2.2.2.2.1 (ne_lit rfl)) (ne_lit rfl)), (At.keep (i := 1) (At.keep (i := 13) hs41.2.2.2.2.2.2.1 (ne_lit rfl)) (ne_lit rfl)), (At.keep (i := 1) (At.keep (i := 13) hs41.2.2.2.2.2.2.2.1 (ne_lit rfl)) (ne_lit rfl)), (At.keep (i := 1) (At.keep (i := 13) hs41.2.2.2.2.2.2.2.2.1 (ne_lit rfl)) (ne_lit rfl)), (At.set (lt_len (i := 1) (len_set hs41.1) rfl) hpool_44)⟩ hr43)))))))))))) (fun bs45 s46 es46 hbs45 hs46 => (es_asgk (sv_assoc (sv_for (fun (s48 : Unit) e => e.length = 15 ∧ At e 0 (enc p_script) ∧ At e 2 (enc bs11) ∧ At e 3 (enc r16) ∧ At e 4 (enc ((1 : Int) + r21)) ∧ At e 5 (enc told_25) ∧ At e 6 (enc r27) ∧ At e 7 (enc due_30) ∧ At e 8 (enc every_31) ∧ At e 1 (enc s46) ∧ At e 11 (enc bs45)) (tg1 (i := 12) (n := 15) (Nat.le_of_ble_eq_true rfl)) (ei_seq (ev_var (At.keep (i := 11) hs46.2.2.2.2.2.2.2.2.1 (ne_lit rfl)))) trivial ⟨(len_set hs46.1), (At.keep (i := 11) hs46.2.1 (ne_lit rfl)), (At.keep (i := 11) hs46.2.2.1 (ne_lit rfl)), (At.keep (i := 11) hs46.2.2.2.1 (ne_lit rfl)), (At.keep (i := 11) hs46.2.2.2.2.1 (ne_lit rfl)), (At.keep (i := 11) hs46.2.2.2.2.2.1 (ne_lit rfl)), (At.keep (i := 11) hs46.2.2.2.2.2.2.1 (ne_lit rfl)), (At.keep (i := 11) hs46.2.2.2.2.2.2.2.1 (ne_lit rfl)), (At.keep (i := 11) hs46.2.2.2.2.2.2.2.2.1 (ne_lit rfl)), (At.keep (i := 11) hs46.2.2.2.2.2.2.2.2.2 (ne_lit rfl)), (At.set (lt_len (i := 11) hs46.1 rfl) hbs45)⟩ (fun s48 a49 es48 hs48 ha49 => sv_end (sv_assoc (sv_if (et_and (tt_truBt (EV.p (ev_melt (eo_c2 (tf := t__law_evener) (fun a0 a1 z0 z1 => ty__law_evener a0 a1  z0 z1 ) rfl (.inl rfl) (EV.g (ev_var (At.set (lt_len (i := 12) hs48.1 rfl) ha49))) (EV.g (ev_var (At.keep (i := 12) hs48.2.2.1 (ne_lit rfl)))))))) (et_or (et_n (en_2 tp_Gt (EV.p (ev_melt (eo_c1 (tf := t_squares) (fun a0 z0 => ty_squares a0  z0 ) rfl (.inl rfl) (EV.g (ev_var (At.set (lt_len (i := 12) hs48.1 rfl) ha49)))))) (EV.p (ev_melt (eo_c1 (tf := t_squares) (fun a0 z0 => ty_squares a0  z0 ) rfl (.inl rfl) (EV.g (ev_var (At.keep (i := 12) hs48.2.2.1 (ne_lit rfl))))))))) (et_n (en_2 tp_Gt (EV.p (ev_melt (eo_c1 (tf := t_uneven) (fun a0 z0 => ty_uneven a0  z0 ) rfl (.inl rfl) (EV.g (ev_var (At.set (lt_len (i := 12) hs48.1 rfl) ha49)))))) (EV.p (ev_melt (eo_c1 (tf := t_uneven) (fun a0 z0 => ty_uneven a0  z0 ) rfl (.inl rfl) (EV.g (ev_var (At.keep (i := 12) hs48.2.2.1 (ne_lit rfl))))))))))) trivial
 (sv_retp ev_bool (fun z => (lphi (fphi z))))
 (sv_skip (sv_if (et_and (tt_truBt (EV.p (ev_melt (eo_c2 (tf := t_is_evener) (fun a0 a1 z0 z1 => ty_is_evener a0 a1  z0 z1 ) rfl (.inl rfl) (EV.g (ev_var (At.set (lt_len (i := 12) hs48.1 rfl) ha49))) (EV.g (ev_var (At.keep (i := 12) hs48.2.2.1 (ne_lit rfl)))))))) (et_not (tt_truBt (EV.p (ev_melt (eo_c2 (tf := t__law_evener) (fun a0 a1 z0 z1 => ty__law_evener a0 a1  z0 z1 ) rfl (.inl rfl) (EV.g (ev_melt (eo_c2 (tf := t_joined) (fun a0 a1 z0 z1 => ty_joined a0 a1  z0 z1 ) rfl (.inl rfl) (EV.g (ev_var (At.set (lt_len (i := 12) hs48.1 rfl) ha49))) (EV.g (ev_var (At.keep (i := 12) hs48.2.2.2.2.2.2.2.2.2.2 (ne_lit rfl))))))) (EV.g (ev_melt (eo_c2 (tf := t_joined) (fun a0 a1 z0 z1 => ty_joined a0 a1  z0 z1 ) rfl (.inl rfl) (EV.g (ev_var (At.keep (i := 12) hs48.2.2.1 (ne_lit rfl)))) (EV.g (ev_var (At.keep (i := 12) hs48.2.2.2.2.2.2.2.2.2.2 (ne_lit rfl))))))))))))) trivial
 (sv_retp ev_bool (fun z => (lphi (fphi z))))
 (sv_skip (sv_nx ⟨(len_set hs48.1), (At.keep (i := 12) hs48.2.1 (ne_lit rfl)), (At.keep (i := 12) hs48.2.2.1 (ne_lit rfl)), (At.keep (i := 12) hs48.2.2.2.1 (ne_lit rfl)), (At.keep (i := 12) hs48.2.2.2.2.1 (ne_lit rfl)), (At.keep (i := 12) hs48.2.2.2.2.2.1 (ne_lit rfl)), (At.keep (i := 12) hs48.2.2.2.2.2.2.1 (ne_lit rfl)), (At.keep (i := 12) hs48.2.2.2.2.2.2.2.1 (ne_lit rfl)), (At.keep (i := 12) hs48.2.2.2.2.2.2.2.2.1 (ne_lit rfl)), (At.keep (i := 12) hs48.2.2.2.2.2.2.2.2.2.1 (ne_lit rfl)), (At.keep (i := 12) hs48.2.2.2.2.2.2.2.2.2.2 (ne_lit rfl))⟩))))))) (fun s48 es48 hs48 => (sv_assoc (sv_if (et_not (tt_truBt (EV.p (ev_melt (eo_c2 (tf := t__law_same) (fun a b z1 z2 => ty__law_same (n := 11) (by decide) a b z1 z2) rfl (.inl rfl) (EV.g (ev_melt (eo_c2 (tf := t_joined) (fun a0 a1 z0 z1 => ty_joined a0 a1  z0 z1 ) rfl (.inl rfl) (EV.g (ev_var hs48.2.2.1)) (EV.g (ev_var hs48.2.2.2.2.2.2.2.2.2.2))))) (EV.g (ev_melt (eo_c1 (tf := t__law_down) (fun a0 z0 => ty__law_down a0  z0 ) rfl (.inl rfl) (EV.g (ev_frz (EL.n (el_cat (EV.p (ev_var hs48.2.2.1)) (EV.p (ev_var hs48.2.2.2.2.2.2.2.2.2.2)))))))))))))) trivial
 (sv_retp ev_bool (fun z => (fphi z)))
 (sv_skip (sv_assoc (es_if (ec_or (ec_not (ec_truB (ec_melt (ec_call (ec_cons (ec_melt (ec_call (ec_cons (ec_own hs48.2.2.2.2.2.2.2.2.2.1 (ec_cons (ec_frz (ec_lst (ec_cons (ec_p (ev_up (fun a => (enc a : D)) up_d (ev_frz (en_Neg (EV.p ev_int)))) (fun h52 => (ec_cons (ec_p (ev_up (fun a => (enc a : D)) up_d ev_int) (fun h53 => (ec_cons (ec_p (ev_up (fun a => (enc a : D)) up_d ev_bool) (fun h54 => (ec_nil (ec_lstF (l := ([(enc (-(1 : Int)) : D), (enc (1000001 : Int) : D), (enc true : D)] : List D)) (Nat.le_of_ble_eq_true rfl) (szc h52 (szc h53 (szc h54 szn))) (fun h55 => (ec_nil (ec_fin (i := 1) (p := 0) rfl rfl rfl rfl (ga_own hs48.2.2.2.2.2.2.2.2.2.1 (ga_val ga_nil)) (ty__law_pick s46 ([(enc (-(1 : Int)) : D), (enc (1000001 : Int) : D), (enc true : D)] : List D) (At.sz hs48.2.2.2.2.2.2.2.2.2.1) h55) (fun pool_57 hpool_57 => trivial) (fun r56 pool_57 hr56 hpool_57 => (ec_cons (ec_p ev_int (fun h58 => (ec_nil (ec_fin0 rfl rfl (ga_val (ga_val ga_nil)) (ty__law_refused r56 (5 : Int) hr56 h58) (.inl rfl) trivial (fun r59 hr59 => (ec_truBk (ec_ifK (sv_retp ev_bool (fun z => (fphi z))) (ec_not (ec_truB (ec_melt (ec_call (ec_cons (ec_p ev_int (fun h60 => (ec_cons (ec_melt (ec_call (ec_cons (ec_own (At.set (lt_len (i := 1) hs48.1 rfl) hpool_57) (ec_cons (ec_p (ev_frz (EL.n (el_lst (ea_consp (ev_up (fun a => (enc a : D)) up_d ev_int) (ea_consp (ev_up (fun a => (enc a : D)) up_d ev_int) (ea_consp (ev_up (fun a => (enc a : D)) up_d (ev_frz (en_Neg (EV.p ev_int)))) (ea_consp (ev_up (fun a => (enc a : D)) up_d ev_bool) (ea_nil (α := D))))))))) (fun h61 => (ec_nil (ec_fin (i := 1) (p := 0) rfl rfl rfl rfl (ga_own (At.set (lt_len (i := 1) hs48.1 rfl) hpool_57) (ga_val ga_nil)) (ty__law_pick pool_57 ([(enc (0 : Int) : D), (enc (61 : Int) : D), (enc (-(1 : Int)) : D), (enc true : D)] : List D) hpool_57 h61) (fun pool_63 hpool_63 => trivial) (fun r62 pool_63 hr62 hpool_63 => (ec_nil (ec_fin0 rfl rfl (ga_val (ga_val ga_nil)) (ty__law_refused_2 (5 : Int) r62 h60 hr62) (.inl rfl) trivial (fun r64 hr64 => (ec_truBk (es_ifk
 (sv_retp ev_bool (fun z => (fphi z)))
 (sv_skip (sv_retT (ev_melt (eo_c2 (tf := t__law_same) (fun a b z1 z2 => ty__law_same (n := 11) (by decide) a b z1 z2) rfl (.inl rfl) (EV.g (ev_melt (eo_c1 (tf := t_steps_to_even) (fun a0 z0 => ty_steps_to_even a0  z0 ) rfl (.inl rfl) (EV.g (ev_frz (EL.n (el_lst (ea_nil (α := Int))))))))) (EV.g ev_int))))))))))))))))))))))))))))))))))))))))))))))))))))))))))))))))))))))))))))))))))))))))))))))))))))))))))))))))))))))))))))))))))))))))))))))))))))))))))))))))))))))))))
end DL.K51
end

/-! The defs about heaps. -/
namespace DL.K51
open PySem PySem.Spec PyProof.Rows L2 DL
open DL.Enc (enc)
theorem isnum {v a b : Int} : t_is_number v a b = .ok (decide (a ≤ v) && decide (v ≤ b)) := by
  unfold t_is_number
  rw [if_neg (by decide)]
theorem isnum_t {v a b : Int} (h1 : a ≤ v) (h2 : v ≤ b) : t_is_number v a b = .ok true := by rw [isnum, decide_eq_true h1, decide_eq_true h2]; rfl
theorem cnum {v a b : Int} (h1 : a ≤ v) (h2 : v ≤ b) : t_checked_number v a b = .ok v := by
  unfold t_checked_number
  rw [x3_ok, isnum_t h1 h2, xNot_ok, xb_ok]
  rfl
structure Bd (l : List Int) : Prop where
  len : l.length ≤ 60
  rng : ∀ x ∈ l, 0 ≤ x ∧ x ≤ 1000000
theorem Bd.perm {l m : List Int} (h : Bd l) (p : l.Perm m) : Bd m := ⟨by rw [← p.length_eq]; exact h.len, fun x hx => h.rng x (p.mem_iff.mpr hx)⟩
theorem checked_ok {l : List Int} (h : Bd l) : t_checked_shares l = .ok l := by
  unfold t_checked_shares
  rw [if_neg (by have := h.len; simp; omega), tComp_map (g' := fun u => u) fun u hu => by
    have := h.rng u hu
    rw [x1_ok]
    exact cnum this.1 this.2, List.map_id']
  all_goals rfl
theorem down_ok (l : List Int) : t__law_down l = .ok (sortR l) := by
  unfold t__law_down
  rw [xb_ok, dn_e]
def psm (l : List Int) : List Int := (List.range (l.length + 1)).map fun k => (l.take k).sum
theorem psm_split (l : List Int) : psm l = ((List.range l.length).map fun k => (l.take k).sum) ++ [l.sum] := by
  unfold psm
  rw [List.range_succ, List.map_append]
  simp
theorem psm_snoc (l : List Int) (a : Int) : psm (l ++ [a]) = psm l ++ [l.sum + a] := by
  rw [psm_split (l ++ [a])]
  congr 1
  · unfold psm
    rw [List.length_append]
    refine List.map_congr_left fun k hk => ?_
    have := List.mem_range.mp hk
    rw [List.take_append_of_le_length (by simp at this; omega)]
  · simp [List.sum_append]
theorem psm_sortR (l : List Int) : psm (sortR l) = hps l := by
  unfold psm hps
  rw [sortR_len]
  rfl
theorem heap_step {l : List Int} {a : Int} (h : l.length ≤ 60) : lb0_heaped (psm l) a = .ok (psm (l ++ [a])) := by
  unfold lb0_heaped
  have e : (psm l).length = l.length + 1 := by simp [psm]
  have e2 : x2 tAdd (x2 tIx (X.ok (psm l)) (X.ok (-(1 : Int)))) (X.ok a) = .ok (l.sum + a) := by
    rw [psm_split, x2_ok, tIx_last, x2_ok]
    rfl
  rw [psm_snoc, e2, xb_ok, e, rq_t (by omega)]
theorem heap_loop : ∀ (post pre : List Int), pre.length + post.length ≤ 60 → forF lb0_heaped post (psm pre) = .ok (psm (pre ++ post))
  | [], pre, _ => by rw [forF_nil, List.append_nil]
  | a :: post, pre, h => by
    rw [forF_cons, heap_step (by simp at h; omega), X.ok_b, heap_loop post (pre ++ [a]) (by simp at h ⊢; omega)]
    simp
theorem heaped_ok {l : List Int} (h : Bd l) : t_heaped l = .ok (hps l) := by
  unfold t_heaped
  rw [xb_ok, x1_ok, checked_ok h, x1_ok, xb_ok]
  have e : ([(0 : Int)] : List Int) = psm [] := rfl
  rw [e, heap_loop _ _ (by rw [sortR_len]; simpa using h.len), X.ok_b, List.nil_append, psm_sortR]
theorem lheaps_ok {l : List Int} (h : l.length ≤ 60) : t__law_heaps l = .ok (hps l) := by
  unfold t__law_heaps
  rw [x1_ok, down_ok, xb_ok, x1_ok, tRng1_ok (by omega) (by rw [sortR_len]; omega)]
  rw [tComp_map (g' := fun u => List.sum (dCut (sortR l) none (some u))) fun u _ => rfl]
  try rw [xb_ok]
  congr 1
  have e : ((sortR l).length : Int) + 1 = ((l.length + 1 : Nat) : Int) := by rw [sortR_len]; omega
  rw [e]
  exact irng_map fun k _ => by rw [dCut_to (by omega)]; rfl
theorem hps_ix {l : List Int} {k : Nat} (h : k ≤ l.length) : tIx (hps l) (k : Int) = .ok (hp l k) := tIx_get (by omega) (by rw [Int.toNat_natCast]; exact hps_get h)
theorem hps_last (l : List Int) : tIx (hps l) (-(1 : Int)) = .ok l.sum := by
  rw [← psm_sortR, psm_split, tIx_last, sortR_sum]
theorem hps_end (l : List Int) : tIx (hps l) (((hps l).length : Int) - 1) = .ok l.sum := by
  rw [hps_len, show ((l.length + 1 : Nat) : Int) - 1 = (l.length : Int) by omega, hps_ix (Nat.le_refl _), hp_all]
theorem levener_ok {a b : List Int} (ha : a.length ≤ 60) (hb : b.length ≤ 60) : t__law_evener a b = .ok (evB a b) := by
  unfold t__law_evener
  rw [x1_ok, lheaps_ok ha, xb_ok, x1_ok, lheaps_ok hb, xb_ok, x2_ok, hps_end, x2_ok, hps_end, x2_ok, xOr_ok]
  unfold evB
  by_cases hl : a.length = b.length
  · rw [decide_eq_true (show ((hps a).length : Int) = ((hps b).length : Int) by rw [hps_len, hps_len, hl]), decide_eq_true hl, if_neg (by decide), tNe_e, xb_ok]
    by_cases hs : a.sum = b.sum
    · rw [decide_eq_true hs, if_neg (by decide)]
      rw [tComp_fil (p' := fun u => decide (hp b u.toNat < hp a u.toNat)) fun u hu => by
        rw [hps_len] at hu
        obtain ⟨k, hk, rfl⟩ := mem_irng0 hu
        rw [x2_ok, hps_ix (by omega), x2_ok, hps_ix (by omega), x2_ok]
        rfl]
      rw [x1_ok, hps_len]
      show (X.ok (decide ((((irng 0 ((a.length + 1 : Nat) : Int)).filter fun u => decide (hp b u.toNat < hp a u.toNat)).length : Int) = 0)) : X Unit Bool) = _
      congr 1
      rw [Bool.eq_iff_iff, decide_eq_true_iff]
      simp only [Bool.true_and, List.all_eq_true, decide_eq_true_iff]
      have e0 : ∀ l : List Int, ((l.length : Int) = 0) ↔ l = [] := fun l => by rw [← List.length_eq_zero_iff]; omega
      rw [e0, List.filter_eq_nil_iff]
      constructor
      · intro h k hk
        have := h (k : Int) (mem_irng.mpr ⟨by omega, by have := List.mem_range.mp hk; omega⟩)
        simp at this
        exact this
      · intro h u hu
        obtain ⟨k, hk, rfl⟩ := mem_irng0 hu
        have := h k (List.mem_range.mpr hk)
        simp
        exact this
    · rw [decide_eq_false hs, if_pos (by decide)]
      rfl
  · rw [decide_eq_false (show ¬ ((hps a).length : Int) = ((hps b).length : Int) by rw [hps_len, hps_len]; omega), decide_eq_false hl, if_pos (by decide), xb_ok, if_pos rfl]
    rfl
theorem isevener_ok {a b : List Int} (ha : Bd a) (hb : Bd b) : t_is_evener a b = .ok (evB a b) := by
  unfold t_is_evener
  rw [x1_ok, heaped_ok ha, xb_ok, x1_ok, heaped_ok hb, xb_ok, x2_ok, hps_last, x2_ok, hps_last, x2_ok, xOr_ok]
  unfold evB
  by_cases hl : a.length = b.length
  · rw [decide_eq_true (show ((hps a).length : Int) = ((hps b).length : Int) by rw [hps_len, hps_len, hl]), decide_eq_true hl, if_neg (by decide), tNe_e, xb_ok]
    by_cases hs : a.sum = b.sum
    · rw [decide_eq_true hs, if_neg (by decide)]
      rw [tComp_map (g' := fun u => decide (hp a u.toNat ≤ hp b u.toNat)) fun u hu => by
        rw [hps_len] at hu
        obtain ⟨k, hk, rfl⟩ := mem_irng0 hu
        rw [x2_ok, hps_ix (by omega), x2_ok, hps_ix (by omega), x2_ok]
        rfl]
      rw [x1_ok, hps_len]
      show (X.ok (((irng 0 ((a.length + 1 : Nat) : Int)).map fun u => decide (hp a u.toNat ≤ hp b u.toNat)).all id) : X Unit Bool) = _
      rw [List.all_map, irng_all]
      rfl
    · rw [decide_eq_false hs, if_pos (by decide)]
      rfl
  · rw [decide_eq_false (show ¬ ((hps a).length : Int) = ((hps b).length : Int) by rw [hps_len, hps_len]; omega), decide_eq_false hl, if_pos (by decide), xb_ok, if_pos rfl]
    rfl
end DL.K51

/-! Squares, unevenness; what depends on the falling row alone; the finite part. -/
namespace DL.K51
open PySem PySem.Spec PyProof.Rows L2 DL
open DL.Enc (enc)
def sq (l : List Int) : Int := (l.map fun u => u * u).sum
theorem sq_perm {l m : List Int} (h : l.Perm m) : sq l = sq m := sum_perm (h.map _)
theorem sqc {l : List Int} (h : Bd l) : tComp (X.ok l) (fun (u : Int) => X.ok true) (fun (u : Int) => (x2 tMul (X.ok u) (X.ok u))) = .ok (l.map fun u => u * u) :=
  tComp_map fun u hu => by
    have := h.rng u hu
    rw [x2_ok, tMul_r (by omega) (by omega)]
theorem squares_ok {l : List Int} (h : Bd l) : t_squares l = .ok (sq l) := by
  unfold t_squares
  rw [x1_ok, checked_ok h, sqc h, x1_ok]
  rfl
def ab (a : Int) : Int := if a < 0 then -a else a
def unr : List Int → Int
  | [] => 0
  | a :: l => (l.map fun u => ab (u - a)).sum + unr l
theorem ab_comm (a b : Int) : ab (a - b) = ab (b - a) := by unfold ab; split <;> split <;> omega
theorem unr_snoc (a : Int) : ∀ l : List Int, unr (l ++ [a]) = unr l + (l.map fun u => ab (a - u)).sum
  | [] => by simp [unr]
  | b :: l => by
    show ((l ++ [a]).map fun u => ab (u - b)).sum + unr (l ++ [a]) = _
    rw [unr_snoc a l, List.map_append, List.sum_append]
    simp only [List.map_cons, List.map_nil, List.sum_cons, List.sum_nil, unr]
    omega
theorem unr_perm {l m : List Int} (h : l.Perm m) : unr l = unr m := by
  induction h with
  | nil => rfl
  | cons x h ih => simp only [unr]; rw [ih, sum_perm (h.map _)]
  | swap x y l => simp only [unr, List.map_cons, List.sum_cons]; rw [ab_comm x y]; omega
  | trans _ _ h1 h2 => exact h1.trans h2
theorem irng_from {a n : Nat} (h : a < n) : irng (a : Int) (n : Int) = (a : Int) :: irng ((a + 1 : Nat) : Int) (n : Int) := by
  rw [irng_cons (by omega), show ((a + 1 : Nat) : Int) = (a : Int) + 1 by omega]
theorem un_step {pre post : List Int} {a : Int} {l : List Int} (e : l = pre ++ a :: post) : lb0_uneven l (unr pre) (pre.length : Int) = .ok (unr (pre ++ [a])) := by
  unfold lb0_uneven
  have hk : l[pre.length]? = some a := by rw [e]; simp
  have e1 : tIx l (pre.length : Int) = .ok a := tIx_get (by omega) (by rw [Int.toNat_natCast]; exact hk)
  rw [tComp_map (g' := fun u => ab (a - u)) fun u _ => by
    rw [x2_ok, e1, x2_ok, tSub_e, x1_ok]
    rfl]
  rw [dCut_to (by omega), Int.toNat_natCast, x1_ok, unr_snoc]
  have e2 : l.take pre.length = pre := by rw [e]; simp
  rw [e2]
  rfl
theorem un_loop : ∀ (post pre l : List Int), l = pre ++ post → forF (lb0_uneven l) (irng (pre.length : Int) (l.length : Int)) (unr pre) = .ok (unr l)
  | [], pre, l, e => by
    rw [irng_nil (by rw [e]; simp), forF_nil, e, List.append_nil]
  | a :: post, pre, l, e => by
    have hl : pre.length < l.length := by rw [e]; simp
    have e2 : pre.length + 1 = (pre ++ [a]).length := by simp
    rw [irng_from hl, forF_cons, un_step e, X.ok_b, e2]
    exact un_loop post (pre ++ [a]) l (by rw [e]; simp)
theorem uneven_ok {l : List Int} (h : Bd l) : t_uneven l = .ok (unr l) := by
  unfold t_uneven
  rw [x1_ok, checked_ok h, xb_ok, xb_ok, xb_ok]
  have := un_loop l [] l rfl
  show (forF (lb0_uneven l) (irng ((([] : List Int).length : Nat) : Int) (l.length : Int)) (unr []) >>= _) = _
  rw [this]
  rfl
theorem lun_step {pre post : List Int} {a : Int} {l : List Int} (e : l = pre ++ a :: post) (hl : l.length ≤ 60) : lb0__law_uneven l (unr pre) (pre.length : Int) = .ok (unr (pre ++ [a])) := by
  unfold lb0__law_uneven
  have hk : l[pre.length]? = some a := by rw [e]; simp
  have hp : pre.length < l.length := by rw [e]; simp
  have e1 : tIx l (pre.length : Int) = .ok a := tIx_get (by omega) (by rw [Int.toNat_natCast]; exact hk)
  rw [x1_ok, tRng1_ok (by omega) (by omega), tComp_map (g' := fun u => ab (a - l.getD u.toNat 0)) fun u hu => by
    have := mem_irng.mp hu
    rw [x2_ok, e1, x2_ok, tIx_ok (by omega) (by omega) 0, x2_ok, tSub_e, x1_ok]
    rfl]
  rw [x1_ok, unr_snoc]
  have e2 : (irng 0 (pre.length : Int)).map (fun u => ab (a - l.getD u.toNat 0)) = pre.map fun u => ab (a - u) := by
    rw [irng_map (g := fun k => ab (a - l.getD k 0)) fun k _ => by rw [Int.toNat_natCast]]
    refine List.ext_getElem (by simp) fun k h1 h2 => ?_
    have hk : k < pre.length := by simpa using h2
    rw [List.getElem_map, List.getElem_map, List.getElem_range, e]
    rw [List.getD_eq_getElem?_getD, List.getElem?_append_left hk, List.getElem?_eq_getElem hk]
    rfl
  rw [e2]
  rfl
theorem lun_loop : ∀ (post pre l : List Int), l = pre ++ post → l.length ≤ 60 → forF (lb0__law_uneven l) (irng (pre.length : Int) (l.length : Int)) (unr pre) = .ok (unr l)
  | [], pre, l, e, _ => by
    rw [irng_nil (by rw [e]; simp), forF_nil, e, List.append_nil]
  | a :: post, pre, l, e, h => by
    have hl : pre.length < l.length := by rw [e]; simp
    have e2 : pre.length + 1 = (pre ++ [a]).length := by simp
    rw [irng_from hl, forF_cons, lun_step e h, X.ok_b, e2]
    exact lun_loop post (pre ++ [a]) l (by rw [e]; simp) h
theorem luneven_ok {l : List Int} (h : l.length ≤ 60) : t__law_uneven l = .ok (unr l) := by
  unfold t__law_uneven
  rw [xb_ok, xb_ok]
  have := lun_loop l [] l rfl h
  show (forF (lb0__law_uneven l) (irng ((([] : List Int).length : Nat) : Int) (l.length : Int)) (unr []) >>= _) = _
  rw [this]
  rfl
/-! ### the falling row alone -/
theorem moved_s {l : List Int} (h : Bd l) (m : Int) : t_moved l m = t_moved (sortR l) m := by
  unfold t_moved
  simp only [x1_ok, checked_ok h, checked_ok (h.perm (sortR_perm l).symm), sortR_idem]
theorem reached_s (l : List Int) (m : Int) : t__law_reached l m = t__law_reached (sortR l) m := by
  unfold t__law_reached
  simp only [x1_ok, down_ok, sortR_idem]
theorem steps_s {l : List Int} (h : Bd l) : t_steps_to_even l = t_steps_to_even (sortR l) := by
  unfold t_steps_to_even
  simp only [x1_ok, checked_ok h, checked_ok (h.perm (sortR_perm l).symm), sortR_idem]
/-! ### the finite part -/
def part6 (bs11 : List Int) : X Unit (Lp Unit Bool) := (if (decide ((0 : Int) < (List.length bs11 : Int))) = true then
 (xb () (x1 t__law_down (x2 t_evenest (X.ok (List.sum bs11)) (X.ok (List.length bs11 : Int)))) fun (best_35 : (List Int)) => (xb () (x1 t_steps_to_even (X.ok bs11)) fun (steps_36 : Int) => (if ((false) || ((decide (steps_36 < (0 : Int))) || (decide ((30 : Int) < steps_36)))) = true then
 (X.ok (Lp.rt false))
 else
 (xb () (xOr (xAnd (X.ok (decide (steps_36 < (4 : Int)))) (x2 tNotIn (X.ok best_35) (x2 t__law_reached (X.ok bs11) (X.ok steps_36)))) (xAnd (X.ok (decide ((0 : Int) < steps_36))) (x2 tIn (X.ok best_35) (x2 t__law_reached (X.ok bs11) (X.ok (if (steps_36 - (1 : Int)) < (3 : Int) then (steps_36 - (1 : Int)) else (3 : Int))))))) fun b38 => if b38 = true then
 (X.ok (Lp.rt false))
 else
 (xb () (xOr (xNot (x2 (t__law_same (α := (List Int))) (x2 t_moved (X.ok bs11) (X.ok steps_36)) (X.ok best_35))) (xAnd (X.ok (decide ((0 : Int) < steps_36))) (x2 tEq (x2 t_moved (X.ok bs11) (X.ok (steps_36 - (1 : Int)))) (X.ok best_35)))) fun b37 => if b37 = true then
 (X.ok (Lp.rt false))
 else
 (X.ok (Lp.nx ())))))))
 else
 (xb () (xOr (x2 tNe (x1 t_steps_to_even (X.ok bs11)) (X.ok (0 : Int))) (x2 tNe (x2 t_moved (X.ok bs11) (X.ok (3 : Int))) (X.ok ([] : List Int)))) fun b39 => if b39 = true then
 (X.ok (Lp.rt false))
 else
 (X.ok (Lp.nx ()))))
theorem part6_s {l : List Int} (h : Bd l) : part6 l = part6 (sortR l) := by
  unfold part6
  simp only [x2_ok, x1_ok]
  rw [sortR_len, sortR_sum, ← steps_s h]
  simp only [← moved_s h, ← reached_s l]
def isNx (t : X Unit (Lp Unit Bool)) : Bool := match t with
  | .ok (.nx ()) => true
  | _ => false
theorem isNx_eq {t : X Unit (Lp Unit Bool)} (h : isNx t = true) : t = .ok (.nx ()) := by
  unfold isNx at h
  split at h
  · rfl
  · cases h
/-! ### sorted by putting in -/
def ins (a : Int) : List Int → List Int
  | [] => [a]
  | b :: l => if b ≤ a then a :: b :: l else b :: ins a l
def iso : List Int → List Int
  | [] => []
  | a :: l => ins a (iso l)
theorem ins_perm (a : Int) : ∀ l : List Int, (ins a l).Perm (a :: l)
  | [] => List.Perm.refl _
  | b :: l => by
    unfold ins
    split
    · exact List.Perm.refl _
    · exact ((ins_perm a l).cons b).trans (List.Perm.swap a b l)
theorem ins_pw (a : Int) : ∀ l : List Int, l.Pairwise (· ≥ ·) → (ins a l).Pairwise (· ≥ ·)
  | [], _ => List.pairwise_singleton _ _
  | b :: l, h => by
    have hh := List.pairwise_cons.mp h
    unfold ins
    split
    · rename_i hb
      refine List.pairwise_cons.mpr ⟨fun x hx => ?_, h⟩
      rcases List.mem_cons.mp hx with rfl | hx
      · exact hb
      · exact Int.le_trans (hh.1 x hx) hb
    · rename_i hb
      refine List.pairwise_cons.mpr ⟨fun x hx => ?_, ins_pw a l hh.2⟩
      rcases List.mem_cons.mp ((ins_perm a l).mem_iff.mp hx) with rfl | hx
      · show x ≤ b; omega
      · exact hh.1 x hx
theorem iso_perm : ∀ l : List Int, (iso l).Perm l
  | [] => List.Perm.refl _
  | a :: l => (ins_perm a _).trans ((iso_perm l).cons a)
theorem iso_pw : ∀ l : List Int, (iso l).Pairwise (· ≥ ·)
  | [] => List.Pairwise.nil
  | a :: l => ins_pw a _ (iso_pw l)
theorem iso_e (l : List Int) : iso l = sortR l := sortR_uniq (iso_perm l) (iso_pw l)
def dn' (l : List Int) : X Unit (List Int) := .ok (iso l)
theorem dnF : t__law_down = dn' := by
  funext l
  rw [down_ok]
  unfold dn'
  rw [iso_e]
def qlb0__law_reached (s3 : ((List (List Int)) × (List (List Int)))) (a7 : (List Int)) (a9 : Int) : ((List (List Int))) → (Int) → X Unit ((List (List Int))) :=
 fun (s10 : (List (List Int))) (a11 : Int) =>
 (xb () (xAnd (X.ok (!decide (a9 = a11))) (x2 tGt (x2 tIx (X.ok a7) (X.ok a9)) (X.ok (0 : Int)))) fun b21 => if b21 = true then
 (xb () (X.ok a7) fun (trial_12 : (List Int)) => (xb () (x2 tSub (x2 tIx (X.ok trial_12) (X.ok a9)) (X.ok (1 : Int))) fun v19 => xb () (X.ok a9) fun j20 => tPut trial_12 v19 j20 >>= fun (trial_13 : (List Int)) => (xb () (x2 tAdd (x2 tIx (X.ok trial_13) (X.ok a11)) (X.ok (1 : Int))) fun v17 => xb () (X.ok a11) fun j18 => tPut trial_13 v17 j18 >>= fun (trial_14 : (List Int)) => (xb () (x1 dn' (X.ok trial_14)) fun (trial_15 : (List Int)) => (if ((!memD trial_15 s3.1) && (!memD trial_15 s10)) = true then
 (rq (List.length s10 + 1 ≤ 16777216) (X.ok ((s10 ++ [trial_15]))))
 else
 (X.ok (s10)))))))
 else
 (X.ok (s10)))
def qlb1__law_reached (s3 : ((List (List Int)) × (List (List Int)))) (a7 : (List Int)) : ((List (List Int))) → (Int) → X Unit ((List (List Int))) :=
 fun (s8 : (List (List Int))) (a9 : Int) =>
 (xb () (X.ok (irng 0 (List.length a7 : Int))) fun l => forF (qlb0__law_reached s3 a7 a9) l (s8) >>= (fun (s10 : (List (List Int))) => (X.ok (s10))))
def qlb2__law_reached (s3 : ((List (List Int)) × (List (List Int)))) : ((List (List Int))) → ((List Int)) → X Unit ((List (List Int))) :=
 fun (s6 : (List (List Int))) (a7 : (List Int)) =>
 (xb () (X.ok (irng 0 (List.length a7 : Int))) fun l => forF (qlb1__law_reached s3 a7) l (s6) >>= (fun (s8 : (List (List Int))) => (X.ok (s8))))
def qlb3__law_reached : ((List (List Int)) × (List (List Int))) → (Int) → X Unit ((List (List Int)) × (List (List Int))) :=
 fun (s3 : (List (List Int)) × (List (List Int))) (a4 : Int) =>
 (xb () (X.ok ([] : List (List Int))) fun (longer_5 : (List (List Int))) => (xb () (X.ok s3.2) fun l => forF (qlb2__law_reached s3) l (longer_5) >>= (fun (s6 : (List (List Int))) => (xb () (x2 tCat (X.ok s3.1) (X.ok s6)) fun (found_22 : (List (List Int))) => (X.ok (found_22, s6))))))
def qt__law_reached (p_shares : (List Int)) (p_most : Int) : X Unit (List (List Int)) :=
 (xb () (tCons (x1 dn' (X.ok p_shares)) (X.ok ([] : List (List Int)))) fun (found_1 : (List (List Int))) => (xb () (X.ok found_1) fun (rows_2 : (List (List Int))) => (xb () (x1 tRng1 (X.ok p_most)) fun l => forF qlb3__law_reached l (found_1, rows_2) >>= (fun (s3 : (List (List Int)) × (List (List Int))) => (X.ok s3.1)))))
def qt_moved (p_shares : (List Int)) (p_most : Int) : X Unit (List Int) :=
 (xb () (x1 (fun l => X.ok (iso l)) (x1 t_checked_shares (X.ok p_shares))) fun (have_1 : (List Int)) => (xb () (x1 (fun a0 => t_checked_number a0 (0 : Int) (1000000 : Int)) (X.ok p_most)) fun _ => (xb () (x1 tRng1 (X.ok p_most)) fun l => forX lb0_moved (fun (s2 : (List Int)) => (X.ok s2)) l (have_1))))
def qt_steps_to_even (p_shares : (List Int)) : X Unit Int :=
 (xb () (x1 (fun l => X.ok (iso l)) (x1 t_checked_shares (X.ok p_shares))) fun (rows_1 : (List Int)) => (if (!(!List.isEmpty rows_1)) = true then
 (X.ok (0 : Int))
 else
 (xb () (x2 t_evenest (X.ok (List.sum rows_1)) (X.ok (List.length rows_1 : Int))) fun (best_2 : (List Int)) => (x1 tSum (tComp (X.ok (irng 0 (List.length rows_1 : Int))) (fun (u3 : Int) => X.ok true) (fun (u3 : Int) => (x2 tMax (X.ok (0 : Int)) (x2 tSub (x2 tIx (X.ok rows_1) (X.ok u3)) (x2 tIx (X.ok best_2) (X.ok u3))))))))))

theorem r0 : lb0__law_reached = qlb0__law_reached := by
  funext s3 a7 a9 s10 a11
  unfold lb0__law_reached qlb0__law_reached
  rw [dnF]
theorem r1 : lb1__law_reached = qlb1__law_reached := by
  funext s3 a7
  unfold lb1__law_reached qlb1__law_reached
  rw [r0]
theorem r2 : lb2__law_reached = qlb2__law_reached := by
  funext s3
  unfold lb2__law_reached qlb2__law_reached
  rw [r1]
theorem r3 : lb3__law_reached = qlb3__law_reached := by
  unfold lb3__law_reached qlb3__law_reached
  rw [r2]
theorem rR : t__law_reached = qt__law_reached := by
  funext l m
  unfold t__law_reached qt__law_reached
  rw [r3, dnF]
theorem rM : t_moved = qt_moved := by
  funext l m
  unfold t_moved qt_moved
  simp only [iso_e]
theorem rS : t_steps_to_even = qt_steps_to_even := by
  funext l
  unfold t_steps_to_even qt_steps_to_even
  simp only [iso_e]
def qpart6 (bs11 : List Int) : X Unit (Lp Unit Bool) := (if (decide ((0 : Int) < (List.length bs11 : Int))) = true then
 (xb () (x1 dn' (x2 t_evenest (X.ok (List.sum bs11)) (X.ok (List.length bs11 : Int)))) fun (best_35 : (List Int)) => (xb () (x1 qt_steps_to_even (X.ok bs11)) fun (steps_36 : Int) => (if ((false) || ((decide (steps_36 < (0 : Int))) || (decide ((30 : Int) < steps_36)))) = true then
 (X.ok (Lp.rt false))
 else
 (xb () (xOr (xAnd (X.ok (decide (steps_36 < (4 : Int)))) (x2 tNotIn (X.ok best_35) (x2 qt__law_reached (X.ok bs11) (X.ok steps_36)))) (xAnd (X.ok (decide ((0 : Int) < steps_36))) (x2 tIn (X.ok best_35) (x2 qt__law_reached (X.ok bs11) (X.ok (if (steps_36 - (1 : Int)) < (3 : Int) then (steps_36 - (1 : Int)) else (3 : Int))))))) fun b38 => if b38 = true then
 (X.ok (Lp.rt false))
 else
 (xb () (xOr (xNot (x2 (t__law_same (α := (List Int))) (x2 qt_moved (X.ok bs11) (X.ok steps_36)) (X.ok best_35))) (xAnd (X.ok (decide ((0 : Int) < steps_36))) (x2 tEq (x2 qt_moved (X.ok bs11) (X.ok (steps_36 - (1 : Int)))) (X.ok best_35)))) fun b37 => if b37 = true then
 (X.ok (Lp.rt false))
 else
 (X.ok (Lp.nx ())))))))
 else
 (xb () (xOr (x2 tNe (x1 qt_steps_to_even (X.ok bs11)) (X.ok (0 : Int))) (x2 tNe (x2 qt_moved (X.ok bs11) (X.ok (3 : Int))) (X.ok ([] : List Int)))) fun b39 => if b39 = true then
 (X.ok (Lp.rt false))
 else
 (X.ok (Lp.nx ()))))
theorem r6 : part6 = qpart6 := by
  funext l
  unfold part6 qpart6
  rw [rM, rS, rR, dnF]
def hp' (l : List Int) (k : Nat) : Int := ((iso l).take k).sum
theorem hp'_e : hp' = hp := by
  funext l k
  unfold hp' hp
  rw [iso_e]
def evB' (a b : List Int) : Bool := decide (a.length = b.length) && (decide (a.sum = b.sum) && (List.range (a.length + 1)).all fun k => decide (hp' a k ≤ hp' b k))
theorem evB'_e : evB' = evB := by
  funext a b
  unfold evB' evB
  rw [hp'_e]
def cnd5 (due : List Int) (every : List (List Int)) : X Unit Bool := (xOr (X.ok (!memD due every)) (x2 tGt (x1 tLen (tComp (X.ok every) (fun (u32 : (List Int)) => (xNot (x2 t__law_evener (X.ok due) (X.ok u32)))) (fun (u32 : (List Int)) => (X.ok u32)))) (X.ok (0 : Int))))
def rowOk (S row : List Int) : Bool := decide (row.length = S.length) && (row.all (fun x => decide (0 ≤ x ∧ x ≤ 24)) && (!evB' row S || (decide (sq row ≤ sq S) && decide (unr row ≤ unr S))))
def fin5 (S : List Int) (m : Int) : Bool := match qt_moved S m with
  | .ok due => (match qt__law_reached S m with
    | .ok every => decide (due.length = S.length) && memD due every && every.all (fun u => evB' due u) && every.all (rowOk S)
    | _ => false)
  | _ => false
def rows : Nat → Int → List (List Int)
  | 0, _ => [[]]
  | n + 1, c => (irng 0 (c + 1)).flatMap fun a => (rows n a).map (a :: ·)
theorem rows_mem : ∀ (l : List Int) (c : Int), l.Pairwise (· ≥ ·) → (∀ x ∈ l, 0 ≤ x ∧ x ≤ c) → l ∈ rows l.length c
  | [], c, _, _ => List.mem_singleton_self _
  | a :: l, c, hp, hb => by
    have hp := List.pairwise_cons.mp hp
    have ha := hb a List.mem_cons_self
    refine List.mem_flatMap.mpr ⟨a, mem_irng.mpr ⟨ha.1, by omega⟩, List.mem_map.mpr ⟨l, ?_, rfl⟩⟩
    exact rows_mem l a hp.2 fun x hx => ⟨(hb x (List.mem_cons_of_mem _ hx)).1, hp.1 x hx⟩
end DL.K51

/-! The finite part, reckoned. -/
namespace DL.K51
open PySem PySem.Spec PyProof.Rows L2 DL
def chk (S : List Int) : Bool := isNx (qpart6 S) && (fin5 S 0 && (fin5 S 1 && (fin5 S 2 && fin5 S 3)))
theorem f0 : (rows 0 6).all chk = true := by decide +kernel
theorem f1 : (rows 1 6).all chk = true := by decide +kernel
theorem f2 : (rows 2 6).all chk = true := by decide +kernel
theorem f3 : (rows 3 6).all chk = true := by decide +kernel
theorem g00 : (rows 2 0).all (fun T => chk (0 :: 0 :: T)) = true := by decide +kernel
theorem g10 : (rows 2 0).all (fun T => chk (1 :: 0 :: T)) = true := by decide +kernel
theorem g11 : (rows 2 1).all (fun T => chk (1 :: 1 :: T)) = true := by decide +kernel
theorem g20 : (rows 2 0).all (fun T => chk (2 :: 0 :: T)) = true := by decide +kernel
theorem g21 : (rows 2 1).all (fun T => chk (2 :: 1 :: T)) = true := by decide +kernel
theorem g22 : (rows 2 2).all (fun T => chk (2 :: 2 :: T)) = true := by decide +kernel
theorem g30 : (rows 2 0).all (fun T => chk (3 :: 0 :: T)) = true := by decide +kernel
theorem g31 : (rows 2 1).all (fun T => chk (3 :: 1 :: T)) = true := by decide +kernel
theorem g32 : (rows 2 2).all (fun T => chk (3 :: 2 :: T)) = true := by decide +kernel
theorem g33 : (rows 2 3).all (fun T => chk (3 :: 3 :: T)) = true := by decide +kernel
theorem g40 : (rows 2 0).all (fun T => chk (4 :: 0 :: T)) = true := by decide +kernel
theorem g41 : (rows 2 1).all (fun T => chk (4 :: 1 :: T)) = true := by decide +kernel
theorem g42 : (rows 2 2).all (fun T => chk (4 :: 2 :: T)) = true := by decide +kernel
theorem g43 : (rows 2 3).all (fun T => chk (4 :: 3 :: T)) = true := by decide +kernel
theorem g44 : (rows 2 4).all (fun T => chk (4 :: 4 :: T)) = true := by decide +kernel
theorem g50 : (rows 2 0).all (fun T => chk (5 :: 0 :: T)) = true := by decide +kernel
theorem g51 : (rows 2 1).all (fun T => chk (5 :: 1 :: T)) = true := by decide +kernel
theorem g52 : (rows 2 2).all (fun T => chk (5 :: 2 :: T)) = true := by decide +kernel
theorem g53 : (rows 2 3).all (fun T => chk (5 :: 3 :: T)) = true := by decide +kernel
theorem g54 : (rows 2 4).all (fun T => chk (5 :: 4 :: T)) = true := by decide +kernel
theorem g55 : (rows 2 5).all (fun T => chk (5 :: 5 :: T)) = true := by decide +kernel
theorem g60 : (rows 2 0).all (fun T => chk (6 :: 0 :: T)) = true := by decide +kernel
theorem g61 : (rows 2 1).all (fun T => chk (6 :: 1 :: T)) = true := by decide +kernel
theorem g62 : (rows 2 2).all (fun T => chk (6 :: 2 :: T)) = true := by decide +kernel
theorem g63 : (rows 2 3).all (fun T => chk (6 :: 3 :: T)) = true := by decide +kernel
theorem g64 : (rows 2 4).all (fun T => chk (6 :: 4 :: T)) = true := by decide +kernel
theorem g65 : (rows 2 5).all (fun T => chk (6 :: 5 :: T)) = true := by decide +kernel
theorem g66 : (rows 2 6).all (fun T => chk (6 :: 6 :: T)) = true := by decide +kernel
theorem gg {a b : Int} (h0 : 0 ≤ a) (h1 : a ≤ 6) (h2 : 0 ≤ b) (h3 : b ≤ a) : (rows 2 b).all (fun T => chk (a :: b :: T)) = true := by
  have ha : a = 0 ∨ a = 1 ∨ a = 2 ∨ a = 3 ∨ a = 4 ∨ a = 5 ∨ a = 6 := by omega
  have hb : b = 0 ∨ b = 1 ∨ b = 2 ∨ b = 3 ∨ b = 4 ∨ b = 5 ∨ b = 6 := by omega
  rcases ha with rfl | rfl | rfl | rfl | rfl | rfl | rfl <;> rcases hb with rfl | rfl | rfl | rfl | rfl | rfl | rfl <;> first | omega | skip
  · exact g00
  · exact g10
  · exact g11
  · exact g20
  · exact g21
  · exact g22
  · exact g30
  · exact g31
  · exact g32
  · exact g33
  · exact g40
  · exact g41
  · exact g42
  · exact g43
  · exact g44
  · exact g50
  · exact g51
  · exact g52
  · exact g53
  · exact g54
  · exact g55
  · exact g60
  · exact g61
  · exact g62
  · exact g63
  · exact g64
  · exact g65
  · exact g66
theorem f4 {S : List Int} (h : S ∈ rows 4 6) : chk S = true := by
  obtain ⟨a, ha, h1⟩ := List.mem_flatMap.mp h
  obtain ⟨S1, h2, e1⟩ := List.mem_map.mp h1
  have h3 : S1 ∈ (irng 0 (a + 1)).flatMap fun b => (rows 2 b).map (b :: ·) := h2
  obtain ⟨b, hb, h4⟩ := List.mem_flatMap.mp h3
  obtain ⟨S2, h5, e2⟩ := List.mem_map.mp h4
  have ha := mem_irng.mp ha
  have hb := mem_irng.mp hb
  rw [← e1, ← e2]
  exact List.all_eq_true.mp (gg ha.1 (by omega) hb.1 (by omega)) S2 h5
theorem chk_ok {S : List Int} (hp : S.Pairwise (· ≥ ·)) (hb : ∀ x ∈ S, 0 ≤ x ∧ x ≤ 6) (hl : S.length ≤ 4) : chk S = true := by
  have h := rows_mem S 6 hp hb
  have hn : S.length = 0 ∨ S.length = 1 ∨ S.length = 2 ∨ S.length = 3 ∨ S.length = 4 := by omega
  rcases hn with e | e | e | e | e <;> rw [e] at h
  · exact List.all_eq_true.mp f0 S h
  · exact List.all_eq_true.mp f1 S h
  · exact List.all_eq_true.mp f2 S h
  · exact List.all_eq_true.mp f3 S h
  · exact f4 h
/-- evenest: all totals and numbers -/
def cndE (r21 r16 : Int) (told_25 : List Int) : X Unit Bool := (xOr (X.ok (!decide ((List.length told_25 : Int) = ((1 : Int) + r21)))) (xOr (X.ok (!decide ((List.sum told_25) = r16))) (xOr (x2 tNe (X.ok told_25) (x1 t__law_down (X.ok told_25))) (x2 tGt (x2 tSub (x2 tIx (X.ok told_25) (X.ok (0 : Int))) (x2 tIx (X.ok told_25) (X.ok (((1 : Int) + r21) - (1 : Int))))) (X.ok (1 : Int))))))
def qcndE (r21 r16 : Int) (told_25 : List Int) : X Unit Bool := (xOr (X.ok (!decide ((List.length told_25 : Int) = ((1 : Int) + r21)))) (xOr (X.ok (!decide ((List.sum told_25) = r16))) (xOr (x2 tNe (X.ok told_25) (x1 dn' (X.ok told_25))) (x2 tGt (x2 tSub (x2 tIx (X.ok told_25) (X.ok (0 : Int))) (x2 tIx (X.ok told_25) (X.ok (((1 : Int) + r21) - (1 : Int))))) (X.ok (1 : Int))))))
def chkE (r16 r21 : Int) : Bool := match t_evenest r16 (1 + r21) with
  | .ok told => isOk (qcndE r21 r16 told) false
  | _ => false
theorem fE : (irng 0 60).all (fun a => (irng 0 9).all fun b => chkE a b) = true := by decide +kernel
theorem even_ok {a b : Int} (h0 : 0 ≤ a) (h1 : a < 60) (h2 : 0 ≤ b) (h3 : b < 9) : ∃ told, t_evenest a (1 + b) = .ok told ∧ cndE b a told = .ok false := by
  have h := List.all_eq_true.mp (List.all_eq_true.mp fE a (mem_irng.mpr ⟨h0, h1⟩)) b (mem_irng.mpr ⟨h2, h3⟩)
  unfold chkE at h
  split at h
  · rename_i told e
    refine ⟨told, e, ?_⟩
    have : cndE b a told = qcndE b a told := by
      unfold cndE qcndE
      rw [dnF]
    rw [this]
    exact isOk_eq h
  · cases h
end DL.K51

/-! The law. -/
namespace DL.K51
open PySem PySem.Spec PyProof.Rows L2 DL
open DL.Enc (enc)
structure Sh (l : List Int) : Prop where
  len : l.length ≤ 4
  rng : ∀ x ∈ l, 0 ≤ x ∧ x ≤ 6
theorem Sh.bd {l : List Int} (h : Sh l) : Bd l := ⟨by have := h.len; omega, fun x hx => by have := h.rng x hx; omega⟩
theorem Sh.chk {l : List Int} (h : Sh l) : chk (sortR l) = true := chk_ok (sortR_pw l) (fun x hx => h.rng x (sortR_mem.mp hx)) (by rw [sortR_len]; exact h.len)
theorem part6_ok {l : List Int} (h : Sh l) : part6 l = .ok (.nx ()) := by
  have hc := h.chk
  unfold K51.chk at hc
  rw [Bool.and_eq_true] at hc
  rw [part6_s h.bd, r6]
  exact isNx_eq hc.1
structure RowOk (l row : List Int) : Prop where
  len : row.length = l.length
  bd : Bd row
  sq : evB row l = true → sq row ≤ sq l ∧ unr row ≤ unr l
theorem fin_ok {l : List Int} (h : Sh l) {m : Int} (h0 : 0 ≤ m) (h1 : m < 4) : ∃ due every, t_moved l m = .ok due ∧ t__law_reached l m = .ok every ∧ cnd5 due every = .ok false ∧ ∀ row ∈ every, RowOk l row := by
  have hc := h.chk
  unfold K51.chk at hc
  simp only [Bool.and_eq_true] at hc
  have hf : fin5 (sortR l) m = true := by
    have hm : m = 0 ∨ m = 1 ∨ m = 2 ∨ m = 3 := by omega
    rcases hm with rfl | rfl | rfl | rfl
    · exact hc.2.1
    · exact hc.2.2.1
    · exact hc.2.2.2.1
    · exact hc.2.2.2.2
  unfold fin5 at hf
  split at hf
  · rename_i due e1
    split at hf
    · rename_i every e2
      simp only [Bool.and_eq_true] at hf
      obtain ⟨⟨⟨hf0, hf1⟩, hf2⟩, hf3⟩ := hf
      have hr : ∀ row ∈ every, RowOk l row := fun row hrow => by
        have := List.all_eq_true.mp hf3 row hrow
        unfold rowOk at this
        rw [Bool.and_eq_true, Bool.and_eq_true, evB'_e] at this
        obtain ⟨a1, a2, a3⟩ := this
        have a1 := of_decide_eq_true a1
        rw [sortR_len] at a1
        refine ⟨a1, ⟨by have := h.len; omega, fun x hx => ?_⟩, fun hv => ?_⟩
        · have := of_decide_eq_true (List.all_eq_true.mp a2 x hx)
          omega
        · rw [evB_perm (List.Perm.refl row) (sortR_perm l), hv] at a3
          simp only [Bool.not_true, Bool.false_or, Bool.and_eq_true, decide_eq_true_iff] at a3
          rw [sq_perm (sortR_perm l), unr_perm (sortR_perm l)] at a3
          exact a3
      have hd := of_decide_eq_true hf0
      rw [sortR_len] at hd
      refine ⟨due, every, by rw [moved_s h.bd, rM]; exact e1, by rw [reached_s, rR]; exact e2, ?_, hr⟩
      unfold cnd5
      rw [tComp_fil (p' := fun u => !evB due u) fun u hu => by
        rw [x2_ok, levener_ok (by have := h.len; omega) ((hr u hu).bd.len), xNot_ok]]
      have e : every.filter (fun u => !evB due u) = [] := by
        rw [List.filter_eq_nil_iff]
        intro u hu
        have := List.all_eq_true.mp hf2 u hu
        rw [evB'_e] at this
        rw [this]
        decide
      rw [e, hf1, xOr_ok, if_neg (by decide)]
      rfl
    · cases hf
  · cases hf
theorem joined_ok {a b : List Int} (ha : Bd a) (hb : Bd b) (hl : a.length + b.length ≤ 60) : t_joined a b = .ok (sortR (a ++ b)) := by
  unfold t_joined
  rw [x2_ok, tCat_ok (by omega), x1_ok, checked_ok ⟨by simp; omega, fun x hx => by
    rcases List.mem_append.mp hx with hx | hx
    · exact ha.rng x hx
    · exact hb.rng x hx⟩, x1_ok]
theorem loop_c1 {l row : List Int} (h : Sh l) (hr : RowOk l row) : xAnd (x2 t__law_evener (X.ok row) (X.ok l)) (xOr (x2 tGt (x1 t_squares (X.ok row)) (x1 t_squares (X.ok l))) (x2 tGt (x1 t_uneven (X.ok row)) (x1 t_uneven (X.ok l)))) = .ok false := by
  rw [x2_ok, levener_ok hr.bd.len h.bd.len, xAnd_ok]
  cases hv : evB row l with
  | false => rw [if_neg (by decide)]
  | true =>
    have h2 := hr.sq hv
    rw [if_pos rfl, x1_ok, squares_ok hr.bd, x1_ok, squares_ok h.bd, x2_ok, x1_ok, uneven_ok hr.bd, x1_ok, uneven_ok h.bd, x2_ok]
    unfold tGt
    rw [xOr_ok, decide_eq_false (by omega), decide_eq_false (by omega), if_neg (by decide)]
theorem loop_c2 {l o row : List Int} (h : Sh l) (ho : Sh o) (hr : RowOk l row) : xAnd (x2 t_is_evener (X.ok row) (X.ok l)) (xNot (x2 t__law_evener (x2 t_joined (X.ok row) (X.ok o)) (x2 t_joined (X.ok l) (X.ok o)))) = .ok false := by
  have hl := h.len
  have hol := ho.len
  have hrl := hr.len
  rw [x2_ok, isevener_ok hr.bd h.bd, xAnd_ok]
  cases hv : evB row l with
  | false => rw [if_neg (by decide)]
  | true =>
    rw [if_pos rfl, x2_ok, joined_ok hr.bd ho.bd (by omega), x2_ok, joined_ok h.bd ho.bd (by omega), x2_ok, levener_ok (by rw [sortR_len, List.length_append]; omega) (by rw [sortR_len, List.length_append]; omega)]
    rw [evB_perm (sortR_perm _) (sortR_perm _), evB_iff.mpr ((evB_iff.mp hv).append o), xNot_ok]
    rfl
theorem loop_step {l o row : List Int} (h : Sh l) (ho : Sh o) (hr : RowOk l row) : lb0_law l o () row = .ok (.nx ()) := by
  unfold lb0_law
  rw [loop_c1 h hr, xb_ok, if_neg (by decide), loop_c2 h ho hr, xb_ok, if_neg (by decide)]
/-! ### what is refused -/
theorem rfa {d : D} (h : d ∈ ([.int (-1), .int 1000001, .bool true] : List D)) : t__law_refused d 5 = .ok true := by
  have : ([.int (-1), .int 1000001, .bool true] : List D).all (fun d => isOk (t__law_refused d 5) true) = true := by decide +kernel
  exact isOk_eq (List.all_eq_true.mp this d h)
theorem rfb {d : D} (h : d ∈ ([.int 0, .int 61, .int (-1), .bool true] : List D)) : t__law_refused_2 5 d = .ok true := by
  have : ([.int 0, .int 61, .int (-1), .bool true] : List D).all (fun d => isOk (t__law_refused_2 5 d) true) = true := by decide +kernel
  exact isOk_eq (List.all_eq_true.mp this d h)
theorem pick_ok (P : Pool) {l : List D} (h0 : 0 < l.length) (h1 : l.length < 1000000) : ∃ d P', t__law_pick P l = .ok (d, P') ∧ d ∈ l := by
  obtain ⟨r, P2, d, a0, a1⟩ := draw_spec P (n := (l.length : Int)) (by omega)
  obtain ⟨k, rfl⟩ := Int.eq_ofNat_of_zero_le a0
  have hk : k < l.length := by omega
  refine ⟨l[k], P2, ?_, List.getElem_mem hk⟩
  unfold t__law_pick
  rw [d, xc2_ok, tIx_nat hk]
  rfl
theorem st0 : t_steps_to_even [] = .ok 0 := by
  rw [rS]
  exact isOk_eq (by decide +kernel)
end DL.K51

namespace DL.K51
open PySem PySem.Spec PyProof.Rows L2 DL
open DL.Enc (enc)
theorem gap_ok {l : List Int} (h : Bd l) : ∃ g, t_gap l = .ok g ∧ xIf (X.ok (decide ((0 : Int) < (List.length l : Int)))) (x2 tSub (x1 tMaxL (X.ok l)) (x1 tMinL (X.ok l))) (X.ok (0 : Int)) = (.ok g : X Unit Int) := by
  unfold t_gap
  rw [x1_ok, checked_ok h, xb_ok]
  cases l with
  | nil => exact ⟨0, rfl, rfl⟩
  | cons a l =>
    have e : decide ((0 : Int) < (List.length (a :: l) : Int)) = true := decide_eq_true (by rw [List.length_cons]; omega)
    rw [e]
    exact ⟨_, rfl, rfl⟩
theorem t2_ok {α : Type} {a b : α} [DecidableEq α] (h : a = b) : t__law_same a b = .ok true := by subst h; exact t_same a
theorem xj_eq {ε σ ω : Type} {T : X ε (Lp σ ω)} {k : σ → X ε ω} {s : σ} (h : T = .ok (.nx s)) : xj T k = k s := by
  rw [h]
  rfl
theorem law_true : ∀ ns : List Int, ns.length ≤ 63 → t_law ns = .ok true := by
  intro ns hns
  unfold t_law
  have e0 : ∃ P, t__law_pool ns = .ok P := by
    unfold t__law_pool
    rw [dif_pos hns]
    exact ⟨_, rfl⟩
  obtain ⟨P, e0⟩ := e0
  obtain ⟨r4, P1, d1, a1, b1⟩ := draw_spec P (n := 5) (by decide)
  obtain ⟨bs, P2, c1, c2, c3⟩ := cmpO_inv (fun b : Int => 0 ≤ b ∧ b ≤ 6) (irng 0 r4) P1 (step := fun (s7 : Pool) (u6 : Int) => ((xc2 (fun (pool_10 : Pool) => ()) (t__law_draw s7 (7 : Int)) fun (r9 : Int) (pool_10 : Pool) => (X.ok (some r9, (pool_10)))) : X Unit (Option Int × (Pool)))) fun a s _ => by
    obtain ⟨r, P', d, a0, a1⟩ := draw_spec s (n := 7) (by decide)
    exact ⟨r, P', by rw [d, xc2_ok], a0, by omega⟩
  have hs : Sh bs := ⟨by rw [c2, irng_len]; omega, c3⟩
  rw [x1_ok, e0, xb_ok, d1, xc2_ok, tRng1_ok a1 (by omega), xb_ok, c1, noX_ok, xb_ok]
  dsimp only
  obtain ⟨g, g1, g2⟩ := gap_ok hs.bd
  rw [x1_ok, g1, g2, x2_ok, t_same, xNot_ok, xb_ok, if_neg (by decide)]
  rw [x1_ok, squares_ok hs.bd, sqc hs.bd, x1_ok, x2_ok]
  show xb () (xOr (xNot (t__law_same (sq bs) (sq bs))) _) _ = _
  rw [t_same, x1_ok, uneven_ok hs.bd, x1_ok, luneven_ok (by have := hs.len; omega), x2_ok, t_same, xNot_ok, xOr_ok, if_neg (by decide), xb_ok, if_neg (by decide)]
  obtain ⟨r16, P3, d3, a3, b3⟩ := draw_spec P2 (n := 60) (by decide)
  obtain ⟨r21, P4, d4, a4, b4⟩ := draw_spec P3 (n := 9) (by decide)
  obtain ⟨told, h1, h2⟩ := even_ok a3 b3 a4 b4
  rw [d3, xc2_ok, d4, xc2_ok, x2_ok, h1, xb_ok]
  unfold cndE at h2
  rw [h2, xb_ok, if_neg (by decide)]
  obtain ⟨r27, P5, d5, a5, b5⟩ := draw_spec P4 (n := 4) (by decide)
  obtain ⟨due, every, i1, i2, i3, i4⟩ := fin_ok hs a5 b5
  unfold cnd5 at i3
  rw [d5, xc2_ok, x2_ok, i1, xb_ok, x2_ok, i2, xb_ok, i3, xb_ok, if_neg (by decide)]
  have h6 := part6_ok hs
  refine (xj_eq (T := part6 bs) h6).trans ?_
  obtain ⟨os, P6, o1, o2, o3⟩ := cmpX_inv (fun b : Int => 0 ≤ b ∧ b ≤ 6) (irng 0 (bs.length : Int)) P5 (step := fun (s41 : Pool) (u40 : Int) => (xc2 (fun (pool_44 : Pool) => ()) (t__law_draw s41 (7 : Int)) fun (r43 : Int) (pool_44 : Pool) => (X.ok (r43, (pool_44))))) fun a s _ => by
    obtain ⟨r, P', d, a0, a1⟩ := draw_spec s (n := 7) (by decide)
    exact ⟨r, P', by rw [d, xc2_ok], a0, by omega⟩
  have ho : Sh os := ⟨by rw [o2, irng_len]; have := hs.len; omega, o3⟩
  rw [xb_ok, o1, noX_ok, xb_ok]
  dsimp only
  rw [xb_ok]
  refine forX_inv (fun _ => True) every () trivial (fun a s ha _ => ⟨(), loop_step hs ho (i4 a ha), trivial⟩) fun _ _ => ?_
  have hl := hs.len
  have hol := ho.len
  rw [x2_ok, joined_ok hs.bd ho.bd (by omega), x2_ok, tCat_ok (by omega), x1_ok, down_ok, x2_ok, t_same, xNot_ok, xb_ok, if_neg (by decide)]
  obtain ⟨d, P7, p1, p2⟩ := pick_ok P6 (l := [(enc (-(1 : Int)) : D), (enc (1000001 : Int) : D), (enc true : D)]) (by decide) (by decide)
  rw [p1, xc2_ok, rfa p2, xb_ok, if_neg (by decide)]
  obtain ⟨d', P8, q1, q2⟩ := pick_ok P7 (l := [(enc (0 : Int) : D), (enc (61 : Int) : D), (enc (-(1 : Int)) : D), (enc true : D)]) (by decide) (by decide)
  rw [q1, xc2_ok, rfb q2, xb_ok, if_neg (by decide), x1_ok, st0, x2_ok, t_same]
theorem law_holds : ∀ ns : List Int, ns.length ≤ 63 → ∃ outs, m_law [.list (ns.map .int)] = .ok (.bool true) outs := law_of (fun ns z => ty_law ns z) law_true
end DL.K51

namespace DL.K51
open PySem PySem.Spec PyProof.Rows L2 DL DL.Lib
/-! ## The text -/
def top (i : Nat) : Stmt := PySem.Challenge.pw_watchhire_k51_evenest_shares_and_gifts.main.body.getD i (.Pass ⟨0, 0, 0, 0⟩)
abbrev s__law_pool : Stmt := top 22
abbrev s__law_draw : Stmt := top 23
abbrev s_is_number : Stmt := top 6
abbrev s_checked_number : Stmt := top 7
abbrev s_evenest : Stmt := top 13
abbrev s_checked_shares : Stmt := top 10
abbrev s_moved : Stmt := top 17
abbrev s__law_down : Stmt := top 25
abbrev s__law_reached : Stmt := top 28
abbrev s__law_same : Stmt := top 21
abbrev s_steps_to_even : Stmt := top 18
abbrev s_gap : Stmt := top 14
abbrev s__law_heaps : Stmt := top 26
abbrev s__law_evener : Stmt := top 27
abbrev s_heaped : Stmt := top 11
abbrev s_is_evener : Stmt := top 12
abbrev s_joined : Stmt := top 19
abbrev s__law_refused : Stmt := top 29
abbrev s_squares : Stmt := top 15
abbrev s_uneven : Stmt := top 16
abbrev s__law_uneven : Stmt := top 30
abbrev s__law_pick : Stmt := top 24
abbrev s_law : Stmt := top 31
structure Txt (K : Frag) (mg : MG) : Prop where
  n_list : mg ("list" : Str) = none
  n_int : mg ("int" : Str) = none
  n_len : mg ("len" : Str) = none
  n_abs : mg ("abs" : Str) = none
  n_isinstance : mg ("isinstance" : Str) = none
  n_bool : mg ("bool" : Str) = none
  n_str : mg ("str" : Str) = none
  n_range : mg ("range" : Str) = none
  n_sorted : mg ("sorted" : Str) = none
  n_reversed : mg ("reversed" : Str) = none
  n_tuple : mg ("tuple" : Str) = none
  n_sum : mg ("sum" : Str) = none
  n_max : mg ("max" : Str) = none
  n_min : mg ("min" : Str) = none
  n_all : mg ("all" : Str) = none
  n_ValueError : mg ("ValueError" : Str) = none
  c_MOST : ∃ t, mg ("MOST" : Str) = some (.int 60 t)
  x_InvalidNumber : ∃ C, ExcK K mg ("InvalidNumber" : Str) C
  x_TooMany : ∃ C, ExcK K mg ("TooMany" : Str) C
  x_WatchError : ∃ C, ExcK K mg ("WatchError" : Str) C
  hit_WatchError : ∃ C, mg ("WatchError" : Str) = some (.ref C) ∧ HitT K mg (.ref C) tab_WatchError
  is_InvalidNumber : ∃ C, mg ("InvalidNumber" : Str) = some (.ref C) ∧ IsT K mg (.ref C) tab_InvalidNumber
  is_ValueError : IsT K mg (.type "ValueError") tab_ValueError
  d__law_pool : ∃ f fd, DefAt K mg ("_law_pool" : Str) s__law_pool [] f fd
  d__law_draw : ∃ f fd, DefAt K mg ("_law_draw" : Str) s__law_draw [] f fd
  d_is_number : ∃ f fd, DefAt K mg ("is_number" : Str) s_is_number [.int 0, .int 1000000] f fd
  d_checked_number : ∃ f fd, DefAt K mg ("checked_number" : Str) s_checked_number [.int 0, .int 1000000] f fd
  d_evenest : ∃ f fd, DefAt K mg ("evenest" : Str) s_evenest [] f fd
  d_checked_shares : ∃ f fd, DefAt K mg ("checked_shares" : Str) s_checked_shares [] f fd
  d_moved : ∃ f fd, DefAt K mg ("moved" : Str) s_moved [] f fd
  d__law_down : ∃ f fd, DefAt K mg ("_law_down" : Str) s__law_down [] f fd
  d__law_reached : ∃ f fd, DefAt K mg ("_law_reached" : Str) s__law_reached [] f fd
  d__law_same : ∃ f fd, DefAt K mg ("_law_same" : Str) s__law_same [] f fd
  d_steps_to_even : ∃ f fd, DefAt K mg ("steps_to_even" : Str) s_steps_to_even [] f fd
  d_gap : ∃ f fd, DefAt K mg ("gap" : Str) s_gap [] f fd
  d__law_heaps : ∃ f fd, DefAt K mg ("_law_heaps" : Str) s__law_heaps [] f fd
  d__law_evener : ∃ f fd, DefAt K mg ("_law_evener" : Str) s__law_evener [] f fd
  d_heaped : ∃ f fd, DefAt K mg ("heaped" : Str) s_heaped [] f fd
  d_is_evener : ∃ f fd, DefAt K mg ("is_evener" : Str) s_is_evener [] f fd
  d_joined : ∃ f fd, DefAt K mg ("joined" : Str) s_joined [] f fd
  d__law_refused : ∃ f fd, DefAt K mg ("_law_refused" : Str) s__law_refused [] f fd
  d_squares : ∃ f fd, DefAt K mg ("squares" : Str) s_squares [] f fd
  d_uneven : ∃ f fd, DefAt K mg ("uneven" : Str) s_uneven [] f fd
  d__law_uneven : ∃ f fd, DefAt K mg ("_law_uneven" : Str) s__law_uneven [] f fd
  d__law_pick : ∃ f fd, DefAt K mg ("_law_pick" : Str) s__law_pick [] f fd
  d_law : ∃ f fd, DefAt K mg ("law" : Str) s_law [] f fd
section
variable {P : Program} {w : World} {K : Frag} {mg : MG} {base : Heap}
theorem sc__law_pool : FnScope ["script"] ["script"] (defScope s__law_pool) := ⟨rfl, rfl, rfl, by decide +kernel, rfl, by decide +kernel, by decide +kernel⟩
theorem fn__law_pool (T : Txt K mg) {f : Addr} {fd : FuncData} (A : DefAt K mg ("_law_pool" : Str) s__law_pool [] f fd) : FnOk P w K mg base (L2N.CX P w) 1 f fd ["script"] (spF K mg [.fz] (.lst .fz) m__law_pool) :=
  have S := sc__law_pool
  fnD (modes := [.fz]) (locs := []) (rsh := (.lst .fz)) (rz := false) A.F S rfl rfl (fun z => by cases z) fun cdv A outer s G0 H0 vs S0 E hr => by
    have tk := L2N.takes_of (X := cxOf (L2N.CX P w) P w K mg base ["script"] ("_law_pool" : Str) (defScope s__law_pool) f cdv A outer s H0 E) rfl rfl rfl rfl
    have hp : PassesOwn (model P w) (A.deeper (envOfC ("_law_pool" : Str) (defScope s__law_pool) s.heap.objs.size f cdv)) _ (cxOf (L2N.CX P w) P w K mg base ["script"] ("_law_pool" : Str) (defScope s__law_pool) f cdv A outer s H0 E).xe := PassesOwn.leaving
    exact (dss_one (by exact ds_retO (dO_n (dn_lst (da_cons (de_n (dn_callTy (cn_list) rfl T.n_list (by rfl) (da_cons (de_var 0) (da_nil)))) (da_cons (de_int) (da_cons (de_int) (da_cons (de_int) (da_cons (de_int) (da_nil))))))))))
theorem ok__law_pool_0 (T : Txt K mg) : CalD P w K mg base 1 ("_law_pool" : Str) [.fz] (.lst .fz) m__law_pool [] :=
  let ⟨_, _, A⟩ := T.d__law_pool; cal0 A (fn__law_pool T A) (fun _ _ _ _ _ _ us hl => match us, hl with | [_], _ => rfl)
theorem sc__law_draw : FnScope ["pool", "many", "found", "cell", "mixed"] ["pool", "many"] (defScope s__law_draw) := ⟨rfl, rfl, rfl, by decide +kernel, rfl, by decide +kernel, by decide +kernel⟩
theorem fn__law_draw (T : Txt K mg) {f : Addr} {fd : FuncData} (A : DefAt K mg ("_law_draw" : Str) s__law_draw [] f fd) : FnOk P w K mg base (L2N.CX P w) 1 f fd ["pool", "many"] (spF K mg [(.lst .fz), .fz] .fz m__law_draw) :=
  have S := sc__law_draw
  fnD (modes := [(.lst .fz), .fz]) (locs := [.fz, .fz, .fz]) (rsh := .fz) (rz := true) A.F S rfl rfl (fun _ => rfl) fun cdv A outer s G0 H0 vs S0 E hr => by
    have tk := L2N.takes_of (X := cxOf (L2N.CX P w) P w K mg base ["pool", "many", "found", "cell", "mixed"] ("_law_draw" : Str) (defScope s__law_draw) f cdv A outer s H0 E) rfl rfl rfl rfl
    have hp : PassesOwn (model P w) (A.deeper (envOfC ("_law_draw" : Str) (defScope s__law_draw) s.heap.objs.size f cdv)) _ (cxOf (L2N.CX P w) P w K mg base ["pool", "many", "found", "cell", "mixed"] ("_law_draw" : Str) (defScope s__law_draw) f cdv A outer s H0 E).xe := PassesOwn.leaving
    exact (dss_cons (by exact ds_if (pt_cmp1 op2_gt (de_n (dn_ix (de_plc 0) (de_int))) (de_int) (nomark _)) (dss_cons (by exact ds_asg (de_n (dn_op op2_mod (de_n (dn_callTy (cn_int) rfl T.n_int (by rfl) (da_cons (de_n (dn_ix (de_plc 0) (de_int))) (da_nil)))) (de_var 1))) (dg_name 2 S.nd)) (dss_cons (by exact ds_store 0 (de_n (dn_op op2_div (de_n (dn_ix (de_plc 0) (de_int))) (de_var 1))) (de_int)) (dss_one (by exact ds_ret (de_var 2))))) (dss_nil)) (dss_cons (by exact ds_if (dt_w (dw_and (pt_cmp1 (op2_eq hr.units) (de_n (dn_op op2_mod (de_n (dn_callTy (cn_int) rfl T.n_int (by rfl) (da_cons (de_n (dn_ix (de_plc 0) (de_int))) (da_nil)))) (de_int))) (de_int) (nomark _)) (dw_and1 (pt_cmp1 op2_lt (de_n (dn_ix (de_plc 0) (de_int))) (de_n (dn_callB (cn_len) rfl T.n_len (by rfl) (da_cons (de_n (dn_ix (de_plc 0) (de_int))) (da_nil)))) (nomark _))))) (dss_cons (by exact ds_asg (de_n (dn_callB (cn_abs) rfl T.n_abs (by rfl) (da_cons (de_n (dn_ix (de_n (dn_ix (de_plc 0) (de_int))) (de_n (dn_ix (de_plc 0) (de_int))))) (da_nil)))) (dg_name 3 S.nd)) (dss_cons (by exact ds_store 0 (de_n (dn_op op2_add (de_n (dn_ix (de_plc 0) (de_int))) (de_int))) (de_int)) (dss_cons (by exact ds_if (pt_cmp1 op2_ge (de_var 3) (de_n (dn_op op2_pow (de_int) (de_int))) (nomark _)) (dss_cons (by exact ds_store 0 (de_n (dn_op op2_div (de_var 3) (de_var 1))) (de_int)) (dss_one (by exact ds_ret (de_n (dn_op op2_mod (de_n (dn_callTy (cn_int) rfl T.n_int (by rfl) (da_cons (de_var 3) (da_nil)))) (de_var 1)))))) (dss_nil)) (dss_one (by exact ds_store 0 (de_var 3) (de_int)))))) (dss_nil)) (dss_cons (by exact ds_store 0 (de_n (dn_op op2_add (de_n (dn_ix (de_plc 0) (de_int))) (de_int))) (de_int)) (dss_cons (by exact ds_asg (de_n (dn_op op2_mod (de_n (dn_callTy (cn_int) rfl T.n_int (by rfl) (da_cons (de_n (dn_op op2_add (de_n (dn_op op2_add (de_n (dn_op op2_mul (de_n (dn_ix (de_plc 0) (de_int))) (de_int))) (de_n (dn_op op2_mul (de_n (dn_ix (de_plc 0) (de_int))) (de_int))))) (de_int))) (da_nil)))) (de_int))) (dg_name 4 S.nd)) (dss_cons (by exact ds_asg (de_n (dn_op op2_mod (de_n (dn_callTy (cn_int) rfl T.n_int (by rfl) (da_cons (de_n (dn_op op2_add (de_n (dn_op op2_mul (de_var 4) (de_var 4))) (de_n (dn_op op2_mul (de_n (dn_ix (de_plc 0) (de_int))) (de_int))))) (da_nil)))) (de_int))) (dg_name 4 S.nd)) (dss_one (by exact ds_ret (de_n (dn_op op2_mod (de_n (dn_callTy (cn_int) rfl T.n_int (by rfl) (da_cons (de_var 4) (da_nil)))) (de_var 1))))))))))
theorem ok__law_draw_0 (T : Txt K mg) : CalD P w K mg base 1 ("_law_draw" : Str) [(.lst .fz), .fz] .fz m__law_draw [] :=
  let ⟨_, _, A⟩ := T.d__law_draw; cal0 A (fn__law_draw T A) (fun _ _ _ _ _ _ us hl => match us, hl with | [_, _], _ => rfl)
theorem sc_is_number : FnScope ["value", "least", "most"] ["value", "least", "most"] (defScope s_is_number) := ⟨rfl, rfl, rfl, by decide +kernel, rfl, by decide +kernel, by decide +kernel⟩
theorem fn_is_number (T : Txt K mg) {f : Addr} {fd : FuncData} (A : DefAt K mg ("is_number" : Str) s_is_number [.int 0, .int 1000000] f fd) : FnOk P w K mg base (L2N.CX P w) 1 f fd ["value", "least", "most"] (spF K mg [.fz, .fz, .fz] .fz m_is_number) :=
  have S := sc_is_number
  fnD (modes := [.fz, .fz, .fz]) (locs := []) (rsh := .fz) (rz := true) A.F S rfl rfl (fun _ => rfl) fun cdv A outer s G0 H0 vs S0 E hr => by
    have tk := L2N.takes_of (X := cxOf (L2N.CX P w) P w K mg base ["value", "least", "most"] ("is_number" : Str) (defScope s_is_number) f cdv A outer s H0 E) rfl rfl rfl rfl
    have hp : PassesOwn (model P w) (A.deeper (envOfC ("is_number" : Str) (defScope s_is_number) s.heap.objs.size f cdv)) _ (cxOf (L2N.CX P w) P w K mg base ["value", "least", "most"] ("is_number" : Str) (defScope s_is_number) f cdv A outer s H0 E).xe := PassesOwn.leaving
    exact (dss_cons (by exact ds_if (dt_w (dw_or (dt_n (dn_isi "bool" kt_bool (de_var 0) T.n_isinstance T.n_bool (by rfl))) (dw_or1 (dt_not (dt_n (dn_isi "int" kt_int (de_var 0) T.n_isinstance T.n_int (by rfl))))))) (dss_one (by exact ds_ret (de_bl))) (dss_nil)) (dss_one (by exact ds_ret (de_n (dn_chain op2_le op2_le (de_var 1) (de_var 0) (de_var 2))))))
theorem ok_is_number_0 (T : Txt K mg) : CalD P w K mg base 1 ("is_number" : Str) [.fz, .fz, .fz] .fz m_is_number [] :=
  let ⟨_, _, A⟩ := T.d_is_number; calJ 3 2 A (fn_is_number T A) (by intro z; cases z) rfl (fun _ _ _ _ _ _ _ us its hl hi => match us, its, hl, hi with | [a0, a1, a2], [d0, d1], _, _ => ⟨_, rfl, rfl⟩) (fun _ => .nil)
theorem sc_checked_number : FnScope ["value", "least", "most"] ["value", "least", "most"] (defScope s_checked_number) := ⟨rfl, rfl, rfl, by decide +kernel, rfl, by decide +kernel, by decide +kernel⟩
theorem fn_checked_number (T : Txt K mg) {f : Addr} {fd : FuncData} (A : DefAt K mg ("checked_number" : Str) s_checked_number [.int 0, .int 1000000] f fd) : FnOk P w K mg base (L2N.CX P w) 2 f fd ["value", "least", "most"] (spF K mg [.fz, .fz, .fz] .fz m_checked_number) :=
  have S := sc_checked_number
  fnD (modes := [.fz, .fz, .fz]) (locs := []) (rsh := .fz) (rz := true) A.F S rfl rfl (fun _ => rfl) fun cdv A outer s G0 H0 vs S0 E hr => by
    have tk := L2N.takes_of (X := cxOf (L2N.CX P w) P w K mg base ["value", "least", "most"] ("checked_number" : Str) (defScope s_checked_number) f cdv A outer s H0 E) rfl rfl rfl rfl
    have hp : PassesOwn (model P w) (A.deeper (envOfC ("checked_number" : Str) (defScope s_checked_number) s.heap.objs.size f cdv)) _ (cxOf (L2N.CX P w) P w K mg base ["value", "least", "most"] ("checked_number" : Str) (defScope s_checked_number) f cdv A outer s H0 E).xe := PassesOwn.leaving
    exact (dss_cons (by exact ds_if (dt_not (dt_tru (de_oz (dO_cal [none, none, none] (ok_is_number_0 T) (hr.mono (by decide)) (.val (.val (.val (.nil)))) tk (da_cons (de_var 0) (da_cons (de_var 1) (da_cons (de_var 2) (da_nil)))))))) (dss_one (by exact (let ⟨_, hx_⟩ := T.x_InvalidNumber; ds_raise rfl tk hx_ (de_n (dn_op op2_add (de_n (dn_op op2_add (de_n (dn_op op2_add (de_str) (de_n (dn_callTy (cn_str) rfl T.n_str (by rfl) (da_cons (de_var 1) (da_nil)))))) (de_str))) (de_n (dn_callTy (cn_str) rfl T.n_str (by rfl) (da_cons (de_var 2) (da_nil))))))))) (dss_nil)) (dss_one (by exact ds_ret (de_var 0))))
theorem ok_checked_number_2 (T : Txt K mg) : CalD P w K mg base 2 ("checked_number" : Str) [.fz, .fz, .fz] .fz m_checked_number [.int 0, .int 1000000] :=
  let ⟨_, _, A⟩ := T.d_checked_number; calJ 1 0 A (fn_checked_number T A) (by intro z; cases z) rfl (fun _ _ _ _ _ _ _ us its hl hi => match us, its, hl, hi with | [a0], [d0, d1], _, _ => ⟨_, rfl, rfl⟩) (fun _ => .cons (.int _) (.cons (.int _) (.nil)))
theorem sc_evenest : FnScope ["total", "many", "index"] ["total", "many"] (defScope s_evenest) := ⟨rfl, rfl, rfl, by decide +kernel, rfl, by decide +kernel, by decide +kernel⟩
theorem fn_evenest (T : Txt K mg) {f : Addr} {fd : FuncData} (A : DefAt K mg ("evenest" : Str) s_evenest [] f fd) : FnOk P w K mg base (L2N.CX P w) 3 f fd ["total", "many"] (spF K mg [.fz, .fz] .fz m_evenest) :=
  have S := sc_evenest
  fnD (modes := [.fz, .fz]) (locs := [.fz]) (rsh := .fz) (rz := true) A.F S rfl rfl (fun _ => rfl) fun cdv A outer s G0 H0 vs S0 E hr => by
    have tk := L2N.takes_of (X := cxOf (L2N.CX P w) P w K mg base ["total", "many", "index"] ("evenest" : Str) (defScope s_evenest) f cdv A outer s H0 E) rfl rfl rfl rfl
    have hp : PassesOwn (model P w) (A.deeper (envOfC ("evenest" : Str) (defScope s_evenest) s.heap.objs.size f cdv)) _ (cxOf (L2N.CX P w) P w K mg base ["total", "many", "index"] ("evenest" : Str) (defScope s_evenest) f cdv A outer s H0 E).xe := PassesOwn.leaving
    exact (dss_cons (by exact ds_expr (de_oz (dO_cal [none] (ok_checked_number_2 T) (hr.mono (by decide)) (.val (.dfl (.dfl (.nil)))) tk (da_cons (de_var 0) (da_nil))))) (dss_cons (by exact ds_if (dt_not (dt_tru (de_oz (dO_cal [none, none, none] (ok_is_number_0 T) (hr.mono (by decide)) (.val (.val (.val (.nil)))) tk (da_cons (de_var 1) (da_cons (de_int) (da_cons ((let ⟨_, h⟩ := T.c_MOST; de_globI rfl h)) (da_nil)))))))) (dss_one (by exact (let ⟨_, hx_⟩ := T.x_InvalidNumber; ds_raise rfl tk hx_ (de_str)))) (dss_nil)) (dss_one (by exact ds_ret (de_n (dn_lc [(("index" : Str), 2)] rfl S.nd (di_range1 T.n_range (da_cons (de_var 1) (da_nil))) (blk_of (by rfl)) (hv_of (by rfl)) (hk_of (by rfl)) (by decide) (fun _ _ _ _ _ => bG_of fun _ _ _ _ => dg_name 2 S.nd) (fun _ _ _ _ _ => bT_nil) (fun _ _ _ _ _ => bE_of fun _ _ _ _ => de_n (dn_op op2_add (de_n (dn_op op2_div (de_var 0) (de_var 1))) (de_if (pt_cmp1 op2_lt (de_var 2) (de_n (dn_op op2_mod (de_var 0) (de_var 1))) (nomark _)) (de_int) (de_int))))))))))
theorem ok_evenest_0 (T : Txt K mg) : CalD P w K mg base 3 ("evenest" : Str) [.fz, .fz] .fz m_evenest [] :=
  let ⟨_, _, A⟩ := T.d_evenest; cal0 A (fn_evenest T A) (fun _ _ _ _ _ _ us hl => match us, hl with | [_, _], _ => rfl)
theorem sc_checked_shares : FnScope ["shares", "share"] ["shares"] (defScope s_checked_shares) := ⟨rfl, rfl, rfl, by decide +kernel, rfl, by decide +kernel, by decide +kernel⟩
theorem fn_checked_shares (T : Txt K mg) {f : Addr} {fd : FuncData} (A : DefAt K mg ("checked_shares" : Str) s_checked_shares [] f fd) : FnOk P w K mg base (L2N.CX P w) 3 f fd ["shares"] (spF K mg [.fz] .fz m_checked_shares) :=
  have S := sc_checked_shares
  fnD (modes := [.fz]) (locs := [.fz]) (rsh := .fz) (rz := true) A.F S rfl rfl (fun _ => rfl) fun cdv A outer s G0 H0 vs S0 E hr => by
    have tk := L2N.takes_of (X := cxOf (L2N.CX P w) P w K mg base ["shares", "share"] ("checked_shares" : Str) (defScope s_checked_shares) f cdv A outer s H0 E) rfl rfl rfl rfl
    have hp : PassesOwn (model P w) (A.deeper (envOfC ("checked_shares" : Str) (defScope s_checked_shares) s.heap.objs.size f cdv)) _ (cxOf (L2N.CX P w) P w K mg base ["shares", "share"] ("checked_shares" : Str) (defScope s_checked_shares) f cdv A outer s H0 E).xe := PassesOwn.leaving
    exact (dss_cons (by exact ds_if (pt_cmp1 op2_gt (de_n (dn_callB (cn_len) rfl T.n_len (by rfl) (da_cons (de_var 0) (da_nil)))) ((let ⟨_, h⟩ := T.c_MOST; de_globI rfl h)) (nomark _)) (dss_one (by exact (let ⟨_, hx_⟩ := T.x_TooMany; ds_raise rfl tk hx_ (de_str)))) (dss_nil)) (dss_one (by exact ds_ret (de_n (dn_lc [(("share" : Str), 1)] rfl S.nd (di_seq (de_var 0)) (blk_of (by rfl)) (hv_of (by rfl)) (hk_of (by rfl)) (by decide) (fun _ _ _ _ _ => bG_of fun _ _ _ _ => dg_name 1 S.nd) (fun _ _ _ _ _ => bT_nil) (fun _ _ _ _ _ => bE_of fun _ _ _ _ => de_oz (dO_cal [none] (ok_checked_number_2 T) (hr.mono (by decide)) (.val (.dfl (.dfl (.nil)))) takes0N (da_cons (de_var 1) (da_nil)))))))))
theorem ok_checked_shares_0 (T : Txt K mg) : CalD P w K mg base 3 ("checked_shares" : Str) [.fz] .fz m_checked_shares [] :=
  let ⟨_, _, A⟩ := T.d_checked_shares; cal0 A (fn_checked_shares T A) (fun _ _ _ _ _ _ us hl => match us, hl with | [_], _ => rfl)
theorem sc_moved : FnScope ["shares", "most", "have", "turn", "giver", "getter"] ["shares", "most"] (defScope s_moved) := ⟨rfl, rfl, rfl, by decide +kernel, rfl, by decide +kernel, by decide +kernel⟩
theorem fn_moved (T : Txt K mg) {f : Addr} {fd : FuncData} (A : DefAt K mg ("moved" : Str) s_moved [] f fd) : FnOk P w K mg base (L2N.CX P w) 4 f fd ["shares", "most"] (spF K mg [.fz, .fz] .fz m_moved) :=
  have S := sc_moved
  fnD (modes := [.fz, .fz]) (locs := [(.lst .fz), .fz, .fz, .fz]) (rsh := .fz) (rz := true) A.F S rfl rfl (fun _ => rfl) fun cdv A outer s G0 H0 vs S0 E hr => by
    have tk := L2N.takes_of (X := cxOf (L2N.CX P w) P w K mg base ["shares", "most", "have", "turn", "giver", "getter"] ("moved" : Str) (defScope s_moved) f cdv A outer s H0 E) rfl rfl rfl rfl
    have hp : PassesOwn (model P w) (A.deeper (envOfC ("moved" : Str) (defScope s_moved) s.heap.objs.size f cdv)) _ (cxOf (L2N.CX P w) P w K mg base ["shares", "most", "have", "turn", "giver", "getter"] ("moved" : Str) (defScope s_moved) f cdv A outer s H0 E).xe := PassesOwn.leaving
    exact (dss_cons (by exact ds_setO 2 S.nd (dO_n (dn_sortR rfl T.n_sorted (by rfl) (da_cons (de_oz (dO_cal [none] (ok_checked_shares_0 T) (hr.mono (by decide)) (.val (.nil)) tk (da_cons (de_var 0) (da_nil)))) (da_nil))))) (dss_cons (by exact ds_expr (de_oz (dO_cal [none] (ok_checked_number_2 T) (hr.mono (by decide)) (.val (.dfl (.dfl (.nil)))) tk (da_cons (de_var 1) (da_nil))))) (dss_cons (by exact ds_for hp rfl (di_range1 T.n_range (da_cons (de_var 1) (da_nil))) (dg_name 3 S.nd) (dss_cons (by exact ds_if (dt_w (dw_or (dt_not (dt_tru (de_plc 2))) (dw_or1 (pt_cmp1 op2_lt (de_n (dn_op op2_sub (de_n (dn_ix (de_plc 2) (de_int))) (de_n (dn_ix (de_plc 2) (de_n (dn_neg (de_int))))))) (de_int) (nomark _))))) (dss_one (by exact ds_ret (de_o (dO_move 2)))) (dss_nil)) (dss_cons (by exact ds_asg (de_n (dn_op op2_sub (de_n (dn_met PySem.F.plainAttrs_list PySem.F.slot_list_count PySem.F.type_list_count ((me_lcount (hu65 hr))) (by decide) (de_plc 2) (da_cons (de_n (dn_ix (de_plc 2) (de_int))) (da_nil)))) (de_int))) (dg_name 4 S.nd)) (dss_cons (by exact ds_asg (de_n (dn_met PySem.F.plainAttrs_list PySem.F.slot_list_index PySem.F.type_list_index (me_lindex) (by decide) (de_plc 2) (da_cons (de_n (dn_ix (de_plc 2) (de_n (dn_neg (de_int))))) (da_nil)))) (dg_name 5 S.nd)) (dss_cons (by exact ds_store 2 (de_n (dn_op op2_sub (de_n (dn_ix (de_plc 2) (de_var 4))) (de_int))) (de_var 4)) (dss_one (by exact ds_store 2 (de_n (dn_op op2_add (de_n (dn_ix (de_plc 2) (de_var 5))) (de_int))) (de_var 5)))))))) (dss_one (by exact ds_ret (de_o (dO_move 2)))))))
theorem ok_moved_0 (T : Txt K mg) : CalD P w K mg base 4 ("moved" : Str) [.fz, .fz] .fz m_moved [] :=
  let ⟨_, _, A⟩ := T.d_moved; cal0 A (fn_moved T A) (fun _ _ _ _ _ _ us hl => match us, hl with | [_, _], _ => rfl)
theorem sc__law_down : FnScope ["shares"] ["shares"] (defScope s__law_down) := ⟨rfl, rfl, rfl, by decide +kernel, rfl, by decide +kernel, by decide +kernel⟩
theorem fn__law_down (T : Txt K mg) {f : Addr} {fd : FuncData} (A : DefAt K mg ("_law_down" : Str) s__law_down [] f fd) : FnOk P w K mg base (L2N.CX P w) 1 f fd ["shares"] (spF K mg [.fz] (.lst .fz) m__law_down) :=
  have S := sc__law_down
  fnD (modes := [.fz]) (locs := []) (rsh := (.lst .fz)) (rz := false) A.F S rfl rfl (fun z => by cases z) fun cdv A outer s G0 H0 vs S0 E hr => by
    have tk := L2N.takes_of (X := cxOf (L2N.CX P w) P w K mg base ["shares"] ("_law_down" : Str) (defScope s__law_down) f cdv A outer s H0 E) rfl rfl rfl rfl
    have hp : PassesOwn (model P w) (A.deeper (envOfC ("_law_down" : Str) (defScope s__law_down) s.heap.objs.size f cdv)) _ (cxOf (L2N.CX P w) P w K mg base ["shares"] ("_law_down" : Str) (defScope s__law_down) f cdv A outer s H0 E).xe := PassesOwn.leaving
    exact (dss_one (by exact ds_retO (dO_n (dn_lrev rfl T.n_list T.n_reversed (de_n (dn_callB (cn_sorted hr.units) rfl T.n_sorted (by rfl) (da_cons (de_var 0) (da_nil))))))))
theorem ok__law_down_0 (T : Txt K mg) : CalD P w K mg base 1 ("_law_down" : Str) [.fz] (.lst .fz) m__law_down [] :=
  let ⟨_, _, A⟩ := T.d__law_down; cal0 A (fn__law_down T A) (fun _ _ _ _ _ _ us hl => match us, hl with | [_], _ => rfl)
theorem sc__law_reached : FnScope ["shares", "most", "found", "rows", "turn", "longer", "row", "giver", "getter", "trial"] ["shares", "most"] (defScope s__law_reached) := ⟨rfl, rfl, rfl, by decide +kernel, rfl, by decide +kernel, by decide +kernel⟩
theorem fn__law_reached (T : Txt K mg) {f : Addr} {fd : FuncData} (A : DefAt K mg ("_law_reached" : Str) s__law_reached [] f fd) : FnOk P w K mg base (L2N.CX P w) 2 f fd ["shares", "most"] (spF K mg [.fz, .fz] .fz m__law_reached) :=
  have S := sc__law_reached
  fnD (modes := [.fz, .fz]) (locs := [.fz, .fz, .fz, (.lst .fz), .fz, .fz, .fz, (.lst .fz)]) (rsh := .fz) (rz := true) A.F S rfl rfl (fun _ => rfl) fun cdv A outer s G0 H0 vs S0 E hr => by
    have tk := L2N.takes_of (X := cxOf (L2N.CX P w) P w K mg base ["shares", "most", "found", "rows", "turn", "longer", "row", "giver", "getter", "trial"] ("_law_reached" : Str) (defScope s__law_reached) f cdv A outer s H0 E) rfl rfl rfl rfl
    have hp : PassesOwn (model P w) (A.deeper (envOfC ("_law_reached" : Str) (defScope s__law_reached) s.heap.objs.size f cdv)) _ (cxOf (L2N.CX P w) P w K mg base ["shares", "most", "found", "rows", "turn", "longer", "row", "giver", "getter", "trial"] ("_law_reached" : Str) (defScope s__law_reached) f cdv A outer s H0 E).xe := PassesOwn.leaving
    exact (dss_cons (by exact ds_asg (de_n (dn_lst (da_cons (de_o (dO_cal [none] (ok__law_down_0 T) (hr.mono (by decide)) (.val (.nil)) tk (da_cons (de_var 0) (da_nil)))) (da_nil)))) (dg_name 2 S.nd)) (dss_cons (by exact ds_asg (de_var 2) (dg_name 3 S.nd)) (dss_cons (by exact ds_for hp rfl (di_range1 T.n_range (da_cons (de_var 1) (da_nil))) (dg_name 4 S.nd) (dss_cons (by exact ds_setO 5 S.nd (dO_n (dn_lst (da_nil)))) (dss_cons (by exact ds_for hp rfl (di_seq (de_var 3)) (dg_name 6 S.nd) (dss_one (by exact ds_for hp rfl (di_range1 T.n_range (da_cons (de_n (dn_callB (cn_len) rfl T.n_len (by rfl) (da_cons (de_var 6) (da_nil)))) (da_nil))) (dg_name 7 S.nd) (dss_one (by exact ds_for hp rfl (di_range1 T.n_range (da_cons (de_n (dn_callB (cn_len) rfl T.n_len (by rfl) (da_cons (de_var 6) (da_nil)))) (da_nil))) (dg_name 8 S.nd) (dss_one (by exact ds_if (dt_w (dw_and (pt_cmp1 (op2_ne hr.units) (de_var 7) (de_var 8) (nomark _)) (dw_and1 (pt_cmp1 op2_gt (de_n (dn_ix (de_var 6) (de_var 7))) (de_int) (nomark _))))) (dss_cons (by exact ds_setO 9 S.nd (dO_n (dn_callTy (cn_list) rfl T.n_list (by rfl) (da_cons (de_var 6) (da_nil))))) (dss_cons (by exact ds_store 9 (de_n (dn_op op2_sub (de_n (dn_ix (de_plc 9) (de_var 7))) (de_int))) (de_var 7)) (dss_cons (by exact ds_store 9 (de_n (dn_op op2_add (de_n (dn_ix (de_plc 9) (de_var 8))) (de_int))) (de_var 8)) (dss_cons (by exact ds_setO 9 S.nd (dO_cal [some 9] (ok__law_down_0 T) (hr.mono (by decide)) (.brw (i := 9) rfl (by decide) (.nil)) tk (da_cons (de_plc 9) (da_nil)))) (dss_one (by exact ds_if (dt_w (dw_and (pt_cmp1 (op2_notIn (hu65 hr)) (de_plc 9) (de_var 2) (by with_unfolding_all rfl)) (dw_and1 (pt_cmp1 (op2_notIn (hu65 hr)) (de_plc 9) (de_plc 5) (by with_unfolding_all rfl))))) (dss_one (by exact ds_expr (de_mut 5 PySem.F.plainAttrs_list PySem.F.slot_list_append PySem.F.type_list_append mu_append (da_cons (de_o (dO_move 9)) (da_nil))))) (dss_nil))))))) (dss_nil)))))))) (dss_cons (by exact ds_asg (de_n (dn_op op2_add (de_var 2) (de_plc 5))) (dg_name 2 S.nd)) (dss_one (by exact ds_asg (de_o (dO_move 5)) (dg_name 3 S.nd))))))) (dss_one (by exact ds_ret (de_var 2))))))
theorem ok__law_reached_0 (T : Txt K mg) : CalD P w K mg base 2 ("_law_reached" : Str) [.fz, .fz] .fz m__law_reached [] :=
  let ⟨_, _, A⟩ := T.d__law_reached; cal0 A (fn__law_reached T A) (fun _ _ _ _ _ _ us hl => match us, hl with | [_, _], _ => rfl)
theorem sc__law_same : FnScope ["actual", "due", "k"] ["actual", "due"] (defScope s__law_same) := ⟨rfl, rfl, rfl, by decide +kernel, rfl, by decide +kernel, by decide +kernel⟩
theorem fn__law_same (T : Txt K mg) {n : Nat} {rc : List D → FR} {f : Addr} {fd : FuncData} (A : DefAt K mg ("_law_same" : Str) s__law_same [] f fd) (IH : CalD P w K mg base (0 + n) ("_law_same" : Str) [.fz, .fz] .fz rc []) : FnOk P w K mg base (L2N.CX P w) (0 + n + 1) f fd ["actual", "due"] (spF K mg [.fz, .fz] .fz (runF true (b__law_same rc) 2 3)) :=
  have S := sc__law_same
  fnD (modes := [.fz, .fz]) (locs := [.fz]) (rsh := .fz) (rz := true) A.F S rfl rfl (fun _ => rfl) fun cdv A outer s G0 H0 vs S0 E hr => by
    have tk := L2N.takes_of (X := cxOf (L2N.CX P w) P w K mg base ["actual", "due", "k"] ("_law_same" : Str) (defScope s__law_same) f cdv A outer s H0 E) rfl rfl rfl rfl
    have hp : PassesOwn (model P w) (A.deeper (envOfC ("_law_same" : Str) (defScope s__law_same) s.heap.objs.size f cdv)) _ (cxOf (L2N.CX P w) P w K mg base ["actual", "due", "k"] ("_law_same" : Str) (defScope s__law_same) f cdv A outer s H0 E).xe := PassesOwn.leaving
    exact (dss_cons (by exact ds_if (pt_cmp1 op2_is (de_var 1) (de_non) (nomark _)) (dss_one (by exact ds_ret (de_n (dn_cmp op2_is (de_var 0) (de_non) (nomark _))))) (dss_nil)) (dss_cons (by exact ds_if (dt_n (dn_isiT ["tuple", "list"] (fun T h => by simp only [List.mem_cons, List.not_mem_nil, or_false] at h; rcases h with rfl | rfl; exact kt_tuple; exact kt_list) (by decide) (de_var 1) (ta_cons rfl T.n_tuple (by rfl) (ta_cons rfl T.n_list (by rfl) (ta_nil))) T.n_isinstance)) (dss_cons (by exact ds_if (dt_w (dw_or (pt_cmp1 (op2_ne hr.units) (de_n (dn_isi "tuple" kt_tuple (de_var 1) T.n_isinstance T.n_tuple (by rfl))) (de_n (dn_isi "tuple" kt_tuple (de_var 0) T.n_isinstance T.n_tuple (by rfl))) (nomark _)) (dw_or1 (pt_cmp1 (op2_ne hr.units) (de_n (dn_isi "list" kt_list (de_var 1) T.n_isinstance T.n_list (by rfl))) (de_n (dn_isi "list" kt_list (de_var 0) T.n_isinstance T.n_list (by rfl))) (nomark _))))) (dss_one (by exact ds_ret (de_bl))) (dss_nil)) (dss_cons (by exact ds_if (pt_cmp1 (op2_ne hr.units) (de_n (dn_callB (cn_len) rfl T.n_len (by rfl) (da_cons (de_var 0) (da_nil)))) (de_n (dn_callB (cn_len) rfl T.n_len (by rfl) (da_cons (de_var 1) (da_nil)))) (nomark _)) (dss_one (by exact ds_ret (de_bl))) (dss_nil)) (dss_cons (by exact ds_for hp rfl (di_range1 T.n_range (da_cons (de_n (dn_callB (cn_len) rfl T.n_len (by rfl) (da_cons (de_var 1) (da_nil)))) (da_nil))) (dg_name 2 S.nd) (dss_one (by exact ds_if (dt_not (dt_tru (de_oz (dO_cal [none, none] IH (hr.mono (by omega)) (.val (.val (.nil))) tk (da_cons (de_n (dn_ix (de_var 0) (de_var 2))) (da_cons (de_n (dn_ix (de_var 1) (de_var 2))) (da_nil))))))) (dss_one (by exact ds_ret (de_bl))) (dss_nil)))) (dss_one (by exact ds_ret (de_bl)))))) (dss_nil)) (dss_cons (by exact ds_if (dt_n (dn_isi "bool" kt_bool (de_var 1) T.n_isinstance T.n_bool (by rfl))) (dss_one (by exact ds_ret (de_and (de_n (dn_isi "bool" kt_bool (de_var 0) T.n_isinstance T.n_bool (by rfl))) (de_one (de_n (dn_cmp (op2_eq hr.units) (de_var 0) (de_var 1) (nomark _))))))) (dss_nil)) (dss_cons (by exact ds_if (dt_n (dn_isi "int" kt_int (de_var 1) T.n_isinstance T.n_int (by rfl))) (dss_one (by exact ds_ret (de_and (de_n (dn_isi "int" kt_int (de_var 0) T.n_isinstance T.n_int (by rfl))) (de_and (de_not (de_n (dn_isi "bool" kt_bool (de_var 0) T.n_isinstance T.n_bool (by rfl)))) (de_one (de_n (dn_cmp (op2_eq hr.units) (de_var 0) (de_var 1) (nomark _)))))))) (dss_nil)) (dss_one (by exact ds_ret (de_and (de_n (dn_isi "str" kt_str (de_var 0) T.n_isinstance T.n_str (by rfl))) (de_one (de_n (dn_cmp (op2_eq hr.units) (de_var 0) (de_var 1) (nomark _)))))))))))
theorem ok__law_same_0 (T : Txt K mg) : ∀ n : Nat, CalD P w K mg base (0 + n) ("_law_same" : Str) [.fz, .fz] .fz (m__law_same n) []
  | 0 => let ⟨_, _, A⟩ := T.d__law_same; cal0 (ps := ["actual", "due"]) A fn_st (fun _ _ _ _ _ _ us hl => match us, hl with | [_, _], _ => rfl)
  | n + 1 => let ⟨_, _, A⟩ := T.d__law_same; cal0 A (fn__law_same T A (ok__law_same_0 T n)) (fun _ _ _ _ _ _ us hl => match us, hl with | [_, _], _ => rfl)
theorem sc_steps_to_even : FnScope ["shares", "rows", "best", "index"] ["shares"] (defScope s_steps_to_even) := ⟨rfl, rfl, rfl, by decide +kernel, rfl, by decide +kernel, by decide +kernel⟩
theorem fn_steps_to_even (T : Txt K mg) {f : Addr} {fd : FuncData} (A : DefAt K mg ("steps_to_even" : Str) s_steps_to_even [] f fd) : FnOk P w K mg base (L2N.CX P w) 4 f fd ["shares"] (spF K mg [.fz] .fz m_steps_to_even) :=
  have S := sc_steps_to_even
  fnD (modes := [.fz]) (locs := [.fz, .fz, .fz]) (rsh := .fz) (rz := true) A.F S rfl rfl (fun _ => rfl) fun cdv A outer s G0 H0 vs S0 E hr => by
    have tk := L2N.takes_of (X := cxOf (L2N.CX P w) P w K mg base ["shares", "rows", "best", "index"] ("steps_to_even" : Str) (defScope s_steps_to_even) f cdv A outer s H0 E) rfl rfl rfl rfl
    have hp : PassesOwn (model P w) (A.deeper (envOfC ("steps_to_even" : Str) (defScope s_steps_to_even) s.heap.objs.size f cdv)) _ (cxOf (L2N.CX P w) P w K mg base ["shares", "rows", "best", "index"] ("steps_to_even" : Str) (defScope s_steps_to_even) f cdv A outer s H0 E).xe := PassesOwn.leaving
    exact (dss_cons (by exact ds_asg (de_n (dn_sortR rfl T.n_sorted (by rfl) (da_cons (de_oz (dO_cal [none] (ok_checked_shares_0 T) (hr.mono (by decide)) (.val (.nil)) tk (da_cons (de_var 0) (da_nil)))) (da_nil)))) (dg_name 1 S.nd)) (dss_cons (by exact ds_if (dt_not (dt_tru (de_var 1))) (dss_one (by exact ds_ret (de_int))) (dss_nil)) (dss_cons (by exact ds_asg (de_oz (dO_cal [none, none] (ok_evenest_0 T) (hr.mono (by decide)) (.val (.val (.nil))) tk (da_cons (de_n (dn_callB (cn_sum rfl) rfl T.n_sum (by rfl) (da_cons (de_var 1) (da_nil)))) (da_cons (de_n (dn_callB (cn_len) rfl T.n_len (by rfl) (da_cons (de_var 1) (da_nil)))) (da_nil))))) (dg_name 2 S.nd)) (dss_one (by exact ds_ret (de_n (dn_callB (cn_sum rfl) rfl T.n_sum (by rfl) (da_cons (de_n (dn_lc [(("index" : Str), 3)] rfl S.nd (di_range1 T.n_range (da_cons (de_n (dn_callB (cn_len) rfl T.n_len (by rfl) (da_cons (de_var 1) (da_nil)))) (da_nil))) (blk_of (by rfl)) (hv_of (by rfl)) (hk_of (by rfl)) (by decide) (fun _ _ _ _ _ => bG_of fun _ _ _ _ => dg_name 3 S.nd) (fun _ _ _ _ _ => bT_nil) (fun _ _ _ _ _ => bE_of fun _ _ _ _ => de_n (dn_callB (cn_max rfl) rfl T.n_max (by rfl) (da_cons (de_int) (da_cons (de_n (dn_op op2_sub (de_n (dn_ix (de_var 1) (de_var 3))) (de_n (dn_ix (de_var 2) (de_var 3))))) (da_nil))))))) (da_nil)))))))))
theorem ok_steps_to_even_0 (T : Txt K mg) : CalD P w K mg base 4 ("steps_to_even" : Str) [.fz] .fz m_steps_to_even [] :=
  let ⟨_, _, A⟩ := T.d_steps_to_even; cal0 A (fn_steps_to_even T A) (fun _ _ _ _ _ _ us hl => match us, hl with | [_], _ => rfl)
theorem sc_gap : FnScope ["shares", "rows"] ["shares"] (defScope s_gap) := ⟨rfl, rfl, rfl, by decide +kernel, rfl, by decide +kernel, by decide +kernel⟩
theorem fn_gap (T : Txt K mg) {f : Addr} {fd : FuncData} (A : DefAt K mg ("gap" : Str) s_gap [] f fd) : FnOk P w K mg base (L2N.CX P w) 4 f fd ["shares"] (spF K mg [.fz] .fz m_gap) :=
  have S := sc_gap
  fnD (modes := [.fz]) (locs := [.fz]) (rsh := .fz) (rz := true) A.F S rfl rfl (fun _ => rfl) fun cdv A outer s G0 H0 vs S0 E hr => by
    have tk := L2N.takes_of (X := cxOf (L2N.CX P w) P w K mg base ["shares", "rows"] ("gap" : Str) (defScope s_gap) f cdv A outer s H0 E) rfl rfl rfl rfl
    have hp : PassesOwn (model P w) (A.deeper (envOfC ("gap" : Str) (defScope s_gap) s.heap.objs.size f cdv)) _ (cxOf (L2N.CX P w) P w K mg base ["shares", "rows"] ("gap" : Str) (defScope s_gap) f cdv A outer s H0 E).xe := PassesOwn.leaving
    exact (dss_cons (by exact ds_asg (de_oz (dO_cal [none] (ok_checked_shares_0 T) (hr.mono (by decide)) (.val (.nil)) tk (da_cons (de_var 0) (da_nil)))) (dg_name 1 S.nd)) (dss_one (by exact ds_ret (de_if (dt_tru (de_var 1)) (de_n (dn_op op2_sub (de_n (dn_callB (cn_max rfl) rfl T.n_max (by rfl) (da_cons (de_var 1) (da_nil)))) (de_n (dn_callB (cn_min rfl) rfl T.n_min (by rfl) (da_cons (de_var 1) (da_nil)))))) (de_int)))))
theorem ok_gap_0 (T : Txt K mg) : CalD P w K mg base 4 ("gap" : Str) [.fz] .fz m_gap [] :=
  let ⟨_, _, A⟩ := T.d_gap; cal0 A (fn_gap T A) (fun _ _ _ _ _ _ us hl => match us, hl with | [_], _ => rfl)
theorem sc__law_heaps : FnScope ["shares", "rows", "k"] ["shares"] (defScope s__law_heaps) := ⟨rfl, rfl, rfl, by decide +kernel, rfl, by decide +kernel, by decide +kernel⟩
theorem fn__law_heaps (T : Txt K mg) {f : Addr} {fd : FuncData} (A : DefAt K mg ("_law_heaps" : Str) s__law_heaps [] f fd) : FnOk P w K mg base (L2N.CX P w) 2 f fd ["shares"] (spF K mg [.fz] .fz m__law_heaps) :=
  have S := sc__law_heaps
  fnD (modes := [.fz]) (locs := [.fz, .fz]) (rsh := .fz) (rz := true) A.F S rfl rfl (fun _ => rfl) fun cdv A outer s G0 H0 vs S0 E hr => by
    have tk := L2N.takes_of (X := cxOf (L2N.CX P w) P w K mg base ["shares", "rows", "k"] ("_law_heaps" : Str) (defScope s__law_heaps) f cdv A outer s H0 E) rfl rfl rfl rfl
    have hp : PassesOwn (model P w) (A.deeper (envOfC ("_law_heaps" : Str) (defScope s__law_heaps) s.heap.objs.size f cdv)) _ (cxOf (L2N.CX P w) P w K mg base ["shares", "rows", "k"] ("_law_heaps" : Str) (defScope s__law_heaps) f cdv A outer s H0 E).xe := PassesOwn.leaving
    exact (dss_cons (by exact ds_asg (de_o (dO_cal [none] (ok__law_down_0 T) (hr.mono (by decide)) (.val (.nil)) tk (da_cons (de_var 0) (da_nil)))) (dg_name 1 S.nd)) (dss_one (by exact ds_ret (de_n (dn_lc [(("k" : Str), 2)] rfl S.nd (di_range1 T.n_range (da_cons (de_n (dn_op op2_add (de_n (dn_callB (cn_len) rfl T.n_len (by rfl) (da_cons (de_var 1) (da_nil)))) (de_int))) (da_nil))) (blk_of (by rfl)) (hv_of (by rfl)) (hk_of (by rfl)) (by decide) (fun _ _ _ _ _ => bG_of fun _ _ _ _ => dg_name 2 S.nd) (fun _ _ _ _ _ => bT_nil) (fun _ _ _ _ _ => bE_of fun _ _ _ _ => de_n (dn_callB (cn_sum rfl) rfl T.n_sum (by rfl) (da_cons (de_n (dn_sl (de_var 1) (dp_none) (dp_some (de_var 2)))) (da_nil)))))))))
theorem ok__law_heaps_0 (T : Txt K mg) : CalD P w K mg base 2 ("_law_heaps" : Str) [.fz] .fz m__law_heaps [] :=
  let ⟨_, _, A⟩ := T.d__law_heaps; cal0 A (fn__law_heaps T A) (fun _ _ _ _ _ _ us hl => match us, hl with | [_], _ => rfl)
theorem sc__law_evener : FnScope ["one", "other", "first", "second", "k"] ["one", "other"] (defScope s__law_evener) := ⟨rfl, rfl, rfl, by decide +kernel, rfl, by decide +kernel, by decide +kernel⟩
theorem fn__law_evener (T : Txt K mg) {f : Addr} {fd : FuncData} (A : DefAt K mg ("_law_evener" : Str) s__law_evener [] f fd) : FnOk P w K mg base (L2N.CX P w) 3 f fd ["one", "other"] (spF K mg [.fz, .fz] .fz m__law_evener) :=
  have S := sc__law_evener
  fnD (modes := [.fz, .fz]) (locs := [.fz, .fz, .fz]) (rsh := .fz) (rz := true) A.F S rfl rfl (fun _ => rfl) fun cdv A outer s G0 H0 vs S0 E hr => by
    have tk := L2N.takes_of (X := cxOf (L2N.CX P w) P w K mg base ["one", "other", "first", "second", "k"] ("_law_evener" : Str) (defScope s__law_evener) f cdv A outer s H0 E) rfl rfl rfl rfl
    have hp : PassesOwn (model P w) (A.deeper (envOfC ("_law_evener" : Str) (defScope s__law_evener) s.heap.objs.size f cdv)) _ (cxOf (L2N.CX P w) P w K mg base ["one", "other", "first", "second", "k"] ("_law_evener" : Str) (defScope s__law_evener) f cdv A outer s H0 E).xe := PassesOwn.leaving
    exact (dss_cons (by exact ds_asg (de_oz (dO_cal [none] (ok__law_heaps_0 T) (hr.mono (by decide)) (.val (.nil)) tk (da_cons (de_var 0) (da_nil)))) (dg_name 2 S.nd)) (dss_cons (by exact ds_asg (de_oz (dO_cal [none] (ok__law_heaps_0 T) (hr.mono (by decide)) (.val (.nil)) tk (da_cons (de_var 1) (da_nil)))) (dg_name 3 S.nd)) (dss_cons (by exact ds_if (dt_w (dw_or (pt_cmp1 (op2_ne hr.units) (de_n (dn_callB (cn_len) rfl T.n_len (by rfl) (da_cons (de_var 2) (da_nil)))) (de_n (dn_callB (cn_len) rfl T.n_len (by rfl) (da_cons (de_var 3) (da_nil)))) (nomark _)) (dw_or1 (pt_cmp1 (op2_ne hr.units) (de_n (dn_ix (de_var 2) (de_n (dn_op op2_sub (de_n (dn_callB (cn_len) rfl T.n_len (by rfl) (da_cons (de_var 2) (da_nil)))) (de_int))))) (de_n (dn_ix (de_var 3) (de_n (dn_op op2_sub (de_n (dn_callB (cn_len) rfl T.n_len (by rfl) (da_cons (de_var 3) (da_nil)))) (de_int))))) (nomark _))))) (dss_one (by exact ds_ret (de_bl))) (dss_nil)) (dss_one (by exact ds_ret (de_n (dn_cmp (op2_eq hr.units) (de_n (dn_callB (cn_len) rfl T.n_len (by rfl) (da_cons (de_n (dn_lc [(("k" : Str), 4)] rfl S.nd (di_range1 T.n_range (da_cons (de_n (dn_callB (cn_len) rfl T.n_len (by rfl) (da_cons (de_var 2) (da_nil)))) (da_nil))) (blk_of (by rfl)) (hv_of (by rfl)) (hk_of (by rfl)) (by decide) (fun _ _ _ _ _ => bG_of fun _ _ _ _ => dg_name 4 S.nd) (fun _ _ _ _ _ => bT_of fun _ _ _ _ => pt_cmp1 op2_gt (de_n (dn_ix (de_var 2) (de_var 4))) (de_n (dn_ix (de_var 3) (de_var 4))) (nomark _)) (fun _ _ _ _ _ => bE_of fun _ _ _ _ => de_var 4))) (da_nil)))) (de_int) (nomark _))))))))
theorem ok__law_evener_0 (T : Txt K mg) : CalD P w K mg base 3 ("_law_evener" : Str) [.fz, .fz] .fz m__law_evener [] :=
  let ⟨_, _, A⟩ := T.d__law_evener; cal0 A (fn__law_evener T A) (fun _ _ _ _ _ _ us hl => match us, hl with | [_, _], _ => rfl)
theorem sc_heaped : FnScope ["shares", "found", "share"] ["shares"] (defScope s_heaped) := ⟨rfl, rfl, rfl, by decide +kernel, rfl, by decide +kernel, by decide +kernel⟩
theorem fn_heaped (T : Txt K mg) {f : Addr} {fd : FuncData} (A : DefAt K mg ("heaped" : Str) s_heaped [] f fd) : FnOk P w K mg base (L2N.CX P w) 4 f fd ["shares"] (spF K mg [.fz] .fz m_heaped) :=
  have S := sc_heaped
  fnD (modes := [.fz]) (locs := [(.lst .fz), .fz]) (rsh := .fz) (rz := true) A.F S rfl rfl (fun _ => rfl) fun cdv A outer s G0 H0 vs S0 E hr => by
    have tk := L2N.takes_of (X := cxOf (L2N.CX P w) P w K mg base ["shares", "found", "share"] ("heaped" : Str) (defScope s_heaped) f cdv A outer s H0 E) rfl rfl rfl rfl
    have hp : PassesOwn (model P w) (A.deeper (envOfC ("heaped" : Str) (defScope s_heaped) s.heap.objs.size f cdv)) _ (cxOf (L2N.CX P w) P w K mg base ["shares", "found", "share"] ("heaped" : Str) (defScope s_heaped) f cdv A outer s H0 E).xe := PassesOwn.leaving
    exact (dss_cons (by exact ds_setO 1 S.nd (dO_n (dn_lst (da_cons (de_int) (da_nil))))) (dss_cons (by exact ds_for hp rfl (di_seq (de_n (dn_sortR rfl T.n_sorted (by rfl) (da_cons (de_oz (dO_cal [none] (ok_checked_shares_0 T) (hr.mono (by decide)) (.val (.nil)) tk (da_cons (de_var 0) (da_nil)))) (da_nil))))) (dg_name 2 S.nd) (dss_one (by exact ds_expr (de_mut 1 PySem.F.plainAttrs_list PySem.F.slot_list_append PySem.F.type_list_append mu_append (da_cons (de_n (dn_op op2_add (de_n (dn_ix (de_plc 1) (de_n (dn_neg (de_int))))) (de_var 2))) (da_nil)))))) (dss_one (by exact ds_ret (de_o (dO_move 1))))))
theorem ok_heaped_0 (T : Txt K mg) : CalD P w K mg base 4 ("heaped" : Str) [.fz] .fz m_heaped [] :=
  let ⟨_, _, A⟩ := T.d_heaped; cal0 A (fn_heaped T A) (fun _ _ _ _ _ _ us hl => match us, hl with | [_], _ => rfl)
theorem sc_is_evener : FnScope ["one", "other", "first", "second", "index"] ["one", "other"] (defScope s_is_evener) := ⟨rfl, rfl, rfl, by decide +kernel, rfl, by decide +kernel, by decide +kernel⟩
theorem fn_is_evener (T : Txt K mg) {f : Addr} {fd : FuncData} (A : DefAt K mg ("is_evener" : Str) s_is_evener [] f fd) : FnOk P w K mg base (L2N.CX P w) 5 f fd ["one", "other"] (spF K mg [.fz, .fz] .fz m_is_evener) :=
  have S := sc_is_evener
  fnD (modes := [.fz, .fz]) (locs := [.fz, .fz, .fz]) (rsh := .fz) (rz := true) A.F S rfl rfl (fun _ => rfl) fun cdv A outer s G0 H0 vs S0 E hr => by
    have tk := L2N.takes_of (X := cxOf (L2N.CX P w) P w K mg base ["one", "other", "first", "second", "index"] ("is_evener" : Str) (defScope s_is_evener) f cdv A outer s H0 E) rfl rfl rfl rfl
    have hp : PassesOwn (model P w) (A.deeper (envOfC ("is_evener" : Str) (defScope s_is_evener) s.heap.objs.size f cdv)) _ (cxOf (L2N.CX P w) P w K mg base ["one", "other", "first", "second", "index"] ("is_evener" : Str) (defScope s_is_evener) f cdv A outer s H0 E).xe := PassesOwn.leaving
    exact (dss_cons (by exact ds_asg (de_oz (dO_cal [none] (ok_heaped_0 T) (hr.mono (by decide)) (.val (.nil)) tk (da_cons (de_var 0) (da_nil)))) (dg_name 2 S.nd)) (dss_cons (by exact ds_asg (de_oz (dO_cal [none] (ok_heaped_0 T) (hr.mono (by decide)) (.val (.nil)) tk (da_cons (de_var 1) (da_nil)))) (dg_name 3 S.nd)) (dss_cons (by exact ds_if (dt_w (dw_or (pt_cmp1 (op2_ne hr.units) (de_n (dn_callB (cn_len) rfl T.n_len (by rfl) (da_cons (de_var 2) (da_nil)))) (de_n (dn_callB (cn_len) rfl T.n_len (by rfl) (da_cons (de_var 3) (da_nil)))) (nomark _)) (dw_or1 (pt_cmp1 (op2_ne hr.units) (de_n (dn_ix (de_var 2) (de_n (dn_neg (de_int))))) (de_n (dn_ix (de_var 3) (de_n (dn_neg (de_int))))) (nomark _))))) (dss_one (by exact ds_ret (de_bl))) (dss_nil)) (dss_one (by exact ds_ret (de_n (dn_callB (cn_all rfl) rfl T.n_all (by rfl) (da_cons (de_n (dn_lc [(("index" : Str), 4)] rfl S.nd (di_range1 T.n_range (da_cons (de_n (dn_callB (cn_len) rfl T.n_len (by rfl) (da_cons (de_var 2) (da_nil)))) (da_nil))) (blk_of (by rfl)) (hv_of (by rfl)) (hk_of (by rfl)) (by decide) (fun _ _ _ _ _ => bG_of fun _ _ _ _ => dg_name 4 S.nd) (fun _ _ _ _ _ => bT_nil) (fun _ _ _ _ _ => bE_of fun _ _ _ _ => de_n (dn_cmp op2_le (de_n (dn_ix (de_var 2) (de_var 4))) (de_n (dn_ix (de_var 3) (de_var 4))) (nomark _))))) (da_nil)))))))))
theorem ok_is_evener_0 (T : Txt K mg) : CalD P w K mg base 5 ("is_evener" : Str) [.fz, .fz] .fz m_is_evener [] :=
  let ⟨_, _, A⟩ := T.d_is_evener; cal0 A (fn_is_evener T A) (fun _ _ _ _ _ _ us hl => match us, hl with | [_, _], _ => rfl)
theorem sc_joined : FnScope ["one", "other"] ["one", "other"] (defScope s_joined) := ⟨rfl, rfl, rfl, by decide +kernel, rfl, by decide +kernel, by decide +kernel⟩
theorem fn_joined (T : Txt K mg) {f : Addr} {fd : FuncData} (A : DefAt K mg ("joined" : Str) s_joined [] f fd) : FnOk P w K mg base (L2N.CX P w) 4 f fd ["one", "other"] (spF K mg [.fz, .fz] .fz m_joined) :=
  have S := sc_joined
  fnD (modes := [.fz, .fz]) (locs := []) (rsh := .fz) (rz := true) A.F S rfl rfl (fun _ => rfl) fun cdv A outer s G0 H0 vs S0 E hr => by
    have tk := L2N.takes_of (X := cxOf (L2N.CX P w) P w K mg base ["one", "other"] ("joined" : Str) (defScope s_joined) f cdv A outer s H0 E) rfl rfl rfl rfl
    have hp : PassesOwn (model P w) (A.deeper (envOfC ("joined" : Str) (defScope s_joined) s.heap.objs.size f cdv)) _ (cxOf (L2N.CX P w) P w K mg base ["one", "other"] ("joined" : Str) (defScope s_joined) f cdv A outer s H0 E).xe := PassesOwn.leaving
    exact (dss_one (by exact ds_ret (de_n (dn_sortR rfl T.n_sorted (by rfl) (da_cons (de_oz (dO_cal [none] (ok_checked_shares_0 T) (hr.mono (by decide)) (.val (.nil)) tk (da_cons (de_n (dn_op op2_add (de_n (dn_callTy (cn_list) rfl T.n_list (by rfl) (da_cons (de_var 0) (da_nil)))) (de_n (dn_callTy (cn_list) rfl T.n_list (by rfl) (da_cons (de_var 1) (da_nil)))))) (da_nil)))) (da_nil))))))
theorem ok_joined_0 (T : Txt K mg) : CalD P w K mg base 4 ("joined" : Str) [.fz, .fz] .fz m_joined [] :=
  let ⟨_, _, A⟩ := T.d_joined; cal0 A (fn_joined T A) (fun _ _ _ _ _ _ us hl => match us, hl with | [_, _], _ => rfl)
theorem sc__law_refused : FnScope ["total", "many", "problem"] ["total", "many"] (defScope s__law_refused) := ⟨rfl, rfl, rfl, by decide +kernel, rfl, by decide +kernel, by decide +kernel⟩
theorem fn__law_refused (T : Txt K mg) {f : Addr} {fd : FuncData} (A : DefAt K mg ("_law_refused" : Str) s__law_refused [] f fd) : FnOk P w K mg base (L2N.CX P w) 4 f fd ["total", "many"] (spF K mg [.fz, .fz] .fz m__law_refused) :=
  have S := sc__law_refused
  fnD (modes := [.fz, .fz]) (locs := [.fz]) (rsh := .fz) (rz := true) A.F S rfl rfl (fun _ => rfl) fun cdv A outer s G0 H0 vs S0 E hr => by
    have tk := L2N.takes_of (X := cxOf (L2N.CX P w) P w K mg base ["total", "many", "problem"] ("_law_refused" : Str) (defScope s__law_refused) f cdv A outer s H0 E) rfl rfl rfl rfl
    have hp : PassesOwn (model P w) (A.deeper (envOfC ("_law_refused" : Str) (defScope s__law_refused) s.heap.objs.size f cdv)) _ (cxOf (L2N.CX P w) P w K mg base ["total", "many", "problem"] ("_law_refused" : Str) (defScope s__law_refused) f cdv A outer s H0 E).xe := PassesOwn.leaving
    exact (dss_cons (by exact (let ⟨_, hm_, hH_⟩ := T.hit_WatchError; ds_tryAs 2 rfl rfl S.nd rfl rfl ⟨rfl, by decide, Or.inl hm_⟩ tk (Nat.le_of_ble_eq_true rfl) (Nat.le_of_ble_eq_true rfl) rfl hH_ (fun W pn xe tk hp => dss_one (by exact ds_expr (de_oz (dO_cal [none, none] (ok_evenest_0 T) (hr.mono (by decide)) (.val (.val (.nil))) tk (da_cons (de_var 0) (da_cons (de_var 1) (da_nil))))))) (fun a oe D pn hz hf hx => dss_one (by exact ds_ret (de_and (de_n ((let ⟨_, hm_, hT_⟩ := T.is_InvalidNumber; dn_isE 2 hz hf (pe_glob (v := .ref _) rfl hm_ rfl) (fun _ z => z) hT_ T.n_isinstance))) (de_one (de_n (dn_isE 2 hz hf (pe_bltn (v := .ty "ValueError") rfl T.n_ValueError (by rfl) rfl) (fun _ z => z) T.is_ValueError T.n_isinstance)))))))) (dss_one (by exact ds_ret (de_bl))))
theorem ok__law_refused_0 (T : Txt K mg) : CalD P w K mg base 4 ("_law_refused" : Str) [.fz, .fz] .fz m__law_refused [] :=
  let ⟨_, _, A⟩ := T.d__law_refused; cal0 A (fn__law_refused T A) (fun _ _ _ _ _ _ us hl => match us, hl with | [_, _], _ => rfl)
theorem sc_squares : FnScope ["shares", "share"] ["shares"] (defScope s_squares) := ⟨rfl, rfl, rfl, by decide +kernel, rfl, by decide +kernel, by decide +kernel⟩
theorem fn_squares (T : Txt K mg) {f : Addr} {fd : FuncData} (A : DefAt K mg ("squares" : Str) s_squares [] f fd) : FnOk P w K mg base (L2N.CX P w) 4 f fd ["shares"] (spF K mg [.fz] .fz m_squares) :=
  have S := sc_squares
  fnD (modes := [.fz]) (locs := [.fz]) (rsh := .fz) (rz := true) A.F S rfl rfl (fun _ => rfl) fun cdv A outer s G0 H0 vs S0 E hr => by
    have tk := L2N.takes_of (X := cxOf (L2N.CX P w) P w K mg base ["shares", "share"] ("squares" : Str) (defScope s_squares) f cdv A outer s H0 E) rfl rfl rfl rfl
    have hp : PassesOwn (model P w) (A.deeper (envOfC ("squares" : Str) (defScope s_squares) s.heap.objs.size f cdv)) _ (cxOf (L2N.CX P w) P w K mg base ["shares", "share"] ("squares" : Str) (defScope s_squares) f cdv A outer s H0 E).xe := PassesOwn.leaving
    exact (dss_one (by exact ds_ret (de_n (dn_callB (cn_sum rfl) rfl T.n_sum (by rfl) (da_cons (de_n (dn_lc [(("share" : Str), 1)] rfl S.nd (di_seq (de_oz (dO_cal [none] (ok_checked_shares_0 T) (hr.mono (by decide)) (.val (.nil)) tk (da_cons (de_var 0) (da_nil))))) (blk_of (by rfl)) (hv_of (by rfl)) (hk_of (by rfl)) (by decide) (fun _ _ _ _ _ => bG_of fun _ _ _ _ => dg_name 1 S.nd) (fun _ _ _ _ _ => bT_nil) (fun _ _ _ _ _ => bE_of fun _ _ _ _ => de_n (dn_op op2_mul (de_var 1) (de_var 1))))) (da_nil))))))
theorem ok_squares_0 (T : Txt K mg) : CalD P w K mg base 4 ("squares" : Str) [.fz] .fz m_squares [] :=
  let ⟨_, _, A⟩ := T.d_squares; cal0 A (fn_squares T A) (fun _ _ _ _ _ _ us hl => match us, hl with | [_], _ => rfl)
theorem sc_uneven : FnScope ["shares", "rows", "total", "index", "other"] ["shares"] (defScope s_uneven) := ⟨rfl, rfl, rfl, by decide +kernel, rfl, by decide +kernel, by decide +kernel⟩
theorem fn_uneven (T : Txt K mg) {f : Addr} {fd : FuncData} (A : DefAt K mg ("uneven" : Str) s_uneven [] f fd) : FnOk P w K mg base (L2N.CX P w) 4 f fd ["shares"] (spF K mg [.fz] .fz m_uneven) :=
  have S := sc_uneven
  fnD (modes := [.fz]) (locs := [.fz, .fz, .fz, .fz]) (rsh := .fz) (rz := true) A.F S rfl rfl (fun _ => rfl) fun cdv A outer s G0 H0 vs S0 E hr => by
    have tk := L2N.takes_of (X := cxOf (L2N.CX P w) P w K mg base ["shares", "rows", "total", "index", "other"] ("uneven" : Str) (defScope s_uneven) f cdv A outer s H0 E) rfl rfl rfl rfl
    have hp : PassesOwn (model P w) (A.deeper (envOfC ("uneven" : Str) (defScope s_uneven) s.heap.objs.size f cdv)) _ (cxOf (L2N.CX P w) P w K mg base ["shares", "rows", "total", "index", "other"] ("uneven" : Str) (defScope s_uneven) f cdv A outer s H0 E).xe := PassesOwn.leaving
    exact (dss_cons (by exact ds_asg (de_oz (dO_cal [none] (ok_checked_shares_0 T) (hr.mono (by decide)) (.val (.nil)) tk (da_cons (de_var 0) (da_nil)))) (dg_name 1 S.nd)) (dss_cons (by exact ds_asg (de_int) (dg_name 2 S.nd)) (dss_cons (by exact ds_for hp rfl (di_range1 T.n_range (da_cons (de_n (dn_callB (cn_len) rfl T.n_len (by rfl) (da_cons (de_var 1) (da_nil)))) (da_nil))) (dg_name 3 S.nd) (dss_one (by exact ds_asg (de_n (dn_op op2_add (de_var 2) (de_n (dn_callB (cn_sum rfl) rfl T.n_sum (by rfl) (da_cons (de_n (dn_lc [(("other" : Str), 4)] rfl S.nd (di_seq (de_n (dn_sl (de_var 1) (dp_none) (dp_some (de_var 3))))) (blk_of (by rfl)) (hv_of (by rfl)) (hk_of (by rfl)) (by decide) (fun _ _ _ _ _ => bG_of fun _ _ _ _ => dg_name 4 S.nd) (fun _ _ _ _ _ => bT_nil) (fun _ _ _ _ _ => bE_of fun _ _ _ _ => de_n (dn_callB (cn_abs) rfl T.n_abs (by rfl) (da_cons (de_n (dn_op op2_sub (de_n (dn_ix (de_var 1) (de_var 3))) (de_var 4))) (da_nil)))))) (da_nil)))))) (dg_name 2 S.nd)))) (dss_one (by exact ds_ret (de_var 2))))))
theorem ok_uneven_0 (T : Txt K mg) : CalD P w K mg base 4 ("uneven" : Str) [.fz] .fz m_uneven [] :=
  let ⟨_, _, A⟩ := T.d_uneven; cal0 A (fn_uneven T A) (fun _ _ _ _ _ _ us hl => match us, hl with | [_], _ => rfl)
theorem sc__law_uneven : FnScope ["shares", "total", "k", "j"] ["shares"] (defScope s__law_uneven) := ⟨rfl, rfl, rfl, by decide +kernel, rfl, by decide +kernel, by decide +kernel⟩
theorem fn__law_uneven (T : Txt K mg) {f : Addr} {fd : FuncData} (A : DefAt K mg ("_law_uneven" : Str) s__law_uneven [] f fd) : FnOk P w K mg base (L2N.CX P w) 1 f fd ["shares"] (spF K mg [.fz] .fz m__law_uneven) :=
  have S := sc__law_uneven
  fnD (modes := [.fz]) (locs := [.fz, .fz, .fz]) (rsh := .fz) (rz := true) A.F S rfl rfl (fun _ => rfl) fun cdv A outer s G0 H0 vs S0 E hr => by
    have tk := L2N.takes_of (X := cxOf (L2N.CX P w) P w K mg base ["shares", "total", "k", "j"] ("_law_uneven" : Str) (defScope s__law_uneven) f cdv A outer s H0 E) rfl rfl rfl rfl
    have hp : PassesOwn (model P w) (A.deeper (envOfC ("_law_uneven" : Str) (defScope s__law_uneven) s.heap.objs.size f cdv)) _ (cxOf (L2N.CX P w) P w K mg base ["shares", "total", "k", "j"] ("_law_uneven" : Str) (defScope s__law_uneven) f cdv A outer s H0 E).xe := PassesOwn.leaving
    exact (dss_cons (by exact ds_asg (de_int) (dg_name 1 S.nd)) (dss_cons (by exact ds_for hp rfl (di_range1 T.n_range (da_cons (de_n (dn_callB (cn_len) rfl T.n_len (by rfl) (da_cons (de_var 0) (da_nil)))) (da_nil))) (dg_name 2 S.nd) (dss_one (by exact ds_asg (de_n (dn_op op2_add (de_var 1) (de_n (dn_callB (cn_sum rfl) rfl T.n_sum (by rfl) (da_cons (de_n (dn_lc [(("j" : Str), 3)] rfl S.nd (di_range1 T.n_range (da_cons (de_var 2) (da_nil))) (blk_of (by rfl)) (hv_of (by rfl)) (hk_of (by rfl)) (by decide) (fun _ _ _ _ _ => bG_of fun _ _ _ _ => dg_name 3 S.nd) (fun _ _ _ _ _ => bT_nil) (fun _ _ _ _ _ => bE_of fun _ _ _ _ => de_n (dn_callB (cn_abs) rfl T.n_abs (by rfl) (da_cons (de_n (dn_op op2_sub (de_n (dn_ix (de_var 0) (de_var 2))) (de_n (dn_ix (de_var 0) (de_var 3))))) (da_nil)))))) (da_nil)))))) (dg_name 1 S.nd)))) (dss_one (by exact ds_ret (de_var 1)))))
theorem ok__law_uneven_0 (T : Txt K mg) : CalD P w K mg base 1 ("_law_uneven" : Str) [.fz] .fz m__law_uneven [] :=
  let ⟨_, _, A⟩ := T.d__law_uneven; cal0 A (fn__law_uneven T A) (fun _ _ _ _ _ _ us hl => match us, hl with | [_], _ => rfl)
theorem sc__law_pick : FnScope ["pool", "rows"] ["pool", "rows"] (defScope s__law_pick) := ⟨rfl, rfl, rfl, by decide +kernel, rfl, by decide +kernel, by decide +kernel⟩
theorem fn__law_pick (T : Txt K mg) {f : Addr} {fd : FuncData} (A : DefAt K mg ("_law_pick" : Str) s__law_pick [] f fd) : FnOk P w K mg base (L2N.CX P w) 2 f fd ["pool", "rows"] (spF K mg [(.lst .fz), .fz] .fz m__law_pick) :=
  have S := sc__law_pick
  fnD (modes := [(.lst .fz), .fz]) (locs := []) (rsh := .fz) (rz := true) A.F S rfl rfl (fun _ => rfl) fun cdv A outer s G0 H0 vs S0 E hr => by
    have tk := L2N.takes_of (X := cxOf (L2N.CX P w) P w K mg base ["pool", "rows"] ("_law_pick" : Str) (defScope s__law_pick) f cdv A outer s H0 E) rfl rfl rfl rfl
    have hp : PassesOwn (model P w) (A.deeper (envOfC ("_law_pick" : Str) (defScope s__law_pick) s.heap.objs.size f cdv)) _ (cxOf (L2N.CX P w) P w K mg base ["pool", "rows"] ("_law_pick" : Str) (defScope s__law_pick) f cdv A outer s H0 E).xe := PassesOwn.leaving
    exact (dss_one (by exact ds_ret (de_n (dn_ix (de_var 1) (de_oz (dO_cal [some 0, none] (ok__law_draw_0 T) (hr.mono (by decide)) (.own (i := 0) rfl (by intro z; cases z) (by decide) (.val (.nil))) tk (da_cons (de_own 0) (da_cons (de_n (dn_callB (cn_len) rfl T.n_len (by rfl) (da_cons (de_var 1) (da_nil)))) (da_nil)))))))))
theorem ok__law_pick_0 (T : Txt K mg) : CalD P w K mg base 2 ("_law_pick" : Str) [(.lst .fz), .fz] .fz m__law_pick [] :=
  let ⟨_, _, A⟩ := T.d__law_pick; cal0 A (fn__law_pick T A) (fun _ _ _ _ _ _ us hl => match us, hl with | [_, _], _ => rfl)
theorem sc_law : FnScope ["script", "pool", "shares", "total", "many", "told", "most", "due", "every", "best", "steps", "other", "row", "k", "share"] ["script"] (defScope s_law) := ⟨rfl, rfl, rfl, by decide +kernel, rfl, by decide +kernel, by decide +kernel⟩
theorem fn_law (T : Txt K mg) {f : Addr} {fd : FuncData} (A : DefAt K mg ("law" : Str) s_law [] f fd) : FnOk P w K mg base (L2N.CX P w) 13 f fd ["script"] (spF K mg [.fz] .fz m_law) :=
  have S := sc_law
  fnD (modes := [.fz]) (locs := [(.lst .fz), .fz, .fz, .fz, .fz, .fz, .fz, .fz, .fz, .fz, .fz, .fz, .fz, .fz]) (rsh := .fz) (rz := true) A.F S rfl rfl (fun _ => rfl) fun cdv A outer s G0 H0 vs S0 E hr => by
    have tk := L2N.takes_of (X := cxOf (L2N.CX P w) P w K mg base ["script", "pool", "shares", "total", "many", "told", "most", "due", "every", "best", "steps", "other", "row", "k", "share"] ("law" : Str) (defScope s_law) f cdv A outer s H0 E) rfl rfl rfl rfl
    have hp : PassesOwn (model P w) (A.deeper (envOfC ("law" : Str) (defScope s_law) s.heap.objs.size f cdv)) _ (cxOf (L2N.CX P w) P w K mg base ["script", "pool", "shares", "total", "many", "told", "most", "due", "every", "best", "steps", "other", "row", "k", "share"] ("law" : Str) (defScope s_law) f cdv A outer s H0 E).xe := PassesOwn.leaving
    exact (dss_cons (by exact ds_setO 1 S.nd (dO_cal [none] (ok__law_pool_0 T) (hr.mono (by decide)) (.val (.nil)) tk (da_cons (de_var 0) (da_nil)))) (dss_cons (by exact ds_setLc 2 [(("k" : Str), 13)] rfl S.nd rfl (by rfl) (di_range1 T.n_range (da_cons (de_oz (dO_cal [some 1, none] (ok__law_draw_0 T) (hr.mono (by decide)) (.own (i := 1) rfl (by intro z; cases z) (by decide) (.val (.nil))) tk (da_cons (de_own 1) (da_cons (de_int) (da_nil))))) (da_nil))) (blk_of (by rfl)) (hv_of (by rfl)) (hk_of (by rfl)) (by decide) (fun _ _ _ _ _ => bG_of fun _ _ _ _ => dg_name 13 S.nd) (fun _ _ _ _ _ => bT_nil) (fun _ _ _ _ _ => bE_of fun _ _ _ _ => de_oz (dO_cal [some 1, none] (ok__law_draw_0 T) (hr.mono (by decide)) (.own (i := 1) rfl (by intro z; cases z) (by decide) (.val (.nil))) takes0N (da_cons (de_own 1) (da_cons (de_int) (da_nil)))))) (dss_cons (by exact ds_if (dt_not (dt_tru (de_oz (dO_cal [none, none] (ok__law_same_0 T 12) (hr.mono (by decide)) (.val (.val (.nil))) tk (da_cons (de_oz (dO_cal [none] (ok_gap_0 T) (hr.mono (by decide)) (.val (.nil)) tk (da_cons (de_var 2) (da_nil)))) (da_cons (de_if (pt_cmp1 op2_gt (de_n (dn_callB (cn_len) rfl T.n_len (by rfl) (da_cons (de_var 2) (da_nil)))) (de_int) (nomark _)) (de_n (dn_op op2_sub (de_n (dn_callB (cn_max rfl) rfl T.n_max (by rfl) (da_cons (de_var 2) (da_nil)))) (de_n (dn_callB (cn_min rfl) rfl T.n_min (by rfl) (da_cons (de_var 2) (da_nil)))))) (de_int)) (da_nil))))))) (dss_one (by exact ds_ret (de_bl))) (dss_nil)) (dss_cons (by exact ds_if (dt_w (dw_or (dt_not (dt_tru (de_oz (dO_cal [none, none] (ok__law_same_0 T 12) (hr.mono (by decide)) (.val (.val (.nil))) tk (da_cons (de_oz (dO_cal [none] (ok_squares_0 T) (hr.mono (by decide)) (.val (.nil)) tk (da_cons (de_var 2) (da_nil)))) (da_cons (de_n (dn_callB (cn_sum rfl) rfl T.n_sum (by rfl) (da_cons (de_n (dn_lc [(("share" : Str), 14)] rfl S.nd (di_seq (de_var 2)) (blk_of (by rfl)) (hv_of (by rfl)) (hk_of (by rfl)) (by decide) (fun _ _ _ _ _ => bG_of fun _ _ _ _ => dg_name 14 S.nd) (fun _ _ _ _ _ => bT_nil) (fun _ _ _ _ _ => bE_of fun _ _ _ _ => de_n (dn_op op2_mul (de_var 14) (de_var 14))))) (da_nil)))) (da_nil))))))) (dw_or1 (dt_not (dt_tru (de_oz (dO_cal [none, none] (ok__law_same_0 T 12) (hr.mono (by decide)) (.val (.val (.nil))) tk (da_cons (de_oz (dO_cal [none] (ok_uneven_0 T) (hr.mono (by decide)) (.val (.nil)) tk (da_cons (de_var 2) (da_nil)))) (da_cons (de_oz (dO_cal [none] (ok__law_uneven_0 T) (hr.mono (by decide)) (.val (.nil)) tk (da_cons (de_var 2) (da_nil)))) (da_nil)))))))))) (dss_one (by exact ds_ret (de_bl))) (dss_nil)) (dss_cons (by exact ds_asg (de_oz (dO_cal [some 1, none] (ok__law_draw_0 T) (hr.mono (by decide)) (.own (i := 1) rfl (by intro z; cases z) (by decide) (.val (.nil))) tk (da_cons (de_own 1) (da_cons (de_int) (da_nil))))) (dg_name 3 S.nd)) (dss_cons (by exact ds_asg (de_n (dn_op op2_add (de_int) (de_oz (dO_cal [some 1, none] (ok__law_draw_0 T) (hr.mono (by decide)) (.own (i := 1) rfl (by intro z; cases z) (by decide) (.val (.nil))) tk (da_cons (de_own 1) (da_cons (de_int) (da_nil))))))) (dg_name 4 S.nd)) (dss_cons (by exact ds_asg (de_oz (dO_cal [none, none] (ok_evenest_0 T) (hr.mono (by decide)) (.val (.val (.nil))) tk (da_cons (de_var 3) (da_cons (de_var 4) (da_nil))))) (dg_name 5 S.nd)) (dss_cons (by exact ds_if (dt_w (dw_or (pt_cmp1 (op2_ne hr.units) (de_n (dn_callB (cn_len) rfl T.n_len (by rfl) (da_cons (de_var 5) (da_nil)))) (de_var 4) (nomark _)) (dw_or (pt_cmp1 (op2_ne hr.units) (de_n (dn_callB (cn_sum rfl) rfl T.n_sum (by rfl) (da_cons (de_var 5) (da_nil)))) (de_var 3) (nomark _)) (dw_or (pt_cmp1 (op2_ne hr.units) (de_var 5) (de_o (dO_cal [none] (ok__law_down_0 T) (hr.mono (by decide)) (.val (.nil)) tk (da_cons (de_var 5) (da_nil)))) (nomark _)) (dw_or1 (pt_cmp1 op2_gt (de_n (dn_op op2_sub (de_n (dn_ix (de_var 5) (de_int))) (de_n (dn_ix (de_var 5) (de_n (dn_op op2_sub (de_var 4) (de_int))))))) (de_int) (nomark _))))))) (dss_one (by exact ds_ret (de_bl))) (dss_nil)) (dss_cons (by exact ds_asg (de_oz (dO_cal [some 1, none] (ok__law_draw_0 T) (hr.mono (by decide)) (.own (i := 1) rfl (by intro z; cases z) (by decide) (.val (.nil))) tk (da_cons (de_own 1) (da_cons (de_int) (da_nil))))) (dg_name 6 S.nd)) (dss_cons (by exact ds_asg (de_oz (dO_cal [none, none] (ok_moved_0 T) (hr.mono (by decide)) (.val (.val (.nil))) tk (da_cons (de_n (dn_callTy (cn_list) rfl T.n_list (by rfl) (da_cons (de_var 2) (da_nil)))) (da_cons (de_var 6) (da_nil))))) (dg_name 7 S.nd)) (dss_cons (by exact ds_asg (de_oz (dO_cal [none, none] (ok__law_reached_0 T) (hr.mono (by decide)) (.val (.val (.nil))) tk (da_cons (de_var 2) (da_cons (de_var 6) (da_nil))))) (dg_name 8 S.nd)) (dss_cons (by exact ds_if (dt_w (dw_or (pt_cmp1 (op2_notIn (hu65 hr)) (de_var 7) (de_var 8) (by with_unfolding_all rfl)) (dw_or1 (pt_cmp1 op2_gt (de_n (dn_callB (cn_len) rfl T.n_len (by rfl) (da_cons (de_n (dn_lc [(("row" : Str), 12)] rfl S.nd (di_seq (de_var 8)) (blk_of (by rfl)) (hv_of (by rfl)) (hk_of (by rfl)) (by decide) (fun _ _ _ _ _ => bG_of fun _ _ _ _ => dg_name 12 S.nd) (fun _ _ _ _ _ => bT_of fun _ _ _ _ => dt_not (dt_tru (de_oz (dO_cal [none, none] (ok__law_evener_0 T) (hr.mono (by decide)) (.val (.val (.nil))) takes0N (da_cons (de_var 7) (da_cons (de_var 12) (da_nil))))))) (fun _ _ _ _ _ => bE_of fun _ _ _ _ => de_var 12))) (da_nil)))) (de_int) (nomark _))))) (dss_one (by exact ds_ret (de_bl))) (dss_nil)) (dss_cons (by exact ds_if (pt_cmp1 op2_gt (de_n (dn_callB (cn_len) rfl T.n_len (by rfl) (da_cons (de_var 2) (da_nil)))) (de_int) (nomark _)) (dss_cons (by exact ds_asg (de_o (dO_cal [none] (ok__law_down_0 T) (hr.mono (by decide)) (.val (.nil)) tk (da_cons (de_oz (dO_cal [none, none] (ok_evenest_0 T) (hr.mono (by decide)) (.val (.val (.nil))) tk (da_cons (de_n (dn_callB (cn_sum rfl) rfl T.n_sum (by rfl) (da_cons (de_var 2) (da_nil)))) (da_cons (de_n (dn_callB (cn_len) rfl T.n_len (by rfl) (da_cons (de_var 2) (da_nil)))) (da_nil))))) (da_nil)))) (dg_name 9 S.nd)) (dss_cons (by exact ds_asg (de_oz (dO_cal [none] (ok_steps_to_even_0 T) (hr.mono (by decide)) (.val (.nil)) tk (da_cons (de_var 2) (da_nil)))) (dg_name 10 S.nd)) (dss_cons (by exact ds_if (dt_w (dw_or (dt_n (dn_isi "bool" kt_bool (de_var 10) T.n_isinstance T.n_bool (by rfl))) (dw_or (pt_cmp1 op2_lt (de_var 10) (de_int) (nomark _)) (dw_or1 (pt_cmp1 op2_gt (de_var 10) (de_int) (nomark _)))))) (dss_one (by exact ds_ret (de_bl))) (dss_nil)) (dss_cons (by exact ds_if (dt_w (dw_or (dt_w (dw_and (pt_cmp1 op2_lt (de_var 10) (de_int) (nomark _)) (dw_and1 (pt_cmp1 (op2_notIn (hu65 hr)) (de_var 9) (de_oz (dO_cal [none, none] (ok__law_reached_0 T) (hr.mono (by decide)) (.val (.val (.nil))) tk (da_cons (de_var 2) (da_cons (de_var 10) (da_nil))))) (by with_unfolding_all rfl))))) (dw_or1 (dt_w (dw_and (pt_cmp1 op2_gt (de_var 10) (de_int) (nomark _)) (dw_and1 (pt_cmp1 (op2_in (hu65 hr)) (de_var 9) (de_oz (dO_cal [none, none] (ok__law_reached_0 T) (hr.mono (by decide)) (.val (.val (.nil))) tk (da_cons (de_var 2) (da_cons (de_n (dn_callB (cn_min rfl) rfl T.n_min (by rfl) (da_cons (de_int) (da_cons (de_n (dn_op op2_sub (de_var 10) (de_int))) (da_nil))))) (da_nil))))) (by with_unfolding_all rfl)))))))) (dss_one (by exact ds_ret (de_bl))) (dss_nil)) (dss_one (by exact ds_if (dt_w (dw_or (dt_not (dt_tru (de_oz (dO_cal [none, none] (ok__law_same_0 T 12) (hr.mono (by decide)) (.val (.val (.nil))) tk (da_cons (de_oz (dO_cal [none, none] (ok_moved_0 T) (hr.mono (by decide)) (.val (.val (.nil))) tk (da_cons (de_var 2) (da_cons (de_var 10) (da_nil))))) (da_cons (de_var 9) (da_nil))))))) (dw_or1 (dt_w (dw_and (pt_cmp1 op2_gt (de_var 10) (de_int) (nomark _)) (dw_and1 (pt_cmp1 (op2_eq hr.units) (de_oz (dO_cal [none, none] (ok_moved_0 T) (hr.mono (by decide)) (.val (.val (.nil))) tk (da_cons (de_var 2) (da_cons (de_n (dn_op op2_sub (de_var 10) (de_int))) (da_nil))))) (de_var 9) (nomark _)))))))) (dss_one (by exact ds_ret (de_bl))) (dss_nil))))))) (dss_one (by exact ds_if (dt_w (dw_or (pt_cmp1 (op2_ne hr.units) (de_oz (dO_cal [none] (ok_steps_to_even_0 T) (hr.mono (by decide)) (.val (.nil)) tk (da_cons (de_var 2) (da_nil)))) (de_int) (nomark _)) (dw_or1 (pt_cmp1 (op2_ne hr.units) (de_oz (dO_cal [none, none] (ok_moved_0 T) (hr.mono (by decide)) (.val (.val (.nil))) tk (da_cons (de_var 2) (da_cons (de_int) (da_nil))))) (de_n (dn_lst (da_nil))) (nomark _))))) (dss_one (by exact ds_ret (de_bl))) (dss_nil)))) (dss_cons (by exact ds_setLc 11 [(("k" : Str), 13)] rfl S.nd rfl (by rfl) (di_range1 T.n_range (da_cons (de_n (dn_callB (cn_len) rfl T.n_len (by rfl) (da_cons (de_var 2) (da_nil)))) (da_nil))) (blk_of (by rfl)) (hv_of (by rfl)) (hk_of (by rfl)) (by decide) (fun _ _ _ _ _ => bG_of fun _ _ _ _ => dg_name 13 S.nd) (fun _ _ _ _ _ => bT_nil) (fun _ _ _ _ _ => bE_of fun _ _ _ _ => de_oz (dO_cal [some 1, none] (ok__law_draw_0 T) (hr.mono (by decide)) (.own (i := 1) rfl (by intro z; cases z) (by decide) (.val (.nil))) takes0N (da_cons (de_own 1) (da_cons (de_int) (da_nil)))))) (dss_cons (by exact ds_for hp rfl (di_seq (de_var 8)) (dg_name 12 S.nd) (dss_cons (by exact ds_if (dt_w (dw_and (dt_tru (de_oz (dO_cal [none, none] (ok__law_evener_0 T) (hr.mono (by decide)) (.val (.val (.nil))) tk (da_cons (de_var 12) (da_cons (de_var 2) (da_nil)))))) (dw_and1 (dt_w (dw_or (pt_cmp1 op2_gt (de_oz (dO_cal [none] (ok_squares_0 T) (hr.mono (by decide)) (.val (.nil)) tk (da_cons (de_var 12) (da_nil)))) (de_oz (dO_cal [none] (ok_squares_0 T) (hr.mono (by decide)) (.val (.nil)) tk (da_cons (de_var 2) (da_nil)))) (nomark _)) (dw_or1 (pt_cmp1 op2_gt (de_oz (dO_cal [none] (ok_uneven_0 T) (hr.mono (by decide)) (.val (.nil)) tk (da_cons (de_var 12) (da_nil)))) (de_oz (dO_cal [none] (ok_uneven_0 T) (hr.mono (by decide)) (.val (.nil)) tk (da_cons (de_var 2) (da_nil)))) (nomark _)))))))) (dss_one (by exact ds_ret (de_bl))) (dss_nil)) (dss_one (by exact ds_if (dt_w (dw_and (dt_tru (de_oz (dO_cal [none, none] (ok_is_evener_0 T) (hr.mono (by decide)) (.val (.val (.nil))) tk (da_cons (de_var 12) (da_cons (de_var 2) (da_nil)))))) (dw_and1 (dt_not (dt_tru (de_oz (dO_cal [none, none] (ok__law_evener_0 T) (hr.mono (by decide)) (.val (.val (.nil))) tk (da_cons (de_oz (dO_cal [none, none] (ok_joined_0 T) (hr.mono (by decide)) (.val (.val (.nil))) tk (da_cons (de_var 12) (da_cons (de_var 11) (da_nil))))) (da_cons (de_oz (dO_cal [none, none] (ok_joined_0 T) (hr.mono (by decide)) (.val (.val (.nil))) tk (da_cons (de_var 2) (da_cons (de_var 11) (da_nil))))) (da_nil)))))))))) (dss_one (by exact ds_ret (de_bl))) (dss_nil))))) (dss_cons (by exact ds_if (dt_not (dt_tru (de_oz (dO_cal [none, none] (ok__law_same_0 T 12) (hr.mono (by decide)) (.val (.val (.nil))) tk (da_cons (de_oz (dO_cal [none, none] (ok_joined_0 T) (hr.mono (by decide)) (.val (.val (.nil))) tk (da_cons (de_var 2) (da_cons (de_var 11) (da_nil))))) (da_cons (de_o (dO_cal [none] (ok__law_down_0 T) (hr.mono (by decide)) (.val (.nil)) tk (da_cons (de_n (dn_op op2_add (de_var 2) (de_var 11))) (da_nil)))) (da_nil))))))) (dss_one (by exact ds_ret (de_bl))) (dss_nil)) (dss_cons (by exact ds_if (dt_w (dw_or (dt_not (dt_tru (de_oz (dO_cal [none, none] (ok__law_refused_0 T) (hr.mono (by decide)) (.val (.val (.nil))) tk (da_cons (de_oz (dO_cal [some 1, none] (ok__law_pick_0 T) (hr.mono (by decide)) (.own (i := 1) rfl (by intro z; cases z) (by decide) (.val (.nil))) tk (da_cons (de_own 1) (da_cons (de_n (dn_lst (da_cons (de_n (dn_neg (de_int))) (da_cons (de_int) (da_cons (de_bl) (da_nil)))))) (da_nil))))) (da_cons (de_int) (da_nil))))))) (dw_or1 (dt_not (dt_tru (de_oz (dO_cal [none, none] (ok__law_refused_0 T) (hr.mono (by decide)) (.val (.val (.nil))) tk (da_cons (de_int) (da_cons (de_oz (dO_cal [some 1, none] (ok__law_pick_0 T) (hr.mono (by decide)) (.own (i := 1) rfl (by intro z; cases z) (by decide) (.val (.nil))) tk (da_cons (de_own 1) (da_cons (de_n (dn_lst (da_cons (de_int) (da_cons (de_int) (da_cons (de_n (dn_neg (de_int))) (da_cons (de_bl) (da_nil))))))) (da_nil))))) (da_nil)))))))))) (dss_one (by exact ds_ret (de_bl))) (dss_nil)) (dss_one (by exact ds_ret (de_oz (dO_cal [none, none] (ok__law_same_0 T 12) (hr.mono (by decide)) (.val (.val (.nil))) tk (da_cons (de_oz (dO_cal [none] (ok_steps_to_even_0 T) (hr.mono (by decide)) (.val (.nil)) tk (da_cons (de_n (dn_lst (da_nil))) (da_nil)))) (da_cons (de_int) (da_nil))))))))))))))))))))))))
theorem ok_law_0 (T : Txt K mg) : CalD P w K mg base 13 ("law" : Str) [.fz] .fz m_law [] :=
  let ⟨_, _, A⟩ := T.d_law; cal0 A (fn_law T A) (fun _ _ _ _ _ _ us hl => match us, hl with | [_], _ => rfl)
theorem law_fn (T : Txt K mg) {fa : Addr} (hfa : mg ("law" : Str) = some (.ref fa)) : ∃ fd : FuncData, (∀ (s : Shared) (u : Value), BindsTo s fd ⟨[u], []⟩ [(("script" : Str), u)]) ∧ ∀ base : Heap, FnOk P w K mg base (L2N.CX P w) 13 fa fd ["script"] (spF K mg [.fz] .fz m_law) := by
  obtain ⟨f, fd, A⟩ := T.d_law
  have e := A.g.symm.trans hfa
  cases e
  exact ⟨fd, fun s u => FunD.bindsA (ps := ["script"]) A.F (fun _ _ _ _ _ _ us hl => match us, hl with | [_], _ => rfl) s [u] rfl, fun base => fn_law T A⟩
end
theorem all_mk {K : Frag} {h : Heap} {mg : MG} (X : K.In h) (G : h.Ns mainGlobals mg) {t_MOST : Tok} {C_InvalidNumber : Addr} {C_TooMany : Addr} {C_WatchError : Addr} {f__law_pool : Addr} {oc__law_pool kV__law_pool dc__law_pool pm__law_pool cd__law_pool ct__law_pool : Value} {od__law_pool an__law_pool : Option Addr} {sl__law_pool : Array (Option Value)} {f__law_draw : Addr} {oc__law_draw kV__law_draw dc__law_draw pm__law_draw cd__law_draw ct__law_draw : Value} {od__law_draw an__law_draw : Option Addr} {sl__law_draw : Array (Option Value)} {f_is_number : Addr} {oc_is_number kV_is_number dc_is_number pm_is_number cd_is_number ct_is_number : Value} {od_is_number an_is_number : Option Addr} {sl_is_number : Array (Option Value)} {T_is_number : Addr} {u_is_number_0 : Tok} {u_is_number_1 : Tok} {oT_is_number : Value} {dT_is_number : Option Addr} {nT_is_number : Nat} {sT_is_number : Array (Option Value)} {f_checked_number : Addr} {oc_checked_number kV_checked_number dc_checked_number pm_checked_number cd_checked_number ct_checked_number : Value} {od_checked_number an_checked_number : Option Addr} {sl_checked_number : Array (Option Value)} {T_checked_number : Addr} {u_checked_number_0 : Tok} {u_checked_number_1 : Tok} {oT_checked_number : Value} {dT_checked_number : Option Addr} {nT_checked_number : Nat} {sT_checked_number : Array (Option Value)} {f_evenest : Addr} {oc_evenest kV_evenest dc_evenest pm_evenest cd_evenest ct_evenest : Value} {od_evenest an_evenest : Option Addr} {sl_evenest : Array (Option Value)} {f_checked_shares : Addr} {oc_checked_shares kV_checked_shares dc_checked_shares pm_checked_shares cd_checked_shares ct_checked_shares : Value} {od_checked_shares an_checked_shares : Option Addr} {sl_checked_shares : Array (Option Value)} {f_moved : Addr} {oc_moved kV_moved dc_moved pm_moved cd_moved ct_moved : Value} {od_moved an_moved : Option Addr} {sl_moved : Array (Option Value)} {f__law_down : Addr} {oc__law_down kV__law_down dc__law_down pm__law_down cd__law_down ct__law_down : Value} {od__law_down an__law_down : Option Addr} {sl__law_down : Array (Option Value)} {f__law_reached : Addr} {oc__law_reached kV__law_reached dc__law_reached pm__law_reached cd__law_reached ct__law_reached : Value} {od__law_reached an__law_reached : Option Addr} {sl__law_reached : Array (Option Value)} {f__law_same : Addr} {oc__law_same kV__law_same dc__law_same pm__law_same cd__law_same ct__law_same : Value} {od__law_same an__law_same : Option Addr} {sl__law_same : Array (Option Value)} {f_steps_to_even : Addr} {oc_steps_to_even kV_steps_to_even dc_steps_to_even pm_steps_to_even cd_steps_to_even ct_steps_to_even : Value} {od_steps_to_even an_steps_to_even : Option Addr} {sl_steps_to_even : Array (Option Value)} {f_gap : Addr} {oc_gap kV_gap dc_gap pm_gap cd_gap ct_gap : Value} {od_gap an_gap : Option Addr} {sl_gap : Array (Option Value)} {f__law_heaps : Addr} {oc__law_heaps kV__law_heaps dc__law_heaps pm__law_heaps cd__law_heaps ct__law_heaps : Value} {od__law_heaps an__law_heaps : Option Addr} {sl__law_heaps : Array (Option Value)} {f__law_evener : Addr} {oc__law_evener kV__law_evener dc__law_evener pm__law_evener cd__law_evener ct__law_evener : Value} {od__law_evener an__law_evener : Option Addr} {sl__law_evener : Array (Option Value)} {f_heaped : Addr} {oc_heaped kV_heaped dc_heaped pm_heaped cd_heaped ct_heaped : Value} {od_heaped an_heaped : Option Addr} {sl_heaped : Array (Option Value)} {f_is_evener : Addr} {oc_is_evener kV_is_evener dc_is_evener pm_is_evener cd_is_evener ct_is_evener : Value} {od_is_evener an_is_evener : Option Addr} {sl_is_evener : Array (Option Value)} {f_joined : Addr} {oc_joined kV_joined dc_joined pm_joined cd_joined ct_joined : Value} {od_joined an_joined : Option Addr} {sl_joined : Array (Option Value)} {f__law_refused : Addr} {oc__law_refused kV__law_refused dc__law_refused pm__law_refused cd__law_refused ct__law_refused : Value} {od__law_refused an__law_refused : Option Addr} {sl__law_refused : Array (Option Value)} {f_squares : Addr} {oc_squares kV_squares dc_squares pm_squares cd_squares ct_squares : Value} {od_squares an_squares : Option Addr} {sl_squares : Array (Option Value)} {f_uneven : Addr} {oc_uneven kV_uneven dc_uneven pm_uneven cd_uneven ct_uneven : Value} {od_uneven an_uneven : Option Addr} {sl_uneven : Array (Option Value)} {f__law_uneven : Addr} {oc__law_uneven kV__law_uneven dc__law_uneven pm__law_uneven cd__law_uneven ct__law_uneven : Value} {od__law_uneven an__law_uneven : Option Addr} {sl__law_uneven : Array (Option Value)} {f__law_pick : Addr} {oc__law_pick kV__law_pick dc__law_pick pm__law_pick cd__law_pick ct__law_pick : Value} {od__law_pick an__law_pick : Option Addr} {sl__law_pick : Array (Option Value)} {f_law : Addr} {oc_law kV_law dc_law pm_law cd_law ct_law : Value} {od_law an_law : Option Addr} {sl_law : Array (Option Value)}
    (z_list : PySem.W.nsIn K mainGlobals ("list" : Str) = some none)
    (z_int : PySem.W.nsIn K mainGlobals ("int" : Str) = some none)
    (z_len : PySem.W.nsIn K mainGlobals ("len" : Str) = some none)
    (z_abs : PySem.W.nsIn K mainGlobals ("abs" : Str) = some none)
    (z_isinstance : PySem.W.nsIn K mainGlobals ("isinstance" : Str) = some none)
    (z_bool : PySem.W.nsIn K mainGlobals ("bool" : Str) = some none)
    (z_str : PySem.W.nsIn K mainGlobals ("str" : Str) = some none)
    (z_range : PySem.W.nsIn K mainGlobals ("range" : Str) = some none)
    (z_sorted : PySem.W.nsIn K mainGlobals ("sorted" : Str) = some none)
    (z_reversed : PySem.W.nsIn K mainGlobals ("reversed" : Str) = some none)
    (z_tuple : PySem.W.nsIn K mainGlobals ("tuple" : Str) = some none)
    (z_sum : PySem.W.nsIn K mainGlobals ("sum" : Str) = some none)
    (z_max : PySem.W.nsIn K mainGlobals ("max" : Str) = some none)
    (z_min : PySem.W.nsIn K mainGlobals ("min" : Str) = some none)
    (z_all : PySem.W.nsIn K mainGlobals ("all" : Str) = some none)
    (z_ValueError : PySem.W.nsIn K mainGlobals ("ValueError" : Str) = some none)
    (q_MOST : PySem.W.nsIn K mainGlobals ("MOST" : Str) = some (some (.int 60 t_MOST)))
    (a_InvalidNumber : PySem.W.nsIn K mainGlobals ("InvalidNumber" : Str) = some (some (.ref C_InvalidNumber)))
    (b_InvalidNumber : PySem.W.subIn K (.ref C_InvalidNumber) (.type "BaseException") = some true)
    (t_InvalidNumber : PySem.W.typeIn K (.ref C_InvalidNumber) = some (.type "type"))
    (x_InvalidNumber : PySem.W.excIn K C_InvalidNumber [.type "ValueError", .type "Exception", .type "BaseException", .type "object"] "ValueError.__new__" = true)
    (k_InvalidNumber : PySem.W.keepIn K (.ref C_InvalidNumber) = true)
    (h_InvalidNumber : PySem.W.hasDictIn K C_InvalidNumber = true)
    (i_InvalidNumber : PySem.W.isClsIn K C_InvalidNumber = true)
    (e1_InvalidNumber : PySem.W.findIn K (.ref C_InvalidNumber) "__getattribute__" = some (some (.builtin "BaseException.__getattribute__")))
    (e2_InvalidNumber : PySem.W.findIn K (.ref C_InvalidNumber) "__getattr__" = some none)
    (e3_InvalidNumber : PySem.W.findIn K (.ref C_InvalidNumber) "__class__" = some (some (.builtin "object.__class__")))
    (e4_InvalidNumber : PySem.W.mroIn K C_InvalidNumber (.type "object") = some true)
    (a_TooMany : PySem.W.nsIn K mainGlobals ("TooMany" : Str) = some (some (.ref C_TooMany)))
    (b_TooMany : PySem.W.subIn K (.ref C_TooMany) (.type "BaseException") = some true)
    (t_TooMany : PySem.W.typeIn K (.ref C_TooMany) = some (.type "type"))
    (x_TooMany : PySem.W.excIn K C_TooMany [.type "ValueError", .type "Exception", .type "BaseException", .type "object"] "ValueError.__new__" = true)
    (k_TooMany : PySem.W.keepIn K (.ref C_TooMany) = true)
    (h_TooMany : PySem.W.hasDictIn K C_TooMany = true)
    (e1_TooMany : PySem.W.findIn K (.ref C_TooMany) "__getattribute__" = some (some (.builtin "BaseException.__getattribute__")))
    (e2_TooMany : PySem.W.findIn K (.ref C_TooMany) "__getattr__" = some none)
    (e3_TooMany : PySem.W.findIn K (.ref C_TooMany) "__class__" = some (some (.builtin "object.__class__")))
    (e4_TooMany : PySem.W.mroIn K C_TooMany (.type "object") = some true)
    (a_WatchError : PySem.W.nsIn K mainGlobals ("WatchError" : Str) = some (some (.ref C_WatchError)))
    (b_WatchError : PySem.W.subIn K (.ref C_WatchError) (.type "BaseException") = some true)
    (t_WatchError : PySem.W.typeIn K (.ref C_WatchError) = some (.type "type"))
    (x_WatchError : PySem.W.excIn K C_WatchError [.type "ValueError", .type "Exception", .type "BaseException", .type "object"] "ValueError.__new__" = true)
    (k_WatchError : PySem.W.keepIn K (.ref C_WatchError) = true)
    (h_WatchError : PySem.W.hasDictIn K C_WatchError = true)
    (e1_WatchError : PySem.W.findIn K (.ref C_WatchError) "__getattribute__" = some (some (.builtin "BaseException.__getattribute__")))
    (e2_WatchError : PySem.W.findIn K (.ref C_WatchError) "__getattr__" = some none)
    (e3_WatchError : PySem.W.findIn K (.ref C_WatchError) "__class__" = some (some (.builtin "object.__class__")))
    (e4_WatchError : PySem.W.mroIn K C_WatchError (.type "object") = some true)
    (e5 : PySem.W.specialIn K (.builtin "object.__class__") "__get__" = some (some (.builtin "getset_descriptor.__get__")))
    (e6 : PySem.W.takesIn K (.builtin "object.__class__") = some true)
    (s_WatchError_WatchError : PySem.W.subIn K (.ref C_WatchError) (.ref C_WatchError) = some true)
    (s_InvalidNumber_WatchError : PySem.W.subIn K (.ref C_InvalidNumber) (.ref C_WatchError) = some true)
    (s_TooMany_WatchError : PySem.W.subIn K (.ref C_TooMany) (.ref C_WatchError) = some true)
    (s_WatchError_InvalidNumber : PySem.W.subIn K (.ref C_WatchError) (.ref C_InvalidNumber) = some false)
    (s_InvalidNumber_InvalidNumber : PySem.W.subIn K (.ref C_InvalidNumber) (.ref C_InvalidNumber) = some true)
    (s_TooMany_InvalidNumber : PySem.W.subIn K (.ref C_TooMany) (.ref C_InvalidNumber) = some false)
    (s_TooMany_TooMany : PySem.W.subIn K (.ref C_TooMany) (.ref C_TooMany) = some true)
    (s_WatchError_ValueError : PySem.W.subIn K (.ref C_WatchError) (.type "ValueError") = some true)
    (s_InvalidNumber_ValueError : PySem.W.subIn K (.ref C_InvalidNumber) (.type "ValueError") = some true)
    (s_TooMany_ValueError : PySem.W.subIn K (.ref C_TooMany) (.type "ValueError") = some true)
    (a__law_pool : PySem.W.nsIn K mainGlobals ("_law_pool" : Str) = some (some (.ref f__law_pool)))
    (l__law_pool : K.lookup f__law_pool = some ⟨oc__law_pool, od__law_pool, .func (PySem.W.fnOf ("_law_pool" : Str) ("_law_pool" : Str) (defArgs s__law_pool) (defBody s__law_pool) (defScope s__law_pool) .none kV__law_pool dc__law_pool pm__law_pool an__law_pool cd__law_pool ct__law_pool), sl__law_pool⟩)
    (c__law_pool : PySem.W.codeIn K cd__law_pool ("_law_pool" : Str) = true)
    (k__law_pool : PySem.W.keepIn K (.ref f__law_pool) = true)
    (a__law_draw : PySem.W.nsIn K mainGlobals ("_law_draw" : Str) = some (some (.ref f__law_draw)))
    (l__law_draw : K.lookup f__law_draw = some ⟨oc__law_draw, od__law_draw, .func (PySem.W.fnOf ("_law_draw" : Str) ("_law_draw" : Str) (defArgs s__law_draw) (defBody s__law_draw) (defScope s__law_draw) .none kV__law_draw dc__law_draw pm__law_draw an__law_draw cd__law_draw ct__law_draw), sl__law_draw⟩)
    (c__law_draw : PySem.W.codeIn K cd__law_draw ("_law_draw" : Str) = true)
    (k__law_draw : PySem.W.keepIn K (.ref f__law_draw) = true)
    (a_is_number : PySem.W.nsIn K mainGlobals ("is_number" : Str) = some (some (.ref f_is_number)))
    (l_is_number : K.lookup f_is_number = some ⟨oc_is_number, od_is_number, .func (PySem.W.fnOf ("is_number" : Str) ("is_number" : Str) (defArgs s_is_number) (defBody s_is_number) (defScope s_is_number) (.ref T_is_number) kV_is_number dc_is_number pm_is_number an_is_number cd_is_number ct_is_number), sl_is_number⟩)
    (c_is_number : PySem.W.codeIn K cd_is_number ("is_number" : Str) = true)
    (k_is_number : PySem.W.keepIn K (.ref f_is_number) = true)
    (g_is_number : K.lookup T_is_number = some ⟨oT_is_number, dT_is_number, .seq #[.int 0 u_is_number_0, .int 1000000 u_is_number_1] nT_is_number, sT_is_number⟩)
    (a_checked_number : PySem.W.nsIn K mainGlobals ("checked_number" : Str) = some (some (.ref f_checked_number)))
    (l_checked_number : K.lookup f_checked_number = some ⟨oc_checked_number, od_checked_number, .func (PySem.W.fnOf ("checked_number" : Str) ("checked_number" : Str) (defArgs s_checked_number) (defBody s_checked_number) (defScope s_checked_number) (.ref T_checked_number) kV_checked_number dc_checked_number pm_checked_number an_checked_number cd_checked_number ct_checked_number), sl_checked_number⟩)
    (c_checked_number : PySem.W.codeIn K cd_checked_number ("checked_number" : Str) = true)
    (k_checked_number : PySem.W.keepIn K (.ref f_checked_number) = true)
    (g_checked_number : K.lookup T_checked_number = some ⟨oT_checked_number, dT_checked_number, .seq #[.int 0 u_checked_number_0, .int 1000000 u_checked_number_1] nT_checked_number, sT_checked_number⟩)
    (a_evenest : PySem.W.nsIn K mainGlobals ("evenest" : Str) = some (some (.ref f_evenest)))
    (l_evenest : K.lookup f_evenest = some ⟨oc_evenest, od_evenest, .func (PySem.W.fnOf ("evenest" : Str) ("evenest" : Str) (defArgs s_evenest) (defBody s_evenest) (defScope s_evenest) .none kV_evenest dc_evenest pm_evenest an_evenest cd_evenest ct_evenest), sl_evenest⟩)
    (c_evenest : PySem.W.codeIn K cd_evenest ("evenest" : Str) = true)
    (k_evenest : PySem.W.keepIn K (.ref f_evenest) = true)
    (a_checked_shares : PySem.W.nsIn K mainGlobals ("checked_shares" : Str) = some (some (.ref f_checked_shares)))
    (l_checked_shares : K.lookup f_checked_shares = some ⟨oc_checked_shares, od_checked_shares, .func (PySem.W.fnOf ("checked_shares" : Str) ("checked_shares" : Str) (defArgs s_checked_shares) (defBody s_checked_shares) (defScope s_checked_shares) .none kV_checked_shares dc_checked_shares pm_checked_shares an_checked_shares cd_checked_shares ct_checked_shares), sl_checked_shares⟩)
    (c_checked_shares : PySem.W.codeIn K cd_checked_shares ("checked_shares" : Str) = true)
    (k_checked_shares : PySem.W.keepIn K (.ref f_checked_shares) = true)
    (a_moved : PySem.W.nsIn K mainGlobals ("moved" : Str) = some (some (.ref f_moved)))
    (l_moved : K.lookup f_moved = some ⟨oc_moved, od_moved, .func (PySem.W.fnOf ("moved" : Str) ("moved" : Str) (defArgs s_moved) (defBody s_moved) (defScope s_moved) .none kV_moved dc_moved pm_moved an_moved cd_moved ct_moved), sl_moved⟩)
    (c_moved : PySem.W.codeIn K cd_moved ("moved" : Str) = true)
    (k_moved : PySem.W.keepIn K (.ref f_moved) = true)
    (a__law_down : PySem.W.nsIn K mainGlobals ("_law_down" : Str) = some (some (.ref f__law_down)))
    (l__law_down : K.lookup f__law_down = some ⟨oc__law_down, od__law_down, .func (PySem.W.fnOf ("_law_down" : Str) ("_law_down" : Str) (defArgs s__law_down) (defBody s__law_down) (defScope s__law_down) .none kV__law_down dc__law_down pm__law_down an__law_down cd__law_down ct__law_down), sl__law_down⟩)
    (c__law_down : PySem.W.codeIn K cd__law_down ("_law_down" : Str) = true)
    (k__law_down : PySem.W.keepIn K (.ref f__law_down) = true)
    (a__law_reached : PySem.W.nsIn K mainGlobals ("_law_reached" : Str) = some (some (.ref f__law_reached)))
    (l__law_reached : K.lookup f__law_reached = some ⟨oc__law_reached, od__law_reached, .func (PySem.W.fnOf ("_law_reached" : Str) ("_law_reached" : Str) (defArgs s__law_reached) (defBody s__law_reached) (defScope s__law_reached) .none kV__law_reached dc__law_reached pm__law_reached an__law_reached cd__law_reached ct__law_reached), sl__law_reached⟩)
    (c__law_reached : PySem.W.codeIn K cd__law_reached ("_law_reached" : Str) = true)
    (k__law_reached : PySem.W.keepIn K (.ref f__law_reached) = true)
    (a__law_same : PySem.W.nsIn K mainGlobals ("_law_same" : Str) = some (some (.ref f__law_same)))
    (l__law_same : K.lookup f__law_same = some ⟨oc__law_same, od__law_same, .func (PySem.W.fnOf ("_law_same" : Str) ("_law_same" : Str) (defArgs s__law_same) (defBody s__law_same) (defScope s__law_same) .none kV__law_same dc__law_same pm__law_same an__law_same cd__law_same ct__law_same), sl__law_same⟩)
    (c__law_same : PySem.W.codeIn K cd__law_same ("_law_same" : Str) = true)
    (k__law_same : PySem.W.keepIn K (.ref f__law_same) = true)
    (a_steps_to_even : PySem.W.nsIn K mainGlobals ("steps_to_even" : Str) = some (some (.ref f_steps_to_even)))
    (l_steps_to_even : K.lookup f_steps_to_even = some ⟨oc_steps_to_even, od_steps_to_even, .func (PySem.W.fnOf ("steps_to_even" : Str) ("steps_to_even" : Str) (defArgs s_steps_to_even) (defBody s_steps_to_even) (defScope s_steps_to_even) .none kV_steps_to_even dc_steps_to_even pm_steps_to_even an_steps_to_even cd_steps_to_even ct_steps_to_even), sl_steps_to_even⟩)
    (c_steps_to_even : PySem.W.codeIn K cd_steps_to_even ("steps_to_even" : Str) = true)
    (k_steps_to_even : PySem.W.keepIn K (.ref f_steps_to_even) = true)
    (a_gap : PySem.W.nsIn K mainGlobals ("gap" : Str) = some (some (.ref f_gap)))
    (l_gap : K.lookup f_gap = some ⟨oc_gap, od_gap, .func (PySem.W.fnOf ("gap" : Str) ("gap" : Str) (defArgs s_gap) (defBody s_gap) (defScope s_gap) .none kV_gap dc_gap pm_gap an_gap cd_gap ct_gap), sl_gap⟩)
    (c_gap : PySem.W.codeIn K cd_gap ("gap" : Str) = true)
    (k_gap : PySem.W.keepIn K (.ref f_gap) = true)
    (a__law_heaps : PySem.W.nsIn K mainGlobals ("_law_heaps" : Str) = some (some (.ref f__law_heaps)))
    (l__law_heaps : K.lookup f__law_heaps = some ⟨oc__law_heaps, od__law_heaps, .func (PySem.W.fnOf ("_law_heaps" : Str) ("_law_heaps" : Str) (defArgs s__law_heaps) (defBody s__law_heaps) (defScope s__law_heaps) .none kV__law_heaps dc__law_heaps pm__law_heaps an__law_heaps cd__law_heaps ct__law_heaps), sl__law_heaps⟩)
    (c__law_heaps : PySem.W.codeIn K cd__law_heaps ("_law_heaps" : Str) = true)
    (k__law_heaps : PySem.W.keepIn K (.ref f__law_heaps) = true)
    (a__law_evener : PySem.W.nsIn K mainGlobals ("_law_evener" : Str) = some (some (.ref f__law_evener)))
    (l__law_evener : K.lookup f__law_evener = some ⟨oc__law_evener, od__law_evener, .func (PySem.W.fnOf ("_law_evener" : Str) ("_law_evener" : Str) (defArgs s__law_evener) (defBody s__law_evener) (defScope s__law_evener) .none kV__law_evener dc__law_evener pm__law_evener an__law_evener cd__law_evener ct__law_evener), sl__law_evener⟩)
    (c__law_evener : PySem.W.codeIn K cd__law_evener ("_law_evener" : Str) = true)
    (k__law_evener : PySem.W.keepIn K (.ref f__law_evener) = true)
    (a_heaped : PySem.W.nsIn K mainGlobals ("heaped" : Str) = some (some (.ref f_heaped)))
    (l_heaped : K.lookup f_heaped = some ⟨oc_heaped, od_heaped, .func (PySem.W.fnOf ("heaped" : Str) ("heaped" : Str) (defArgs s_heaped) (defBody s_heaped) (defScope s_heaped) .none kV_heaped dc_heaped pm_heaped an_heaped cd_heaped ct_heaped), sl_heaped⟩)
    (c_heaped : PySem.W.codeIn K cd_heaped ("heaped" : Str) = true)
    (k_heaped : PySem.W.keepIn K (.ref f_heaped) = true)
    (a_is_evener : PySem.W.nsIn K mainGlobals ("is_evener" : Str) = some (some (.ref f_is_evener)))
    (l_is_evener : K.lookup f_is_evener = some ⟨oc_is_evener, od_is_evener, .func (PySem.W.fnOf ("is_evener" : Str) ("is_evener" : Str) (defArgs s_is_evener) (defBody s_is_evener) (defScope s_is_evener) .none kV_is_evener dc_is_evener pm_is_evener an_is_evener cd_is_evener ct_is_evener), sl_is_evener⟩)
    (c_is_evener : PySem.W.codeIn K cd_is_evener ("is_evener" : Str) = true)
    (k_is_evener : PySem.W.keepIn K (.ref f_is_evener) = true)
    (a_joined : PySem.W.nsIn K mainGlobals ("joined" : Str) = some (some (.ref f_joined)))
    (l_joined : K.lookup f_joined = some ⟨oc_joined, od_joined, .func (PySem.W.fnOf ("joined" : Str) ("joined" : Str) (defArgs s_joined) (defBody s_joined) (defScope s_joined) .none kV_joined dc_joined pm_joined an_joined cd_joined ct_joined), sl_joined⟩)
    (c_joined : PySem.W.codeIn K cd_joined ("joined" : Str) = true)
    (k_joined : PySem.W.keepIn K (.ref f_joined) = true)
    (a__law_refused : PySem.W.nsIn K mainGlobals ("_law_refused" : Str) = some (some (.ref f__law_refused)))
    (l__law_refused : K.lookup f__law_refused = some ⟨oc__law_refused, od__law_refused, .func (PySem.W.fnOf ("_law_refused" : Str) ("_law_refused" : Str) (defArgs s__law_refused) (defBody s__law_refused) (defScope s__law_refused) .none kV__law_refused dc__law_refused pm__law_refused an__law_refused cd__law_refused ct__law_refused), sl__law_refused⟩)
    (c__law_refused : PySem.W.codeIn K cd__law_refused ("_law_refused" : Str) = true)
    (k__law_refused : PySem.W.keepIn K (.ref f__law_refused) = true)
    (a_squares : PySem.W.nsIn K mainGlobals ("squares" : Str) = some (some (.ref f_squares)))
    (l_squares : K.lookup f_squares = some ⟨oc_squares, od_squares, .func (PySem.W.fnOf ("squares" : Str) ("squares" : Str) (defArgs s_squares) (defBody s_squares) (defScope s_squares) .none kV_squares dc_squares pm_squares an_squares cd_squares ct_squares), sl_squares⟩)
    (c_squares : PySem.W.codeIn K cd_squares ("squares" : Str) = true)
    (k_squares : PySem.W.keepIn K (.ref f_squares) = true)
    (a_uneven : PySem.W.nsIn K mainGlobals ("uneven" : Str) = some (some (.ref f_uneven)))
    (l_uneven : K.lookup f_uneven = some ⟨oc_uneven, od_uneven, .func (PySem.W.fnOf ("uneven" : Str) ("uneven" : Str) (defArgs s_uneven) (defBody s_uneven) (defScope s_uneven) .none kV_uneven dc_uneven pm_uneven an_uneven cd_uneven ct_uneven), sl_uneven⟩)
    (c_uneven : PySem.W.codeIn K cd_uneven ("uneven" : Str) = true)
    (k_uneven : PySem.W.keepIn K (.ref f_uneven) = true)
    (a__law_uneven : PySem.W.nsIn K mainGlobals ("_law_uneven" : Str) = some (some (.ref f__law_uneven)))
    (l__law_uneven : K.lookup f__law_uneven = some ⟨oc__law_uneven, od__law_uneven, .func (PySem.W.fnOf ("_law_uneven" : Str) ("_law_uneven" : Str) (defArgs s__law_uneven) (defBody s__law_uneven) (defScope s__law_uneven) .none kV__law_uneven dc__law_uneven pm__law_uneven an__law_uneven cd__law_uneven ct__law_uneven), sl__law_uneven⟩)
    (c__law_uneven : PySem.W.codeIn K cd__law_uneven ("_law_uneven" : Str) = true)
    (k__law_uneven : PySem.W.keepIn K (.ref f__law_uneven) = true)
    (a__law_pick : PySem.W.nsIn K mainGlobals ("_law_pick" : Str) = some (some (.ref f__law_pick)))
    (l__law_pick : K.lookup f__law_pick = some ⟨oc__law_pick, od__law_pick, .func (PySem.W.fnOf ("_law_pick" : Str) ("_law_pick" : Str) (defArgs s__law_pick) (defBody s__law_pick) (defScope s__law_pick) .none kV__law_pick dc__law_pick pm__law_pick an__law_pick cd__law_pick ct__law_pick), sl__law_pick⟩)
    (c__law_pick : PySem.W.codeIn K cd__law_pick ("_law_pick" : Str) = true)
    (k__law_pick : PySem.W.keepIn K (.ref f__law_pick) = true)
    (a_law : PySem.W.nsIn K mainGlobals ("law" : Str) = some (some (.ref f_law)))
    (l_law : K.lookup f_law = some ⟨oc_law, od_law, .func (PySem.W.fnOf ("law" : Str) ("law" : Str) (defArgs s_law) (defBody s_law) (defScope s_law) .none kV_law dc_law pm_law an_law cd_law ct_law), sl_law⟩)
    (c_law : PySem.W.codeIn K cd_law ("law" : Str) = true)
    (k_law : PySem.W.keepIn K (.ref f_law) = true) : Txt K mg :=
  ⟨PySem.W.mg_none_of X G z_list,
   PySem.W.mg_none_of X G z_int,
   PySem.W.mg_none_of X G z_len,
   PySem.W.mg_none_of X G z_abs,
   PySem.W.mg_none_of X G z_isinstance,
   PySem.W.mg_none_of X G z_bool,
   PySem.W.mg_none_of X G z_str,
   PySem.W.mg_none_of X G z_range,
   PySem.W.mg_none_of X G z_sorted,
   PySem.W.mg_none_of X G z_reversed,
   PySem.W.mg_none_of X G z_tuple,
   PySem.W.mg_none_of X G z_sum,
   PySem.W.mg_none_of X G z_max,
   PySem.W.mg_none_of X G z_min,
   PySem.W.mg_none_of X G z_all,
   PySem.W.mg_none_of X G z_ValueError,
   ⟨_, PySem.W.mg_of X G q_MOST⟩,
   ⟨_, PySem.W.mg_of X G a_InvalidNumber, x_InvalidNumber, k_InvalidNumber, b_InvalidNumber, t_InvalidNumber⟩,
   ⟨_, PySem.W.mg_of X G a_TooMany, x_TooMany, k_TooMany, b_TooMany, t_TooMany⟩,
   ⟨_, PySem.W.mg_of X G a_WatchError, x_WatchError, k_WatchError, b_WatchError, t_WatchError⟩,
   ⟨_, PySem.W.mg_of X G a_WatchError, hit_cons (PySem.W.mg_of X G a_WatchError) (PySem.W.exm_ref b_WatchError h_WatchError t_WatchError s_WatchError_WatchError) (hit_cons (PySem.W.mg_of X G a_InvalidNumber) (PySem.W.exm_ref b_WatchError h_WatchError t_WatchError s_InvalidNumber_WatchError) (hit_cons (PySem.W.mg_of X G a_TooMany) (PySem.W.exm_ref b_WatchError h_WatchError t_WatchError s_TooMany_WatchError) (hit_nil)))⟩,
   ⟨_, PySem.W.mg_of X G a_InvalidNumber, is_cons (PySem.W.mg_of X G a_WatchError) ⟨e1_WatchError, e2_WatchError, b_WatchError, h_WatchError, e3_WatchError, e5, e6, e4_WatchError⟩ (kit_own i_InvalidNumber t_InvalidNumber s_WatchError_InvalidNumber s_WatchError_WatchError) (is_cons (PySem.W.mg_of X G a_InvalidNumber) ⟨e1_InvalidNumber, e2_InvalidNumber, b_InvalidNumber, h_InvalidNumber, e3_InvalidNumber, e5, e6, e4_InvalidNumber⟩ (kit_own i_InvalidNumber t_InvalidNumber s_InvalidNumber_InvalidNumber s_InvalidNumber_InvalidNumber) (is_cons (PySem.W.mg_of X G a_TooMany) ⟨e1_TooMany, e2_TooMany, b_TooMany, h_TooMany, e3_TooMany, e5, e6, e4_TooMany⟩ (kit_own i_InvalidNumber t_InvalidNumber s_TooMany_InvalidNumber s_TooMany_TooMany) (is_nil)))⟩,
   is_cons (PySem.W.mg_of X G a_WatchError) ⟨e1_WatchError, e2_WatchError, b_WatchError, h_WatchError, e3_WatchError, e5, e6, e4_WatchError⟩ (kit_bi (by decide +kernel) s_WatchError_ValueError) (is_cons (PySem.W.mg_of X G a_InvalidNumber) ⟨e1_InvalidNumber, e2_InvalidNumber, b_InvalidNumber, h_InvalidNumber, e3_InvalidNumber, e5, e6, e4_InvalidNumber⟩ (kit_bi (by decide +kernel) s_InvalidNumber_ValueError) (is_cons (PySem.W.mg_of X G a_TooMany) ⟨e1_TooMany, e2_TooMany, b_TooMany, h_TooMany, e3_TooMany, e5, e6, e4_TooMany⟩ (kit_bi (by decide +kernel) s_TooMany_ValueError) (is_nil))),
   ⟨_, _, defAt_mk (PySem.W.mg_of X G a__law_pool) l__law_pool c__law_pool k__law_pool⟩,
   ⟨_, _, defAt_mk (PySem.W.mg_of X G a__law_draw) l__law_draw c__law_draw k__law_draw⟩,
   ⟨_, _, defAt_mkD (PySem.W.mg_of X G a_is_number) l_is_number c_is_number k_is_number g_is_number (its := [.int 0 u_is_number_0, .int 1000000 u_is_number_1]) rfl (.cons (⟨_, rfl⟩) (.cons (⟨_, rfl⟩) (.nil))) (by intro z; cases z)⟩,
   ⟨_, _, defAt_mkD (PySem.W.mg_of X G a_checked_number) l_checked_number c_checked_number k_checked_number g_checked_number (its := [.int 0 u_checked_number_0, .int 1000000 u_checked_number_1]) rfl (.cons (⟨_, rfl⟩) (.cons (⟨_, rfl⟩) (.nil))) (by intro z; cases z)⟩,
   ⟨_, _, defAt_mk (PySem.W.mg_of X G a_evenest) l_evenest c_evenest k_evenest⟩,
   ⟨_, _, defAt_mk (PySem.W.mg_of X G a_checked_shares) l_checked_shares c_checked_shares k_checked_shares⟩,
   ⟨_, _, defAt_mk (PySem.W.mg_of X G a_moved) l_moved c_moved k_moved⟩,
   ⟨_, _, defAt_mk (PySem.W.mg_of X G a__law_down) l__law_down c__law_down k__law_down⟩,
   ⟨_, _, defAt_mk (PySem.W.mg_of X G a__law_reached) l__law_reached c__law_reached k__law_reached⟩,
   ⟨_, _, defAt_mk (PySem.W.mg_of X G a__law_same) l__law_same c__law_same k__law_same⟩,
   ⟨_, _, defAt_mk (PySem.W.mg_of X G a_steps_to_even) l_steps_to_even c_steps_to_even k_steps_to_even⟩,
   ⟨_, _, defAt_mk (PySem.W.mg_of X G a_gap) l_gap c_gap k_gap⟩,
   ⟨_, _, defAt_mk (PySem.W.mg_of X G a__law_heaps) l__law_heaps c__law_heaps k__law_heaps⟩,
   ⟨_, _, defAt_mk (PySem.W.mg_of X G a__law_evener) l__law_evener c__law_evener k__law_evener⟩,
   ⟨_, _, defAt_mk (PySem.W.mg_of X G a_heaped) l_heaped c_heaped k_heaped⟩,
   ⟨_, _, defAt_mk (PySem.W.mg_of X G a_is_evener) l_is_evener c_is_evener k_is_evener⟩,
   ⟨_, _, defAt_mk (PySem.W.mg_of X G a_joined) l_joined c_joined k_joined⟩,
   ⟨_, _, defAt_mk (PySem.W.mg_of X G a__law_refused) l__law_refused c__law_refused k__law_refused⟩,
   ⟨_, _, defAt_mk (PySem.W.mg_of X G a_squares) l_squares c_squares k_squares⟩,
   ⟨_, _, defAt_mk (PySem.W.mg_of X G a_uneven) l_uneven c_uneven k_uneven⟩,
   ⟨_, _, defAt_mk (PySem.W.mg_of X G a__law_uneven) l__law_uneven c__law_uneven k__law_uneven⟩,
   ⟨_, _, defAt_mk (PySem.W.mg_of X G a__law_pick) l__law_pick c__law_pick k__law_pick⟩,
   ⟨_, _, defAt_mk (PySem.W.mg_of X G a_law) l_law c_law k_law⟩⟩
end DL.K51

open PySem PySem.W PyProof.Rows
set_option maxRecDepth 100000 in
set_option maxHeartbeats 0 in
theorem PySem.Challenge.cw_watchhire_k51_evenest_shares_and_gifts_holds : PySem.Challenge.rw_watchhire_k51_evenest_shares_and_gifts.Holds := by
  w_on; o_law; k_head; (case hw => w_witness2)
  k_fill
  refine DL.walkL (l := PySem.Challenge.rw_watchhire_k51_evenest_shares_and_gifts) (k := 13) (x := "script") (m := DL.K51.m_law) rfl rfl ⟨rfl, by decide, by decide⟩ (fun w h Y => PySem.W.kIn_of Y) DL.K51.law_holds ?F
  case F =>
    intro w mg fa h KX G hmg
    refine DL.K51.law_fn ?T hmg
    refine' DL.K51.all_mk KX G ?z_list ?z_int ?z_len ?z_abs ?z_isinstance ?z_bool ?z_str ?z_range ?z_sorted ?z_reversed ?z_tuple ?z_sum ?z_max ?z_min ?z_all ?z_ValueError ?q_MOST ?a_InvalidNumber ?b_InvalidNumber ?t_InvalidNumber ?x_InvalidNumber ?k_InvalidNumber ?h_InvalidNumber ?i_InvalidNumber ?e1_InvalidNumber ?e2_InvalidNumber ?e3_InvalidNumber ?e4_InvalidNumber ?a_TooMany ?b_TooMany ?t_TooMany ?x_TooMany ?k_TooMany ?h_TooMany ?e1_TooMany ?e2_TooMany ?e3_TooMany ?e4_TooMany ?a_WatchError ?b_WatchError ?t_WatchError ?x_WatchError ?k_WatchError ?h_WatchError ?e1_WatchError ?e2_WatchError ?e3_WatchError ?e4_WatchError ?e5 ?e6 ?s_WatchError_WatchError ?s_InvalidNumber_WatchError ?s_TooMany_WatchError ?s_WatchError_InvalidNumber ?s_InvalidNumber_InvalidNumber ?s_TooMany_InvalidNumber ?s_TooMany_TooMany ?s_WatchError_ValueError ?s_InvalidNumber_ValueError ?s_TooMany_ValueError ?a__law_pool ?l__law_pool ?c__law_pool ?k__law_pool ?a__law_draw ?l__law_draw ?c__law_draw ?k__law_draw ?a_is_number ?l_is_number ?c_is_number ?k_is_number ?g_is_number ?a_checked_number ?l_checked_number ?c_checked_number ?k_checked_number ?g_checked_number ?a_evenest ?l_evenest ?c_evenest ?k_evenest ?a_checked_shares ?l_checked_shares ?c_checked_shares ?k_checked_shares ?a_moved ?l_moved ?c_moved ?k_moved ?a__law_down ?l__law_down ?c__law_down ?k__law_down ?a__law_reached ?l__law_reached ?c__law_reached ?k__law_reached ?a__law_same ?l__law_same ?c__law_same ?k__law_same ?a_steps_to_even ?l_steps_to_even ?c_steps_to_even ?k_steps_to_even ?a_gap ?l_gap ?c_gap ?k_gap ?a__law_heaps ?l__law_heaps ?c__law_heaps ?k__law_heaps ?a__law_evener ?l__law_evener ?c__law_evener ?k__law_evener ?a_heaped ?l_heaped ?c_heaped ?k_heaped ?a_is_evener ?l_is_evener ?c_is_evener ?k_is_evener ?a_joined ?l_joined ?c_joined ?k_joined ?a__law_refused ?l__law_refused ?c__law_refused ?k__law_refused ?a_squares ?l_squares ?c_squares ?k_squares ?a_uneven ?l_uneven ?c_uneven ?k_uneven ?a__law_uneven ?l__law_uneven ?c__law_uneven ?k__law_uneven ?a__law_pick ?l__law_pick ?c__law_pick ?k__law_pick ?a_law ?l_law ?c_law ?k_law
    (case z_list => k_is)
    (case z_int => k_is)
    (case z_len => k_is)
    (case z_abs => k_is)
    (case z_isinstance => k_is)
    (case z_bool => k_is)
    (case z_str => k_is)
    (case z_range => k_is)
    (case z_sorted => k_is)
    (case z_reversed => k_is)
    (case z_tuple => k_is)
    (case z_sum => k_is)
    (case z_max => k_is)
    (case z_min => k_is)
    (case z_all => k_is)
    (case z_ValueError => k_is)
    (case q_MOST => k_is)
    (case a_InvalidNumber => k_is)
    (case b_InvalidNumber => k_is)
    (case t_InvalidNumber => k_is)
    (case x_InvalidNumber => k_exc)
    (case k_InvalidNumber => k_is)
    (case h_InvalidNumber => k_is)
    (case i_InvalidNumber => k_is)
    (case e1_InvalidNumber => k_is)
    (case e2_InvalidNumber => k_is)
    (case e3_InvalidNumber => k_is)
    (case e4_InvalidNumber => k_is)
    (case a_TooMany => k_is)
    (case b_TooMany => k_is)
    (case t_TooMany => k_is)
    (case x_TooMany => k_exc)
    (case k_TooMany => k_is)
    (case h_TooMany => k_is)
    (case e1_TooMany => k_is)
    (case e2_TooMany => k_is)
    (case e3_TooMany => k_is)
    (case e4_TooMany => k_is)
    (case a_WatchError => k_is)
    (case b_WatchError => k_is)
    (case t_WatchError => k_is)
    (case x_WatchError => k_exc)
    (case k_WatchError => k_is)
    (case h_WatchError => k_is)
    (case e1_WatchError => k_is)
    (case e2_WatchError => k_is)
    (case e3_WatchError => k_is)
    (case e4_WatchError => k_is)
    (case e5 => k_is)
    (case e6 => k_is)
    (case s_WatchError_WatchError => k_is)
    (case s_InvalidNumber_WatchError => k_is)
    (case s_TooMany_WatchError => k_is)
    (case s_WatchError_InvalidNumber => k_is)
    (case s_InvalidNumber_InvalidNumber => k_is)
    (case s_TooMany_InvalidNumber => k_is)
    (case s_TooMany_TooMany => k_is)
    (case s_WatchError_ValueError => k_is)
    (case s_InvalidNumber_ValueError => k_is)
    (case s_TooMany_ValueError => k_is)
    (case a__law_pool => k_is)
    (case l__law_pool => k_is)
    (case c__law_pool => k_is)
    (case k__law_pool => k_is)
    (case a__law_draw => k_is)
    (case l__law_draw => k_is)
    (case c__law_draw => k_is)
    (case k__law_draw => k_is)
    (case a_is_number => k_is)
    (case l_is_number => k_is)
    (case c_is_number => k_is)
    (case k_is_number => k_is)
    (case g_is_number => k_is)
    (case a_checked_number => k_is)
    (case l_checked_number => k_is)
    (case c_checked_number => k_is)
    (case k_checked_number => k_is)
    (case g_checked_number => k_is)
    (case a_evenest => k_is)
    (case l_evenest => k_is)
    (case c_evenest => k_is)
    (case k_evenest => k_is)
    (case a_checked_shares => k_is)
    (case l_checked_shares => k_is)
    (case c_checked_shares => k_is)
    (case k_checked_shares => k_is)
    (case a_moved => k_is)
    (case l_moved => k_is)
    (case c_moved => k_is)
    (case k_moved => k_is)
    (case a__law_down => k_is)
    (case l__law_down => k_is)
    (case c__law_down => k_is)
    (case k__law_down => k_is)
    (case a__law_reached => k_is)
    (case l__law_reached => k_is)
    (case c__law_reached => k_is)
    (case k__law_reached => k_is)
    (case a__law_same => k_is)
    (case l__law_same => k_is)
    (case c__law_same => k_is)
    (case k__law_same => k_is)
    (case a_steps_to_even => k_is)
    (case l_steps_to_even => k_is)
    (case c_steps_to_even => k_is)
    (case k_steps_to_even => k_is)
    (case a_gap => k_is)
    (case l_gap => k_is)
    (case c_gap => k_is)
    (case k_gap => k_is)
    (case a__law_heaps => k_is)
    (case l__law_heaps => k_is)
    (case c__law_heaps => k_is)
    (case k__law_heaps => k_is)
    (case a__law_evener => k_is)
    (case l__law_evener => k_is)
    (case c__law_evener => k_is)
    (case k__law_evener => k_is)
    (case a_heaped => k_is)
    (case l_heaped => k_is)
    (case c_heaped => k_is)
    (case k_heaped => k_is)
    (case a_is_evener => k_is)
    (case l_is_evener => k_is)
    (case c_is_evener => k_is)
    (case k_is_evener => k_is)
    (case a_joined => k_is)
    (case l_joined => k_is)
    (case c_joined => k_is)
    (case k_joined => k_is)
    (case a__law_refused => k_is)
    (case l__law_refused => k_is)
    (case c__law_refused => k_is)
    (case k__law_refused => k_is)
    (case a_squares => k_is)
    (case l_squares => k_is)
    (case c_squares => k_is)
    (case k_squares => k_is)
    (case a_uneven => k_is)
    (case l_uneven => k_is)
    (case c_uneven => k_is)
    (case k_uneven => k_is)
    (case a__law_uneven => k_is)
    (case l__law_uneven => k_is)
    (case c__law_uneven => k_is)
    (case k__law_uneven => k_is)
    (case a__law_pick => k_is)
    (case l__law_pick => k_is)
    (case c__law_pick => k_is)
    (case k__law_pick => k_is)
    (case a_law => k_is)
    (case l_law => k_is)
    (case c_law => k_is)
    (case k_law => k_is)
#print axioms PySem.Challenge.cw_watchhire_k51_evenest_shares_and_gifts_holds
