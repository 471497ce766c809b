import PyProof.Rows.All
import Wide.All
import OpenK.AllK
import Wide.FinOn
import HandS.ForMost
import HandS.Exc
import HandS.TryOnly
import HandS.ExcOwn
import HandS.WordsExc
import HandS.Wide
import HandS.TupAny
import HandS.IsInst
import HandS.SortInts
import HandS.SortRule
import HandS.RaiseMore
import HandS.NoneIn
import HandS.ExcInit
import HandS.ExcField
import HandS.ClsMeth
import PySem.Challenge.RW_evenplay_k47_least_delays
set_option Elab.async false
set_option linter.all false
set_option maxRecDepth 100000
set_option maxHeartbeats 2000000
/-! V0: data as trees over the abstract heap: Rep, cells, outcomes, what a meaning promises. -/
namespace VL
open PySem PySem.Spec PyProof.Rows L2
abbrev St := L2.St

inductive D where
  | non | bl (b : Bool) | int (i : Int) | str (s : Str)
  | tup (xs : List D) | lst (xs : List D) | dct (ks : List Key) (xs : List D) | ins (c : Nat) (xs : List D)
  /-- the script: ints, locked -/
  | scr (xs : List Int)

inductive W where
  | d (x : D) | cell (l : Nat)

inductive O where
  | lst (xs : List D) | dct (ks : List Key) (xs : List D) | ins (c : Nat) (ws : List W) | frz (x : D)
  /-- a list that may hold cells -/
  | wl (ws : List W)

abbrev Sto := List O
abbrev Env := List (Option W)

inductive R (α : Type) where
  | ok (x : α) (M : Sto) | ex (c : Nat) (ws : List W) (M : Sto) | bad

def bnd {α β : Type} (r : R α) (f : α → Sto → R β) : R β := match r with
  | .ok x M => f x M
  | .ex c ws M => .ex c ws M
  | .bad => .bad
@[simp] theorem bnd_ok {α β : Type} (x : α) (M : Sto) (f : α → Sto → R β) : bnd (.ok x M) f = f x M := (rfl)
@[simp] theorem bnd_ex {α β : Type} (c : Nat) (ws : List W) (M : Sto) (f : α → Sto → R β) : bnd (.ex c ws M) f = .ex c ws M := (rfl)
@[simp] theorem bnd_bad {α β : Type} (f : α → Sto → R β) : bnd (.bad) f = .bad := (rfl)

/-- what stands still through a law: the written part, the classes' places, their attributes -/
structure GT where
  K : PySem.W.Frag
  ca : Nat → Addr
  cf : Nat → List Str

mutual
def Rep (G : GT) (F : Hp) : D → V → Prop
  | .non, v => v = .non
  | .bl b, v => v = .bl b
  | .int i, v => v = .int i
  | .str s, v => v = .str s
  | .tup ds, v => ∃ a vs, v = .ref a ∧ F a = some (.tup vs) ∧ Reps G F ds vs
  | .lst ds, v => ∃ a vs, v = .ref a ∧ F a = some (.lst vs) ∧ Reps G F ds vs
  | .scr ns, v => ∃ a, v = .ref a ∧ SqL G.K F a (ns.map V.int)
  | .dct ks ds, v => ∃ a vs, v = .ref a ∧ F a = some (.dK (ks.zip vs)) ∧ ks.length = ds.length ∧ Reps G F ds vs
  | .ins c ds, v => ∃ a dx vs, v = .ref a ∧ F a = some (.ins (G.ca c) dx ((G.cf c).zip vs)) ∧ Reps G F ds vs
def Reps (G : GT) (F : Hp) : List D → List V → Prop
  | [], vs => vs = []
  | d :: ds, vs => ∃ v r, vs = v :: r ∧ Rep G F d v ∧ Reps G F ds r
end

theorem same_rd {H H' : Hp} {a : Addr} {u : HO} (e : Same H H') (h : Rd H a u) : Rd H' a u := by
  rcases h with h | ⟨o, h⟩
  · exact .inl (e a _ h)
  · exact .inr ⟨o, e a _ h⟩
theorem same_l {K : PySem.W.Frag} {H H' : Hp} {a : Addr} {xs : List V} (e : Same H H') (h : SqL K H a xs) : SqL K H' a xs := by
  rcases h with h | h
  · exact .inl (same_rd e h)
  · exact .inr h
theorem same_t {K : PySem.W.Frag} {H H' : Hp} {a : Addr} {xs : List V} (e : Same H H') (h : SqT K H a xs) : SqT K H' a xs := by
  rcases h with h | h
  · exact .inl (same_rd e h)
  · exact .inr h

mutual
theorem Rep.mono {G : GT} {F F' : Hp} (e : Same F F') : ∀ (d : D) (v : V), Rep G F d v → Rep G F' d v
  | .non, v, h => by unfold Rep at h ⊢; exact h
  | .bl b, v, h => by unfold Rep at h ⊢; exact h
  | .int i, v, h => by unfold Rep at h ⊢; exact h
  | .str s, v, h => by unfold Rep at h ⊢; exact h
  | .tup ds, v, h => by
    unfold Rep at h ⊢
    obtain ⟨a, vs, h1, h2, h3⟩ := h
    exact ⟨a, vs, h1, e _ _ h2, Reps.mono e ds vs h3⟩
  | .lst ds, v, h => by
    unfold Rep at h ⊢
    obtain ⟨a, vs, h1, h2, h3⟩ := h
    exact ⟨a, vs, h1, e _ _ h2, Reps.mono e ds vs h3⟩
  | .scr ns, v, h => by
    unfold Rep at h ⊢
    obtain ⟨a, h1, h2⟩ := h
    exact ⟨a, h1, same_l e h2⟩
  | .dct ks ds, v, h => by
    unfold Rep at h ⊢
    obtain ⟨a, vs, h1, h2, h3, h4⟩ := h
    exact ⟨a, vs, h1, e _ _ h2, h3, Reps.mono e ds vs h4⟩
  | .ins c ds, v, h => by
    unfold Rep at h ⊢
    obtain ⟨a, dx, vs, h1, h2, h3⟩ := h
    exact ⟨a, dx, vs, h1, e _ _ h2, Reps.mono e ds vs h3⟩
theorem Reps.mono {G : GT} {F F' : Hp} (e : Same F F') : ∀ (ds : List D) (vs : List V), Reps G F ds vs → Reps G F' ds vs
  | [], vs, h => by unfold Reps at h ⊢; exact h
  | d :: ds, vs, h => by
    unfold Reps at h ⊢
    obtain ⟨v, r, h1, h2, h3⟩ := h
    exact ⟨v, r, h1, Rep.mono e d v h2, Reps.mono e ds r h3⟩
end

section
variable {G : GT} {F : Hp}
theorem rep_non {v : V} : Rep G F .non v ↔ v = .non := by unfold Rep; exact Iff.rfl
theorem rep_bl {b : Bool} {v : V} : Rep G F (.bl b) v ↔ v = .bl b := by unfold Rep; exact Iff.rfl
theorem rep_int {i : Int} {v : V} : Rep G F (.int i) v ↔ v = .int i := by unfold Rep; exact Iff.rfl
theorem rep_str {s : Str} {v : V} : Rep G F (.str s) v ↔ v = .str s := by unfold Rep; exact Iff.rfl
theorem rep_tup {ds : List D} {v : V} : Rep G F (.tup ds) v ↔ ∃ a vs, v = .ref a ∧ F a = some (.tup vs) ∧ Reps G F ds vs := by
  conv => lhs; unfold Rep
theorem rep_scr {ns : List Int} {v : V} : Rep G F (.scr ns) v ↔ ∃ a, v = .ref a ∧ SqL G.K F a (ns.map V.int) := by
  conv => lhs; unfold Rep
theorem rep_lst {ds : List D} {v : V} : Rep G F (.lst ds) v ↔ ∃ a vs, v = .ref a ∧ F a = some (.lst vs) ∧ Reps G F ds vs := by
  conv => lhs; unfold Rep
theorem rep_dct {ks : List Key} {ds : List D} {v : V} : Rep G F (.dct ks ds) v ↔ ∃ a vs, v = .ref a ∧ F a = some (.dK (ks.zip vs)) ∧ ks.length = ds.length ∧ Reps G F ds vs := by
  conv => lhs; unfold Rep
theorem rep_ins {c : Nat} {ds : List D} {v : V} : Rep G F (.ins c ds) v ↔ ∃ a dx vs, v = .ref a ∧ F a = some (.ins (G.ca c) dx ((G.cf c).zip vs)) ∧ Reps G F ds vs := by
  conv => lhs; unfold Rep
theorem reps_nil {vs : List V} : Reps G F [] vs ↔ vs = [] := by unfold Reps; exact Iff.rfl
theorem reps_cons {d : D} {ds : List D} {vs : List V} : Reps G F (d :: ds) vs ↔ ∃ v r, vs = v :: r ∧ Rep G F d v ∧ Reps G F ds r := by
  conv => lhs; unfold Reps
theorem Reps.length : ∀ {ds : List D} {vs : List V}, Reps G F ds vs → vs.length = ds.length
  | [], _, h => by rw [reps_nil] at h; subst h; rfl
  | d :: ds, _, h => by
    rw [reps_cons] at h
    obtain ⟨v, r, rfl, _, h⟩ := h
    simp [Reps.length h]
theorem Reps.get : ∀ {ds : List D} {vs : List V} {i : Nat} {d : D}, Reps G F ds vs → ds[i]? = some d → ∃ v, vs[i]? = some v ∧ Rep G F d v
  | [], _, _, _, _, e => by simp at e
  | d :: ds, _, 0, x, h, e => by
    rw [reps_cons] at h
    obtain ⟨v, r, rfl, h1, h⟩ := h
    simp at e
    subst e
    exact ⟨v, rfl, h1⟩
  | d :: ds, _, i + 1, x, h, e => by
    rw [reps_cons] at h
    obtain ⟨v, r, rfl, h1, h⟩ := h
    obtain ⟨w, h2, h3⟩ := Reps.get (i := i) h (by simpa using e)
    exact ⟨w, by simpa using h2, h3⟩
theorem Reps.append : ∀ {ds es : List D} {vs us : List V}, Reps G F ds vs → Reps G F es us → Reps G F (ds ++ es) (vs ++ us)
  | [], _, _, _, h, h' => by rw [reps_nil] at h; subst h; exact h'
  | d :: ds, _, _, _, h, h' => by
    rw [reps_cons] at h
    obtain ⟨v, r, rfl, h1, h⟩ := h
    exact reps_cons.mpr ⟨v, r ++ _, rfl, h1, Reps.append h h'⟩
theorem Reps.one {d : D} {v : V} (h : Rep G F d v) : Reps G F [d] [v] := reps_cons.mpr ⟨v, [], rfl, h, reps_nil.mpr rfl⟩
theorem Reps.set : ∀ {ds : List D} {vs : List V} (i : Nat) {d : D} {v : V}, Reps G F ds vs → Rep G F d v → Reps G F (ds.set i d) (vs.set i v)
  | [], _, _, _, _, h, _ => by rw [reps_nil] at h; subst h; exact reps_nil.mpr rfl
  | d :: ds, _, 0, x, y, h, q => by
    rw [reps_cons] at h
    obtain ⟨v, r, rfl, h1, h⟩ := h
    exact reps_cons.mpr ⟨y, r, rfl, q, h⟩
  | d :: ds, _, i + 1, x, y, h, q => by
    rw [reps_cons] at h
    obtain ⟨v, r, rfl, h1, h⟩ := h
    exact reps_cons.mpr ⟨v, _, rfl, h1, Reps.set i h q⟩
theorem Reps.take : ∀ {ds : List D} {vs : List V} (n : Nat), Reps G F ds vs → Reps G F (ds.take n) (vs.take n)
  | [], _, n, h => by rw [reps_nil] at h; subst h; simp; exact reps_nil.mpr rfl
  | d :: ds, vs, 0, h => by simp; exact reps_nil.mpr rfl
  | d :: ds, _, n + 1, h => by
    rw [reps_cons] at h
    obtain ⟨v, r, rfl, h1, h⟩ := h
    exact reps_cons.mpr ⟨v, _, rfl, h1, Reps.take n h⟩
theorem Reps.drop : ∀ {ds : List D} {vs : List V} (n : Nat), Reps G F ds vs → Reps G F (ds.drop n) (vs.drop n)
  | [], _, n, h => by rw [reps_nil] at h; subst h; simp; exact reps_nil.mpr rfl
  | d :: ds, vs, 0, h => h
  | d :: ds, _, n + 1, h => by
    rw [reps_cons] at h
    obtain ⟨v, r, rfl, h1, h⟩ := h
    exact Reps.drop n h
end

/-! ### cells -/
def RepW (G : GT) (F : Hp) (lab : List Addr) : W → V → Prop
  | .d x, v => Rep G F x v
  | .cell l, v => ∃ a, lab[l]? = some a ∧ v = .ref a
def RepWs (G : GT) (F : Hp) (lab : List Addr) : List W → List V → Prop
  | [], vs => vs = []
  | w :: ws, vs => ∃ v r, vs = v :: r ∧ RepW G F lab w v ∧ RepWs G F lab ws r
def CellOk (G : GT) (F : Hp) (lab : List Addr) (H : Hp) (a : Addr) : O → Prop
  | .lst xs => F a = none ∧ ∃ vs, H a = some (.lst vs) ∧ Reps G F xs vs
  | .dct ks xs => F a = none ∧ ∃ vs, H a = some (.dK (ks.zip vs)) ∧ ks.length = xs.length ∧ Reps G F xs vs
  | .ins c ws => F a = none ∧ ∃ dx vs, H a = some (.ins (G.ca c) dx ((G.cf c).zip vs)) ∧ RepWs G F lab ws vs ∧ ws.length ≤ (G.cf c).length
  | .frz x => Rep G F x (.ref a)
  | .wl ws => F a = none ∧ ∃ vs, H a = some (.lst vs) ∧ RepWs G F lab ws vs

structure Stt (G : GT) (F : Hp) (lab : List Addr) (M : Sto) (H : Hp) : Prop where
  ex : Same F H
  len : lab.length = M.length
  nd : lab.Nodup
  at_ : ∀ (l : Nat) a o, lab[l]? = some a → M[l]? = some o → CellOk G F lab H a o
  th : ∀ a ∈ lab, H a ≠ none

structure Aft (F : Hp) (lab : List Addr) (H : Hp) (F' : Hp) (lab' : List Addr) (H' : Hp) : Prop where
  fx : Same F F'
  lx : ∃ t, lab' = lab ++ t ∧ ∀ a ∈ t, H a = none
  kp : ∀ a o, H a = some o → a ∉ lab → H' a = some o ∧ F' a = F a
  hx : ∀ a, H a ≠ none → H' a ≠ none

section
variable {G : GT} {F F1 F2 : Hp} {lab lab1 lab2 : List Addr} {H H1 H2 : Hp} {M M1 : Sto}
theorem Aft.refl : Aft F lab H F lab H := ⟨Same.refl F, ⟨[], by simp, by simp⟩, fun _ _ h _ => ⟨h, rfl⟩, fun _ h => h⟩
theorem Aft.trans (a : Aft F lab H F1 lab1 H1) (b : Aft F1 lab1 H1 F2 lab2 H2) : Aft F lab H F2 lab2 H2 := by
  refine ⟨a.fx.trans b.fx, ?_, fun x o h n => ?_, fun x h => b.hx x (a.hx x h)⟩
  · obtain ⟨t, rfl, h1⟩ := a.lx
    obtain ⟨u, rfl, h2⟩ := b.lx
    refine ⟨t ++ u, by simp, fun x hx => ?_⟩
    rcases List.mem_append.mp hx with z | z
    · exact h1 x z
    · have q := h2 x z
      cases e : H x with
      | none => rfl
      | some o => exact absurd q (a.hx x (by rw [e]; simp))
  · obtain ⟨h1, h2⟩ := a.kp x o h n
    have n1 : x ∉ lab1 := by
      obtain ⟨t, rfl, ht⟩ := a.lx
      intro z
      rcases List.mem_append.mp z with z | z
      · exact n z
      · rw [ht x z] at h; cases h
    obtain ⟨h3, h4⟩ := b.kp x o h1 n1
    exact ⟨h3, h4.trans h2⟩
theorem lab_get {l : Nat} {a : Addr} (h : Aft F lab H F1 lab1 H1) (e : lab[l]? = some a) : lab1[l]? = some a := by
  obtain ⟨t, rfl, _⟩ := h.lx
  exact List.getElem?_append_left (List.getElem?_eq_some_iff.mp e).1 ▸ e
theorem RepW.aft {w : W} {v : V} (h : Aft F lab H F1 lab1 H1) (r : RepW G F lab w v) : RepW G F1 lab1 w v := by
  cases w with
  | d x => exact Rep.mono h.fx x v r
  | cell l =>
    obtain ⟨a, e, q⟩ := r
    exact ⟨a, lab_get h e, q⟩
theorem RepWs.aft (h : Aft F lab H F1 lab1 H1) : ∀ {ws : List W} {vs : List V}, RepWs G F lab ws vs → RepWs G F1 lab1 ws vs
  | [], _, r => r
  | w :: ws, _, r => by
    obtain ⟨v, q, e, h1, h2⟩ := r
    exact ⟨v, q, e, h1.aft h, RepWs.aft h h2⟩
theorem RepWs.length : ∀ {ws : List W} {vs : List V}, RepWs G F lab ws vs → vs.length = ws.length
  | [], _, h => by cases h; rfl
  | w :: ws, _, h => by
    obtain ⟨v, r, rfl, _, h⟩ := h
    simp [RepWs.length h]
theorem RepWs.get : ∀ {ws : List W} {vs : List V} {i : Nat} {d : W}, RepWs G F lab ws vs → ws[i]? = some d → ∃ v, vs[i]? = some v ∧ RepW G F lab d v
  | [], _, _, _, _, e => by simp at e
  | d :: ds, _, 0, x, h, e => by
    obtain ⟨v, r, rfl, h1, h⟩ := h
    simp at e
    subst e
    exact ⟨v, rfl, h1⟩
  | d :: ds, _, i + 1, x, h, e => by
    obtain ⟨v, r, rfl, h1, h⟩ := h
    obtain ⟨w, h2, h3⟩ := RepWs.get (i := i) h (by simpa using e)
    exact ⟨w, by simpa using h2, h3⟩
theorem RepWs.set : ∀ {ds : List W} {vs : List V} (i : Nat) {d : W} {v : V}, RepWs G F lab ds vs → RepW G F lab d v → RepWs G F lab (ds.set i d) (vs.set i v)
  | [], _, _, _, _, h, _ => by cases h; rfl
  | d :: ds, _, 0, x, y, h, q => by
    obtain ⟨v, r, rfl, h1, h⟩ := h
    exact ⟨y, r, rfl, q, h⟩
  | d :: ds, _, i + 1, x, y, h, q => by
    obtain ⟨v, r, rfl, h1, h⟩ := h
    exact ⟨v, _, rfl, h1, RepWs.set i h q⟩
theorem RepWs.append : ∀ {ds es : List W} {vs us : List V}, RepWs G F lab ds vs → RepWs G F lab es us → RepWs G F lab (ds ++ es) (vs ++ us)
  | [], _, _, _, h, h' => by cases h; exact h'
  | d :: ds, _, _, _, h, h' => by
    obtain ⟨v, r, rfl, h1, h⟩ := h
    exact ⟨v, r ++ _, rfl, h1, RepWs.append h h'⟩
theorem RepWs.ofD : ∀ {ds : List D} {vs : List V}, Reps G F ds vs → RepWs G F lab (ds.map .d) vs
  | [], _, h => by rw [reps_nil] at h; exact h
  | d :: ds, _, h => by
    rw [reps_cons] at h
    obtain ⟨v, r, rfl, h1, h⟩ := h
    exact ⟨v, r, rfl, h1, RepWs.ofD h⟩

theorem w_non {v : V} (h : RepW G F lab (.d .non) v) : v = .non := (rep_non (G := G) (F := F)).mp h
theorem w_bl {b : Bool} {v : V} (h : RepW G F lab (.d (.bl b)) v) : v = .bl b := (rep_bl (G := G) (F := F)).mp h
theorem w_int {i : Int} {v : V} (h : RepW G F lab (.d (.int i)) v) : v = .int i := (rep_int (G := G) (F := F)).mp h
theorem w_str {s : Str} {v : V} (h : RepW G F lab (.d (.str s)) v) : v = .str s := (rep_str (G := G) (F := F)).mp h
theorem w_lst {ds : List D} {v : V} (h : RepW G F lab (.d (.lst ds)) v) : ∃ a vs, v = .ref a ∧ F a = some (.lst vs) ∧ Reps G F ds vs := (rep_lst (G := G) (F := F)).mp h
theorem w_tup {ds : List D} {v : V} (h : RepW G F lab (.d (.tup ds)) v) : ∃ a vs, v = .ref a ∧ F a = some (.tup vs) ∧ Reps G F ds vs := (rep_tup (G := G) (F := F)).mp h
theorem w_scr {ds : List Int} {v : V} (h : RepW G F lab (.d (.scr ds)) v) : ∃ a, v = .ref a ∧ SqL G.K F a (ds.map V.int) := (rep_scr (G := G) (F := F)).mp h
theorem w_dct {ks : List Key} {ds : List D} {v : V} (h : RepW G F lab (.d (.dct ks ds)) v) : ∃ a vs, v = .ref a ∧ F a = some (.dK (ks.zip vs)) ∧ ks.length = ds.length ∧ Reps G F ds vs := (rep_dct (G := G) (F := F)).mp h
theorem k_non : RepW G F lab (.d .non) .non := (rep_non (G := G) (F := F)).mpr rfl
theorem k_bl {b : Bool} : RepW G F lab (.d (.bl b)) (.bl b) := (rep_bl (G := G) (F := F)).mpr rfl
theorem k_int {i : Int} : RepW G F lab (.d (.int i)) (.int i) := (rep_int (G := G) (F := F)).mpr rfl
theorem k_str {s : Str} : RepW G F lab (.d (.str s)) (.str s) := (rep_str (G := G) (F := F)).mpr rfl

/-- a cell stays a cell when only F grows beside it -/
theorem CellOk.aft {a : Addr} {o : O} (h : Aft F lab H F1 lab1 H1) (hf : F a = none → F1 a = none) (hh : H1 a = H a) (c : CellOk G F lab H a o) : CellOk G F1 lab1 H1 a o := by
  cases o with
  | lst xs =>
    obtain ⟨f, vs, e, r⟩ := c
    exact ⟨hf f, vs, hh.trans e, Reps.mono h.fx _ _ r⟩
  | dct ks xs =>
    obtain ⟨f, vs, e, l, r⟩ := c
    exact ⟨hf f, vs, hh.trans e, l, Reps.mono h.fx _ _ r⟩
  | ins c ws =>
    obtain ⟨f, dx, vs, e, r, l⟩ := c
    exact ⟨hf f, dx, vs, hh.trans e, r.aft h, l⟩
  | frz x => exact Rep.mono h.fx x _ c
  | wl ws =>
    obtain ⟨f, vs, e, r⟩ := c
    exact ⟨hf f, vs, hh.trans e, r.aft h⟩
theorem nodup_get {l : List Addr} (hN : l.Nodup) {i j : Nat} {x : Addr} (a : l[i]? = some x) (b : l[j]? = some x) : i = j := nd_ix hN a b

/-- a new object at p: frozen -/
theorem Stt.fresh (S : Stt G F lab M H) {p : Addr} (hp : H p = none) : F p = none ∧ p ∉ lab := by
  refine ⟨S.ex.free hp, fun z => S.th p z hp⟩
theorem aft_new (S : Stt G F lab M H) {p : Addr} {o : HO} (hp : H p = none) : Aft F lab H (upd F p o) lab (upd H p o) := by
  obtain ⟨fp, np⟩ := S.fresh hp
  refine ⟨fun b u e => ?_, ⟨[], by simp, by simp⟩, fun a u e n => ?_, fun a e => ?_⟩
  · rw [upd_ne (ne_of_none e fp)]; exact e
  · have : a ≠ p := ne_of_none e hp
    rw [upd_ne this, upd_ne this]; exact ⟨e, rfl⟩
  · by_cases q : a = p
    · subst q; exact absurd hp e
    · rw [upd_ne q]; exact e
theorem Stt.new (S : Stt G F lab M H) {p : Addr} {o : HO} (hp : H p = none) : Stt G (upd F p o) lab M (upd H p o) := by
  obtain ⟨fp, np⟩ := S.fresh hp
  have A := aft_new (o := o) S hp
  refine ⟨fun b u e => ?_, S.len, S.nd, fun l a c h1 h2 => ?_, fun a h => ?_⟩
  · by_cases q : b = p
    · subst q; rw [upd_same] at e ⊢; exact e
    · rw [upd_ne q] at e ⊢; exact S.ex b u e
  · have q : a ≠ p := fun z => np (z ▸ List.mem_of_getElem? h1)
    exact (S.at_ l a c h1 h2).aft A (fun f => by rw [upd_ne q]; exact f) (upd_ne q)
  · have q : a ≠ p := fun z => np (z ▸ h)
    rw [upd_ne q]; exact S.th a h
/-- a new object beside all (neither frozen nor a cell: an own dict, an exception's dict) -/
theorem aft_put (S : Stt G F lab M H) {p : Addr} {o : HO} (hp : H p = none) : Aft F lab H F lab (upd H p o) := by
  refine ⟨Same.refl F, ⟨[], by simp, by simp⟩, fun a u e n => ⟨by rw [upd_ne (ne_of_none e hp)]; exact e, rfl⟩, fun a e => ?_⟩
  by_cases q : a = p
  · subst q; exact absurd hp e
  · rw [upd_ne q]; exact e
theorem Stt.put (S : Stt G F lab M H) {p : Addr} {o : HO} (hp : H p = none) : Stt G F lab M (upd H p o) := by
  obtain ⟨fp, np⟩ := S.fresh hp
  refine ⟨fun b u e => ?_, S.len, S.nd, fun l a c h1 h2 => ?_, fun a h => ?_⟩
  · rw [upd_ne (ne_of_none e fp)]; exact S.ex b u e
  · have q : a ≠ p := fun z => np (z ▸ List.mem_of_getElem? h1)
    exact (S.at_ l a c h1 h2).aft (aft_put S hp) id (upd_ne q)
  · have q : a ≠ p := fun z => np (z ▸ h)
    rw [upd_ne q]; exact S.th a h
/-- a new cell -/
theorem aft_cell (S : Stt G F lab M H) {p : Addr} {o : HO} (hp : H p = none) : Aft F lab H F (lab ++ [p]) (upd H p o) := by
  refine ⟨Same.refl F, ⟨[p], rfl, by simpa using hp⟩, fun a u e n => ⟨by rw [upd_ne (ne_of_none e hp)]; exact e, rfl⟩, fun a e => ?_⟩
  by_cases q : a = p
  · subst q; exact absurd hp e
  · rw [upd_ne q]; exact e
theorem Stt.cell (S : Stt G F lab M H) {p : Addr} {o : HO} {c : O} (hp : H p = none) (hc : ∀ A : Aft F lab H F (lab ++ [p]) (upd H p o), CellOk G F (lab ++ [p]) (upd H p o) p c) :
    Stt G F (lab ++ [p]) (M ++ [c]) (upd H p o) := by
  obtain ⟨fp, np⟩ := S.fresh hp
  have A := aft_cell (o := o) S hp
  refine ⟨fun b u e => ?_, by simp [S.len], ?_, fun l a c' h1 h2 => ?_, fun a h => ?_⟩
  · rw [upd_ne (ne_of_none e fp)]; exact S.ex b u e
  · rw [List.nodup_append]
    exact ⟨S.nd, by simp, fun a ha b hb e => np (by simp at hb; subst hb; subst e; exact ha)⟩
  · by_cases hl : l < lab.length
    · rw [List.getElem?_append_left hl] at h1
      rw [List.getElem?_append_left (by rw [← S.len]; exact hl)] at h2
      have q : a ≠ p := fun z => np (z ▸ List.mem_of_getElem? h1)
      exact (S.at_ l a c' h1 h2).aft A id (upd_ne q)
    · have e : l = lab.length := by
        have := (List.getElem?_eq_some_iff.mp h1).1
        simp at this
        omega
      subst e
      rw [List.getElem?_append_right (Nat.le_refl _)] at h1
      rw [S.len, List.getElem?_append_right (Nat.le_refl _)] at h2
      simp at h1 h2
      subst h1 h2
      exact hc A
  · rcases List.mem_append.mp h with h | h
    · have q : a ≠ p := fun z => np (z ▸ h)
      rw [upd_ne q]; exact S.th a h
    · simp at h
      subst h
      rw [upd_same]; simp
/-- a cell is written -/
theorem aft_write (S : Stt G F lab M H) {l : Nat} {a : Addr} {o : HO} (hl : lab[l]? = some a) : Aft F lab H F lab (upd H a o) := by
  have ha := List.mem_of_getElem? hl
  refine ⟨Same.refl F, ⟨[], by simp, by simp⟩, fun b u e n => ⟨by rw [upd_ne (fun z : b = a => n (z ▸ ha))]; exact e, rfl⟩, fun b e => ?_⟩
  by_cases q : b = a
  · subst q; rw [upd_same]; simp
  · rw [upd_ne q]; exact e
theorem Stt.write (S : Stt G F lab M H) {l : Nat} {a : Addr} {o : HO} {c : O} (hl : lab[l]? = some a) (fa : F a = none) (hc : CellOk G F lab (upd H a o) a c) :
    Stt G F lab (M.set l c) (upd H a o) := by
  refine ⟨fun b u e => ?_, by simp [S.len], S.nd, fun j b c' h1 h2 => ?_, fun b h => ?_⟩
  · rw [upd_ne (ne_of_none e fa)]; exact S.ex b u e
  · by_cases q : j = l
    · subst q
      rw [hl] at h1
      cases h1
      have hj : j < M.length := by rw [← S.len]; exact (List.getElem?_eq_some_iff.mp hl).1
      rw [List.getElem?_set_self hj] at h2
      cases h2
      exact hc
    · rw [List.getElem?_set_ne (Ne.symm q)] at h2
      have nb : b ≠ a := fun z => q (nodup_get S.nd (z ▸ h1) hl)
      exact (S.at_ j b c' h1 h2).aft (aft_write S hl) id (upd_ne nb)
  · by_cases q : b = a
    · subst q; rw [upd_same]; simp
    · rw [upd_ne q]; exact S.th b h
/-- a cell is frozen: o its content, x the tree -/
theorem aft_frz (S : Stt G F lab M H) {l : Nat} {a : Addr} {o : HO} (hl : lab[l]? = some a) (fa : F a = none) : Aft F lab H (upd F a o) lab H := by
  have ha := List.mem_of_getElem? hl
  refine ⟨fun b u e => ?_, ⟨[], by simp, by simp⟩, fun b u e n => ⟨e, upd_ne (fun z : b = a => n (z ▸ ha))⟩, fun b e => e⟩
  rw [upd_ne (ne_of_none e fa)]; exact e
theorem Stt.frz (S : Stt G F lab M H) {l : Nat} {a : Addr} {o : HO} {x : D} (hl : lab[l]? = some a) (fa : F a = none) (ho : H a = some o) (hx : Rep G (upd F a o) x (.ref a)) :
    Stt G (upd F a o) lab (M.set l (.frz x)) H := by
  have A := aft_frz (o := o) S hl fa
  refine ⟨fun b u e => ?_, by simp [S.len], S.nd, fun j b c' h1 h2 => ?_, fun b h => S.th b h⟩
  · by_cases q : b = a
    · subst q; rw [upd_same] at e; cases e; exact ho
    · rw [upd_ne q] at e; exact S.ex b u e
  · by_cases q : j = l
    · subst q
      rw [hl] at h1
      cases h1
      have hj : j < M.length := by rw [← S.len]; exact (List.getElem?_eq_some_iff.mp hl).1
      rw [List.getElem?_set_self hj] at h2
      cases h2
      exact hx
    · rw [List.getElem?_set_ne (Ne.symm q)] at h2
      have nb : b ≠ a := fun z => q (nodup_get S.nd (z ▸ h1) hl)
      exact (S.at_ j b c' h1 h2).aft A (fun f => by rw [upd_ne nb]; exact f) rfl
end

/-! ### outcomes -/
/-- an exception of the class c with the fields ws -/
def ExOk (G : GT) (F : Hp) (lab : List Addr) (H : Hp) (c : Nat) (ws : List W) (cls : Value) (dx : Option Addr) : Prop :=
  cls = .ref (G.ca c) ∧ ((ws = [] ∧ dx = none) ∨ ∃ d vs, dx = some d ∧ H d = some (.xd ((G.cf c).zip vs)) ∧ RepWs G F lab ws vs)
abbrev Rel (β α : Type) := Hp → List Addr → β → α → Prop
def Pst {α β : Type} (G : GT) (rel : Rel β α) (F : Hp) (lab : List Addr) (H : Hp) (r : R β) (Q : α → Hp → Prop) (E : XK) : Prop := match r with
  | .ok x M' => ∀ v F' lab' H', Aft F lab H F' lab' H' → Stt G F' lab' M' H' → rel F' lab' x v → Q v H'
  | .ex c ws M' => ∀ cls dx F' lab' H', Aft F lab H F' lab' H' → Stt G F' lab' M' H' → ExOk G F' lab' H' c ws cls dx → E cls dx H'
  | .bad => False
section
variable {α β γ δ : Type} {G : GT} {rel : Rel β α} {rel2 : Rel δ γ} {F F1 : Hp} {lab lab1 : List Addr} {H H1 : Hp} {r : R β} {Q Q' : α → Hp → Prop} {E E' : XK}
theorem Pst.aft (A : Aft F lab H F1 lab1 H1) (h : Pst G rel F lab H r Q E) : Pst G rel F1 lab1 H1 r Q E := by
  cases r with
  | ok x M' => exact fun v F' lab' H' B S q => h v F' lab' H' (A.trans B) S q
  | ex c ws M' => exact fun v dx F' lab' H' B S q => h v dx F' lab' H' (A.trans B) S q
  | bad => exact h
theorem Pst.imp (h : Pst G rel F lab H r Q E) (hq : ∀ v H', Q v H' → Q' v H') (he : ∀ c d H', E c d H' → E' c d H') : Pst G rel F lab H r Q' E' := by
  cases r with
  | ok x M' => exact fun v F' lab' H' B S q => hq _ _ (h v F' lab' H' B S q)
  | ex c ws M' => exact fun v dx F' lab' H' B S q => he _ _ _ (h v dx F' lab' H' B S q)
  | bad => exact h
theorem Pst.bind {P : α → Hp → Prop} {Qf : γ → Hp → Prop} {f : β → Sto → R δ} (h : Pst G rel2 F lab H (bnd r f) Qf E)
    (k : ∀ x M1 v F1 lab1 H1, Aft F lab H F1 lab1 H1 → Stt G F1 lab1 M1 H1 → rel F1 lab1 x v → Pst G rel2 F1 lab1 H1 (f x M1) Qf E → P v H1) : Pst G rel F lab H r P E := by
  cases r with
  | ok x M1 => exact fun v F1 lab1 H1 A S q => k x M1 v F1 lab1 H1 A S q (Pst.aft A h)
  | ex c ws M' => exact h
  | bad => exact h
end

/-! ### a state, an expression's meaning -/
structure Sim (G : GT) (F : Hp) (lab : List Addr) (ρ : Env) (M : Sto) (σ : St) (H : Hp) : Prop where
  st : Stt G F lab M H
  sl : ∀ (i : Nat) w, ρ[i]? = some (some w) → ∃ v, σ[i]? = some (some v) ∧ RepW G F lab w v
  ln : ρ.length = σ.length
theorem Sim.aft {G : GT} {F F1 : Hp} {lab lab1 : List Addr} {H H1 : Hp} {M M1 : Sto} {ρ : Env} {σ : St} (S : Sim G F lab ρ M σ H) (A : Aft F lab H F1 lab1 H1) (T : Stt G F1 lab1 M1 H1) : Sim G F1 lab1 ρ M1 σ H1 :=
  ⟨T, fun i w e => let ⟨v, h1, h2⟩ := S.sl i w e; ⟨v, h1, h2.aft A⟩, S.ln⟩
theorem Sim.set {G : GT} {F : Hp} {lab : List Addr} {H : Hp} {M : Sto} {ρ : Env} {σ : St} (S : Sim G F lab ρ M σ H) (i : Nat) {w : W} {v : V} (r : RepW G F lab w v) : Sim G F lab (ρ.set i (some w)) M (σ.set i (some v)) H := by
  refine ⟨S.st, fun j x e => ?_, by simp [S.ln]⟩
  by_cases q : j = i
  · subst q
    have hj : j < ρ.length := by have := (List.getElem?_eq_some_iff.mp e).1; simpa using this
    rw [List.getElem?_set_self hj] at e
    cases e
    exact ⟨v, by rw [List.getElem?_set_self (by rw [← S.ln]; exact hj)], r⟩
  · rw [List.getElem?_set_ne (Ne.symm q)] at e ⊢
    exact S.sl j x e
theorem Sim.unset {G : GT} {F : Hp} {lab : List Addr} {H : Hp} {M : Sto} {ρ : Env} {σ : St} (S : Sim G F lab ρ M σ H) (i : Nat) (x : Option V) : Sim G F lab (ρ.set i none) M (σ.set i x) H := by
  refine ⟨S.st, fun j y e => ?_, by simp [S.ln]⟩
  by_cases q : j = i
  · subst q
    have hj : j < ρ.length := by have := (List.getElem?_eq_some_iff.mp e).1; simpa using this
    rw [List.getElem?_set_self hj] at e
    cases e
  · rw [List.getElem?_set_ne (Ne.symm q)] at e ⊢
    exact S.sl j y e

abbrev EM := Env → Sto → R W
abbrev AM := Env → Sto → R (List W)
abbrev BM := Env → Sto → R Bool
def atS (Wx : WX) (σ : St) : XK := fun cls d H => Wx cls d σ H
def tM (G : GT) (Wx : WX) (m : EM) : TE := fun σ H Q => ∃ F lab ρ M, Sim G F lab ρ M σ H ∧ Pst G (RepW G) F lab H (m ρ M) Q (atS Wx σ)
def tMs (G : GT) (Wx : WX) (m : AM) : TA := fun σ H Q => ∃ F lab ρ M, Sim G F lab ρ M σ H ∧ Pst G (RepWs G) F lab H (m ρ M) Q (atS Wx σ)
def relB : Rel Bool Bool := fun _ _ x v => v = x
def tMb (G : GT) (Wx : WX) (m : BM) : TT := fun σ H Q => ∃ F lab ρ M, Sim G F lab ρ M σ H ∧ Pst G relB F lab H (m ρ M) Q (atS Wx σ)
theorem PE.imp {X : Cx} {e : Expr} {t t' : TE} (h : PE X e t) (k : ∀ σ H Q, t' σ H Q → t σ H Q) : PE X e t' := ⟨fun pins s σ H Q I q => h.run pins s σ H Q I (k σ H Q q)⟩
theorem PT.imp {X : Cx} {e : Expr} {t t' : TT} (h : PT X e t) (k : ∀ σ H Q, t' σ H Q → t σ H Q) : PT X e t' := ⟨fun pins s σ H Q I q => h.run pins s σ H Q I (k σ H Q q)⟩
theorem PW.imp {X : Cx} {e : Expr} {t t' : TT} (h : PW X e t) (k : ∀ σ H Q, t' σ H Q → t σ H Q) : PW X e t' := ⟨fun wh pins s σ H Q I q => h.run wh pins s σ H Q I (k σ H Q q)⟩
theorem PA.imp {X : Cx} {es : List Expr} {t t' : TA} (h : PA X es t) (k : ∀ σ H Q, t' σ H Q → t σ H Q) : PA X es t' := ⟨fun pos pins s σ H Q I q => h.run pos pins s σ H Q I (k σ H Q q)⟩
theorem PS.imp {X : Cx} {e : Stmt} {t t' : TS} (h : PS X e t) (k : ∀ D σ H, t' D σ H → t D σ H) : PS X e t' := ⟨fun pins s σ H D I q => h.run pins s σ H D I (k D σ H q)⟩
theorem PSs.imp {X : Cx} {e : List Stmt} {t t' : TS} (h : PSs X e t) (k : ∀ D σ H, t' D σ H → t D σ H) : PSs X e t' := ⟨fun pins s σ H D I q => h.run pins s σ H D I (k D σ H q)⟩
end VL
/-! V1: names, constants, operators, comparisons, tests, displays. -/
namespace VL
open PySem PySem.Spec PyProof.Rows L2

def lim : Nat := 1000000
theorem lim_line : lim ≤ sizeLine := by rw [sizeLine_eq]; decide
theorem le_line {n : Nat} (h : n ≤ lim) : n ≤ sizeLine := Nat.le_trans h lim_line
theorem lt_line {n : Nat} (h : n < lim) : n < sizeLine := Nat.lt_of_lt_of_le h lim_line

section
variable {α β : Type} {G : GT} {rel : Rel β α} {F : Hp} {lab : List Addr} {H : Hp} {M : Sto} {x : β} {v : α} {Q : α → Hp → Prop} {E : XK}
theorem Pst.here (S : Stt G F lab M H) (h : Pst G rel F lab H (.ok x M) Q E) (r : rel F lab x v) : Q v H := h v F lab H Aft.refl S r
end
section
variable {G : GT} {F : Hp} {lab : List Addr} {H : Hp} {M : Sto} {Q : VK} {E : XK} {ds : List D} {vs : List V}
theorem Pst.newL (S : Stt G F lab M H) (h : Pst G (RepW G) F lab H (.ok (.d (.lst ds)) M) Q E) (r : Reps G F ds vs) : ∀ p, H p = none → Q (.ref p) (upd H p (.lst vs)) := fun p hp =>
  h _ _ _ _ (aft_new S hp) (S.new hp) (rep_lst.mpr ⟨p, vs, rfl, upd_same, Reps.mono (aft_new (o := .lst vs) S hp).fx _ _ r⟩)
theorem Pst.newT (S : Stt G F lab M H) (h : Pst G (RepW G) F lab H (.ok (.d (.tup ds)) M) Q E) (r : Reps G F ds vs) : ∀ p, H p = none → Q (.ref p) (upd H p (.tup vs)) := fun p hp =>
  h _ _ _ _ (aft_new S hp) (S.new hp) (rep_tup.mpr ⟨p, vs, rfl, upd_same, Reps.mono (aft_new (o := .tup vs) S hp).fx _ _ r⟩)
end

/-! ### names and constants -/
def mV (i : Nat) : EM := fun ρ M => match ρ[i]? with
  | some (some w) => .ok w M
  | _ => .bad
def mC (x : D) : EM := fun _ M => .ok (.d x) M
/-- a name whose cell, if it is one, is given up: its content from here on is a tree -/
def frzW (w : W) (M : Sto) : R W := match w with
  | .d x => .ok (.d x) M
  | .cell l => match M[l]? with
    | some (.lst xs) => .ok (.d (.lst xs)) (M.set l (.frz (.lst xs)))
    | some (.dct ks xs) => .ok (.d (.dct ks xs)) (M.set l (.frz (.dct ks xs)))
    | some (.frz x) => .ok (.d x) M
    | _ => .bad
def mFz (i : Nat) : EM := fun ρ M => bnd (mV i ρ M) frzW
section
variable {X : Cx} {G : GT} {Wx : WX} {e : Expr} {i : Nat}
theorem sv (h : PE X e (tVar i)) : PE X e (tM G Wx (mV i)) := PE.imp h fun σ H Q => by
  rintro ⟨F, lab, ρ, M, S, h⟩
  unfold mV at h
  split at h
  · rename_i w hw
    obtain ⟨v, h1, h2⟩ := S.sl i w hw
    exact ⟨v, h1, h.here S.st h2⟩
  · exact h.elim
theorem sc {d : D} {v : V} (h : PE X e (tC v)) (r : ∀ F, Rep G F d v) : PE X e (tM G Wx (mC d)) := PE.imp h fun σ H Q => by
  rintro ⟨F, lab, ρ, M, S, h⟩
  exact Pst.here S.st h (r F)
theorem s_int {i j pos} : PE X (.Constant (.int i) j pos) (tM G Wx (mC (.int i))) := sc pe_int fun _ => rep_int.mpr rfl
theorem s_bl {b j pos} : PE X (.Constant (.bool b) j pos) (tM G Wx (mC (.bl b))) := sc pe_bl fun _ => rep_bl.mpr rfl
theorem s_non {j pos} : PE X (.Constant .none j pos) (tM G Wx (mC .non)) := sc pe_non fun _ => rep_non.mpr rfl
theorem s_str {x j pos} : PE X (.Constant (.str x) j pos) (tM G Wx (mC (.str x))) := sc pe_str fun _ => rep_str.mpr rfl
/-- giving up a cell -/
theorem frz_ok {F : Hp} {lab : List Addr} {M : Sto} {H : Hp} {w : W} {v : V} {Q : VK} {E : XK} (S : Stt G F lab M H) (r : RepW G F lab w v) (h : Pst G (RepW G) F lab H (frzW w M) Q E) : Q v H := by
  unfold frzW at h
  cases w with
  | d x => exact h.here S r
  | cell l =>
    obtain ⟨a, hl, rfl⟩ := r
    have hM : ∃ o, M[l]? = some o := by
      have := (List.getElem?_eq_some_iff.mp hl).1
      exact ⟨M[l]'(by rw [← S.len]; exact this), by simp⟩
    obtain ⟨o, ho⟩ := hM
    have C := S.at_ l a o hl ho
    simp only [ho] at h
    cases o with
    | lst xs =>
      obtain ⟨fa, vs, ha, rs⟩ := C
      have A := aft_frz (o := .lst vs) S hl fa
      have q : Rep G (upd F a (.lst vs)) (.lst xs) (.ref a) := rep_lst.mpr ⟨a, vs, rfl, upd_same, Reps.mono A.fx _ _ rs⟩
      exact h _ _ _ _ A (S.frz hl fa ha q) q
    | dct ks xs =>
      obtain ⟨fa, vs, ha, hn, rs⟩ := C
      have A := aft_frz (o := .dK (ks.zip vs)) S hl fa
      have q : Rep G (upd F a (.dK (ks.zip vs))) (.dct ks xs) (.ref a) := rep_dct.mpr ⟨a, vs, rfl, upd_same, hn, Reps.mono A.fx _ _ rs⟩
      exact h _ _ _ _ A (S.frz hl fa ha q) q
    | ins c ws => exact h.elim
    | frz x => exact h _ _ _ _ Aft.refl S C
    | wl ws => exact h.elim
theorem sfz (h : PE X e (tVar i)) : PE X e (tM G Wx (mFz i)) := PE.imp h fun σ H Q => by
  rintro ⟨F, lab, ρ, M, S, h⟩
  unfold mFz mV at h
  split at h
  · rename_i w hw
    obtain ⟨v, h1, h2⟩ := S.sl i w hw
    exact ⟨v, h1, frz_ok S.st h2 h⟩
  · exact h.elim
end

/-! ### operators -/
def OpS (G : GT) (r : R2) (f : W → W → Sto → R W) : Prop := ∀ (F : Hp) (lab : List Addr) (M : Sto) (H : Hp) (x y : W) (v u : V) (Q : VK) (E : XK),
  Stt G F lab M H → RepW G F lab x v → RepW G F lab y u → Pst G (RepW G) F lab H (f x y M) Q E → r v u H Q
def UnS (G : GT) (r : V → Hp → VK → Prop) (f : W → Sto → R W) : Prop := ∀ (F : Hp) (lab : List Addr) (M : Sto) (H : Hp) (x : W) (v : V) (Q : VK) (E : XK),
  Stt G F lab M H → RepW G F lab x v → Pst G (RepW G) F lab H (f x M) Q E → r v H Q
def CallS (G : GT) (r : List V → Hp → VK → Prop) (f : List W → Sto → R W) : Prop := ∀ (F : Hp) (lab : List Addr) (M : Sto) (H : Hp) (xs : List W) (vs : List V) (Q : VK) (E : XK),
  Stt G F lab M H → RepWs G F lab xs vs → Pst G (RepW G) F lab H (f xs M) Q E → r vs H Q
def m2 (f : W → W → Sto → R W) (a b : EM) : EM := fun ρ M => bnd (a ρ M) fun x M1 => bnd (b ρ M1) fun y M2 => f x y M2
def m1 (f : W → Sto → R W) (a : EM) : EM := fun ρ M => bnd (a ρ M) fun x M1 => f x M1
section
variable {X : Cx} {G : GT} {Wx : WX} {a b c : Expr} {ma mb mc : EM} {r r' : R2} {f f' : W → W → Sto → R W} {pos : Pos}
/-- the reading of two operands -/
theorem s2 (hs : OpS G r f) {σ : St} {H : Hp} {Q : VK} (h : tM G Wx (m2 f ma mb) σ H Q) : tOp r (tM G Wx ma) (tM G Wx mb) σ H Q := by
  obtain ⟨F, lab, ρ, M, S, h⟩ := h
  refine ⟨F, lab, ρ, M, S, Pst.bind h fun x M1 v F1 lab1 H1 A1 S1 r1 h1 => ?_⟩
  refine ⟨F1, lab1, ρ, M1, S.aft A1 S1, Pst.bind h1 fun y M2 u F2 lab2 H2 A2 S2 r2 h2 => ?_⟩
  exact hs _ _ _ _ _ _ _ _ _ _ S2 (r1.aft A2) r2 h2
theorem s_op {op : Operator} (ho : OpR X (binaryOp op) r) (hs : OpS G r f) (ha : PE X a (tM G Wx ma)) (hb : PE X b (tM G Wx mb)) : PE X (.BinOp a op b pos) (tM G Wx (m2 f ma mb)) :=
  PE.imp (pe_op ho ha hb) fun _ _ _ h => s2 hs h
theorem s_un {op : UnaryOp} {r : V → Hp → VK → Prop} {f : W → Sto → R W} (ho : UnR X (unaryOp op) r) (hs : UnS G r f) (ha : PE X a (tM G Wx ma)) : PE X (.UnaryOp op a pos) (tM G Wx (m1 f ma)) :=
  PE.imp (pe_un ho ha) fun σ H Q h => by
    obtain ⟨F, lab, ρ, M, S, h⟩ := h
    exact ⟨F, lab, ρ, M, S, Pst.bind h fun x M1 v F1 lab1 H1 A1 S1 r1 h1 => hs _ _ _ _ _ _ _ _ S1 r1 h1⟩
theorem s_cmp {op : CmpOp} (ho : OpR X (compareOp op) r) (hs : OpS G r f) (ha : PE X a (tM G Wx ma)) (hb : PE X b (tM G Wx mb)) (hm : behindInMarks op b = false := by first | exact nomark _ | rfl) : PE X (.Compare a [op] [b] pos) (tM G Wx (m2 f ma mb)) :=
  PE.imp (pe_cmpR ho ha hb hm) fun _ _ _ h => s2 hs h
/-- a value as a test -/
def toB (m : EM) : BM := fun ρ M => bnd (m ρ M) fun w M1 => match w with
  | .d (.bl k) => .ok k M1
  | _ => .bad
theorem bnd_assoc {α β γ : Type} (r : R α) (f : α → Sto → R β) (g : β → Sto → R γ) : bnd (bnd r f) g = bnd r fun x M => bnd (f x M) g := by cases r <;> rfl
theorem s_tcmp {op : CmpOp} (ho : OpR X (compareOp op) r) (hs : OpS G r f) (ha : PE X a (tM G Wx ma)) (hb : PE X b (tM G Wx mb)) (hm : behindInMarks op b = false := by first | exact nomark _ | rfl) : PT X (.Compare a [op] [b] pos) (tMb G Wx (toB (m2 f ma mb))) := by
  refine PT.imp (pt_cmpR ho ha hb hm) fun σ H Q h => ?_
  obtain ⟨F, lab, ρ, M, S, h⟩ := h
  refine s2 hs ⟨F, lab, ρ, M, S, Pst.bind h fun x M1 v F1 lab1 H1 A1 S1 r1 h1 => ?_⟩
  split at h1
  · exact ⟨_, w_bl r1, h1.here S1 rfl⟩
  · exact h1.elim
theorem s_tval {e : Expr} {m : EM} (h : PE X e (tM G Wx m)) (he : ∀ whole, isTrue e X.env whole = (do let v ← whole; standAt e.pos; holding [v] (truthy v)) := by intro _; rfl) : PT X e (tMb G Wx (toB m)) := by
  refine PT.imp (pt_val h he) fun σ H Q h => ?_
  obtain ⟨F, lab, ρ, M, S, h⟩ := h
  refine ⟨F, lab, ρ, M, S, Pst.bind h fun x M1 v F1 lab1 H1 A1 S1 r1 h1 => ?_⟩
  split at h1
  · exact ⟨_, w_bl r1, h1.here S1 rfl⟩
  · exact h1.elim
/-- truth of ints too -/
def toTr (m : EM) : BM := fun ρ M => bnd (m ρ M) fun w M1 => match w with
  | .d (.bl k) => .ok k M1
  | .d (.int i) => .ok (i != 0) M1
  | _ => .bad
theorem s_ttru {e : Expr} {m : EM} (h : PE X e (tM G Wx m)) (he : ∀ whole, isTrue e X.env whole = (do let v ← whole; standAt e.pos; holding [v] (truthy v)) := by intro _; rfl) : PT X e (tMb G Wx (toTr m)) := by
  refine PT.imp (pt_truth h he) fun σ H Q h => ?_
  obtain ⟨F, lab, ρ, M, S, h⟩ := h
  refine ⟨F, lab, ρ, M, S, Pst.bind h fun x M1 v F1 lab1 H1 A1 S1 r1 h1 => ?_⟩
  split at h1
  · rw [w_bl r1]
    exact ⟨_, rfl, h1.here S1 rfl⟩
  · rw [w_int r1]
    exact ⟨_, rfl, h1.here S1 rfl⟩
  · exact h1.elim
def bAnd (a b : BM) : BM := fun ρ M => bnd (a ρ M) fun k M1 => if k = true then b ρ M1 else .ok false M1
def bOr (a b : BM) : BM := fun ρ M => bnd (a ρ M) fun k M1 => if k = true then .ok true M1 else b ρ M1
def bNot (a : BM) : BM := fun ρ M => bnd (a ρ M) fun k M1 => .ok (!k) M1
variable {ba bb : BM} {rest : List Expr}
theorem s_and1 (ha : PT X a (tMb G Wx ba)) : PW X (.BoolOp .And [a] pos) (tMb G Wx ba) := pw_and1 ha
theorem s_or1 (ha : PT X a (tMb G Wx ba)) : PW X (.BoolOp .Or [a] pos) (tMb G Wx ba) := pw_or1 ha
theorem s_and (ha : PT X a (tMb G Wx ba)) (hb : PW X (.BoolOp .And (b :: rest) pos) (tMb G Wx bb)) : PW X (.BoolOp .And (a :: b :: rest) pos) (tMb G Wx (bAnd ba bb)) := by
  refine PW.imp (pw_and ha hb) fun σ H Q h => ?_
  obtain ⟨F, lab, ρ, M, S, h⟩ := h
  refine ⟨F, lab, ρ, M, S, Pst.bind h fun x M1 v F1 lab1 H1 A1 S1 r1 h1 => ?_⟩
  obtain rfl : v = x := r1
  cases v with
  | true => exact ⟨F1, lab1, ρ, M1, S.aft A1 S1, h1⟩
  | false => exact h1.here S1 rfl
theorem s_or (ha : PT X a (tMb G Wx ba)) (hb : PW X (.BoolOp .Or (b :: rest) pos) (tMb G Wx bb)) : PW X (.BoolOp .Or (a :: b :: rest) pos) (tMb G Wx (bOr ba bb)) := by
  refine PW.imp (pw_or ha hb) fun σ H Q h => ?_
  obtain ⟨F, lab, ρ, M, S, h⟩ := h
  refine ⟨F, lab, ρ, M, S, Pst.bind h fun x M1 v F1 lab1 H1 A1 S1 r1 h1 => ?_⟩
  obtain rfl : v = x := r1
  cases v with
  | false => exact ⟨F1, lab1, ρ, M1, S.aft A1 S1, h1⟩
  | true => exact h1.here S1 rfl
theorem s_not (ha : PT X a (tMb G Wx ba)) : PT X (.UnaryOp .Not a pos) (tMb G Wx (bNot ba)) := by
  refine PT.imp (pt_not ha) fun σ H Q h => ?_
  obtain ⟨F, lab, ρ, M, S, h⟩ := h
  refine ⟨F, lab, ρ, M, S, Pst.bind h fun x M1 v F1 lab1 H1 A1 S1 r1 h1 => ?_⟩
  obtain rfl : v = x := r1
  exact h1.here S1 rfl
/-- .. as values -/
def vAnd (a b : EM) : EM := fun ρ M => bnd (a ρ M) fun w M1 => match w with
  | .d (.bl true) => b ρ M1
  | .d (.bl false) => .ok (.d (.bl false)) M1
  | _ => .bad
def vOr (a b : EM) : EM := fun ρ M => bnd (a ρ M) fun w M1 => match w with
  | .d (.bl false) => b ρ M1
  | .d (.bl true) => .ok (.d (.bl true)) M1
  | _ => .bad
def vNot (a : EM) : EM := fun ρ M => bnd (a ρ M) fun w M1 => match w with
  | .d (.bl k) => .ok (.d (.bl (!k))) M1
  | _ => .bad
theorem s_vone {op} (h : PE X a (tM G Wx ma)) : PE X (.BoolOp op [a] pos) (tM G Wx ma) := pe_one h
theorem s_vand (ha : PE X a (tM G Wx ma)) (hb : PE X (.BoolOp .And (b :: rest) pos) (tM G Wx mb)) : PE X (.BoolOp .And (a :: b :: rest) pos) (tM G Wx (vAnd ma mb)) := by
  refine PE.imp (pe_and ha hb) fun σ H Q h => ?_
  obtain ⟨F, lab, ρ, M, S, h⟩ := h
  refine ⟨F, lab, ρ, M, S, Pst.bind h fun x M1 v F1 lab1 H1 A1 S1 r1 h1 => ?_⟩
  split at h1
  · exact ⟨true, w_bl r1, F1, lab1, ρ, M1, S.aft A1 S1, h1⟩
  · exact ⟨false, w_bl r1, h1.here S1 k_bl⟩
  · exact h1.elim
theorem s_vor (ha : PE X a (tM G Wx ma)) (hb : PE X (.BoolOp .Or (b :: rest) pos) (tM G Wx mb)) : PE X (.BoolOp .Or (a :: b :: rest) pos) (tM G Wx (vOr ma mb)) := by
  refine PE.imp (pe_or ha hb) fun σ H Q h => ?_
  obtain ⟨F, lab, ρ, M, S, h⟩ := h
  refine ⟨F, lab, ρ, M, S, Pst.bind h fun x M1 v F1 lab1 H1 A1 S1 r1 h1 => ?_⟩
  split at h1
  · exact ⟨false, w_bl r1, F1, lab1, ρ, M1, S.aft A1 S1, h1⟩
  · exact ⟨true, w_bl r1, h1.here S1 k_bl⟩
  · exact h1.elim
theorem s_vnot (ha : PE X a (tM G Wx ma)) : PE X (.UnaryOp .Not a pos) (tM G Wx (vNot ma)) := by
  refine PE.imp (pe_not ha) fun σ H Q h => ?_
  obtain ⟨F, lab, ρ, M, S, h⟩ := h
  refine ⟨F, lab, ρ, M, S, Pst.bind h fun x M1 v F1 lab1 H1 A1 S1 r1 h1 => ?_⟩
  split at h1
  · exact ⟨_, w_bl r1, h1.here S1 k_bl⟩
  · exact h1.elim
/-- a if t else b -/
def mIf (t : BM) (a b : EM) : EM := fun ρ M => bnd (t ρ M) fun k M1 => if k = true then a ρ M1 else b ρ M1
theorem s_ifx (hc : PT X c (tMb G Wx ba)) (ha : PE X a (tM G Wx ma)) (hb : PE X b (tM G Wx mb)) : PE X (.IfExp c a b pos) (tM G Wx (mIf ba ma mb)) := by
  refine PE.imp (pe_ifExp hc ha hb) fun σ H Q h => ?_
  obtain ⟨F, lab, ρ, M, S, h⟩ := h
  refine ⟨F, lab, ρ, M, S, Pst.bind h fun x M1 v F1 lab1 H1 A1 S1 r1 h1 => ?_⟩
  obtain rfl : v = x := r1
  cases v with
  | true => exact ⟨F1, lab1, ρ, M1, S.aft A1 S1, h1⟩
  | false => exact ⟨F1, lab1, ρ, M1, S.aft A1 S1, h1⟩
/-- a < b < c -/
def mChain (f f' : W → W → Sto → R W) (a b c : EM) : EM := fun ρ M => bnd (a ρ M) fun x M1 => bnd (b ρ M1) fun y M2 => bnd (f x y M2) fun z M3 => match z with
  | .d (.bl true) => bnd (c ρ M3) fun u M4 => f' y u M4
  | .d (.bl false) => .ok (.d (.bl false)) M3
  | _ => .bad
theorem sChain (hs : OpS G r f) (hs' : OpS G r' f') {σ : St} {H : Hp} {Q : VK} (h : tM G Wx (mChain f f' ma mb mc) σ H Q) : tChain r r' (tM G Wx ma) (tM G Wx mb) (tM G Wx mc) σ H Q := by
  obtain ⟨F, lab, ρ, M, S, h⟩ := h
  refine ⟨F, lab, ρ, M, S, Pst.bind h fun x M1 v F1 lab1 H1 A1 S1 r1 h1 => ?_⟩
  refine ⟨F1, lab1, ρ, M1, S.aft A1 S1, Pst.bind h1 fun y M2 u F2 lab2 H2 A2 S2 r2 h2 => ?_⟩
  refine hs _ _ _ _ _ _ _ _ _ _ S2 (r1.aft A2) r2 (Pst.bind h2 fun z M3 t F3 lab3 H3 A3 S3 r3 h3 => ?_)
  split at h3
  · refine ⟨true, w_bl r3, ?_⟩
    rw [if_pos rfl]
    refine ⟨F3, lab3, ρ, M3, S.aft ((A1.trans A2).trans A3) S3, Pst.bind h3 fun u4 M4 w4 F4 lab4 H4 A4 S4 r4 h4 => ?_⟩
    exact hs' _ _ _ _ _ _ _ _ _ _ S4 (r2.aft (A3.trans A4)) r4 h4
  · refine ⟨false, w_bl r3, ?_⟩
    rw [if_neg Bool.false_ne_true]
    exact h3.here S3 k_bl
  · exact h3.elim
theorem s_chain {op op' : CmpOp} (ho : OpR X (compareOp op) r) (hs : OpS G r f) (ho' : OpR X (compareOp op') r') (hs' : OpS G r' f') (ha : PE X a (tM G Wx ma)) (hb : PE X b (tM G Wx mb)) (hc : PE X c (tM G Wx mc))
    (hm : lastMarks [op, op'] [b, c] = false := by with_unfolding_all rfl) : PE X (.Compare a [op, op'] [b, c] pos) (tM G Wx (mChain f f' ma mb mc)) :=
  PE.imp (pe_chain ho ho' ha hb hc hm) fun _ _ _ h => sChain hs hs' h
theorem s_tchain {op op' : CmpOp} (ho : OpR X (compareOp op) r) (hs : OpS G r f) (ho' : OpR X (compareOp op') r') (hs' : OpS G r' f') (ha : PE X a (tM G Wx ma)) (hb : PE X b (tM G Wx mb)) (hc : PE X c (tM G Wx mc))
    (hm : lastMarks [op, op'] [b, c] = false := by with_unfolding_all rfl) : PT X (.Compare a [op, op'] [b, c] pos) (tMb G Wx (toB (mChain f f' ma mb mc))) := by
  refine PT.imp (pt_chain ho ho' ha hb hc hm) fun σ H Q h => ?_
  obtain ⟨F, lab, ρ, M, S, h⟩ := h
  refine sChain hs hs' ⟨F, lab, ρ, M, S, Pst.bind h fun x M1 v F1 lab1 H1 A1 S1 r1 h1 => ?_⟩
  split at h1
  · exact ⟨_, w_bl r1, h1.here S1 rfl⟩
  · exact h1.elim
end

/-! ### the operators by values -/
def intW (g : Int → Int → Option D) : W → W → Sto → R W := fun x y M => match x, y with
  | .d (.int i), .d (.int j) => match g i j with
    | some z => .ok (.d z) M
    | none => .bad
  | _, _ => .bad
def addW : W → W → Sto → R W := fun x y M => match x, y with
  | .d (.int i), .d (.int j) => .ok (.d (.int (i + j))) M
  | .d (.str a), .d (.str b) => if a.length + b.length ≤ lim then .ok (.d (.str (a ++ b))) M else .bad
  | .d (.lst a), .d (.lst b) => if a.length + b.length ≤ lim then .ok (.d (.lst (a ++ b))) M else .bad
  | .d (.tup a), .d (.tup b) => if a.length + b.length ≤ lim then .ok (.d (.tup (a ++ b))) M else .bad
  | _, _ => .bad
def mulOk (i j : Int) : Bool := decide (i.natAbs.log2 + j.natAbs.log2 < 1000000)
def mulW : W → W → Sto → R W := fun x y M => match x, y with
  | .d (.int i), .d (.int j) => if mulOk i j then .ok (.d (.int (i * j))) M else .bad
  | .d (.lst a), .d (.int k) => if a.length * k.toNat ≤ lim ∧ -(2 ^ 63) ≤ k ∧ k < 2 ^ 63 then .ok (.d (.lst (List.replicate k.toNat a).flatten)) M else .bad
  | _, _ => .bad
def subI (i j : Int) : Option D := some (.int (i - j))
def modI (i j : Int) : Option D := if 0 < j then some (.int (i % j)) else none
def divI (i j : Int) : Option D := if 0 < j ∧ j < 2 ^ 64 then some (.int (i / j)) else none
def powI (i j : Int) : Option D := if 0 ≤ j ∧ j ≤ 1000000 ∧ i.natAbs < 2 ^ 64 then some (.int (i ^ j.toNat)) else none
def ltI (i j : Int) : Option D := some (.bl (decide (i < j)))
def leI (i j : Int) : Option D := some (.bl (decide (i ≤ j)))
def gtI (i j : Int) : Option D := some (.bl (decide (j < i)))
def geI (i j : Int) : Option D := some (.bl (decide (j ≤ i)))
section
variable {X : Cx} {G : GT}
theorem os_int {C : Int → Int → Prop} {gv : Int → Int → V} {g : Int → Int → Option D} (h : ∀ i j z, g i j = some z → C i j ∧ ∀ F, Rep G F z (gv i j)) : OpS G (rI C gv) (intW g) := by
  intro F lab M H x y v u Q E S rx ry h1
  unfold intW at h1
  split at h1
  · rename_i i j
    split at h1
    · rename_i z hz
      obtain ⟨hc, hr⟩ := h i j z hz
      exact ⟨i, j, w_int rx, w_int ry, hc, Pst.here S h1 (hr F)⟩
    · exact h1.elim
  · exact h1.elim
theorem os_int0 {gv : Int → Int → V} {g : Int → Int → Option D} (h : ∀ i j z, g i j = some z → ∀ F, Rep G F z (gv i j)) : OpS G (rI0 gv) (intW g) := by
  intro F lab M H x y v u Q E S rx ry h1
  obtain ⟨i, j, h2, h3, _, h4⟩ := os_int (C := fun _ _ => True) (fun i j z e => ⟨trivial, h i j z e⟩) F lab M H x y v u Q E S rx ry h1
  exact ⟨i, j, h2, h3, h4⟩
theorem os_sub : OpS G (rI0 fun i j => .int (i - j)) (intW subI) := os_int0 fun i j z e F => by cases e; exact rep_int.mpr rfl
theorem os_mod : OpS G (rI (fun _ j => 0 < j) fun i j => .int (i % j)) (intW modI) := os_int fun i j z e => by
  unfold modI at e
  split at e
  · rename_i h; cases e; exact ⟨h, fun F => rep_int.mpr rfl⟩
  · cases e
theorem os_div : OpS G (rI CDivW fun i j => .int (i / j)) (intW divI) := os_int fun i j z e => by
  unfold divI at e
  split at e
  · rename_i h; cases e; exact ⟨wide_div (b := 64) h.1 (by omega) (by decide) (by decide), fun F => rep_int.mpr rfl⟩
  · cases e
theorem os_pow : OpS G (rI CPow fun i j => .int (i ^ j.toNat)) (intW powI) := os_int fun i j z e => by
  unfold powI at e
  split at e
  · rename_i h; cases e; exact ⟨h, fun F => rep_int.mpr rfl⟩
  · cases e
theorem os_lt : OpS G (rI0 fun i j => .bl (decide (i < j))) (intW ltI) := os_int0 fun i j z e F => by cases e; exact rep_bl.mpr rfl
theorem os_le : OpS G (rI0 fun i j => .bl (decide (i ≤ j))) (intW leI) := os_int0 fun i j z e F => by cases e; exact rep_bl.mpr rfl
theorem os_gt : OpS G (rI0 fun i j => .bl (decide (j < i))) (intW gtI) := os_int0 fun i j z e F => by cases e; exact rep_bl.mpr rfl
theorem os_ge : OpS G (rI0 fun i j => .bl (decide (j ≤ i))) (intW geI) := os_int0 fun i j z e F => by cases e; exact rep_bl.mpr rfl
def rNegI : V → Hp → VK → Prop := rU fun i => .int (-i)
def negW : W → Sto → R W := fun x M => match x with
  | .d (.int i) => .ok (.d (.int (-i))) M
  | _ => .bad
theorem us_neg : UnS G (rU fun i => .int (-i)) negW := by
  intro F lab M H x v Q E S rx h1
  unfold negW at h1
  split at h1
  · exact ⟨_, w_int rx, h1.here S k_int⟩
  · exact h1.elim
def rAddV (K : PySem.W.Frag) : R2 := fun x y H Q => (rI0 (fun i j => .int (i + j)) x y H Q ∨ (∃ i j, x = .str i ∧ y = .str j ∧ i.length + j.length ≤ sizeLine ∧ Q (.str (i ++ j)) H)) ∨ (rCat x y H Q ∨ rCatA K x y H Q)
theorem op_addV : OpR X (binaryOp .Add) (rAddV X.K) := (op_add.or op_add_str).or (op_cat.or op_catA)
theorem os_add : OpS G (rAddV G.K) addW := by
  intro F lab M H x y v u Q E S rx ry h1
  unfold addW at h1
  split at h1
  · exact .inl (.inl ⟨_, _, w_int rx, w_int ry, h1.here S k_int⟩)
  · split at h1
    · rename_i hz
      exact .inl (.inr ⟨_, _, w_str rx, w_str ry, le_line hz, h1.here S k_str⟩)
    · exact h1.elim
  · split at h1
    · rename_i hz
      obtain ⟨a, vs, rfl, ha, ra⟩ := w_lst rx
      obtain ⟨b, us, rfl, hb, rb⟩ := w_lst ry
      exact .inr (.inl ⟨a, b, vs, us, rfl, rfl, S.ex _ _ ha, S.ex _ _ hb, by rw [ra.length, rb.length]; exact le_line hz, Pst.newL S h1 (ra.append rb)⟩)
    · exact h1.elim
  · split at h1
    · rename_i ds es hz
      obtain ⟨a, vs, rfl, ha, ra⟩ := w_tup rx
      obtain ⟨b, us, rfl, hb, rb⟩ := w_tup ry
      refine .inr (.inr ⟨a, b, vs, us, rfl, rfl, SqT.of (S.ex _ _ ha), SqT.of (S.ex _ _ hb), by rw [ra.length, rb.length]; exact le_line hz, fun e => ?_, fun e1 e2 => ?_, fun _ _ => Pst.newT S h1 (ra.append rb)⟩)
      · subst e
        have : ds = [] := List.eq_nil_of_length_eq_zero (by rw [← ra.length]; rfl)
        subst this
        exact h1.here S ry
      · subst e2
        have : es = [] := List.eq_nil_of_length_eq_zero (by rw [← rb.length]; rfl)
        subst this
        exact h1.here S (show RepW G F lab (.d (.tup (ds ++ []))) _ by rw [List.append_nil]; exact rx)
    · exact h1.elim
  · exact h1.elim
theorem Reps.rep {F : Hp} {ds : List D} {vs : List V} (h : Reps G F ds vs) : ∀ k : Nat, Reps G F (List.replicate k ds).flatten (List.replicate k vs).flatten
  | 0 => reps_nil.mpr rfl
  | k + 1 => by
    rw [List.replicate_succ, List.replicate_succ, List.flatten_cons, List.flatten_cons]
    exact h.append (Reps.rep h k)
def rMulV : R2 := fun x y H Q => rI CMulW (fun i j => .int (i * j)) x y H Q ∨ rRep x y H Q
theorem op_mulV : OpR X (binaryOp .Mult) rMulV := op_mulW.or op_rep
theorem os_mul : OpS G rMulV mulW := by
  intro F lab M H x y v u Q E S rx ry h1
  unfold mulW at h1
  split at h1
  · split at h1
    · rename_i i j hz
      exact .inl ⟨i, j, w_int rx, w_int ry, (of_decide_eq_true (p := i.natAbs.log2 + j.natAbs.log2 < 1000000) hz), h1.here S k_int⟩
    · exact h1.elim
  · split at h1
    · rename_i hz
      obtain ⟨a, vs, rfl, ha, ra⟩ := w_lst rx
      exact .inr ⟨a, _, vs, rfl, w_int ry, S.ex _ _ ha, hz.2.1, hz.2.2, by rw [ra.length]; exact le_line hz.1, Pst.newL S h1 (ra.rep _)⟩
    · exact h1.elim
  · exact h1.elim
/-- is None, is not None -/
def noneW : W → Bool
  | .d .non => true
  | _ => false
def isNW : W → W → Sto → R W := fun x y M => match y with
  | .d .non => .ok (.d (.bl (noneW x))) M
  | _ => .bad
def notNW : W → W → Sto → R W := fun x y M => match y with
  | .d .non => .ok (.d (.bl (!noneW x))) M
  | _ => .bad
theorem isN_of {F : Hp} {lab : List Addr} {x : W} {v : V} (rx : RepW G F lab x v) : decide (v = .non) = noneW x := by
  cases x with
  | cell l => obtain ⟨a, _, rfl⟩ := rx; rfl
  | d x =>
    cases x with
    | non => rw [w_non rx]; rfl
    | bl b => rw [w_bl rx]; rfl
    | int b => rw [w_int rx]; rfl
    | str b => rw [w_str rx]; rfl
    | tup b => obtain ⟨_, _, rfl, _⟩ := w_tup rx; rfl
    | lst b => obtain ⟨_, _, rfl, _⟩ := w_lst rx; rfl
    | dct k b => obtain ⟨_, _, rfl, _⟩ := w_dct rx; rfl
    | ins c b => obtain ⟨_, _, _, rfl, _⟩ := rep_ins.mp rx; rfl
    | scr b => obtain ⟨_, rfl, _⟩ := w_scr rx; rfl
theorem os_isN : OpS G (fun x y H Q => y = .non ∧ Q (.bl (decide (x = .non))) H) isNW := by
  intro F lab M H x y v u Q E S rx ry h1
  unfold isNW at h1
  split at h1
  · exact ⟨w_non ry, by rw [isN_of rx]; exact h1.here S k_bl⟩
  · exact h1.elim
theorem os_notN : OpS G (fun x y H Q => y = .non ∧ Q (.bl (!decide (x = .non))) H) notNW := by
  intro F lab M H x y v u Q E S rx ry h1
  unfold notNW at h1
  split at h1
  · refine ⟨w_non ry, ?_⟩
    rw [isN_of rx]
    exact h1.here S k_bl
  · exact h1.elim
end

/-! ### arguments and displays -/
def aNil : AM := fun _ M => .ok [] M
def aCons (a : EM) (r : AM) : AM := fun ρ M => bnd (a ρ M) fun x M1 => bnd (r ρ M1) fun xs M2 => .ok (x :: xs) M2
section
variable {X : Cx} {G : GT} {Wx : WX} {e : Expr} {es : List Expr} {m : EM} {ms : AM} {pos : Pos}
theorem a_nil : PA X [] (tMs G Wx aNil) := PA.imp pa_nil fun σ H Q h => by
  obtain ⟨F, lab, ρ, M, S, h⟩ := h
  exact Pst.here (v := []) S.st h rfl
theorem a_cons (h : PE X e (tM G Wx m)) (hr : PA X es (tMs G Wx ms)) (hs : starEach (e :: es) X.env = (false, eval e X.env) :: starEach es X.env := by rfl) : PA X (e :: es) (tMs G Wx (aCons m ms)) :=
  PA.imp (pa_cons h hr hs) fun σ H Q h => by
    obtain ⟨F, lab, ρ, M, S, h⟩ := h
    refine ⟨F, lab, ρ, M, S, Pst.bind h fun x M1 v F1 lab1 H1 A1 S1 r1 h1 => ?_⟩
    refine ⟨F1, lab1, ρ, M1, S.aft A1 S1, Pst.bind h1 fun xs M2 vs F2 lab2 H2 A2 S2 r2 h2 => ?_⟩
    exact Pst.here S2 h2 ⟨v, vs, rfl, r1.aft A2, r2⟩
/-- the trees of some values, if none is a cell -/
def unW : List W → Option (List D)
  | [] => some []
  | .d x :: r => (unW r).map (x :: ·)
  | .cell _ :: _ => none
theorem unW_ok {F : Hp} {lab : List Addr} : ∀ {ws : List W} {ds : List D} {vs : List V}, unW ws = some ds → RepWs G F lab ws vs → Reps G F ds vs
  | [], _, _, e, h => by cases e; cases h; exact reps_nil.mpr rfl
  | .d x :: r, ds, vs, e, h => by
    obtain ⟨v, q, rfl, h1, h2⟩ := h
    unfold unW at e
    cases e2 : unW r with
    | none => rw [e2] at e; cases e
    | some ys =>
      rw [e2] at e
      cases e
      exact reps_cons.mpr ⟨v, q, rfl, h1, unW_ok e2 h2⟩
  | .cell l :: r, ds, vs, e, h => by cases e
theorem unW_len : ∀ {ws : List W} {ds : List D}, unW ws = some ds → ds.length = ws.length
  | [], _, e => by cases e; rfl
  | .d x :: r, ds, e => by
    unfold unW at e
    cases e2 : unW r with
    | none => rw [e2] at e; cases e
    | some ys => rw [e2] at e; cases e; simp [unW_len e2]
  | .cell l :: r, ds, e => by cases e
@[simp] theorem unW_map (ds : List D) : unW (ds.map .d) = some ds := by
  induction ds with
  | nil => rfl
  | cons d ds ih => simp [unW, ih]
def seqW (k : List D → D) (ws : List W) (M : Sto) : R W := match unW ws with
  | some ds => if ds.length ≤ lim then .ok (.d (k ds)) M else .bad
  | none => .bad
def mTup (a : AM) : EM := fun ρ M => bnd (a ρ M) (seqW .tup)
def mLst (a : AM) : EM := fun ρ M => bnd (a ρ M) (seqW .lst)
theorem s_tup {k} (h : PA X es (tMs G Wx ms)) : PE X (.Tuple es k pos) (tM G Wx (mTup ms)) := PE.imp (pe_tup h) fun σ H Q h => by
  obtain ⟨F, lab, ρ, M, S, h⟩ := h
  refine ⟨F, lab, ρ, M, S, Pst.bind h fun xs M1 vs F1 lab1 H1 A1 S1 r1 h1 => ?_⟩
  unfold seqW at h1
  split at h1
  · rename_i ds hd
    split at h1
    · rename_i hz
      have rr := unW_ok hd r1
      exact ⟨by rw [rr.length]; exact le_line hz, Pst.newT S1 h1 rr⟩
    · exact h1.elim
  · exact h1.elim
theorem s_lst (h : PA X es (tMs G Wx ms)) : PE X (.List es pos) (tM G Wx (mLst ms)) := PE.imp (pe_lst h) fun σ H Q h => by
  obtain ⟨F, lab, ρ, M, S, h⟩ := h
  refine ⟨F, lab, ρ, M, S, Pst.bind h fun xs M1 vs F1 lab1 H1 A1 S1 r1 h1 => ?_⟩
  unfold seqW at h1
  split at h1
  · rename_i ds hd
    split at h1
    · rename_i hz
      have rr := unW_ok hd r1
      exact ⟨by rw [rr.length]; exact le_line hz, Pst.newL S1 h1 rr⟩
    · exact h1.elim
  · exact h1.elim
/-- a new list kept as a cell: the display, as a cell -/
def cellW (ws : List W) (M : Sto) : R W := match unW ws with
  | some ds => if ds.length ≤ lim then .ok (.cell M.length) (M ++ [.lst ds]) else .bad
  | none => .bad
def mLstC (a : AM) : EM := fun ρ M => bnd (a ρ M) cellW
theorem Pst.newC {F : Hp} {lab : List Addr} {H : Hp} {M : Sto} {Q : VK} {E : XK} {ds : List D} {vs : List V} (S : Stt G F lab M H) (h : Pst G (RepW G) F lab H (.ok (.cell M.length) (M ++ [.lst ds])) Q E) (r : Reps G F ds vs) : ∀ p, H p = none → Q (.ref p) (upd H p (.lst vs)) := fun p hp =>
  h _ _ _ _ (aft_cell S hp) (S.cell hp fun A => ⟨(S.fresh hp).1, vs, upd_same, r⟩) ⟨p, by rw [← S.len]; simp, rfl⟩
theorem s_lstC (h : PA X es (tMs G Wx ms)) : PE X (.List es pos) (tM G Wx (mLstC ms)) := PE.imp (pe_lst h) fun σ H Q h => by
  obtain ⟨F, lab, ρ, M, S, h⟩ := h
  refine ⟨F, lab, ρ, M, S, Pst.bind h fun xs M1 vs F1 lab1 H1 A1 S1 r1 h1 => ?_⟩
  unfold cellW at h1
  split at h1
  · rename_i ds hd
    split at h1
    · rename_i hz
      have rr := unW_ok hd r1
      exact ⟨by rw [rr.length]; exact le_line hz, Pst.newC S1 h1 rr⟩
    · exact h1.elim
  · exact h1.elim
end
end VL
/-! V2: items, slices, built-ins. -/
namespace VL
open PySem PySem.Spec PyProof.Rows L2

/-! ### data for == and repr -/
mutual
def pyD : D → PyData
  | .non => .none
  | .bl b => .bool b
  | .int i => .int i
  | .str s => .str s
  | .tup xs => .tuple (pyDs xs)
  | .lst xs => .list (pyDs xs)
  | .dct _ _ => .dict []
  | .ins _ _ => .dict []
  | .scr _ => .dict []
def pyDs : List D → List PyData
  | [] => []
  | d :: ds => pyD d :: pyDs ds
end
mutual
def eqD : D → D → Bool
  | .non, .non => true
  | .bl a, .bl b => a == b
  | .bl a, .int j => (if a then 1 else 0) == j
  | .int i, .bl b => i == (if b then 1 else 0)
  | .int i, .int j => i == j
  | .str x, .str y => x == y
  | .lst xs, .lst ys => eqDs xs ys
  | .tup xs, .tup ys => eqDs xs ys
  | _, _ => false
def eqDs : List D → List D → Bool
  | [], [] => true
  | x :: xs, y :: ys => eqD x y && eqDs xs ys
  | _, _ => false
end
/-- a tree without dicts, instances, nested at most n deep -/
def okN : Nat → D → Bool
  | _, .non => true
  | _, .bl _ => true
  | _, .int _ => true
  | _, .str s => s.cps.all fun c => decide (c < 0x110000)
  | n + 1, .tup xs => xs.all (okN n)
  | n + 1, .lst xs => xs.all (okN n)
  | _, _ => false
mutual
theorem eqv_pyD : ∀ (x y : D) (n m : Nat), okN n x = true → okN m y = true → PyData.eqv (pyD x) (pyD y) = eqD x y
  | .non, y, n, m, hx, hy => by cases y <;> (try (cases m <;> simp [okN] at hy)) <;> simp [pyD, PyData.eqv, eqD]
  | .bl _, y, n, m, hx, hy => by cases y <;> (try (cases m <;> simp [okN] at hy)) <;> simp [pyD, PyData.eqv, eqD]
  | .int _, y, n, m, hx, hy => by cases y <;> (try (cases m <;> simp [okN] at hy)) <;> simp [pyD, PyData.eqv, eqD]
  | .str _, y, n, m, hx, hy => by cases y <;> (try (cases m <;> simp [okN] at hy)) <;> simp [pyD, PyData.eqv, eqD]
  | .tup xs, y, n, m, hx, hy => by
    cases n with
    | zero => simp [okN] at hx
    | succ n =>
      cases y <;> (try (cases m <;> simp [okN] at hy; done)) <;> (try (simp [pyD, PyData.eqv, eqD]; done))
      rename_i ys
      cases m with
      | zero => simp [okN] at hy
      | succ m =>
        simp only [pyD, PyData.eqv, eqD]
        exact eqv_pyDs xs ys n m (by simpa [okN] using hx) (by simpa [okN] using hy)
  | .lst xs, y, n, m, hx, hy => by
    cases n with
    | zero => simp [okN] at hx
    | succ n =>
      cases y <;> (try (cases m <;> simp [okN] at hy; done)) <;> (try (simp [pyD, PyData.eqv, eqD]; done))
      rename_i ys
      cases m with
      | zero => simp [okN] at hy
      | succ m =>
        simp only [pyD, PyData.eqv, eqD]
        exact eqv_pyDs xs ys n m (by simpa [okN] using hx) (by simpa [okN] using hy)
  | .dct _ _, y, n, m, hx, hy => by cases n <;> simp [okN] at hx
  | .ins _ _, y, n, m, hx, hy => by cases n <;> simp [okN] at hx
  | .scr _, y, n, m, hx, hy => by cases n <;> simp [okN] at hx
theorem eqv_pyDs : ∀ (xs ys : List D) (n m : Nat), (∀ x ∈ xs, okN n x = true) → (∀ y ∈ ys, okN m y = true) → PyData.eqvAll (pyDs xs) (pyDs ys) = eqDs xs ys
  | [], [], _, _, _, _ => by simp [pyDs, PyData.eqvAll, eqDs]
  | [], _ :: _, _, _, _, _ => by simp [pyDs, PyData.eqvAll, eqDs]
  | _ :: _, [], _, _, _, _ => by simp [pyDs, PyData.eqvAll, eqDs]
  | x :: xs, y :: ys, n, m, hx, hy => by
    simp only [pyDs, PyData.eqvAll, eqDs]
    rw [eqv_pyD x y n m (hx x (by simp)) (hy y (by simp)), eqv_pyDs xs ys n m (fun z hz => hx z (by simp [hz])) (fun z hz => hy z (by simp [hz]))]
end
mutual
theorem ok_lay : ∀ (n : Nat) (d : D), okN n d = true → (pyD d).canLay0 = true ∧ (pyD d).depth ≤ n
  | n, .non, h => by simp [pyD, PyData.canLay0, PyData.depth]
  | n, .bl _, h => by simp [pyD, PyData.canLay0, PyData.depth]
  | n, .int _, h => by simp [pyD, PyData.canLay0, PyData.depth]
  | n, .str s, h => by
    have h' : (s.cps.all fun c => decide (c < 0x110000)) = true := by cases n <;> exact h
    refine ⟨?_, by simp [pyD, PyData.depth]⟩
    simp only [pyD, PyData.canLay0]
    exact h'
  | 0, .tup xs, h => by simp [okN] at h
  | n + 1, .tup xs, h => by
    have := ok_lays n xs (by simpa [okN] using h)
    simp only [pyD, PyData.canLay0, PyData.depth]
    exact ⟨this.1, by omega⟩
  | 0, .lst xs, h => by simp [okN] at h
  | n + 1, .lst xs, h => by
    have := ok_lays n xs (by simpa [okN] using h)
    simp only [pyD, PyData.canLay0, PyData.depth]
    exact ⟨this.1, by omega⟩
  | n, .dct _ _, h => by cases n <;> simp [okN] at h
  | n, .ins _ _, h => by cases n <;> simp [okN] at h
  | n, .scr _, h => by cases n <;> simp [okN] at h
theorem ok_lays : ∀ (n : Nat) (ds : List D), (∀ d ∈ ds, okN n d = true) → PyData.canLayAll0 (pyDs ds) = true ∧ PyData.depthAll (pyDs ds) ≤ n
  | n, [], h => by simp [pyDs, PyData.canLayAll0, PyData.depthAll]
  | n, d :: ds, h => by
    have h1 := ok_lay n d (h d (by simp))
    have h2 := ok_lays n ds (fun z hz => h z (by simp [hz]))
    simp only [pyDs, PyData.canLayAll0, PyData.depthAll, h1.1, h2.1]
    exact ⟨rfl, by omega⟩
end
theorem ok_shaped {n : Nat} {d : D} (hn : n ≤ 64) (h : okN n d = true) : SeqAt.shaped (pyD d) = true := by
  obtain ⟨h1, h2⟩ := ok_lay n d h
  unfold SeqAt.shaped
  rw [h1, Bool.true_and]
  exact decide_eq_true (by omega)
mutual
theorem rep_dp {G : GT} {F : Hp} : ∀ (n : Nat) (d : D) (v : V), okN n d = true → Rep G F d v → Dp G.K F v (pyD d)
  | n, .non, v, h, r => by rw [rep_non.mp r]; simp only [pyD]; exact .non
  | n, .bl _, v, h, r => by rw [rep_bl.mp r]; simp only [pyD]; exact .bl _
  | n, .int _, v, h, r => by rw [rep_int.mp r]; simp only [pyD]; exact .int _
  | n, .str _, v, h, r => by rw [rep_str.mp r]; simp only [pyD]; exact .str _
  | 0, .tup xs, v, h, r => by simp [okN] at h
  | n + 1, .tup xs, v, h, r => by
    obtain ⟨a, vs, rfl, h1, h2⟩ := rep_tup.mp r
    simp only [pyD]
    exact .tup (SqT.of h1) (reps_dp n xs vs (by simpa [okN] using h) h2)
  | 0, .lst xs, v, h, r => by simp [okN] at h
  | n + 1, .lst xs, v, h, r => by
    obtain ⟨a, vs, rfl, h1, h2⟩ := rep_lst.mp r
    simp only [pyD]
    exact .lst (SqL.of h1) (reps_dp n xs vs (by simpa [okN] using h) h2)
  | n, .dct _ _, v, h, r => by cases n <;> simp [okN] at h
  | n, .ins _ _, v, h, r => by cases n <;> simp [okN] at h
  | n, .scr _, v, h, r => by cases n <;> simp [okN] at h
theorem reps_dp {G : GT} {F : Hp} : ∀ (n : Nat) (ds : List D) (vs : List V), (∀ d ∈ ds, okN n d = true) → Reps G F ds vs → DpAll G.K F vs (pyDs ds)
  | n, [], vs, h, r => by rw [reps_nil.mp r]; simp only [pyDs]; exact .nil
  | n, d :: ds, vs, h, r => by
    obtain ⟨v, q, rfl, h1, h2⟩ := reps_cons.mp r
    simp only [pyDs]
    exact .cons (rep_dp n d v (h d (by simp)) h1) (reps_dp n ds q (fun z hz => h z (by simp [hz])) h2)
end
/-- the tree that a value shows now: a live list's too -/
def see1 (w : W) (M : Sto) : Option D := match w with
  | .d x => some x
  | .cell l => match M[l]? with
    | some (.lst xs) => some (.lst xs)
    | some (.frz x) => some x
    | _ => none
def see1s (M : Sto) : List W → Option (List D)
  | [] => some []
  | w :: ws => match see1 w M, see1s M ws with
    | some d, some ds => some (d :: ds)
    | _, _ => none
def seeW (w : W) (M : Sto) : Option D := match w with
  | .d x => some x
  | .cell l => match M[l]? with
    | some (.lst xs) => some (.lst xs)
    | some (.frz x) => some x
    | some (.wl ws) => (see1s M ws).map .lst
    | _ => none
theorem see1_ok {G : GT} {F : Hp} {lab : List Addr} {M : Sto} {H : Hp} {w : W} {v : V} {d : D} (S : Stt G F lab M H) (r : RepW G F lab w v) (h : see1 w M = some d) : Rep G H d v := by
  unfold see1 at h
  cases w with
  | d x => cases h; exact Rep.mono S.ex _ _ r
  | cell l =>
    obtain ⟨a, hl, rfl⟩ := r
    simp only at h
    split at h
    · rename_i xs ho
      cases h
      obtain ⟨_, vs, ha, rs⟩ := S.at_ l a _ hl ho
      exact rep_lst.mpr ⟨a, vs, rfl, ha, Reps.mono S.ex _ _ rs⟩
    · rename_i x ho
      cases h
      exact Rep.mono S.ex _ _ (S.at_ l a _ hl ho)
    · cases h
theorem see1s_ok {G : GT} {F : Hp} {lab : List Addr} {M : Sto} {H : Hp} (S : Stt G F lab M H) : ∀ {ws : List W} {vs : List V} {ds : List D}, RepWs G F lab ws vs → see1s M ws = some ds → Reps G H ds vs
  | [], _, _, r, h => by cases r; cases h; exact reps_nil.mpr rfl
  | w :: ws, _, ds, r, h => by
    obtain ⟨v, q, rfl, h1, h2⟩ := r
    unfold see1s at h
    split at h
    · rename_i d ds' e1 e2
      cases h
      exact reps_cons.mpr ⟨v, q, rfl, see1_ok S h1 e1, see1s_ok S h2 e2⟩
    · cases h
theorem see_ok {G : GT} {F : Hp} {lab : List Addr} {M : Sto} {H : Hp} {w : W} {v : V} {d : D} (S : Stt G F lab M H) (r : RepW G F lab w v) (h : seeW w M = some d) : Rep G H d v := by
  unfold seeW at h
  cases w with
  | d x => cases h; exact Rep.mono S.ex _ _ r
  | cell l =>
    obtain ⟨a, hl, rfl⟩ := r
    simp only at h
    split at h
    · rename_i xs ho
      cases h
      obtain ⟨_, vs, ha, rs⟩ := S.at_ l a _ hl ho
      exact rep_lst.mpr ⟨a, vs, rfl, ha, Reps.mono S.ex _ _ rs⟩
    · rename_i x ho
      cases h
      exact Rep.mono S.ex _ _ (S.at_ l a _ hl ho)
    · rename_i ws ho
      cases e : see1s M ws with
      | none => rw [e] at h; cases h
      | some ds =>
        rw [e] at h
        cases h
        obtain ⟨_, vs, ha, rs⟩ := S.at_ l a _ hl ho
        exact rep_lst.mpr ⟨a, vs, rfl, ha, see1s_ok S rs e⟩
    · cases h
/-- .. a list or tuple: its place in H, its items in F -/
def itemsW (w : W) (M : Sto) : Option (List D) := match w with
  | .d (.lst xs) => some xs
  | .d (.tup xs) => some xs
  | .cell l => match M[l]? with
    | some (.lst xs) => some xs
    | some (.frz (.lst xs)) => some xs
    | _ => none
  | _ => none
theorem items_ok {G : GT} {F : Hp} {lab : List Addr} {M : Sto} {H : Hp} {w : W} {v : V} {ds : List D} (S : Stt G F lab M H) (r : RepW G F lab w v) (h : itemsW w M = some ds) :
    ∃ a vs, v = .ref a ∧ (SqL G.K H a vs ∨ SqT G.K H a vs) ∧ Reps G F ds vs := by
  unfold itemsW at h
  split at h
  · cases h
    obtain ⟨a, vs, rfl, h1, h2⟩ := w_lst r
    exact ⟨a, vs, rfl, .inl (SqL.of (S.ex _ _ h1)), h2⟩
  · cases h
    obtain ⟨a, vs, rfl, h1, h2⟩ := w_tup r
    exact ⟨a, vs, rfl, .inr (SqT.of (S.ex _ _ h1)), h2⟩
  · rename_i l
    obtain ⟨a, hl, rfl⟩ := r
    split at h
    · rename_i xs ho
      cases h
      obtain ⟨_, vs, ha, rs⟩ := S.at_ l a _ hl ho
      exact ⟨a, vs, rfl, .inl (SqL.of ha), rs⟩
    · rename_i xs ho
      cases h
      obtain ⟨b, vs, e, h1, h2⟩ := rep_lst.mp (S.at_ l a _ hl ho)
      cases e
      exact ⟨a, vs, rfl, .inl (SqL.of (S.ex _ _ h1)), h2⟩
    · cases h
  · cases h

/-! ### == and != -/
def eqW (neg : Bool) : W → W → Sto → R W := fun x y M => match seeW x M, seeW y M with
  | some (.str a), some (.str b) => .ok (.d (.bl (neg != decide (a = b)))) M
  | some a, some b => if okN 60 a && okN 60 b then .ok (.d (.bl (neg != eqD a b))) M else .bad
  | _, _ => .bad
section
variable {X : Cx} {G : GT}
def rEqV (K : PySem.W.Frag) : R2 := fun x y H Q => rEq x y H Q ∨ rEqD K x y H Q
def rNeV (K : PySem.W.Frag) : R2 := fun x y H Q => rNe x y H Q ∨ rNeD K x y H Q
theorem op_eqV (hu : X.A.units + 64 < cLine) : OpR X (compareOp .Eq) (rEqV X.K) := op_eq.or (op_eqD hu)
theorem op_neV (hu : X.A.units + 64 < cLine) : OpR X (compareOp .NotEq) (rNeV X.K) := op_ne.or (op_neD hu)
theorem dec_strV {a b : Str} : decide (V.str a = V.str b) = decide (a = b) := by
  by_cases h : a = b
  · subst h; simp
  · rw [decide_eq_false h, decide_eq_false (fun z => h (by cases z; rfl))]
theorem os_eq : OpS G (rEqV G.K) (eqW false) := by
  intro F lab M H x y v u Q E S rx ry h1
  unfold eqW at h1
  split at h1
  · rename_i a b e1 e2
    have q1 := rep_str.mp (see_ok S rx e1)
    have q2 := rep_str.mp (see_ok S ry e2)
    subst q1 q2
    refine .inl ⟨rfl, ?_⟩
    rw [dec_strV]
    have := h1.here S k_bl
    simpa using this
  · rename_i a b _ e1 e2
    split at h1
    · rename_i hk
      rw [Bool.and_eq_true] at hk
      refine .inr ⟨pyD a, pyD b, rep_dp 60 a v hk.1 (see_ok S rx e1), rep_dp 60 b u hk.2 (see_ok S ry e2), ok_shaped (by decide) hk.1, ok_shaped (by decide) hk.2, ?_⟩
      rw [eqv_pyD a b 60 60 hk.1 hk.2]
      have := h1.here S k_bl
      simpa using this
    · exact h1.elim
  · exact h1.elim
theorem os_ne : OpS G (rNeV G.K) (eqW true) := by
  intro F lab M H x y v u Q E S rx ry h1
  unfold eqW at h1
  split at h1
  · rename_i a b e1 e2
    have q1 := rep_str.mp (see_ok S rx e1)
    have q2 := rep_str.mp (see_ok S ry e2)
    subst q1 q2
    refine .inl ⟨rfl, ?_⟩
    rw [dec_strV]
    have := h1.here S k_bl
    simpa using this
  · rename_i a b _ e1 e2
    split at h1
    · rename_i hk
      rw [Bool.and_eq_true] at hk
      refine .inr ⟨pyD a, pyD b, rep_dp 60 a v hk.1 (see_ok S rx e1), rep_dp 60 b u hk.2 (see_ok S ry e2), ok_shaped (by decide) hk.1, ok_shaped (by decide) hk.2, ?_⟩
      rw [eqv_pyD a b 60 60 hk.1 hk.2]
      have := h1.here S k_bl
      simpa using this
    · exact h1.elim
  · exact h1.elim

/-! ### in, not in: flat items of a list or tuple -/
def flatD : D → Bool
  | .non => true
  | .bl _ => true
  | .int _ => true
  | .str _ => true
  | _ => false
def inW (neg : Bool) : W → W → Sto → R W := fun x y M => match x, itemsW y M with
  | .d a, some ds => if flatD a && ds.all flatD then .ok (.d (.bl (neg != ds.any fun b => eqD b a))) M else .bad
  | _, _ => .bad
theorem flat_eq {F F' : Hp} {a b : D} {v u : V} (ha : flatD a = true) (hb : flatD b = true) (ra : Rep G F a v) (rb : Rep G F' b u) : flatV v = true ∧ eqV v u = eqD a b := by
  cases a <;> simp [flatD] at ha <;> cases b <;> simp [flatD] at hb <;>
    simp only [rep_non, rep_bl, rep_int, rep_str] at ra rb <;> subst ra rb <;> simp [flatV, eqV, eqD]
theorem flat_any {F F' : Hp} {a : D} {v : V} (ha : flatD a = true) (ra : Rep G F' a v) : ∀ {ds : List D} {vs : List V}, ds.all flatD = true → Reps G F ds vs → vs.all flatV = true ∧ inV v vs = ds.any fun b => eqD b a
  | [], _, _, h => by rw [reps_nil.mp h]; exact ⟨rfl, rfl⟩
  | d :: ds, _, hd, h => by
    obtain ⟨w, r, rfl, h1, h2⟩ := reps_cons.mp h
    rw [List.all_cons, Bool.and_eq_true] at hd
    obtain ⟨i1, i2⟩ := flat_any ha ra hd.2 h2
    obtain ⟨j1, j2⟩ := flat_eq hd.1 ha h1 ra
    refine ⟨by rw [List.all_cons, j1, i1]; rfl, ?_⟩
    unfold inV at i2 ⊢
    rw [List.any_cons, List.any_cons, j2, i2]
theorem os_in (neg : Bool) : OpS G (rIn G.K neg) (inW neg) := by
  intro F lab M H x y v u Q E S rx ry h1
  unfold inW at h1
  split at h1
  · rename_i a ds hi
    split at h1
    · rename_i hk
      rw [Bool.and_eq_true] at hk
      obtain ⟨p, vs, rfl, hs, rs⟩ := items_ok S ry hi
      obtain ⟨i1, i2⟩ := flat_any (F := F) hk.1 rx hk.2 rs
      refine ⟨p, vs, rfl, hs, (flat_eq hk.1 hk.1 rx rx).1, i1, ?_⟩
      have := h1.here S k_bl
      rw [i2]
      cases neg <;> simpa using this
    · exact h1.elim
  · exact h1.elim
end

/-! ### items and slices -/
def ixW : W → W → Sto → R W := fun x y M => match x, y with
  | .d (.str s), .d (.int i) => match (if s.length ≤ lim then atI s.cps.toList i else none) with
    | some c => .ok (.d (.str ⟨#[c]⟩)) M
    | none => .bad
  | x, .d (.int i) => match itemsW x M with
    | some ds => match atI ds i with
      | some d => .ok (.d d) M
      | none => .bad
    | none => .bad
  | _, _ => .bad
theorem Reps.atI {G : GT} {F : Hp} {ds : List D} {vs : List V} {i : Int} {d : D} (r : Reps G F ds vs) (h : L2.atI ds i = some d) : ∃ v, L2.atI vs i = some v ∧ Rep G F d v := by
  obtain ⟨j, h1, h2, h3, h4, h5⟩ := atI_get h
  obtain ⟨v, e, q⟩ := r.get h2
  refine ⟨v, ?_, q⟩
  unfold L2.atI at h ⊢
  rw [r.length]
  cases hn : ixN ds.length i with
  | none => rw [hn] at h; cases h
  | some k =>
    rw [hn] at h
    have hj : ds[k]? = some d := h
    obtain ⟨w, e2, _⟩ := r.get hj
    have : k = j := by
      obtain ⟨a1, a2, a3, a4⟩ := ixN_seq hn
      rw [a1] at h1
      exact Option.some.inj h1
    subst this
    exact e
section
variable {X : Cx} {G : GT} {Wx : WX}
theorem os_ix : OpS G (rIx G.K) ixW := by
  intro F lab M H x y v u Q E S rx ry h1
  unfold ixW at h1
  split at h1
  · rename_i s i
    split at h1
    · rename_i c hc
      split at hc
      · rename_i hz
        exact .inr (.inr ⟨s, i, c, w_str rx, w_int ry, le_line hz, hc, h1.here S k_str⟩)
      · cases hc
    · exact h1.elim
  · rename_i i _
    split at h1
    · rename_i ds hd
      split at h1
      · rename_i d hx
        obtain ⟨a, vs, rfl, hs, rs⟩ := items_ok S rx hd
        obtain ⟨w, e, q⟩ := rs.atI hx
        rcases hs with hs | hs
        · exact .inl ⟨a, vs, i, w, rfl, w_int ry, hs, e, h1.here S (show RepW G F lab (.d d) w from q)⟩
        · exact .inr (.inl ⟨a, vs, i, w, rfl, w_int ry, hs, e, h1.here S (show RepW G F lab (.d d) w from q)⟩)
      · exact h1.elim
    · exact h1.elim
  · exact h1.elim
theorem s_ix {r : R2} {f : W → W → Sto → R W} {a b : Expr} {ma mb : EM} {pos : Pos} (hr : IxR X r) (hs : OpS G r f) (ha : PE X a (tM G Wx ma)) (hb : PE X b (tM G Wx mb)) (hp : PlainIx b := by intro _ _; rfl) : PE X (.Subscript a b pos) (tM G Wx (m2 f ma mb)) :=
  PE.imp (pe_ix hr ha hb hp) fun _ _ _ h => s2 hs h
/-- a slice's end -/
abbrev OM := Env → Sto → R (Option Int)
def relO : Rel (Option Int) (Option Int) := fun _ _ x v => v = x
def tMo (G : GT) (Wx : WX) (m : OM) : TO := fun σ H Q => ∃ F lab ρ M, Sim G F lab ρ M σ H ∧ Pst G relO F lab H (m ρ M) Q (atS Wx σ)
def oNone : OM := fun _ M => .ok none M
def oSome (m : EM) : OM := fun ρ M => bnd (m ρ M) fun w M1 => match w with
  | .d (.int i) => .ok (some i) M1
  | _ => .bad
theorem PO.imp {e : Option Expr} {t t' : TO} (h : PO X e t) (k : ∀ σ H Q, t' σ H Q → t σ H Q) : PO X e t' := ⟨fun pins s σ H Q I q => h.run pins s σ H Q I (k σ H Q q)⟩
theorem o_none : PO X none (tMo G Wx oNone) := PO.imp po_none fun σ H Q h => by
  obtain ⟨F, lab, ρ, M, S, h⟩ := h
  exact Pst.here (v := none) S.st h rfl
theorem o_some {e : Expr} {m : EM} (h : PE X e (tM G Wx m)) : PO X (some e) (tMo G Wx (oSome m)) := PO.imp (po_some h) fun σ H Q h => by
  obtain ⟨F, lab, ρ, M, S, h⟩ := h
  refine ⟨F, lab, ρ, M, S, Pst.bind h fun x M1 v F1 lab1 H1 A1 S1 r1 h1 => ?_⟩
  split at h1
  · exact ⟨_, w_int r1, h1.here S1 rfl⟩
  · exact h1.elim
/-- the items from lo to hi -/
def cutD {α : Type} (xs : List α) (lo hi : Option Int) : List α := (xs.drop (HT.sIx xs.length 0 lo)).take (HT.sIx xs.length xs.length hi - HT.sIx xs.length 0 lo)
theorem Reps.cut {F : Hp} {ds : List D} {vs : List V} (r : Reps G F ds vs) (lo hi : Option Int) : Reps G F (cutD ds lo hi) (cutV vs lo hi) := by
  unfold cutD cutV
  rw [r.length]
  exact (r.drop _).take _
def slW (x : W) (lo hi : Option Int) (M : Sto) : R W := match x with
  | .d (.lst xs) => .ok (.d (.lst (cutD xs lo hi))) M
  | .d (.tup xs) => .ok (.d (.tup (cutD xs lo hi))) M
  | .d (.scr ns) => .ok (.d (.lst ((cutD ns lo hi).map .int))) M
  | _ => .bad
def mSl (a : EM) (l h : OM) : EM := fun ρ M => bnd (a ρ M) fun x M1 => bnd (l ρ M1) fun lo M2 => bnd (h ρ M2) fun hi M3 => slW x lo hi M3
def rSlV (K : PySem.W.Frag) : V → Option Int → Option Int → Hp → VK → Prop := fun x lo hi H Q => rSlL K x lo hi H Q ∨ rSlA K x lo hi H Q
theorem cut_map (ns : List Int) (lo hi : Option Int) : cutV (ns.map V.int) lo hi = (cutD ns lo hi).map V.int := by
  unfold cutV cutD
  rw [List.length_map, ← List.map_drop, ← List.map_take]
theorem reps_ints {F : Hp} : ∀ (ns : List Int), Reps G F (ns.map .int) (ns.map V.int)
  | [] => reps_nil.mpr rfl
  | n :: ns => reps_cons.mpr ⟨.int n, ns.map V.int, rfl, rep_int.mpr rfl, reps_ints ns⟩
theorem cut_whole {α : Type} {xs : List α} {lo hi : Option Int} (h : HT.sIx xs.length 0 lo = 0 ∧ HT.sIx xs.length xs.length hi = xs.length) : cutD xs lo hi = xs := by
  unfold cutD
  rw [h.1, h.2]
  simp
theorem s_sl {e : Expr} {lo hi : Option Expr} {m : EM} {ml mh : OM} {p2 pos : Pos} (he : PE X e (tM G Wx m)) (hl : PO X lo (tMo G Wx ml)) (hh : PO X hi (tMo G Wx mh)) (hK : X.K = G.K) :
    PE X (.Subscript e (.Slice lo hi none p2) pos) (tM G Wx (mSl m ml mh)) := by
  refine PE.imp (pe_slice (sl_list.or sl_tupA) he hl hh) fun σ H Q h => ?_
  obtain ⟨F, lab, ρ, M, S, h⟩ := h
  refine ⟨F, lab, ρ, M, S, Pst.bind h fun x M1 v F1 lab1 H1 A1 S1 r1 h1 => ?_⟩
  refine ⟨F1, lab1, ρ, M1, S.aft A1 S1, Pst.bind h1 fun y M2 u F2 lab2 H2 A2 S2 r2 h2 => ?_⟩
  refine ⟨F2, lab2, ρ, M2, S.aft (A1.trans A2) S2, Pst.bind h2 fun z M3 w F3 lab3 H3 A3 S3 r3 h3 => ?_⟩
  obtain rfl : u = y := r2
  obtain rfl : w = z := r3
  have rx := r1.aft (A2.trans A3)
  rw [hK]
  unfold slW at h3
  split at h3
  · obtain ⟨a, vs, rfl, ha, ra⟩ := w_lst rx
    exact .inl ⟨a, vs, rfl, SqL.of (S3.ex _ _ ha), Pst.newL S3 h3 (ra.cut _ _)⟩
  · obtain ⟨a, vs, rfl, ha, ra⟩ := w_tup rx
    refine .inr ⟨a, vs, rfl, SqT.of (S3.ex _ _ ha), fun hw => ?_, fun _ => Pst.newT S3 h3 (ra.cut _ _)⟩
    rw [ra.length] at hw
    rw [cut_whole hw] at h3
    exact h3.here S3 rx
  · obtain ⟨a, rfl, ha⟩ := w_scr rx
    refine .inl ⟨a, _, rfl, same_l S3.ex ha, ?_⟩
    rw [cut_map]
    exact Pst.newL S3 h3 (reps_ints _)
  · exact h3.elim
end

/-! ### built-ins by values -/
def mCall (f : List W → Sto → R W) (a : AM) : EM := fun ρ M => bnd (a ρ M) f
section
variable {X : Cx} {G : GT} {Wx : WX} {x : Str} {p pos : Pos} {e : Expr} {es : List Expr} {ms : AM} {id T : String} {r : List V → Hp → VK → Prop} {f : List W → Sto → R W}
theorem sCB (hs : CallS G r f) {σ : St} {H : Hp} {Q : VK} (h : tM G Wx (mCall f ms) σ H Q) : tCB r (tMs G Wx ms) σ H Q := by
  obtain ⟨F, lab, ρ, M, S, h⟩ := h
  exact ⟨F, lab, ρ, M, S, Pst.bind h fun xs M1 vs F1 lab1 H1 A1 S1 r1 h1 => hs _ _ _ _ _ _ _ _ S1 r1 h1⟩
theorem s_callB (hc : CallR X (.builtin id) r) (hs : CallS G r f) (hm : X.mg x = none) (hv : bootBuiltins x = some (.builtin id)) (ha : PA X (e :: es) (tMs G Wx ms)) (hg : Gl X x := by rfl) (hn : x ≠ "__name__" := by decide) (hdb : (x == ("__debug__" : Str)) = false := by decide)
    (he : starEach (e :: es) X.env = (false, eval e X.env) :: starEach es X.env := by rfl) (hpl : (backTo pos (starEach es X.env)).any (·.1) = false := by rfl) : PE X (.Call (.Name x p) (e :: es) [] pos) (tM G Wx (mCall f ms)) :=
  PE.imp (pe_callB hc hg hm hv ha hn hdb he hpl) fun _ _ _ h => sCB hs h
theorem s_callTy (hc : CallR X (.type T) r) (hs : CallS G r f) (hm : X.mg x = none) (hv : bootBuiltins x = some (.type T)) (ha : PA X (e :: es) (tMs G Wx ms)) (hg : Gl X x := by rfl) (hn : x ≠ "__name__" := by decide) (hdb : (x == ("__debug__" : Str)) = false := by decide)
    (he : starEach (e :: es) X.env = (false, eval e X.env) :: starEach es X.env := by rfl) (hpl : (backTo pos (starEach es X.env)).any (·.1) = false := by rfl) : PE X (.Call (.Name x p) (e :: es) [] pos) (tM G Wx (mCall f ms)) :=
  PE.imp (pe_callTy hc hg hm hv ha hn hdb he hpl) fun _ _ _ h => sCB hs h
theorem rw1 {F : Hp} {lab : List Addr} {x : W} {vs : List V} (h : RepWs G F lab [x] vs) : ∃ v, vs = [v] ∧ RepW G F lab x v := by
  obtain ⟨v, r, rfl, h1, h2⟩ := h
  cases h2
  exact ⟨v, rfl, h1⟩
theorem rw2 {F : Hp} {lab : List Addr} {x y : W} {vs : List V} (h : RepWs G F lab [x, y] vs) : ∃ v u, vs = [v, u] ∧ RepW G F lab x v ∧ RepW G F lab y u := by
  obtain ⟨v, r, rfl, h1, h2⟩ := h
  obtain ⟨u, rfl, h3⟩ := rw1 h2
  exact ⟨v, u, rfl, h1, h3⟩

/-- len -/
def lenW : List W → Sto → R W := fun xs M => match xs with
  | [.d (.str s)] => if s.length ≤ lim then .ok (.d (.int s.length)) M else .bad
  | [x] => match itemsW x M with
    | some ds => .ok (.d (.int ds.length)) M
    | none => .bad
  | _ => .bad
def rLenV (K : PySem.W.Frag) : List V → Hp → VK → Prop := fun xs H Q => ∃ x n, xs = [x] ∧ LenV K x H n ∧ Q (.int n) H
theorem cs_len : CallS G (rLenV G.K) lenW := by
  intro F lab M H xs vs Q E S rs h1
  unfold lenW at h1
  split at h1
  · rename_i s
    obtain ⟨v, rfl, rv⟩ := rw1 rs
    split at h1
    · rename_i hz
      exact ⟨.str s, s.length, by rw [w_str rv], ⟨le_line hz, rfl⟩, h1.here S k_int⟩
    · exact h1.elim
  · obtain ⟨v, rfl, rv⟩ := rw1 rs
    split at h1
    · rename_i ds hd
      obtain ⟨a, vs, rfl, hs, rr⟩ := items_ok S rv hd
      refine ⟨_, ds.length, rfl, ?_, h1.here S k_int⟩
      rcases hs with hs | hs
      · exact .inl ⟨vs, hs, rr.length.symm⟩
      · exact .inr ⟨vs, hs, rr.length.symm⟩
    · exact h1.elim
  · exact h1.elim
/-- list(..), tuple(..) -/
def listW : List W → Sto → R W := fun xs M => match xs with
  | [x] => match itemsW x M with
    | some ds => .ok (.d (.lst ds)) M
    | none => .bad
  | _ => .bad
def listCW : List W → Sto → R W := fun xs M => match xs with
  | [x] => match itemsW x M with
    | some ds => .ok (.cell M.length) (M ++ [.lst ds])
    | none => .bad
  | _ => .bad
def rListV (K : PySem.W.Frag) : List V → Hp → VK → Prop := fun xs H Q => ∃ p ys, xs = [.ref p] ∧ (SqL K H p ys ∨ SqT K H p ys) ∧ ∀ l, H l = none → Q (.ref l) (upd H l (.lst ys))
theorem cs_list : CallS G (rListV G.K) listW := by
  intro F lab M H xs vs Q E S rs h1
  unfold listW at h1
  split at h1
  · obtain ⟨v, rfl, rv⟩ := rw1 rs
    split at h1
    · rename_i ds hd
      obtain ⟨a, vs, rfl, hs, rr⟩ := items_ok S rv hd
      exact ⟨a, vs, rfl, hs, Pst.newL S h1 rr⟩
    · exact h1.elim
  · exact h1.elim
theorem cs_listC : CallS G (rListV G.K) listCW := by
  intro F lab M H xs vs Q E S rs h1
  unfold listCW at h1
  split at h1
  · obtain ⟨v, rfl, rv⟩ := rw1 rs
    split at h1
    · rename_i ds hd
      obtain ⟨a, vs, rfl, hs, rr⟩ := items_ok S rv hd
      exact ⟨a, vs, rfl, hs, Pst.newC S h1 rr⟩
    · exact h1.elim
  · exact h1.elim
def tupleW : List W → Sto → R W := fun xs M => match xs with
  | [x] => match itemsW x M with
    | some ds => .ok (.d (.tup ds)) M
    | none => .bad
  | _ => .bad
theorem cs_tuple : CallS G (fun xs H Q => ∃ p ys, xs = [.ref p] ∧ ((SqL G.K H p ys ∧ ∀ l, H l = none → Q (.ref l) (upd H l (.tup ys))) ∨ (SqT G.K H p ys ∧ Q (.ref p) H))) tupleW := by
  intro F lab M H xs vs Q E S rs h1
  unfold tupleW at h1
  split at h1
  · rename_i x
    obtain ⟨v, rfl, rv⟩ := rw1 rs
    split at h1
    · rename_i ds hd
      obtain ⟨a, vs, e, hs, rr⟩ := items_ok S rv hd
      subst e
      rcases hs with hs | hs
      · exact ⟨a, vs, rfl, .inl ⟨hs, Pst.newT S h1 rr⟩⟩
      · unfold itemsW at hd
        split at hd
        · obtain ⟨b, us, e, hb, rb⟩ := w_lst rv
          cases e
          cases hd
          exact ⟨a, us, rfl, .inl ⟨SqL.of (S.ex _ _ hb), Pst.newT S h1 rb⟩⟩
        · obtain ⟨b, us, e, hb, rb⟩ := w_tup rv
          cases e
          cases hd
          exact ⟨a, us, rfl, .inr ⟨SqT.of (S.ex _ _ hb), h1.here S rv⟩⟩
        · rename_i l
          obtain ⟨b, hl, e⟩ := rv
          cases e
          split at hd
          · rename_i ys ho
            cases hd
            obtain ⟨_, us, ha, rs'⟩ := S.at_ l a _ hl ho
            exact ⟨a, us, rfl, .inl ⟨SqL.of ha, Pst.newT S h1 rs'⟩⟩
          · rename_i ys ho
            cases hd
            obtain ⟨c, us, e, hb, rb⟩ := rep_lst.mp (S.at_ l a _ hl ho)
            cases e
            exact ⟨a, us, rfl, .inl ⟨SqL.of (S.ex _ _ hb), Pst.newT S h1 rb⟩⟩
          · cases hd
        · cases hd
    · exact h1.elim
  · exact h1.elim
/-- int(n), max(m, n), min(m, n) -/
def int1W : List W → Sto → R W := fun xs M => match xs with
  | [.d (.int i)] => .ok (.d (.int i)) M
  | _ => .bad
theorem cs_int1 : CallS G (fun xs H Q => (∃ i, xs = [.int i] ∧ Q (.int i) H) ∨ ∃ k, xs = [.bl k] ∧ Q (.int (if k then 1 else 0)) H) int1W := by
  intro F lab M H xs vs Q E S rs h1
  unfold int1W at h1
  split at h1
  · obtain ⟨v, rfl, rv⟩ := rw1 rs
    exact .inl ⟨_, by rw [w_int rv], h1.here S k_int⟩
  · exact h1.elim
def max2W : List W → Sto → R W := fun xs M => match xs with
  | [.d (.int i), .d (.int j)] => .ok (.d (.int (if j > i then j else i))) M
  | _ => .bad
theorem cs_max2 : CallS G (fun xs H Q => ∃ i j, xs = [.int i, .int j] ∧ Q (.int (if j > i then j else i)) H) max2W := by
  intro F lab M H xs vs Q E S rs h1
  unfold max2W at h1
  split at h1
  · obtain ⟨v, u, rfl, rv, ru⟩ := rw2 rs
    exact ⟨_, _, by rw [w_int rv, w_int ru], h1.here S k_int⟩
  · exact h1.elim
def min2W : List W → Sto → R W := fun xs M => match xs with
  | [.d (.int i), .d (.int j)] => .ok (.d (.int (if j < i then j else i))) M
  | _ => .bad
theorem cs_min2 : CallS G (fun xs H Q => ∃ i j, xs = [.int i, .int j] ∧ Q (.int (if j < i then j else i)) H) min2W := by
  intro F lab M H xs vs Q E S rs h1
  unfold min2W at h1
  split at h1
  · obtain ⟨v, u, rfl, rv, ru⟩ := rw2 rs
    exact ⟨_, _, by rw [w_int rv, w_int ru], h1.here S k_int⟩
  · exact h1.elim
/-- all, any of a list of bools -/
def unB : List D → Option (List Bool)
  | [] => some []
  | .bl b :: r => (unB r).map (b :: ·)
  | _ :: _ => none
theorem unB_ok {F : Hp} : ∀ {ds : List D} {bs : List Bool} {vs : List V}, unB ds = some bs → Reps G F ds vs → vs = bs.map V.bl
  | [], _, _, e, h => by cases e; exact reps_nil.mp h
  | .bl b :: r, bs, vs, e, h => by
    obtain ⟨v, q, rfl, h1, h2⟩ := reps_cons.mp h
    unfold unB at e
    cases e2 : unB r with
    | none => rw [e2] at e; cases e
    | some ys =>
      rw [e2] at e
      cases e
      rw [rep_bl.mp h1, unB_ok e2 h2]
      rfl
  | .non :: _, _, _, e, _ => by cases e
  | .int _ :: _, _, _, e, _ => by cases e
  | .str _ :: _, _, _, e, _ => by cases e
  | .tup _ :: _, _, _, e, _ => by cases e
  | .lst _ :: _, _, _, e, _ => by cases e
  | .dct _ _ :: _, _, _, e, _ => by cases e
  | .ins _ _ :: _, _, _, e, _ => by cases e
  | .scr _ :: _, _, _, e, _ => by cases e
@[simp] theorem unB_map {α : Type} (f : α → Bool) (l : List α) : unB (l.map fun x => .bl (f x)) = some (l.map f) := by
  induction l with
  | nil => rfl
  | cons a l ih => simp [unB, ih]
def allW (k : List Bool → Bool) : List W → Sto → R W := fun xs M => match xs with
  | [.d (.lst ds)] => match unB ds with
    | some bs => .ok (.d (.bl (k bs))) M
    | none => .bad
  | _ => .bad
theorem cs_allany {k : List Bool → Bool} : CallS G (fun vs H Q => ∃ (a : Addr) (bs : List Bool), vs = [V.ref a] ∧ SqL G.K H a (bs.map V.bl) ∧ Q (.bl (k bs)) H) (allW k) := by
  intro F lab M H xs vs Q E S rs h1
  unfold allW at h1
  split at h1
  · split at h1
    · rename_i ds bs hb
      obtain ⟨v, rfl, rv⟩ := rw1 rs
      obtain ⟨a, us, rfl, ha, ra⟩ := w_lst rv
      have e := unB_ok hb ra
      subst e
      exact ⟨a, bs, rfl, SqL.of (S.ex _ _ ha), h1.here S k_bl⟩
    · exact h1.elim
  · exact h1.elim
/-- sorted: ints; pairs of ints -/
def unI : List D → Option (List Int)
  | [] => some []
  | .int i :: r => (unI r).map (i :: ·)
  | _ :: _ => none
theorem unI_eq : ∀ {ds : List D} {ns : List Int}, unI ds = some ns → ds = ns.map .int
  | [], _, e => by cases e; rfl
  | .int i :: r, ns, e => by
    unfold unI at e
    cases e2 : unI r with
    | none => rw [e2] at e; cases e
    | some ys => rw [e2] at e; cases e; rw [unI_eq e2]; rfl
  | .non :: _, _, e => by cases e
  | .bl _ :: _, _, e => by cases e
  | .str _ :: _, _, e => by cases e
  | .tup _ :: _, _, e => by cases e
  | .lst _ :: _, _, e => by cases e
  | .dct _ _ :: _, _, e => by cases e
  | .ins _ _ :: _, _, e => by cases e
  | .scr _ :: _, _, e => by cases e
@[simp] theorem unI_map (ns : List Int) : unI (ns.map .int) = some ns := by
  induction ns with
  | nil => rfl
  | cons a l ih => simp [unI, ih]
theorem reps_intsV {F : Hp} {ns : List Int} {vs : List V} (h : Reps G F (ns.map .int) vs) : vs = ns.map V.int := by
  induction ns generalizing vs with
  | nil => exact reps_nil.mp h
  | cons n ns ih =>
    obtain ⟨v, r, rfl, h1, h2⟩ := reps_cons.mp h
    rw [rep_int.mp h1, ih h2]
    rfl
def unP : List D → Option (List (Int × Int))
  | [] => some []
  | .tup [.int i, .int j] :: r => (unP r).map ((i, j) :: ·)
  | _ :: _ => none
def pairD (p : Int × Int) : D := .tup [.int p.1, .int p.2]
@[simp] theorem unP_map (ns : List (Int × Int)) : unP (ns.map pairD) = some ns := by
  induction ns with
  | nil => rfl
  | cons a l ih => simp [unP, pairD] at ih ⊢; exact ih
theorem unP_eq : ∀ {ds : List D} {ns : List (Int × Int)}, unP ds = some ns → ds = ns.map pairD
  | [], _, e => by cases e; rfl
  | d :: r, ns, e => by
    unfold unP at e
    split at e
    · rename_i h; cases h
    · rename_i i j r' h
      cases h
      cases e2 : unP r with
      | none => rw [e2] at e; cases e
      | some ys => rw [e2] at e; cases e; rw [unP_eq e2]; rfl
    · cases e
theorem sorted_one : ∀ {l m : List Int}, l.Perm m → l.Pairwise (· ≤ ·) → m.Pairwise (· ≤ ·) → l = m
  | [], m, p, _, _ => (List.Perm.eq_nil p.symm).symm
  | a :: l, [], p, _, _ => absurd p.length_eq (by simp)
  | a :: l, b :: m, p, hl, hm => by
    have h1 : a ≤ b := by
      rcases List.mem_cons.mp (p.mem_iff.mpr (List.mem_cons_self (a := b) (l := m))) with e | e
      · omega
      · exact (List.pairwise_cons.mp hl).1 b e
    have h2 : b ≤ a := by
      rcases List.mem_cons.mp (p.mem_iff.mp (List.mem_cons_self (a := a) (l := l))) with e | e
      · omega
      · exact (List.pairwise_cons.mp hm).1 a e
    have e : a = b := by omega
    subst e
    rw [sorted_one p.cons_inv (List.pairwise_cons.mp hl).2 (List.pairwise_cons.mp hm).2]
def sortI (ns : List Int) : List Int := ns.mergeSort fun a b => decide (a ≤ b)
theorem sortI_perm (ns : List Int) : (sortI ns).Perm ns := List.mergeSort_perm _ _
theorem sortI_sorted (ns : List Int) : (sortI ns).Pairwise (· ≤ ·) := by
  have h := List.pairwise_mergeSort (le := fun a b : Int => decide (a ≤ b)) (fun a b c h1 h2 => decide_eq_true (by have := of_decide_eq_true h1; have := of_decide_eq_true h2; omega)) (fun a b => by
    rw [Bool.or_eq_true]
    rcases Int.le_total a b with h | h
    · exact .inl (decide_eq_true h)
    · exact .inr (decide_eq_true h)) ns
  exact h.imp fun h => of_decide_eq_true h
/-- lexicographic -/
def leP (p q : Int × Int) : Bool := decide (p.1 < q.1 ∨ (p.1 = q.1 ∧ p.2 ≤ q.2))
def sortP (ns : List (Int × Int)) : List (Int × Int) := ns.mergeSort leP
theorem sortP_perm (ns : List (Int × Int)) : (sortP ns).Perm ns := List.mergeSort_perm _ _
theorem sortP_sorted (ns : List (Int × Int)) : (sortP ns).Pairwise fun a b => leP a b = true :=
  List.pairwise_mergeSort (le := leP) (fun a b c h1 h2 => by unfold leP at *; simp only [decide_eq_true_eq] at *; omega) (fun a b => by unfold leP; simp only [Bool.or_eq_true, decide_eq_true_eq]; omega) ns
theorem sortedP_one : ∀ {l m : List (Int × Int)}, l.Perm m → l.Pairwise (fun a b => leP a b = true) → m.Pairwise (fun a b => leP a b = true) → l = m
  | [], m, p, _, _ => (List.Perm.eq_nil p.symm).symm
  | a :: l, [], p, _, _ => absurd p.length_eq (by simp)
  | a :: l, b :: m, p, hl, hm => by
    have h1 : a = b ∨ leP a b = true := by
      rcases List.mem_cons.mp (p.mem_iff.mpr (List.mem_cons_self (a := b) (l := m))) with e | e
      · exact .inl e.symm
      · exact .inr ((List.pairwise_cons.mp hl).1 b e)
    have h2 : a = b ∨ leP b a = true := by
      rcases List.mem_cons.mp (p.mem_iff.mp (List.mem_cons_self (a := a) (l := l))) with e | e
      · exact .inl e
      · exact .inr ((List.pairwise_cons.mp hm).1 a e)
    have e : a = b := by
      rcases h1 with h | h1
      · exact h
      · rcases h2 with h | h2
        · exact h
        · unfold leP at h1 h2
          simp only [decide_eq_true_eq] at h1 h2
          exact Prod.ext (by omega) (by omega)
    subst e
    rw [sortedP_one p.cons_inv (List.pairwise_cons.mp hl).2 (List.pairwise_cons.mp hm).2]
def sortedW : List W → Sto → R W := fun xs M => match xs with
  | [x] => match itemsW x M with
    | some ds => match unI ds with
      | some ns => .ok (.d (.lst ((sortI ns).map .int))) M
      | none => match unP ds with
        | some ps => .ok (.d (.lst ((sortP ps).map pairD))) M
        | none => .bad
    | none => .bad
  | _ => .bad
theorem pair_one {F : Hp} {p q : Int × Int} {v : V} (h : Rep G F (pairD p) v) (h' : Rep G F (pairD q) v) : p = q := by
  obtain ⟨a, vs, rfl, h1, h2⟩ := rep_tup.mp h
  obtain ⟨b, us, e, h3, h4⟩ := rep_tup.mp h'
  cases e
  rw [h1] at h3
  cases h3
  have e1 := reps_intsV (ns := [p.1, p.2]) h2
  have e2 := reps_intsV (ns := [q.1, q.2]) h4
  rw [e1] at e2
  simp at e2
  exact Prod.ext e2.1 e2.2
open Classical in
noncomputable def pairOf (G : GT) (F : Hp) (v : V) : Int × Int := if h : ∃ p, Rep G F (pairD p) v then Classical.choose h else (0, 0)
theorem pairOf_eq {F : Hp} {p : Int × Int} {v : V} (h : Rep G F (pairD p) v) : pairOf G F v = p := by
  have e : ∃ p, Rep G F (pairD p) v := ⟨p, h⟩
  unfold pairOf
  rw [dif_pos e]
  exact pair_one (Classical.choose_spec e) h
theorem reps_pairs {F : Hp} : ∀ {ps : List (Int × Int)} {vs : List V}, Reps G F (ps.map pairD) vs → vs.map (pairOf G F) = ps ∧ ∀ v ∈ vs, Rep G F (pairD (pairOf G F v)) v
  | [], _, h => by rw [reps_nil.mp h]; exact ⟨rfl, fun _ z => nomatch z⟩
  | p :: ps, _, h => by
    obtain ⟨v, r, rfl, h1, h2⟩ := reps_cons.mp h
    obtain ⟨i1, i2⟩ := reps_pairs h2
    have e := pairOf_eq h1
    refine ⟨by rw [List.map_cons, e, i1], fun u hu => ?_⟩
    rcases List.mem_cons.mp hu with rfl | hu
    · rw [e]; exact h1
    · exact i2 u hu
theorem reps_ofPairs {F : Hp} : ∀ {vs : List V}, (∀ v ∈ vs, Rep G F (pairD (pairOf G F v)) v) → Reps G F ((vs.map (pairOf G F)).map pairD) vs
  | [], _ => reps_nil.mpr rfl
  | v :: vs, h => reps_cons.mpr ⟨v, vs, rfl, h v (by simp), reps_ofPairs fun u hu => h u (by simp [hu])⟩
def rSortedV (K : PySem.W.Frag) : List V → Hp → VK → Prop := fun vs H Q => rSortedI K vs H Q ∨ rSortedPO K vs H Q
theorem call_sortedV : CallR X (.builtin "sorted") (rSortedV X.K) := cr_sortedI.or cr_sortedPO
theorem items_lst {F : Hp} {lab : List Addr} {M : Sto} {H : Hp} {w : W} {v : V} {ds : List D} (S : Stt G F lab M H) (r : RepW G F lab w v) (h : listW [w] M = .ok (.d (.lst ds)) M) (hn : ∀ xs, w ≠ .d (.tup xs)) :
    ∃ a vs, v = .ref a ∧ SqL G.K H a vs ∧ Reps G F ds vs := by
  unfold listW at h
  simp only at h
  split at h
  · rename_i ds' hd
    cases h
    unfold itemsW at hd
    split at hd
    · cases hd
      obtain ⟨b, us, rfl, hb, rb⟩ := w_lst r
      exact ⟨b, us, rfl, SqL.of (S.ex _ _ hb), rb⟩
    · exact absurd rfl (hn _)
    · rename_i l
      obtain ⟨a, hl, rfl⟩ := r
      split at hd
      · rename_i xs ho
        cases hd
        obtain ⟨_, us, ha, rs'⟩ := S.at_ l a _ hl ho
        exact ⟨a, us, rfl, SqL.of ha, rs'⟩
      · rename_i ys ho
        cases hd
        obtain ⟨c, us, e, hb, rb⟩ := rep_lst.mp (S.at_ l a _ hl ho)
        cases e
        exact ⟨a, us, rfl, SqL.of (S.ex _ _ hb), rb⟩
      · cases hd
    · cases hd
  · cases h
def notTup : W → Bool
  | .d (.tup _) => false
  | _ => true
def sortW : List W → Sto → R W := fun xs M => match xs with
  | [x] => if notTup x then sortedW [x] M else .bad
  | _ => .bad
theorem cs_sorted : CallS G (rSortedV G.K) sortW := by
  intro F lab M H xs vs Q E S rs h1
  unfold sortW at h1
  split at h1
  · rename_i x
    split at h1
    · rename_i hnt
      obtain ⟨v, rfl, rv⟩ := rw1 rs
      unfold sortedW at h1
      simp only at h1
      split at h1
      · rename_i ds hd
        have hl : listW [x] M = .ok (.d (.lst ds)) M := by unfold listW; simp only; rw [hd]
        obtain ⟨a, us, rfl, ha, ra⟩ := items_lst S rv hl (fun xs e => by subst e; cases hnt)
        split at h1
        · rename_i ns hi
          have e := unI_eq hi
          subst e
          have e2 := reps_intsV ra
          subst e2
          refine .inl ⟨a, ns, rfl, ha, fun ns' p hp hs hn => ?_⟩
          have e3 : ns' = sortI ns := sorted_one (hp.trans (sortI_perm ns).symm) hs (sortI_sorted ns)
          subst e3
          exact Pst.newL S h1 (reps_ints _) p hn
        · split at h1
          · rename_i ps hp
            have e := unP_eq hp
            subst e
            obtain ⟨i1, i2⟩ := reps_pairs ra
            refine .inr ⟨a, us, pairOf G F, rfl, ha, fun u hu => ?_, fun ys p hs ht hn => ?_⟩
            · obtain ⟨t, ws, e, h3, h4⟩ := rep_tup.mp (i2 u hu)
              have e5 := reps_intsV (ns := [(pairOf G F u).1, (pairOf G F u).2]) h4
              subst e5
              exact ⟨t, e, S.ex _ _ h3⟩
            · have hy : ∀ u ∈ ys, Rep G F (pairD (pairOf G F u)) u := fun u hu => i2 u (ht.perm.mem_iff.mp hu)
              have e6 : ys.map (pairOf G F) = sortP ps := by
                refine sortedP_one ?_ ?_ (sortP_sorted ps)
                · have := ht.perm.map (pairOf G F)
                  rw [i1] at this
                  exact this.trans (sortP_perm ps).symm
                · refine List.pairwise_map.mpr (hs.imp fun {x y} h => ?_)
                  have h := SrtO.lexB_no.mp h
                  unfold leP
                  exact decide_eq_true (by omega)
              have rr := reps_ofPairs hy
              rw [e6] at rr
              exact Pst.newL S h1 rr p hn
          · exact h1.elim
      · exact h1.elim
    · exact h1.elim
  · exact h1.elim

/-! ### isinstance with a built-in class -/
def tyW (w : W) (M : Sto) : Option String := match w with
  | .d .non => some "NoneType"
  | .d (.bl _) => some "bool"
  | .d (.int _) => some "int"
  | .d (.str _) => some "str"
  | .d (.tup _) => some "tuple"
  | .d (.lst _) => some "list"
  | .d (.dct _ _) => some "dict"
  | .cell l => match M[l]? with
    | some (.lst _) => some "list"
    | some (.wl _) => some "list"
    | some (.dct _ _) => some "dict"
    | some (.frz (.lst _)) => some "list"
    | some (.frz (.dct _ _)) => some "dict"
    | _ => none
  | _ => none
theorem ty_ok {F : Hp} {lab : List Addr} {M : Sto} {H : Hp} {w : W} {v : V} {t : String} (S : Stt G F lab M H) (r : RepW G F lab w v) (h : tyW w M = some t) : TyX G.K H v (.type t) := by
  unfold tyW at h
  split at h
  · cases h; rw [w_non r]; exact .base .non
  · cases h; rw [w_bl r]; exact .base (.bl _)
  · cases h; rw [w_int r]; exact .base (.int _)
  · cases h; rw [w_str r]; exact .base (.str _)
  · cases h
    obtain ⟨b, us, rfl, hb, rb⟩ := w_tup r
    exact .base (.tup (S.ex _ _ hb))
  · cases h
    obtain ⟨b, us, rfl, hb, rb⟩ := w_lst r
    exact .base (.lst (S.ex _ _ hb))
  · cases h
    obtain ⟨b, us, rfl, hb, _, rb⟩ := w_dct r
    exact .base (.dK (S.ex _ _ hb))
  · rename_i l
    obtain ⟨a, hl, rfl⟩ := r
    split at h
    · rename_i ho
      cases h
      obtain ⟨_, us, ha, _⟩ := S.at_ l a _ hl ho
      exact .base (.lst ha)
    · rename_i ho
      cases h
      obtain ⟨_, us, ha, _⟩ := S.at_ l a _ hl ho
      exact .base (.lst ha)
    · rename_i ho
      cases h
      obtain ⟨_, us, ha, _⟩ := S.at_ l a _ hl ho
      exact .base (.dK ha)
    · rename_i ho
      cases h
      obtain ⟨b, us, e, hb, rb⟩ := rep_lst.mp (S.at_ l a _ hl ho)
      cases e
      exact .base (.lst (S.ex _ _ hb))
    · rename_i ho
      cases h
      obtain ⟨b, us, e, hb, _, rb⟩ := rep_dct.mp (S.at_ l a _ hl ho)
      cases e
      exact .base (.dK (S.ex _ _ hb))
    · cases h
  · cases h
def isiT (T t : String) : Bool := T == t || (T == "int" && t == "bool")
def isTy (t : String) : Bool := ["NoneType", "bool", "int", "str", "tuple", "list", "dict"].contains t
theorem kit_all : ∀ T ∈ ["bool", "int", "str", "tuple", "list", "dict"], ∀ t ∈ ["NoneType", "bool", "int", "str", "tuple", "list", "dict"], kitB t T = some (isiT T t) := by decide +kernel
theorem ty_mem {w : W} {M : Sto} {t : String} (h : tyW w M = some t) : t ∈ ["NoneType", "bool", "int", "str", "tuple", "list", "dict"] := by
  unfold tyW at h
  split at h <;> try (first | (cases h; simp; done) | (cases h; done))
  split at h <;> (first | (cases h; simp; done) | (cases h; done))
def mIsi (T : String) (m : EM) : EM := fun ρ M => bnd (m ρ M) fun w M1 => match tyW w M1 with
  | some t => .ok (.d (.bl (isiT T t))) M1
  | none => .bad
theorem s_isi {y : Str} {m : EM} {p2 : Pos} (hT : T ∈ ["bool", "int", "str", "tuple", "list", "dict"]) (h : PE X e (tM G Wx m)) (hK : X.K = G.K) (hi : X.mg "isinstance" = none) (hm : X.mg y = none) (hv : bootBuiltins y = some (.type T)) (hg : Gl X "isinstance" := by rfl) (hg2 : Gl X y := by rfl)
    (hn : y ≠ "__name__" := by decide) (hdb : (y == ("__debug__" : Str)) = false := by decide) (hs1 : starEach [e, .Name y p2] X.env = (false, eval e X.env) :: starEach [.Name y p2] X.env := by rfl) (hb : bootBuiltins "isinstance" = some (.builtin "isinstance") := by decide +kernel) :
    PE X (.Call (.Name "isinstance" p) [e, .Name y p2] [] pos) (tM G Wx (mIsi T m)) := by
  refine PE.imp (pe_callB call_isi hg hi hb (pa_cons h (pa_cons (pe_bltn hg2 hm hv (v := .ty T) rfl hn hdb) pa_nil) hs1) (by decide) (by decide) hs1 (by rfl)) fun σ H Q h => ?_
  obtain ⟨F, lab, ρ, M, S, h⟩ := h
  refine ⟨F, lab, ρ, M, S, Pst.bind h fun w M1 v F1 lab1 H1 A1 S1 r1 h1 => ?_⟩
  split at h1
  · rename_i t ht
    have ty := ty_ok S1 r1 ht
    rw [← hK] at ty
    exact ⟨v, .ty T, .type t, .type T, _, rfl, .ty T, ty, kit_ty (kit_all T hT t (ty_mem ht)), h1.here S1 k_bl⟩
  · exact h1.elim

/-! ### repr -/
mutual
def rlen : D → Nat
  | .non => 5
  | .bl _ => 5
  | .int i => i.natAbs.log2 + 3
  | .str s => 10 * s.length + 12
  | .tup xs => rlens xs + 3
  | .lst xs => rlens xs + 3
  | _ => 0
def rlens : List D → Nat
  | [] => 0
  | d :: ds => rlen d + 2 + rlens ds
end
end
end VL
/-! V3: statements, loops, comprehensions. -/
namespace VL
open PySem PySem.Spec PyProof.Rows L2

inductive Fl where
  | nx (ρ : Env) | rt (w : W) | bk (ρ : Env) | ct (ρ : Env)
inductive RS where
  | ok (f : Fl) (M : Sto) | ex (c : Nat) (ws : List W) (ρ : Env) (M : Sto) | bad
abbrev SM := Env → Sto → RS
def PstS (G : GT) (F : Hp) (lab : List Addr) (H : Hp) (r : RS) (E : Ends) (Wx : WX) : Prop := match r with
  | .ok (.nx ρ') M' => ∀ σ' F' lab' H', Aft F lab H F' lab' H' → Sim G F' lab' ρ' M' σ' H' → E.nx σ' H'
  | .ok (.bk ρ') M' => ∀ σ' F' lab' H', Aft F lab H F' lab' H' → Sim G F' lab' ρ' M' σ' H' → E.bk σ' H'
  | .ok (.ct ρ') M' => ∀ σ' F' lab' H', Aft F lab H F' lab' H' → Sim G F' lab' ρ' M' σ' H' → E.ct σ' H'
  | .ok (.rt w) M' => ∀ v F' lab' H', Aft F lab H F' lab' H' → Stt G F' lab' M' H' → RepW G F' lab' w v → E.rt v H'
  | .ex c ws ρ' M' => ∀ cls dx σ' F' lab' H', Aft F lab H F' lab' H' → Sim G F' lab' ρ' M' σ' H' → ExOk G F' lab' H' c ws cls dx → Wx cls dx σ' H'
  | .bad => False
def tS (G : GT) (Wx : WX) (m : SM) : TS := fun E σ H => ∃ F lab ρ M, Sim G F lab ρ M σ H ∧ PstS G F lab H (m ρ M) E Wx
def bS {α : Type} (r : R α) (ρ : Env) (f : α → Sto → RS) : RS := match r with
  | .ok x M => f x M
  | .ex c ws M => .ex c ws ρ M
  | .bad => .bad
@[simp] theorem bS_ok {α : Type} (x : α) (M : Sto) (ρ : Env) (f : α → Sto → RS) : bS (.ok x M) ρ f = f x M := (rfl)
@[simp] theorem bS_ex {α : Type} (c : Nat) (ws : List W) (M : Sto) (ρ : Env) (f : α → Sto → RS) : bS (R.ex c ws M) ρ f = .ex c ws ρ M := (rfl)
@[simp] theorem bS_bad {α : Type} (ρ : Env) (f : α → Sto → RS) : bS (R.bad) ρ f = .bad := (rfl)
section
variable {α β : Type} {G : GT} {rel : Rel β α} {F F1 : Hp} {lab lab1 : List Addr} {H H1 : Hp} {E E' : Ends} {Wx : WX}
theorem PstS.aft {r : RS} (A : Aft F lab H F1 lab1 H1) (h : PstS G F lab H r E Wx) : PstS G F1 lab1 H1 r E Wx := by
  cases r with
  | ok f M' =>
    cases f with
    | nx ρ => exact fun σ' F' lab' H' B S => h σ' F' lab' H' (A.trans B) S
    | bk ρ => exact fun σ' F' lab' H' B S => h σ' F' lab' H' (A.trans B) S
    | ct ρ => exact fun σ' F' lab' H' B S => h σ' F' lab' H' (A.trans B) S
    | rt w => exact fun σ' F' lab' H' B S q => h σ' F' lab' H' (A.trans B) S q
  | ex c ws ρ M' => exact fun c d σ' F' lab' H' B S q => h c d σ' F' lab' H' (A.trans B) S q
  | bad => exact h
theorem PstS.bind {r : R β} {ρ : Env} {M : Sto} {σ : St} {f : β → Sto → RS} {P : α → Hp → Prop} (S : Sim G F lab ρ M σ H) (h : PstS G F lab H (bS r ρ f) E Wx)
    (k : ∀ x M1 v F1 lab1 H1, Aft F lab H F1 lab1 H1 → Stt G F1 lab1 M1 H1 → rel F1 lab1 x v → PstS G F1 lab1 H1 (f x M1) E Wx → P v H1) : Pst G rel F lab H r P (atS Wx σ) := by
  cases r with
  | ok x M1 => exact fun v F1 lab1 H1 A S1 q => k x M1 v F1 lab1 H1 A S1 q (PstS.aft A h)
  | ex c ws M' => exact fun cls dx F1 lab1 H1 A S1 q => h cls dx σ F1 lab1 H1 A (S.aft A S1) q
  | bad => exact h
end

def sNil : SM := fun ρ M => .ok (.nx ρ) M
def sSeq (a b : SM) : SM := fun ρ M => match a ρ M with
  | .ok (.nx ρ') M' => b ρ' M'
  | r => r
def sExpr (m : EM) : SM := fun ρ M => bS (m ρ M) ρ fun _ M1 => .ok (.nx ρ) M1
def sRet (m : EM) : SM := fun ρ M => bS (m ρ M) ρ fun w M1 => .ok (.rt w) M1
def sSet (i : Nat) (m : EM) : SM := fun ρ M => bS (m ρ M) ρ fun w M1 => .ok (.nx (ρ.set i (some w))) M1
def sIf (b : BM) (s t : SM) : SM := fun ρ M => bS (b ρ M) ρ fun k M1 => if k = true then s ρ M1 else t ρ M1
section
variable {X : Cx} {G : GT} {Wx : WX} {st : Stmt} {rest : List Stmt} {m ms s t : SM} {e : Expr} {me : EM} {pos : Pos}
theorem z_nil : PSs X [] (tS G Wx sNil) := PSs.imp pss_nil fun E σ H h => by
  obtain ⟨F, lab, ρ, M, S, h⟩ := h
  exact h σ F lab H Aft.refl S
theorem z_pass : PS X (.Pass pos) (tS G Wx sNil) := PS.imp ps_pass fun E σ H h => by
  obtain ⟨F, lab, ρ, M, S, h⟩ := h
  exact h σ F lab H Aft.refl S
theorem z_cons (h1 : PS X st (tS G Wx m)) (h2 : PSs X rest (tS G Wx ms)) : PSs X (st :: rest) (tS G Wx (sSeq m ms)) := PSs.imp (pss_cons h1 h2) fun E σ H h => by
  obtain ⟨F, lab, ρ, M, S, h⟩ := h
  refine ⟨F, lab, ρ, M, S, ?_⟩
  unfold sSeq at h
  cases e : m ρ M with
  | ok f M' =>
    rw [e] at h
    cases f with
    | nx ρ' => exact fun σ' F' lab' H' A S' => ⟨F', lab', ρ', M', S', h.aft A⟩
    | bk ρ => exact h
    | ct ρ => exact h
    | rt w => exact h
  | ex c ws ρ' M' => rw [e] at h; exact h
  | bad => rw [e] at h; exact h
theorem z_one (h1 : PS X st (tS G Wx m)) : PSs X [st] (tS G Wx m) := pss_one h1
theorem z_expr (h : PE X e (tM G Wx me)) (hs : swapsWith e none pos.line X.env = pure false := by rfl) : PS X (.Expr e pos) (tS G Wx (sExpr me)) := PS.imp (ps_expr h hs) fun E σ H h => by
  obtain ⟨F, lab, ρ, M, S, h⟩ := h
  exact ⟨F, lab, ρ, M, S, PstS.bind S h fun x M1 v F1 lab1 H1 A1 S1 r1 h1 => h1 σ F1 lab1 H1 Aft.refl (S.aft A1 S1)⟩
theorem z_ret (h : PE X e (tM G Wx me)) : PS X (.Return (some e) pos) (tS G Wx (sRet me)) := PS.imp (ps_ret h) fun E σ H h => by
  obtain ⟨F, lab, ρ, M, S, h⟩ := h
  exact ⟨F, lab, ρ, M, S, PstS.bind S h fun x M1 v F1 lab1 H1 A1 S1 r1 h1 => h1 v F1 lab1 H1 Aft.refl S1 r1⟩
theorem z_if {c : Expr} {a b : List Stmt} {bc : BM} (hc : PT X c (tMb G Wx bc)) (ha : PSs X a (tS G Wx s)) (hb : PSs X b (tS G Wx t)) : PS X (.If c a b pos) (tS G Wx (sIf bc s t)) := PS.imp (ps_if hc ha hb) fun E σ H h => by
  obtain ⟨F, lab, ρ, M, S, h⟩ := h
  refine ⟨F, lab, ρ, M, S, PstS.bind S h fun x M1 v F1 lab1 H1 A1 S1 r1 h1 => ?_⟩
  obtain rfl : v = x := r1
  cases v with
  | true => exact ⟨F1, lab1, ρ, M1, S.aft A1 S1, h1⟩
  | false => exact ⟨F1, lab1, ρ, M1, S.aft A1 S1, h1⟩
theorem z_set {i : Nat} {x : Str} {pos' : Pos} (hN : X.N.Nodup) (h : PE X e (tM G Wx me)) (hi : X.N[i]? = some x := by rfl) (hx : Loc X.env.scope x := by first | exact Or.inl rfl | exact Or.inr rfl) (hs : swapsWith e (some (.Name x pos')) pos.line X.env = pure false := by rfl)
    (hf : X.fn x = true ∨ X.env.scope.names.lookup x = some .local := by first | exact .inl rfl | exact .inr rfl | assumption) : PS X (.Assign [.Name x pos'] e pos) (tS G Wx (sSet i me)) := PS.imp (ps_set hN hi hx h hs hf) fun E σ H h => by
  obtain ⟨F, lab, ρ, M, S, h⟩ := h
  exact ⟨F, lab, ρ, M, S, PstS.bind S h fun y M1 v F1 lab1 H1 A1 S1 r1 h1 => h1 _ F1 lab1 H1 Aft.refl ((S.aft A1 S1).set i r1)⟩
/-- a, b = x, y (plain local names) -/
def sPar (i j : Nat) (a : AM) : SM := fun ρ M => bS (a ρ M) ρ fun ws M1 => match ws with
  | [w, u] => .ok (.nx ((ρ.set i (some w)).set j (some u))) M1
  | _ => .bad
theorem z_par {i j : Nat} {x y : Str} {a b : Expr} {ma : AM} {px py pt : Pos} {kt k2 pt2} (hc : X.calm = true) (hN : X.N.Nodup) (ha : PA X [a, b] (tMs G Wx ma)) (hi : X.N[i]? = some x := by rfl) (hj : X.N[j]? = some y := by rfl) (hij : i ≠ j := by decide)
    (hx : X.env.scope.names.lookup x = some .local := by rfl) (hy : X.env.scope.names.lookup y = some .local := by rfl)
    (hw : swappedStores [.Tuple [.Name x px, .Name y py] kt pt] (.Tuple [a, b] k2 pt2) X.env = pure (some [x, y]) := by rfl)
    (hs : swapsWithSole [.Tuple [.Name x px, .Name y py] kt pt] (.Tuple [a, b] k2 pt2) pos.line X.env = pure false := by rfl) :
    PS X (.Assign [.Tuple [.Name x px, .Name y py] kt pt] (.Tuple [a, b] k2 pt2) pos) (tS G Wx (sPar i j ma)) := PS.imp (ps_par hc hN hi hj hij hx hy ha hw hs) fun E σ H h => by
  obtain ⟨F, lab, ρ, M, S, h⟩ := h
  refine ⟨F, lab, ρ, M, S, PstS.bind S h fun xs M1 vs F1 lab1 H1 A1 S1 r1 h1 => ?_⟩
  split at h1
  · obtain ⟨v, u, rfl, rv, ru⟩ := rw2 r1
    exact ⟨v, u, rfl, h1 _ F1 lab1 H1 Aft.refl (((S.aft A1 S1).set i rv).set j ru)⟩
  · exact h1.elim
end

/-! ### targets -/
abbrev BD := D → Env → Option Env
/-- the slots beside own are as they were -/
def Beside (own : List Nat) (σ σ' : St) : Prop := σ'.length = σ.length ∧ ∀ j, j ∉ own → σ'[j]? = σ[j]?
theorem Beside.refl (own : List Nat) (σ : St) : Beside own σ σ := ⟨rfl, fun _ _ => rfl⟩
theorem Beside.trans {own : List Nat} {a b c : St} (h : Beside own a b) (k : Beside own b c) : Beside own a c := ⟨k.1.trans h.1, fun j n => (k.2 j n).trans (h.2 j n)⟩
theorem wipe_get (σ : St) : ∀ (vs : List Nat) (j : Nat), j ∉ vs → (L2.wipe σ vs)[j]? = σ[j]?
  | [], _, _ => rfl
  | v :: vs, j, h => by
    rw [List.mem_cons, not_or] at h
    unfold L2.wipe
    rw [List.getElem?_set_ne (Ne.symm h.1), wipe_get σ vs j h.2]
theorem wipe_own (σ : St) : ∀ (vs : List Nat) (j : Nat), j ∈ vs → j < σ.length → (L2.wipe σ vs)[j]? = some none
  | v :: vs, j, h, hl => by
    unfold L2.wipe
    by_cases e : v = j
    · subst e
      rw [List.getElem?_set_self (by rw [wipe_length]; exact hl)]
    · rw [List.getElem?_set_ne e]
      exact wipe_own σ vs j ((List.mem_cons.mp h).resolve_left fun z => e z.symm) hl
theorem wipe_beside {own : List Nat} {σ σ' : St} (h : Beside own (L2.wipe σ own) σ') : L2.wipe σ' own = L2.wipe σ own := by
  have hl : σ'.length = σ.length := h.1.trans (wipe_length σ own)
  apply List.ext_getElem?
  intro j
  by_cases hj : j ∈ own
  · by_cases hlt : j < σ.length
    · rw [wipe_own σ' own j hj (by omega), wipe_own σ own j hj hlt]
    · rw [List.getElem?_eq_none (by rw [wipe_length]; omega), List.getElem?_eq_none (by rw [wipe_length]; omega)]
  · rw [wipe_get σ' own j hj, h.2 j hj]
def tG (G : GT) (own : List Nat) (b : BD) : TG := fun v σ H Q => ∃ F lab ρ M d, Sim G F lab ρ M σ H ∧ Rep G F d v ∧ ∃ ρ', b d ρ = some ρ' ∧ ∀ σ', Sim G F lab ρ' M σ' H → Beside own σ σ' → Q σ' H
abbrev BDs := List D → Env → Option Env
def tGs (G : GT) (own : List Nat) (b : BDs) : TGs := fun vs σ H Q => ∃ F lab ρ M ds, Sim G F lab ρ M σ H ∧ Reps G F ds vs ∧ ∃ ρ', b ds ρ = some ρ' ∧ ∀ σ', Sim G F lab ρ' M σ' H → Beside own σ σ' → Q σ' H
def bName (i : Nat) : BD := fun d ρ => some (ρ.set i (some (.d d)))
def bNil : BDs := fun ds ρ => match ds with
  | [] => some ρ
  | _ => none
def bCons (a : BD) (r : BDs) : BDs := fun ds ρ => match ds with
  | d :: ds => match a d ρ with
    | some ρ' => r ds ρ'
    | none => none
  | _ => none
def bTup (n : Nat) (r : BDs) : BD := fun d ρ => match d with
  | .tup ds => if ds.length = n then r ds ρ else none
  | _ => none
section
variable {X : Cx} {G : GT} {Wx : WX} {e : Expr} {es : List Expr} {b : BD} {bs : BDs} {pos : Pos} {own : List Nat}
theorem PG.imp {t t' : TG} (h : PG X e t) (k : ∀ v σ H Q, t' v σ H Q → t v σ H Q) : PG X e t' := ⟨fun pins s σ H v u Q I r q => h.run pins s σ H v u Q I r (k _ _ _ _ q)⟩
theorem PGs.imp {t t' : TGs} (h : PGs X es t) (k : ∀ v σ H Q, t' v σ H Q → t v σ H Q) : PGs X es t' := ⟨fun pins s σ H v u Q I r q => h.run pins s σ H v u Q I r (k _ _ _ _ q)⟩
theorem g_name {i : Nat} {x : Str} (hN : X.N.Nodup) (ho : i ∈ own := by decide) (hi : X.N[i]? = some x := by rfl) (hx : Loc X.env.scope x := by first | exact Or.inl rfl | exact Or.inr rfl) (hf : X.fn x = true ∨ X.env.scope.names.lookup x = some .local := by first | exact .inl rfl | exact .inr rfl | assumption) :
    PG X (.Name x pos) (tG G own (bName i)) := PG.imp (pg_name hN hi hx hf) fun v σ H Q h => by
  obtain ⟨F, lab, ρ, M, d, S, r, ρ', e, q⟩ := h
  cases e
  exact q _ (S.set i (show RepW G F lab (.d d) v from r)) ⟨by simp, fun j hj => List.getElem?_set_ne fun z : i = j => hj (z ▸ ho)⟩
theorem gs_nil : PGs X [] (tGs G own bNil) := PGs.imp pgs_nil fun vs σ H Q h => by
  obtain ⟨F, lab, ρ, M, ds, S, r, ρ', e, q⟩ := h
  unfold bNil at e
  split at e
  · cases e
    exact ⟨reps_nil.mp r, q _ S (Beside.refl own σ)⟩
  · cases e
theorem gs_cons (h1 : PG X e (tG G own b)) (h2 : PGs X es (tGs G own bs)) (hs : (assignEach (e :: es) X.env).map (·.2) = assign e X.env :: (assignEach es X.env).map (·.2) := by rfl) : PGs X (e :: es) (tGs G own (bCons b bs)) := PGs.imp (pgs_cons h1 h2 hs) fun vs σ H Q h => by
  obtain ⟨F, lab, ρ, M, ds, S, r, ρ', e, q⟩ := h
  unfold bCons at e
  split at e
  · rename_i d ds'
    split at e
    · rename_i ρ1 e1
      obtain ⟨v, us, rfl, r1, r2⟩ := reps_cons.mp r
      exact ⟨v, us, rfl, F, lab, ρ, M, d, S, r1, ρ1, e1, fun σ1 S1 B1 => ⟨F, lab, ρ1, M, ds', S1, r2, ρ', e, fun σ2 S2 B2 => q σ2 S2 (B1.trans B2)⟩⟩
    · cases e
  · cases e
theorem g_tup {k : Nat} {n : Nat} (hc : X.calm = true) (h : PGs X es (tGs G own bs)) (hn : (assignEach es X.env).length = n := by rfl) (hst : (assignEach es X.env).findIdx? (·.1) = none := by rfl) : PG X (.Tuple es k pos) (tG G own (bTup n bs)) :=
  PG.imp (pg_tup hc h hn hst) fun v σ H Q h => by
    obtain ⟨F, lab, ρ, M, d, S, r, ρ', e, q⟩ := h
    unfold bTup at e
    split at e
    · rename_i ds
      split at e
      · rename_i hl
        obtain ⟨a, vs, rfl, h1, h2⟩ := rep_tup.mp r
        exact ⟨a, vs, rfl, SqT.of (S.st.ex _ _ h1), by rw [h2.length]; exact hl, F, lab, ρ, M, ds, S, h2, ρ', e, q⟩
      · cases e
    · cases e
/-- target = e (a tree) -/
def sAsg (b : BD) (m : EM) : SM := fun ρ M => bS (m ρ M) ρ fun w M1 => match w with
  | .d d => match b d ρ with
    | some ρ' => .ok (.nx ρ') M1
    | none => .bad
  | _ => .bad
theorem z_asg {tg : Expr} {me : EM} (h : PE X e (tM G Wx me)) (hg : PG X tg (tG G own b)) (hs : swapsWithSole [tg] e pos.line X.env = pure false := by rfl) (hw : swappedStores [tg] e X.env = pure none := by rfl)
    (h1 : (assignEach [tg] X.env).map (·.2) = [assign tg X.env] := by rfl) : PS X (.Assign [tg] e pos) (tS G Wx (sAsg b me)) := PS.imp (ps_asg h hg hs hw h1) fun E σ H h => by
  obtain ⟨F, lab, ρ, M, S, h⟩ := h
  refine ⟨F, lab, ρ, M, S, PstS.bind S h fun y M1 v F1 lab1 H1 A1 S1 r1 h1 => ?_⟩
  split at h1
  · rename_i d
    split at h1
    · rename_i ρ' e
      exact ⟨F1, lab1, ρ, M1, d, S.aft A1 S1, r1, ρ', e, fun σ' S' _ => h1 σ' F1 lab1 H1 Aft.refl S'⟩
    · exact h1.elim
  · exact h1.elim
/-- l[i] = e, l a list that is a cell -/
def setW (o i v : W) (M : Sto) : Option Sto := match o, i, v with
  | .cell l, .d (.int k), .d d => match M[l]? with
    | some (.lst xs) => match ixN xs.length k with
      | some j => some (M.set l (.lst (xs.set j d)))
      | none => none
    | _ => none
  | _, _, _ => none
def sSub (o i e : EM) : SM := fun ρ M => bS (e ρ M) ρ fun v M1 => bS (o ρ M1) ρ fun a M2 => bS (i ρ M2) ρ fun k M3 => match setW a k v M3 with
  | some M4 => .ok (.nx ρ) M4
  | none => .bad
theorem z_sub {o i : Expr} {mo mi me : EM} {p : Pos} (h : PE X e (tM G Wx me)) (ho : PE X o (tM G Wx mo)) (hi : PE X i (tM G Wx mi))
    (ha : ∀ v, assign (.Subscript o i p) X.env v = (do
      let ov ← holding [v] (eval o X.env)
      let iv ← holding [v, ov] (eval i X.env)
      standAt p
      holding [v, ov, iv] (setItem ov iv v)
      release [v, ov, iv] []) := by intro _; rfl)
    (hs : swapsWithSole [.Subscript o i p] e pos.line X.env = pure false := by rfl) (hw : swappedStores [.Subscript o i p] e X.env = pure none := by rfl)
    (h1 : (assignEach [.Subscript o i p] X.env).map (·.2) = [assign (.Subscript o i p) X.env] := by rfl) : PS X (.Assign [.Subscript o i p] e pos) (tS G Wx (sSub mo mi me)) :=
  PS.imp (ps_asg h (pg_sub ho hi set_list ha) hs hw h1) fun E σ H h => by
    obtain ⟨F, lab, ρ, M, S, h⟩ := h
    refine ⟨F, lab, ρ, M, S, PstS.bind S h fun y M1 v F1 lab1 H1 A1 S1 r1 h1 => ?_⟩
    refine ⟨F1, lab1, ρ, M1, S.aft A1 S1, PstS.bind (S.aft A1 S1) h1 fun a M2 va F2 lab2 H2 A2 S2 r2 h2 => ?_⟩
    refine ⟨F2, lab2, ρ, M2, S.aft (A1.trans A2) S2, PstS.bind (S.aft (A1.trans A2) S2) h2 fun k M3 vk F3 lab3 H3 A3 S3 r3 h3 => ?_⟩
    have rv := r1.aft (A2.trans A3)
    have ra := r2.aft A3
    unfold setW at h3
    split at h3
    · rename_i M4 hM
      split at hM
      · rename_i l k' d
        split at hM
        · rename_i xs ho
          split at hM
          · rename_i j hj
            cases hM
            obtain ⟨a, hl, rfl⟩ := ra
            obtain ⟨fa, vs, hv, rs⟩ := S3.at_ l a _ hl ho
            refine ⟨a, vs, k', j, rfl, w_int r3, hv, by rw [rs.length]; exact hj, ?_⟩
            have A4 := aft_write (o := .lst (vs.set j v)) S3 hl
            have S4 := S3.write (c := .lst (xs.set j d)) hl fa (o := .lst (vs.set j v)) ⟨fa, _, upd_same, rs.set j rv⟩
            exact h3 σ F3 lab3 _ A4 (S.aft (((A1.trans A2).trans A3).trans A4) S4)
          · cases hM
        · cases hM
      · cases hM
    · exact h3.elim
end

/-! ### what is walked -/
def ItOk (G : GT) (F0 : Hp) (J : It) (items : List D) : Prop := ∀ (i : Nat) (F : Hp) (lab : List Addr) (M : Sto) (H : Hp), Stt G F lab M H → Same F0 F →
  (∀ d, items[i]? = some d → J.go i H ∧ ∀ x H', J.yld i H x H' → ∃ F', Aft F lab H F' lab H' ∧ Stt G F' lab M H' ∧ Rep G F' d x) ∧ (items.length ≤ i → J.stop i H)
def relI (G : GT) : Rel (List D) It := fun F _ items J => ItOk G F J items
abbrev IM := Env → Sto → R (List D)
def tI (G : GT) (Wx : WX) (m : IM) : TI := fun σ H R => ∃ F lab ρ M, Sim G F lab ρ M σ H ∧ Pst G (relI G) F lab H (m ρ M) R (atS Wx σ)
section
variable {X : Cx} {G : GT} {Wx : WX} {tg e : Expr} {m : EM} {p pos : Pos}
theorem PI.imp {t t' : TI} (h : PI X tg e t) (k : ∀ σ H Q, t' σ H Q → t σ H Q) : PI X tg e t' := ⟨fun pins s σ H Q I q => h.run pins s σ H Q I (k _ _ _ q)⟩
theorem it_list {F0 : Hp} {a : Addr} {xs : List V} {ds : List D} (h : F0 a = some (.lst xs)) (r : Reps G F0 ds xs) : ItOk G F0 (Itl G.K a) ds := by
  intro i F lab M H S k
  have hs : SqL G.K H a xs := SqL.of (S.ex _ _ (k _ _ h))
  refine ⟨fun d e => ?_, fun hl => ⟨xs, hs, by rw [r.length]; exact hl⟩⟩
  obtain ⟨v, e1, e2⟩ := r.get e
  refine ⟨⟨xs, v, hs, e1⟩, fun x H' y => ?_⟩
  obtain ⟨rfl, y⟩ := y
  have e3 := y xs hs
  rw [e1] at e3
  cases e3
  exact ⟨F, Aft.refl, S, Rep.mono k _ _ e2⟩
theorem it_tup {F0 : Hp} {a : Addr} {xs : List V} {ds : List D} (h : F0 a = some (.tup xs)) (r : Reps G F0 ds xs) : ItOk G F0 (Itt G.K a) ds := by
  intro i F lab M H S k
  have hs : SqT G.K H a xs := SqT.of (S.ex _ _ (k _ _ h))
  refine ⟨fun d e => ?_, fun hl => ⟨xs, hs, by rw [r.length]; exact hl⟩⟩
  obtain ⟨v, e1, e2⟩ := r.get e
  refine ⟨⟨xs, v, hs, e1⟩, fun x H' y => ?_⟩
  obtain ⟨rfl, y⟩ := y
  have e3 := y xs hs
  rw [e1] at e3
  cases e3
  exact ⟨F, Aft.refl, S, Rep.mono k _ _ e2⟩
def rangeD (lo : Int) (n : Nat) : List D := (List.range n).map fun (i : Nat) => .int (lo + i)
theorem it_range {F0 : Hp} {lo : Int} {n : Nat} : ItOk G F0 (Itr lo n) (rangeD lo n) := by
  intro i F lab M H S k
  refine ⟨fun d e => ?_, fun hl => ?_⟩
  · unfold rangeD at e
    rw [List.getElem?_map] at e
    have hi : i < n := by
      by_cases hi : i < n
      · exact hi
      · rw [List.getElem?_eq_none (by simpa using hi)] at e; cases e
    rw [List.getElem?_range hi] at e
    cases e
    refine ⟨hi, fun x H' y => ?_⟩
    obtain ⟨rfl, rfl⟩ := y
    exact ⟨F, Aft.refl, S, rep_int.mpr rfl⟩
  · unfold rangeD at hl
    exact (show n ≤ i by simpa using hl)
/-- a list or a tuple, walked -/
def iSeq (m : EM) : IM := fun ρ M => bnd (m ρ M) fun w M1 => match w with
  | .d (.lst xs) => .ok xs M1
  | .d (.tup xs) => .ok xs M1
  | _ => .bad
theorem i_seq (h : PE X e (tM G Wx m)) (hK : X.K = G.K) : PI X tg e (tI G Wx (iSeq m)) := by
  refine ⟨fun pins s σ H Q I q => ?_⟩
  obtain ⟨F, lab, ρ, M, S, q⟩ := q
  unfold iSeq at q
  have viaL : (∀ w M1, m ρ M = .ok w M1 → ∃ xs, w = .d (.lst xs)) → wpAny (model X.prog X.w) X.A (eval e X.env) (fun v s1 => wpAny (model X.prog X.w) X.A (pyIter v) (PIE X pins σ tg Q) X.xe s1) X.xe s := fun hw => by
    refine (pi_list (tg := tg) h).run pins s σ H Q I ⟨F, lab, ρ, M, S, ?_⟩
    cases hm : m ρ M with
    | ok w M1 =>
      obtain ⟨xs, rfl⟩ := hw w M1 hm
      rw [hm] at q
      refine fun v F1 lab1 H1 A1 S1 r1 => ?_
      obtain ⟨a, vs, rfl, ha, rs⟩ := w_lst r1
      refine ⟨a, rfl, ⟨vs, SqL.of (S1.ex _ _ ha)⟩, ?_⟩
      rw [hK]
      exact q (Itl G.K a) F1 lab1 H1 A1 S1 (it_list ha rs)
    | ex c ws M1 => rw [hm] at q; exact q
    | bad => rw [hm] at q; exact q
  cases hm : m ρ M with
  | ok w M1 =>
    cases w with
    | d x =>
      cases x with
      | lst xs => exact viaL fun w M2 e => by rw [hm] at e; cases e; exact ⟨xs, rfl⟩
      | tup xs =>
        refine (pi_tup (tg := tg) h).run pins s σ H Q I ⟨F, lab, ρ, M, S, ?_⟩
        rw [hm] at q ⊢
        refine fun v F1 lab1 H1 A1 S1 r1 => ?_
        obtain ⟨a, vs, rfl, ha, rs⟩ := w_tup r1
        refine ⟨a, rfl, ⟨vs, SqT.of (S1.ex _ _ ha)⟩, ?_⟩
        rw [hK]
        exact q (Itt G.K a) F1 lab1 H1 A1 S1 (it_tup ha rs)
      | _ => rw [hm] at q; exact q.elim
    | cell l => rw [hm] at q; exact q.elim
  | ex c ws M1 => exact viaL fun w M2 e => by rw [hm] at e; cases e
  | bad => rw [hm] at q; exact q.elim
/-- range(n), range(a, b) -/
def iRange1 (a : AM) : IM := fun ρ M => bnd (a ρ M) fun ws M1 => match ws with
  | [.d (.int j)] => if j < 2 ^ 62 ∧ -(2 ^ 62) ≤ j then .ok (rangeD 0 j.toNat) M1 else .bad
  | _ => .bad
theorem i_range1 {a : Expr} {ma : AM} (hm : X.mg "range" = none) (ha : PA X [a] (tMs G Wx ma)) (hg : Gl X "range" := by rfl) (hs : starEach [a] X.env = [(false, eval a X.env)] := by rfl) : PI X tg (.Call (.Name "range" p) [a] [] pos) (tI G Wx (iRange1 ma)) :=
  PI.imp (pi_range1 hg hm ha hs) fun σ H Q h => by
    obtain ⟨F, lab, ρ, M, S, h⟩ := h
    refine ⟨F, lab, ρ, M, S, Pst.bind h fun xs M1 vs F1 lab1 H1 A1 S1 r1 h1 => ?_⟩
    split at h1
    · split at h1
      · rename_i j hj
        obtain ⟨v, rfl, rv⟩ := rw1 r1
        exact ⟨j, by rw [w_int rv], hj.2, hj.1, h1.here S1 it_range⟩
      · exact h1.elim
    · exact h1.elim
def iRange2 (a : AM) : IM := fun ρ M => bnd (a ρ M) fun ws M1 => match ws with
  | [.d (.int i), .d (.int j)] => if (i < 2 ^ 62 ∧ -(2 ^ 62) ≤ i) ∧ j < 2 ^ 62 ∧ -(2 ^ 62) ≤ j then .ok (rangeD i (j - i).toNat) M1 else .bad
  | _ => .bad
theorem i_range2 {a b : Expr} {ma : AM} (hm : X.mg "range" = none) (ha : PA X [a, b] (tMs G Wx ma)) (hg : Gl X "range" := by rfl) (hs : starEach [a, b] X.env = [(false, eval a X.env), (false, eval b X.env)] := by rfl) (hs2 : starEach [b] X.env = [(false, eval b X.env)] := by rfl) :
    PI X tg (.Call (.Name "range" p) [a, b] [] pos) (tI G Wx (iRange2 ma)) :=
  PI.imp (pi_range2 hg hm ha hs hs2) fun σ H Q h => by
    obtain ⟨F, lab, ρ, M, S, h⟩ := h
    refine ⟨F, lab, ρ, M, S, Pst.bind h fun xs M1 vs F1 lab1 H1 A1 S1 r1 h1 => ?_⟩
    split at h1
    · split at h1
      · rename_i i j hj
        obtain ⟨v, u, rfl, rv, ru⟩ := rw2 r1
        exact ⟨i, j, by rw [w_int rv, w_int ru], ⟨hj.1.2, hj.1.1, hj.2.2, hj.2.1⟩, h1.here S1 it_range⟩
      · exact h1.elim
    · exact h1.elim
/-- enumerate(list) -/
def enumD (lo : Nat) : List D → List D
  | [] => []
  | d :: ds => .tup [.int lo, d] :: enumD (lo + 1) ds
theorem enumD_get : ∀ {ds : List D} {lo i : Nat}, (enumD lo ds)[i]? = ds[i]?.map fun d => .tup [.int ((lo + i : Nat) : Int), d]
  | [], _, _ => by simp [enumD]
  | d :: ds, lo, 0 => by simp [enumD]
  | d :: ds, lo, i + 1 => by
    have := enumD_get (ds := ds) (lo := lo + 1) (i := i)
    simp only [enumD, List.getElem?_cons_succ, this]
    have e : lo + 1 + i = lo + (i + 1) := by omega
    rw [e]
theorem enumD_len : ∀ {ds : List D} {lo : Nat}, (enumD lo ds).length = ds.length
  | [], _ => rfl
  | d :: ds, lo => by simp [enumD, enumD_len]
theorem it_enum {F0 : Hp} {a : Addr} {xs : List V} {ds : List D} (h : F0 a = some (.lst xs)) (r : Reps G F0 ds xs) : ItOk G F0 (Ite G.K a) (enumD 0 ds) := by
  intro i F lab M H S k
  have hs : SqL G.K H a xs := SqL.of (S.ex _ _ (k _ _ h))
  refine ⟨fun d e => ?_, fun hl => ⟨xs, hs, by rw [r.length]; rw [enumD_len] at hl; exact hl⟩⟩
  rw [enumD_get] at e
  cases hd : ds[i]? with
  | none => rw [hd] at e; cases e
  | some d' =>
    rw [hd] at e
    cases e
    obtain ⟨v, e1, e2⟩ := r.get hd
    refine ⟨⟨xs, v, hs, e1⟩, fun x H' y => ?_⟩
    obtain ⟨T, z, rfl, hT, rfl, y⟩ := y
    have e3 := y xs hs
    rw [e1] at e3
    cases e3
    have A := aft_new (o := .tup [.int (i : Nat), v]) S hT
    refine ⟨_, A, S.new hT, rep_tup.mpr ⟨T, _, rfl, upd_same, ?_⟩⟩
    rw [Nat.zero_add]
    exact reps_cons.mpr ⟨_, _, rfl, rep_int.mpr rfl, Reps.one (Rep.mono A.fx _ _ (Rep.mono k _ _ e2))⟩
def iEnumM (a : AM) : IM := fun ρ M => bnd (a ρ M) fun ws M1 => match ws with
  | [.d (.lst xs)] => .ok (enumD 0 xs) M1
  | _ => .bad
theorem i_enum {a : Expr} {ma : AM} {elts : List Expr} {kk : Nat} {tpos : Pos} (hm : X.mg "enumerate" = none) (ha : PA X [a] (tMs G Wx ma)) (hK : X.K = G.K) (hg : Gl X "enumerate" := by rfl) (hs : starEach [a] X.env = [(false, eval a X.env)] := by rfl) :
    PI X (.Tuple elts kk tpos) (.Call (.Name "enumerate" p) [a] [] pos) (tI G Wx (iEnumM ma)) :=
  PI.imp (pi_enum hg hm ha hs) fun σ H Q h => by
    obtain ⟨F, lab, ρ, M, S, h⟩ := h
    refine ⟨F, lab, ρ, M, S, Pst.bind h fun xs M1 vs F1 lab1 H1 A1 S1 r1 h1 => ?_⟩
    split at h1
    · obtain ⟨v, rfl, rv⟩ := rw1 r1
      obtain ⟨a, us, rfl, ha, rs⟩ := w_lst rv
      refine ⟨a, us, rfl, SqL.of (S1.ex _ _ ha), ?_⟩
      rw [hK]
      exact h1.here S1 (it_enum ha rs)
    · exact h1.elim
end

/-! ### for -/
def forL (b : BD) (body : SM) : List D → SM
  | [], ρ, M => .ok (.nx ρ) M
  | x :: xs, ρ, M => match b x ρ with
    | none => .bad
    | some ρ1 => match body ρ1 M with
      | .ok (.nx ρ2) M2 => forL b body xs ρ2 M2
      | .ok (.ct ρ2) M2 => forL b body xs ρ2 M2
      | .ok (.bk ρ2) M2 => .ok (.nx ρ2) M2
      | r => r
def sFor (it : IM) (b : BD) (body : SM) : SM := fun ρ M => bS (it ρ M) ρ fun xs M1 => forL b body xs ρ M1
section
variable {X : Cx} {G : GT} {Wx : WX} {tg iter : Expr} {body : List Stmt} {mi : IM} {b : BD} {mb : SM} {pos : Pos} {own : List Nat}
theorem z_for (hp : PassesOwn (model X.prog X.w) X.A X.env X.xe) (hc : X.calm = true) (hi : PI X tg iter (tI G Wx mi)) (hg : PG X tg (tG G own b)) (hb : PSs X body (tS G Wx mb)) (hs : ∀ x, foldedSetIterable iter X.env x = pure x := by intro _; rfl) :
    PS X (.For tg iter body [] pos) (tS G Wx (sFor mi b mb)) := PS.imp (ps_for hp hc hi hg hb hs) fun E σ H h => by
  obtain ⟨F, lab, ρ, M, S, h⟩ := h
  refine ⟨F, lab, ρ, M, S, PstS.bind S h fun items M1 J F1 lab1 H1 A1 S1 r1 h1 => ?_⟩
  refine ⟨fun i m σ' H' => m = items.length - i ∧ i ≤ items.length ∧ ∃ F' lab' ρ' M', Aft F1 lab1 H1 F' lab' H' ∧ Sim G F' lab' ρ' M' σ' H' ∧ PstS G F' lab' H' (forL b mb (items.drop i) ρ' M') E Wx,
    ⟨items.length, rfl, Nat.zero_le _, F1, lab1, ρ, M1, Aft.refl, S.aft A1 S1, by simpa using h1⟩, ?_⟩
  rintro i m σ' H' ⟨rfl, hi, F', lab', ρ', M', A', S', q⟩
  have K := r1 i F' lab' M' H' S'.st A'.fx
  by_cases hlt : i < items.length
  · have hd : items.drop i = items[i] :: items.drop (i + 1) := List.drop_eq_getElem_cons hlt
    have he : items[i]? = some items[i] := by simp [hlt]
    obtain ⟨go, yl⟩ := K.1 _ he
    rw [hd] at q
    refine .inr ⟨go, fun σ2 H2 => ∃ F2 lab2 ρ2 M2, Aft F1 lab1 H1 F2 lab2 H2 ∧ Sim G F2 lab2 ρ2 M2 σ2 H2 ∧ PstS G F2 lab2 H2 (forL b mb (items.drop (i + 1)) ρ2 M2) E Wx, fun σ2 H2 n2 => ⟨items.length - (i + 1), by omega, rfl, hlt, n2⟩, fun x H2 y => ?_⟩
    obtain ⟨F2, A2, S2, r2⟩ := yl x H2 y
    have Sm := S'.aft A2 S2
    have q2 := PstS.aft A2 q
    unfold forL at q2
    split at q2
    · exact q2.elim
    · rename_i ρ1 e1
      refine ⟨F2, lab', ρ', M', items[i], Sm, r2, ρ1, e1, fun σ3 S3 _ => ⟨F2, lab', ρ1, M', S3, ?_⟩⟩
      have A3 : Aft F1 lab1 H1 F2 lab' H2 := A'.trans A2
      cases hb2 : mb ρ1 M' with
      | ok f M2 =>
        rw [hb2] at q2
        cases f with
        | nx ρ2 => exact fun σ4 F4 lab4 H4 A4 S4 => ⟨F4, lab4, ρ2, M2, A3.trans A4, S4, q2.aft A4⟩
        | ct ρ2 => exact fun σ4 F4 lab4 H4 A4 S4 => ⟨F4, lab4, ρ2, M2, A3.trans A4, S4, q2.aft A4⟩
        | bk ρ2 => exact q2
        | rt w => exact q2
      | ex c ws ρ2 M2 => rw [hb2] at q2; exact q2
      | bad => rw [hb2] at q2; exact q2
  · have e : i = items.length := by omega
    subst e
    rw [List.drop_length] at q
    exact .inl ⟨K.2 (Nat.le_refl _), q σ' F' lab' H' Aft.refl S'⟩
end

/-! ### list comprehensions -/
def wipeE (ρ : Env) : List Nat → Env
  | [] => ρ
  | v :: vs => (wipeE ρ vs).set v none
def cmpL (b : BD) (t : BM) (e : EM) (ρ : Env) : List D → Sto → R (List D)
  | [], M => .ok [] M
  | x :: xs, M => match b x ρ with
    | none => .bad
    | some ρ1 => bnd (t ρ1 M) fun k M1 => if k = true then bnd (e ρ1 M1) fun w M2 => match w with
        | .d y => bnd (cmpL b t e ρ xs M2) fun ys M3 => .ok (y :: ys) M3
        | _ => .bad
      else cmpL b t e ρ xs M1
def bYes : BM := fun _ M => .ok true M
def unEx {α : Type} : R α → R α
  | .ex _ _ _ => .bad
  | r => r
def mComp (it : IM) (b : BD) (t : BM) (e : EM) (own : List Nat) : EM := fun ρ M => bnd (it ρ M) fun xs M1 => bnd (unEx (cmpL b t e (wipeE ρ own) xs M1)) fun ys M2 => if ys.length ≤ lim then .ok (.d (.lst ys)) M2 else .bad
section
variable {X : Cx} {G : GT} {Wx : WX}
theorem Sim.wipe {F : Hp} {lab : List Addr} {ρ : Env} {M : Sto} {σ : St} {H : Hp} (S : Sim G F lab ρ M σ H) : ∀ vs : List Nat, Sim G F lab (wipeE ρ vs) M (L2.wipe σ vs) H
  | [] => S
  | v :: vs => (Sim.wipe S vs).unset v none
/-- an object that stands by itself is taken among the frozen -/
theorem adopt {F F' : Hp} {lab lab' : List Addr} {M : Sto} {H H' : Hp} {p : Addr} {o : HO} (A : Aft F lab H F' lab' H') (S : Stt G F' lab' M H') (hp : H p = none) (fp : F p = none) (fp' : F' p = none) (np : p ∉ lab') (ho : H' p = some o) :
    Aft F lab H (upd F' p o) lab' H' ∧ Stt G (upd F' p o) lab' M H' := by
  refine ⟨⟨fun b u e => ?_, A.lx, fun a u e n => ?_, A.hx⟩, ⟨fun b u e => ?_, S.len, S.nd, fun l a c h1 h2 => ?_, S.th⟩⟩
  · rw [upd_ne (ne_of_none e fp)]; exact A.fx b u e
  · obtain ⟨h1, h2⟩ := A.kp a u e n
    exact ⟨h1, by rw [upd_ne (ne_of_none e hp)]; exact h2⟩
  · by_cases q : b = p
    · subst q; rw [upd_same] at e; cases e; exact ho
    · rw [upd_ne q] at e; exact S.ex b u e
  · have q : a ≠ p := fun z => np (z ▸ List.mem_of_getElem? h1)
    have B : Aft F' lab' H' (upd F' p o) lab' H' → CellOk G (upd F' p o) lab' H' a c := fun B => (S.at_ l a c h1 h2).aft B (fun f => by rw [upd_ne q]; exact f) rfl
    have c0 := S.at_ l a c h1 h2
    have m : Same F' (upd F' p o) := fun b u e => by rw [upd_ne (ne_of_none e fp')]; exact e
    have go : ∀ {ws : List W} {vs : List V}, RepWs G F' lab' ws vs → RepWs G (upd F' p o) lab' ws vs := fun {ws} => by
      induction ws with
      | nil => intro vs r; exact r
      | cons w ws ih =>
        intro vs r
        obtain ⟨v, u, e, h1, h2⟩ := r
        refine ⟨v, u, e, ?_, ih h2⟩
        cases w with
        | d x => exact Rep.mono m x v h1
        | cell l => exact h1
    cases c with
    | lst xs =>
      obtain ⟨f, vs, e, r⟩ := c0
      exact ⟨by rw [upd_ne q]; exact f, vs, e, Reps.mono m _ _ r⟩
    | dct ks xs =>
      obtain ⟨f, vs, e, l', r⟩ := c0
      exact ⟨by rw [upd_ne q]; exact f, vs, e, l', Reps.mono m _ _ r⟩
    | ins c ws =>
      obtain ⟨f, dx, vs, e, r, l'⟩ := c0
      exact ⟨by rw [upd_ne q]; exact f, dx, vs, e, go r, l'⟩
    | frz x => exact Rep.mono m x _ c0
    | wl ws =>
      obtain ⟨f, vs, e, r⟩ := c0
      exact ⟨by rw [upd_ne q]; exact f, vs, e, go r⟩
theorem rws_lab {F : Hp} {lab t : List Addr} : ∀ {ws : List W} {vs : List V}, RepWs G F lab ws vs → RepWs G F (lab ++ t) ws vs
  | [], _, h => h
  | .d x :: ws, _, h => by
    obtain ⟨v, r, e, h1, h2⟩ := h
    exact ⟨v, r, e, h1, rws_lab h2⟩
  | .cell l :: ws, _, h => by
    obtain ⟨v, r, e, ⟨a, h0, h1⟩, h2⟩ := h
    exact ⟨v, r, e, ⟨a, by rw [List.getElem?_append_left (List.getElem?_eq_some_iff.mp h0).1]; exact h0, h1⟩, rws_lab h2⟩
theorem cok_lab {F : Hp} {lab t : List Addr} {H : Hp} {a : Addr} {o : O} (c : CellOk G F lab H a o) : CellOk G F (lab ++ t) H a o := by
  cases o with
  | lst xs => exact c
  | dct ks xs => exact c
  | ins k ws => obtain ⟨f, dx, vs, e, r, l⟩ := c; exact ⟨f, dx, vs, e, rws_lab r, l⟩
  | frz x => exact c
  | wl ws => obtain ⟨f, vs, e, r⟩ := c; exact ⟨f, vs, e, rws_lab r⟩
/-- .. among the cells -/
theorem adoptC {F F' : Hp} {lab lab' : List Addr} {M : Sto} {H H' : Hp} {p : Addr} {ys : List D} {vs : List V} (A : Aft F lab H F' lab' H') (S : Stt G F' lab' M H') (hp : H p = none) (fp' : F' p = none) (np : p ∉ lab') (ho : H' p = some (.lst vs)) (rs : Reps G F' ys vs) :
    Aft F lab H F' (lab' ++ [p]) H' ∧ Stt G F' (lab' ++ [p]) (M ++ [.lst ys]) H' := by
  refine ⟨⟨A.fx, ?_, A.kp, A.hx⟩, ⟨S.ex, by simp [S.len], ?_, fun l a c h1 h2 => ?_, fun a h => ?_⟩⟩
  · obtain ⟨t, rfl, ht⟩ := A.lx
    refine ⟨t ++ [p], by simp, fun a ha => ?_⟩
    rcases List.mem_append.mp ha with z | z
    · exact ht a z
    · simp at z; subst z; exact hp
  · rw [List.nodup_append]
    exact ⟨S.nd, by simp, fun a ha b hb e => np (by simp at hb; subst hb; subst e; exact ha)⟩
  · by_cases hl : l < lab'.length
    · rw [List.getElem?_append_left hl] at h1
      rw [List.getElem?_append_left (by rw [← S.len]; exact hl)] at h2
      exact cok_lab (S.at_ l a c h1 h2)
    · have e : l = lab'.length := by
        have := (List.getElem?_eq_some_iff.mp h1).1
        simp at this
        omega
      subst e
      rw [List.getElem?_append_right (Nat.le_refl _)] at h1
      rw [S.len, List.getElem?_append_right (Nat.le_refl _)] at h2
      simp at h1 h2
      subst h1 h2
      exact ⟨fp', vs, ho, rs⟩
  · rcases List.mem_append.mp h with h | h
    · exact S.th a h
    · simp at h; subst h; rw [ho]; simp
theorem comp_core {g : TG} {tt : TT} {te : TE} {b : BD} {t : BM} {e : EM} {own : List Nat} {σ : St} {F1 : Hp} {lab1 : List Addr} {M1 : Sto} {H1 : Hp} {ρ : Env} {J : It} {items : List D} {Q : VK}
    (S : Sim G F1 lab1 ρ M1 σ H1) (r1 : ItOk G F1 J items) (W0 : WX)
    (D : Addr) (hD : H1 D = none) (h1 : ∀ ys M2 vs F2 lab2 H2, cmpL b t e (wipeE ρ own) items M1 = .ok ys M2 → Aft F1 lab1 H1 F2 lab2 H2 → Stt G F2 lab2 M2 H2 → F1 D = none → F2 D = none → D ∉ lab2 → H2 D = some (.lst vs) → Reps G F2 ys vs → Q (.ref D) H2) (hok : ∃ ys M2, cmpL b t e (wipeE ρ own) items M1 = .ok ys M2 ∧ ys.length ≤ lim)
    (hset : ∀ v H2 Q2, tG G own b v (L2.wipe σ own) H2 Q2 → g v (L2.wipe σ own) H2 Q2)
    (ht : ∀ σ2 H2 Q2, tMb G W0 t σ2 H2 Q2 → tt σ2 H2 Q2) (he : ∀ σ2 H2 Q2, tM G W0 e σ2 H2 Q2 → te σ2 H2 Q2) :
    ∃ W : Nat → Nat → Hp → Prop, (∃ m, W 0 m (upd H1 D (.lst []))) ∧ ∀ i m H, W i m H →
      (J.stop i H ∧ Q (.ref D) H) ∨ (J.go i H ∧ ∃ Nx : Hp → Prop, (∀ H', Nx H' → ∃ m', m' < m ∧ W (i + 1) m' H') ∧ ∀ x H', J.yld i H x H' → g x (L2.wipe σ own) H' fun σ2 H2 => L2.wipe σ2 own = L2.wipe σ own ∧ tt σ2 H2 fun k H3 =>
        if k = true then te σ2 H3 fun y H4 => ∃ acc, H4 D = some (.lst acc) ∧ acc.length < sizeLine ∧ Nx (upd H4 D (.lst (acc ++ [y]))) else Nx H3) := by
  obtain ⟨ys0, M0, hok, hlim⟩ := hok
  -- the state at turn i: acc made so far, what is left gives the rest
  have fD : F1 D = none := S.st.ex.free hD
  have nD : D ∉ lab1 := fun z => S.st.th D z hD
  refine ⟨fun i m H => m = items.length - i ∧ i ≤ items.length ∧ ∃ F' lab' M' acc vs rest, Aft F1 lab1 H1 F' lab' H ∧ Stt G F' lab' M' H ∧ F' D = none ∧ D ∉ lab' ∧ H D = some (.lst vs) ∧ Reps G F' acc vs ∧ cmpL b t e (wipeE ρ own) (items.drop i) M' = .ok rest M0 ∧ acc ++ rest = ys0,
    ⟨items.length, rfl, Nat.zero_le _, F1, lab1, M1, [], [], ys0, aft_put S.st hD, S.st.put hD, fD, nD, upd_same, reps_nil.mpr rfl, by simpa using hok, by simp⟩, ?_⟩
  rintro i m H ⟨rfl, hi, F', lab', M', acc, vs, rest, A', S', fD', nD', hv, rs, q, eq⟩
  have K := r1 i F' lab' M' H S' A'.fx
  by_cases hlt : i < items.length
  · have hd : items.drop i = items[i] :: items.drop (i + 1) := List.drop_eq_getElem_cons hlt
    have hx : items[i]? = some items[i] := by simp [hlt]
    obtain ⟨go, yl⟩ := K.1 _ hx
    rw [hd] at q
    unfold cmpL at q
    refine .inr ⟨go, fun H2 => ∃ F' lab' M' acc vs rest, Aft F1 lab1 H1 F' lab' H2 ∧ Stt G F' lab' M' H2 ∧ F' D = none ∧ D ∉ lab' ∧ H2 D = some (.lst vs) ∧ Reps G F' acc vs ∧ cmpL b t e (wipeE ρ own) (items.drop (i + 1)) M' = .ok rest M0 ∧ acc ++ rest = ys0,
      fun H2 n2 => ⟨items.length - (i + 1), by omega, rfl, hlt, n2⟩, fun x H2 y => ?_⟩
    obtain ⟨F2, A2, S2, r2⟩ := yl x H2 y
    have AA := A'.trans A2
    have keep : ∀ {F3 lab3 H3}, Aft F' lab' H F3 lab3 H3 → F3 D = none ∧ D ∉ lab3 ∧ H3 D = some (.lst vs) := fun {F3 lab3 H3} B => by
      obtain ⟨k1, k2⟩ := B.kp D _ hv nD'
      refine ⟨k2.trans fD', fun z => ?_, k1⟩
      obtain ⟨u, rfl, hu⟩ := B.lx
      rcases List.mem_append.mp z with z | z
      · exact nD' z
      · rw [hu D z] at hv; cases hv
    split at q
    · cases q
    · rename_i ρ1 e1
      have Sm : Sim G F2 lab' (wipeE ρ own) M' (L2.wipe σ own) H2 := (S.wipe own).aft AA S2
      refine hset x H2 _ ⟨F2, lab', wipeE ρ own, M', items[i], Sm, r2, ρ1, e1, fun σ3 S3 B3 => ⟨wipe_beside B3, ?_⟩⟩
      refine ht _ _ _ ⟨F2, lab', ρ1, M', S3, ?_⟩
      cases ht1 : t ρ1 M' with
      | ok k M2 =>
        rw [ht1] at q
        refine fun k' F3 lab3 H3 A3 S3' rk => ?_
        obtain rfl : k' = k := rk
        cases k' with
        | false =>
          rw [if_neg Bool.false_ne_true]
          obtain ⟨d1, d2, d3⟩ := keep (A2.trans A3)
          exact ⟨F3, lab3, M2, acc, vs, rest, AA.trans A3, S3', d1, d2, d3, Reps.mono (A2.trans A3).fx _ _ rs, q, eq⟩
        | true =>
          rw [if_pos rfl]
          have q' : (bnd (e ρ1 M2) fun w M2 => match w with
            | .d y => bnd (cmpL b t e (wipeE ρ own) (items.drop (i + 1)) M2) fun ys M3 => .ok (y :: ys) M3
            | _ => .bad) = .ok rest M0 := q
          refine he _ _ _ ⟨F3, lab3, ρ1, M2, S3.aft A3 S3', ?_⟩
          cases he1 : e ρ1 M2 with
          | ok w M3 =>
            rw [he1] at q'
            refine fun y F4 lab4 H4 A4 S4 ry => ?_
            cases w with
            | cell l => cases q'
            | d z =>
              have q2 : (bnd (cmpL b t e (wipeE ρ own) (items.drop (i + 1)) M3) fun ys M3 => .ok (z :: ys) M3) = .ok rest M0 := q'
              cases hc : cmpL b t e (wipeE ρ own) (items.drop (i + 1)) M3 with
              | ok ys M5 =>
                rw [hc] at q2
                have q3 : R.ok (z :: ys) M5 = .ok rest M0 := q2
                cases q3
                have B := (A2.trans A3).trans A4
                obtain ⟨d1, d2, d3⟩ := keep B
                refine ⟨vs, d3, ?_, ?_⟩
                · have hl : vs.length ≤ ys0.length := by rw [rs.length, ← eq]; simp
                  have h2 : acc.length + (z :: ys).length = ys0.length := by rw [← eq]; simp
                  rw [rs.length]
                  refine lt_line ?_
                  simp at h2
                  omega
                · -- D is written: it stands beside all
                  have hne : ∀ {a : Addr}, a ∈ lab4 → a ≠ D := fun {a} m z => d2 (z ▸ m)
                  have A5 : Aft F1 lab1 H1 F4 lab4 (upd H4 D (.lst (vs ++ [y]))) := by
                    have A6 := (A'.trans B)
                    refine ⟨A6.fx, A6.lx, fun a o e n => ?_, fun a e => ?_⟩
                    · obtain ⟨k1, k2⟩ := A6.kp a o e n
                      exact ⟨by rw [upd_ne (ne_of_none e hD)]; exact k1, k2⟩
                    · by_cases z : a = D
                      · rw [z, upd_same]; simp
                      · rw [upd_ne z]; exact A6.hx a e
                  have S5 : Stt G F4 lab4 M3 (upd H4 D (.lst (vs ++ [y]))) := by
                    refine ⟨fun a o e => by rw [upd_ne (ne_of_none e d1)]; exact S4.ex a o e, S4.len, S4.nd, fun l a c h1 h2 => ?_, fun a h => by rw [upd_ne (hne h)]; exact S4.th a h⟩
                    have hh : (upd H4 D (.lst (vs ++ [y]))) a = H4 a := upd_ne (hne (List.mem_of_getElem? h1))
                    have c0 := S4.at_ l a c h1 h2
                    cases c with
                    | lst xs => obtain ⟨f, vs', e, r⟩ := c0; exact ⟨f, vs', hh.trans e, r⟩
                    | dct ks xs => obtain ⟨f, vs', e, r⟩ := c0; exact ⟨f, vs', hh.trans e, r⟩
                    | ins c ws => obtain ⟨f, dx, vs', e, r⟩ := c0; exact ⟨f, dx, vs', hh.trans e, r⟩
                    | frz x => exact c0
                    | wl ws => obtain ⟨f, vs', e, r⟩ := c0; exact ⟨f, vs', hh.trans e, r⟩
                  exact ⟨F4, lab4, M3, acc ++ [z], vs ++ [y], ys, A5, S5, d1, d2, upd_same, (Reps.mono B.fx _ _ rs).append (Reps.one ry), hc, by rw [← eq]; simp⟩
              | ex c ws M5 => rw [hc] at q2; cases q2
              | bad => rw [hc] at q2; cases q2
          | ex c ws M3 => rw [he1] at q'; cases q'
          | bad => rw [he1] at q'; cases q'
      | ex c ws M2 => rw [ht1] at q; cases q
      | bad => rw [ht1] at q; cases q
  · have e : i = items.length := by omega
    subst e
    rw [List.drop_length] at q
    unfold cmpL at q
    cases q
    rw [List.append_nil] at eq
    subst eq
    exact .inl ⟨K.2 (Nat.le_refl _), h1 _ _ _ _ _ _ hok A' S' fD fD' nD' hv rs⟩
def W0 : WX := fun _ _ _ _ => False
variable {tg iter elt : Expr} {ifs : List Expr} {scope : Scope} {own : List (Str × Nat)} {pos : Pos} {mi : IM} {b : BD} {t : BM} {e : EM}
theorem comp_read {σ : St} {H : Hp} {Q : VK} (h : tM G Wx (mComp mi b t e (own.map (·.2))) σ H Q) : tLc (tI G Wx mi) (tG G (own.map (·.2)) b) (tMb G W0 t) (tM G W0 e) (own.map (·.2)) σ H Q := by
  obtain ⟨F, lab, ρ, M, S, h⟩ := h
  refine ⟨F, lab, ρ, M, S, Pst.bind h fun items M1 J F1 lab1 H1 A1 S1 r1 h1 => fun D hD => ?_⟩
  cases hc : cmpL b t e (wipeE ρ (own.map (·.2))) items M1 with
  | ok ys M2 =>
    rw [hc] at h1
    have h1 : Pst G (RepW G) F1 lab1 H1 (if ys.length ≤ lim then .ok (.d (.lst ys)) M2 else .bad) Q (atS Wx σ) := h1
    split at h1
    · rename_i hl
      refine comp_core (S.aft A1 S1) r1 W0 D hD (fun ys' M2' vs F2 lab2 H2 e2 A2 S2 fD fD' nD hv rs => ?_) ⟨ys, M2, hc, hl⟩ (fun v H2 Q2 q => q) (fun _ _ _ q => q) (fun _ _ _ q => q)
      rw [hc] at e2
      cases e2
      obtain ⟨A9, S9⟩ := adopt A2 S2 hD fD fD' nD hv
      exact h1 _ _ _ _ A9 S9 (rep_lst.mpr ⟨D, vs, rfl, upd_same, Reps.mono (fun b u e => by rw [upd_ne (ne_of_none e fD')]; exact e) _ _ rs⟩)
    · exact h1.elim
  | ex c ws M2 => rw [hc] at h1; exact h1.elim
  | bad => rw [hc] at h1; exact h1.elim
/-- the new list kept as a cell -/
def mCompC (it : IM) (b : BD) (t : BM) (e : EM) (own : List Nat) : EM := fun ρ M => bnd (it ρ M) fun xs M1 => bnd (unEx (cmpL b t e (wipeE ρ own) xs M1)) fun ys M2 => if ys.length ≤ lim then .ok (.cell M2.length) (M2 ++ [.lst ys]) else .bad
theorem comp_readC {σ : St} {H : Hp} {Q : VK} (h : tM G Wx (mCompC mi b t e (own.map (·.2))) σ H Q) : tLc (tI G Wx mi) (tG G (own.map (·.2)) b) (tMb G W0 t) (tM G W0 e) (own.map (·.2)) σ H Q := by
  obtain ⟨F, lab, ρ, M, S, h⟩ := h
  refine ⟨F, lab, ρ, M, S, Pst.bind h fun items M1 J F1 lab1 H1 A1 S1 r1 h1 => fun D hD => ?_⟩
  cases hc : cmpL b t e (wipeE ρ (own.map (·.2))) items M1 with
  | ok ys M2 =>
    rw [hc] at h1
    have h1 : Pst G (RepW G) F1 lab1 H1 (if ys.length ≤ lim then .ok (.cell M2.length) (M2 ++ [.lst ys]) else .bad) Q (atS Wx σ) := h1
    split at h1
    · rename_i hl
      refine comp_core (S.aft A1 S1) r1 W0 D hD (fun ys' M2' vs F2 lab2 H2 e2 A2 S2 fD fD' nD hv rs => ?_) ⟨ys, M2, hc, hl⟩ (fun v H2 Q2 q => q) (fun _ _ _ q => q) (fun _ _ _ q => q)
      rw [hc] at e2
      cases e2
      obtain ⟨A9, S9⟩ := adoptC A2 S2 hD fD' nD hv rs
      exact h1 _ _ _ _ A9 S9 ⟨D, by rw [← S2.len]; simp, rfl⟩
    · exact h1.elim
  | ex c ws M2 => rw [hc] at h1; exact h1.elim
  | bad => rw [hc] at h1; exact h1.elim
/-- [elt for tg in iter if ..] -/
theorem s_comp {own2 : List Nat} (hc : X.calm = true) (hN : X.N.Nodup) (hi : PI X tg iter (tI G Wx mi)) (ok : BlkOk X.N X.env.scope scope own)
    (hg : ∀ (s : Shared) (H : Hp) (C : Addr) (cl : List (Str × Addr)) (fp : List Addr), PG (X.blk s H scope (compEnvC scope cl C X.env) fp) tg (tG G own2 b))
    (ht : ∀ (s : Shared) (H : Hp) (C : Addr) (cl : List (Str × Addr)) (fp : List Addr), PTs (X.blk s H scope (compEnvC scope cl C X.env) fp) ifs (tMb G W0 t))
    (he : ∀ (s : Shared) (H : Hp) (C : Addr) (cl : List (Str × Addr)) (fp : List Addr), PE (X.blk s H scope (compEnvC scope cl C X.env) fp) elt (tM G W0 e)) (hw : own.map (·.2) = own2 := by rfl) (hs : ∀ x, foldedSetIterable iter X.env x = pure x := by intro _; rfl) :
    PE X (.ListComp elt [⟨tg, iter, ifs, 0⟩] scope pos) (tM G Wx (mComp mi b t e own2)) := by
  subst hw
  exact PE.imp (pe_lc hc hN hi ok hg ht he hs) fun _ _ _ h => comp_read h
theorem t_nil : PTs X [] (tMb G Wx bYes) := ⟨fun pins s σ H Q I h => pts_nil.run pins s σ H Q I (by
  obtain ⟨F, lab, ρ, M, S, h⟩ := h
  exact Pst.here (v := true) S.st h rfl)⟩
theorem t_one {c : Expr} (h : PT X c (tMb G Wx t)) : PTs X [c] (tMb G Wx t) := pts_one h
/-- y = [..] on one line -/
theorem z_comp {own2 : List Nat} {i : Nat} {y : Str} {py spos : Pos} (hc : X.calm = true) (hN : X.N.Nodup) (hi : PI X tg iter (tI G Wx mi)) (ok : BlkOk X.N X.env.scope scope own)
    (hg : ∀ (s : Shared) (H : Hp) (C : Addr) (cl : List (Str × Addr)) (fp : List Addr), PG (X.blk s H scope (compEnvC scope cl C X.env) fp) tg (tG G own2 b))
    (ht : ∀ (s : Shared) (H : Hp) (C : Addr) (cl : List (Str × Addr)) (fp : List Addr), PTs (X.blk s H scope (compEnvC scope cl C X.env) fp) ifs (tMb G W0 t))
    (he : ∀ (s : Shared) (H : Hp) (C : Addr) (cl : List (Str × Addr)) (fp : List Addr), PE (X.blk s H scope (compEnvC scope cl C X.env) fp) elt (tM G W0 e))
    (hsw : swapsWith (.ListComp elt [⟨tg, iter, ifs, 0⟩] scope pos) (some (.Name y py)) spos.line X.env = pure true) (hy : X.N[i]? = some y := by rfl) (hyl : X.env.scope.names.lookup y = some .local := by rfl) (hw : own.map (·.2) = own2 := by rfl) (hs : ∀ x, foldedSetIterable iter X.env x = pure x := by intro _; rfl) :
    PS X (.Assign [.Name y py] (.ListComp elt [⟨tg, iter, ifs, 0⟩] scope pos) spos) (tS G Wx (sSet i (mComp mi b t e own2))) := by
  subst hw
  exact PS.imp (ps_setLc hc hN hy hyl hsw hi ok hg ht he hs) fun E σ H h => by
    obtain ⟨F, lab, ρ, M, S, h⟩ := h
    exact comp_read ⟨F, lab, ρ, M, S, PstS.bind S h fun y M1 v F1 lab1 H1 A1 S1 r1 h1 => h1 _ F1 lab1 H1 Aft.refl ((S.aft A1 S1).set i r1)⟩
/-- .. kept as a cell -/
theorem z_compC {own2 : List Nat} {i : Nat} {y : Str} {py spos : Pos} (hc : X.calm = true) (hN : X.N.Nodup) (hi : PI X tg iter (tI G Wx mi)) (ok : BlkOk X.N X.env.scope scope own)
    (hg : ∀ (s : Shared) (H : Hp) (C : Addr) (cl : List (Str × Addr)) (fp : List Addr), PG (X.blk s H scope (compEnvC scope cl C X.env) fp) tg (tG G own2 b))
    (ht : ∀ (s : Shared) (H : Hp) (C : Addr) (cl : List (Str × Addr)) (fp : List Addr), PTs (X.blk s H scope (compEnvC scope cl C X.env) fp) ifs (tMb G W0 t))
    (he : ∀ (s : Shared) (H : Hp) (C : Addr) (cl : List (Str × Addr)) (fp : List Addr), PE (X.blk s H scope (compEnvC scope cl C X.env) fp) elt (tM G W0 e))
    (hsw : swapsWith (.ListComp elt [⟨tg, iter, ifs, 0⟩] scope pos) (some (.Name y py)) spos.line X.env = pure true) (hy : X.N[i]? = some y := by rfl) (hyl : X.env.scope.names.lookup y = some .local := by rfl) (hw : own.map (·.2) = own2 := by rfl) (hs : ∀ x, foldedSetIterable iter X.env x = pure x := by intro _; rfl) :
    PS X (.Assign [.Name y py] (.ListComp elt [⟨tg, iter, ifs, 0⟩] scope pos) spos) (tS G Wx (sSet i (mCompC mi b t e own2))) := by
  subst hw
  exact PS.imp (ps_setLc hc hN hy hyl hsw hi ok hg ht he hs) fun E σ H h => by
    obtain ⟨F, lab, ρ, M, S, h⟩ := h
    exact comp_readC ⟨F, lab, ρ, M, S, PstS.bind S h fun y M1 v F1 lab1 H1 A1 S1 r1 h1 => h1 _ F1 lab1 H1 Aft.refl ((S.aft A1 S1).set i r1)⟩
end
end VL
/-! V4: repr, methods of lists, defs and their calls, exceptions, the law's end. -/
namespace VL
open PySem PySem.Spec PyProof.Rows L2

/-! ### repr -/
mutual
theorem shown_len : ∀ (n : Nat) (d : D), okN n d = true → (pyD d).shown.length ≤ rlen d
  | n, .non, h => by simp only [pyD, rlen]; exact (by decide : (PyData.shown .none).length ≤ 5)
  | n, .bl b, h => by simp only [pyD, rlen]; cases b <;> decide
  | n, .int i, h => by
    simp only [pyD, rlen, PyData.shown]
    rw [PySem.ofString_length]
    have := int_text_length_le (a := i) (k := i.natAbs.log2 + 1) (by omega) (by omega)
    omega
  | n, .str s, h => by
    simp only [pyD, rlen, PyData.shown]
    have h' : (s.cps.all fun c => decide (c < 0x110000)) = true := by cases n <;> exact h
    have := PySem.StrLaws.reprText_len s (fun c hc => by
      have := Array.all_eq_true_iff_forall_mem.mp h' c (by simpa using hc)
      have := of_decide_eq_true this
      omega)
    omega
  | 0, .tup xs, h => by simp [okN] at h
  | n + 1, .tup xs, h => by
    have h1 := shown_lens n xs (by simpa [okN] using h)
    simp only [pyD, rlen, PyData.shown]
    have h2 := tupleText_len_le (PyData.shownAll (pyDs xs))
    have h3 := PyData.shownAll_length (pyDs xs)
    omega
  | 0, .lst xs, h => by simp [okN] at h
  | n + 1, .lst xs, h => by
    have h1 := shown_lens n xs (by simpa [okN] using h)
    simp only [pyD, rlen, PyData.shown]
    have h2 := listText_len_le (PyData.shownAll (pyDs xs))
    have h3 := PyData.shownAll_length (pyDs xs)
    omega
  | n, .dct _ _, h => by cases n <;> simp [okN] at h
  | n, .ins _ _, h => by cases n <;> simp [okN] at h
  | n, .scr _, h => by cases n <;> simp [okN] at h
theorem shown_lens : ∀ (n : Nat) (ds : List D), (∀ d ∈ ds, okN n d = true) → ((PyData.shownAll (pyDs ds)).map (·.length)).sum + 2 * (pyDs ds).length ≤ rlens ds
  | n, [], h => by simp [pyDs, PyData.shownAll, rlens]
  | n, d :: ds, h => by
    have h1 := shown_len n d (h d (by simp))
    have h2 := shown_lens n ds (fun z hz => h z (by simp [hz]))
    simp only [pyDs, PyData.shownAll, rlens, List.map_cons, List.sum_cons, List.length_cons]
    omega
end
mutual
/-- every int in it is short enough to be told -/
def sayD : D → Bool
  | .int i => decide (i.natAbs.log2 < 1900)
  | .tup xs => sayDs xs
  | .lst xs => sayDs xs
  | _ => true
def sayDs : List D → Bool
  | [] => true
  | d :: ds => sayD d && sayDs ds
end
mutual
theorem say_show : ∀ (n : Nat) (d : D), okN n d = true → sayD d = true → (pyD d).showable = true
  | n, .non, h, _ => by simp [pyD, PyData.showable]
  | n, .bl b, h, _ => by simp [pyD, PyData.showable]
  | n, .int i, h, q => by
    simp only [pyD, PyData.showable]
    simp only [sayD] at q
    exact decide_eq_true (by have := of_decide_eq_true q; omega)
  | n, .str s, h, _ => by simp [pyD, PyData.showable]
  | 0, .tup xs, h, _ => by simp [okN] at h
  | n + 1, .tup xs, h, q => by
    simp only [pyD, PyData.showable]
    exact say_shows n xs (by simpa [okN] using h) (by simpa [sayD] using q)
  | 0, .lst xs, h, _ => by simp [okN] at h
  | n + 1, .lst xs, h, q => by
    simp only [pyD, PyData.showable]
    exact say_shows n xs (by simpa [okN] using h) (by simpa [sayD] using q)
  | n, .dct _ _, h, _ => by cases n <;> simp [okN] at h
  | n, .ins _ _, h, _ => by cases n <;> simp [okN] at h
  | n, .scr _, h, _ => by cases n <;> simp [okN] at h
theorem say_shows : ∀ (n : Nat) (ds : List D), (∀ d ∈ ds, okN n d = true) → sayDs ds = true → PyData.showableAll (pyDs ds) = true
  | n, [], h, _ => by simp [pyDs, PyData.showableAll]
  | n, d :: ds, h, q => by
    simp only [sayDs, Bool.and_eq_true] at q
    simp only [pyDs, PyData.showableAll, Bool.and_eq_true]
    exact ⟨say_show n d (h d (by simp)) q.1, say_shows n ds (fun z hz => h z (by simp [hz])) q.2⟩
end
def reprD (d : D) : Str := (pyD d).shown
def reprW : List W → Sto → R W := fun xs M => match xs with
  | [w] => match seeW w M with
    | some d => if okN 60 d && sayD d && decide (rlen d ≤ lim) then .ok (.d (.str (reprD d))) M else .bad
    | none => .bad
  | _ => .bad
section
variable {X : Cx} {G : GT}
def rReprV (K : PySem.W.Frag) : List V → Hp → VK → Prop := fun vs H Q => ∃ (v : V) (d : PyData), vs = [v] ∧ Dp K H v d ∧ d.showable = true ∧ d.hasDict = false ∧ d.depth ≤ 60 ∧ d.shown.length ≤ sizeLine ∧ Q (.str d.shown) H
theorem call_reprV (hg : X.A.guards = some []) (hu : X.A.units + 64 < cLine) : CallR X (.builtin "repr") (rReprV X.K) := by
  intro pins s σ H vs us Q I r h
  obtain ⟨v, d, rfl, hd, hs, hn, hdep, hz, q⟩ := h
  obtain ⟨u, rfl, ru⟩ := vals1 r
  have hd0 := hd
  obtain ⟨as, rd⟩ := Dp.reads I d v u hd ru
  have viaRef : ∀ a, u = .ref a → wpAny (model X.prog X.w) X.A (call (.builtin "repr") [u]) (EP X pins σ Q) X.xe s := fun a e => by
    subst e
    exact repr_of_reads' rd hs (PyData.noDict_hsm hn) hg (by omega) (fun _ _ e => e) (fun h' t tk hk => ⟨.str d.shown, H, I.kept (t' := tk) hk, ⟨t, rfl⟩, q⟩) hz
  cases hd0 with
  | non => cases ru; exact PySem.P.repr_of_none ⟨.str _, H, I.tok _, ⟨_, rfl⟩, q⟩
  | bl b => cases ru; exact PySem.P.repr_of_bool ⟨.str _, H, I.tok _, ⟨_, by cases b <;> rfl⟩, q⟩
  | int i =>
    obtain ⟨t, rfl⟩ := ru
    exact PySem.P.repr_of_int (by simpa [PyData.showable] using hs) ⟨.str _, H, I.tok _, ⟨_, rfl⟩, q⟩
  | str x =>
    obtain ⟨t, rfl⟩ := ru
    exact PySem.P.repr_of_str ⟨.str _, H, I.tok _, ⟨_, rfl⟩, q⟩ hz
  | lst h1 h2 => exact viaRef _ ru
  | tup h1 h2 => exact viaRef _ ru
theorem cs_repr : CallS G (rReprV G.K) reprW := by
  intro F lab M H xs vs Q E S rs h1
  unfold reprW at h1
  split at h1
  · split at h1
    · rename_i d hd
      split at h1
      · rename_i hk
        simp only [Bool.and_eq_true, decide_eq_true_eq] at hk
        obtain ⟨⟨h2, h3⟩, h4⟩ := hk
        obtain ⟨v, rfl, rv⟩ := rw1 rs
        have hl := ok_lay 60 d h2
        refine ⟨v, pyD d, rfl, rep_dp 60 d v h2 (see_ok S rv hd), say_show 60 d h2 h3, PyData.hasDict_of_canLay _ hl.1, hl.2, Nat.le_trans (shown_len 60 d h2) (le_line h4), h1.here S k_str⟩
      · exact h1.elim
    · exact h1.elim
  · exact h1.elim
end

/-! ### methods of built-in types -/
def MtS (G : GT) (r : V → List V → Hp → VK → Prop) (f : W → List W → Sto → R W) : Prop := ∀ (F : Hp) (lab : List Addr) (M : Sto) (H : Hp) (x : W) (v : V) (xs : List W) (vs : List V) (Q : VK) (E : XK),
  Stt G F lab M H → RepW G F lab x v → RepWs G F lab xs vs → Pst G (RepW G) F lab H (f x xs M) Q E → r v vs H Q
def mMeth (T : String) (f : W → List W → Sto → R W) (o : EM) (a : AM) : EM := fun ρ M => bnd (o ρ M) fun x M1 => if tyW x M1 = some T then bnd (a ρ M1) fun xs M2 => f x xs M2 else .bad
section
variable {X : Cx} {G : GT} {Wx : WX} {o e : Expr} {es : List Expr} {mo : EM} {ma : AM} {name : Str} {apos cpos : Pos} {T id : String} {r : V → List V → Hp → VK → Prop} {f : W → List W → Sto → R W}
theorem tyV_of {F : Hp} {lab : List Addr} {M : Sto} {H : Hp} {w : W} {v : V} (S : Stt G F lab M H) (rr : RepW G F lab w v) (h : tyW w M = some T) (hT : T = "list" ∨ T = "dict" ∨ T = "str") : tyV G.K T v H := by
  unfold tyW at h
  split at h
  · rcases hT with rfl | rfl | rfl <;> simp at h
  · rcases hT with rfl | rfl | rfl <;> simp at h
  · rcases hT with rfl | rfl | rfl <;> simp at h
  · cases h; rw [w_str rr]; exact rfl
  · rcases hT with rfl | rfl | rfl <;> simp at h
  · cases h
    obtain ⟨b, us, rfl, hb, rb⟩ := w_lst rr
    exact .inl ⟨rfl, us, SqL.of (S.ex _ _ hb)⟩
  · cases h
    obtain ⟨b, us, rfl, hb, _, rb⟩ := w_dct rr
    exact .inr (.inr (.inl ⟨rfl, .inl ⟨_, S.ex _ _ hb⟩⟩))
  · rename_i l
    obtain ⟨a, hl, rfl⟩ := rr
    split at h
    · rename_i ho
      cases h
      obtain ⟨_, us, ha, _⟩ := S.at_ l a _ hl ho
      exact .inl ⟨rfl, us, SqL.of ha⟩
    · rename_i ho
      cases h
      obtain ⟨_, us, ha, _⟩ := S.at_ l a _ hl ho
      exact .inl ⟨rfl, us, SqL.of ha⟩
    · rename_i ho
      cases h
      obtain ⟨_, us, ha, _⟩ := S.at_ l a _ hl ho
      exact .inr (.inr (.inl ⟨rfl, .inl ⟨_, ha⟩⟩))
    · rename_i ho
      cases h
      obtain ⟨b, us, e, hb, rb⟩ := rep_lst.mp (S.at_ l a _ hl ho)
      cases e
      exact .inl ⟨rfl, us, SqL.of (S.ex _ _ hb)⟩
    · rename_i ho
      cases h
      obtain ⟨b, us, e, hb, _, rb⟩ := rep_dct.mp (S.at_ l a _ hl ho)
      cases e
      exact .inr (.inr (.inl ⟨rfl, .inl ⟨_, S.ex _ _ hb⟩⟩))
    · cases h
  · cases h
theorem s_meth (hT : T = "list" ∨ T = "dict" ∨ T = "str") (pa : PlainAttrs T) (slot : Slot T name id) (hty : typeOf (.builtin id) = pure (.type "method_descriptor")) (hm : MtR X id r) (hs : MtS G r f) (ho : PE X o (tM G Wx mo)) (ha : PA X (e :: es) (tMs G Wx ma)) (hK : X.K = G.K)
    (hbase : attributeBase o name X.env (eval o X.env) = eval o X.env := by rfl)
    (hfew : ((backTo cpos (starEach (e :: es) X.env)).all (fun x => !x.1) && (backToKw cpos (keywordEach [] X.env)).all (fun x => x.1.isSome)
      && decide ((e :: es).length + ([] : List Keyword).length + (if ([] : List Keyword).isEmpty then 0 else 1) < 30)) = true := by rfl)
    (hline : (apos.endLine == cpos.line) = true := by rfl) (hst : starEach (e :: es) X.env = (false, eval e X.env) :: starEach es X.env := by rfl) (hplain : (backTo cpos (starEach es X.env)).any (·.1) = false := by rfl) :
    PE X (.Call (.Attribute o name apos) (e :: es) [] cpos) (tM G Wx (mMeth T f mo ma)) := PE.imp (pe_bm pa slot hty hm ho ha hbase hfew hline hst hplain) fun σ H Q h => by
  obtain ⟨F, lab, ρ, M, S, h⟩ := h
  refine ⟨F, lab, ρ, M, S, Pst.bind h fun x M1 v F1 lab1 H1 A1 S1 r1 h1 => ?_⟩
  split at h1
  · rename_i ht
    rw [hK]
    refine ⟨tyV_of S1 r1 ht hT, F1, lab1, ρ, M1, S.aft A1 S1, Pst.bind h1 fun xs M2 vs F2 lab2 H2 A2 S2 r2 h2 => ?_⟩
    exact hs _ _ _ _ _ _ _ _ _ _ S2 (r1.aft A2) r2 h2
  · exact h1.elim
def appW : W → List W → Sto → R W := fun o xs M => match o, xs with
  | .cell l, [.d d] => match M[l]? with
    | some (.lst ys) => if ys.length < lim then .ok (.d .non) (M.set l (.lst (ys ++ [d]))) else .bad
    | _ => .bad
  | _, _ => .bad
theorem ms_append : MtS G rAppend appW := by
  intro F lab M H x v xs vs Q E S rx rs h1
  unfold appW at h1
  split at h1
  · rename_i l d
    split at h1
    · rename_i ys ho
      split at h1
      · rename_i hz
        obtain ⟨a, hl, rfl⟩ := rx
        obtain ⟨u, rfl, ru⟩ := rw1 rs
        obtain ⟨fa, us, ha, rr⟩ := S.at_ l a _ hl ho
        refine ⟨a, us, u, rfl, rfl, ha, by rw [rr.length]; exact lt_line hz, ?_⟩
        exact h1 _ _ _ _ (aft_write S hl) (S.write hl fa ⟨fa, _, upd_same, rr.append (Reps.one ru)⟩) k_non
      · exact h1.elim
    · exact h1.elim
  · exact h1.elim
theorem s_append (ho : PE X o (tM G Wx mo)) (he : PE X e (tM G Wx m)) (hK : X.K = G.K) (hbase : attributeBase o "append" X.env (eval o X.env) = eval o X.env := by rfl)
    (hfew : ((backTo cpos (starEach [e] X.env)).all (fun x => !x.1) && (backToKw cpos (keywordEach [] X.env)).all (fun x => x.1.isSome)
      && decide ([e].length + ([] : List Keyword).length + (if ([] : List Keyword).isEmpty then 0 else 1) < 30)) = true := by rfl)
    (hline : (apos.endLine == cpos.line) = true := by rfl) (hst : starEach [e] X.env = (false, eval e X.env) :: starEach [] X.env := by rfl) :
    PE X (.Call (.Attribute o "append" apos) [e] [] cpos) (tM G Wx (mMeth "list" appW mo (aCons m aNil))) :=
  s_meth (.inl rfl) PySem.F.plainAttrs_list PySem.F.slot_list_append PySem.F.type_list_append mt_append ms_append ho (a_cons he a_nil hst) hK hbase hfew hline hst (by rfl)

/-- a display that may hold cells, itself a cell -/
def wlW (ws : List W) (M : Sto) : R W := if ws.length ≤ lim then .ok (.cell M.length) (M ++ [.wl ws]) else .bad
def mLstW (a : AM) : EM := fun ρ M => bnd (a ρ M) wlW
theorem s_lstW {pos : Pos} (h : PA X es (tMs G Wx ma)) : PE X (.List es pos) (tM G Wx (mLstW ma)) := PE.imp (pe_lst h) fun σ H Q h => by
  obtain ⟨F, lab, ρ, M, S, h⟩ := h
  refine ⟨F, lab, ρ, M, S, Pst.bind h fun xs M1 vs F1 lab1 H1 A1 S1 r1 h1 => ?_⟩
  unfold wlW at h1
  split at h1
  · rename_i hz
    refine ⟨by rw [r1.length]; exact le_line hz, fun p hp => ?_⟩
    exact h1 _ _ _ _ (aft_cell S1 hp) (S1.cell hp fun A => ⟨(S1.fresh hp).1, vs, upd_same, r1.aft A⟩) ⟨p, by rw [← S1.len]; simp, rfl⟩
  · exact h1.elim
/-- a, b = a list of two, perhaps with cells -/
def sUnl2 (i j : Nat) (m : EM) : SM := fun ρ M => bS (m ρ M) ρ fun w M1 => match w with
  | .cell l => match M1[l]? with
    | some (.wl [x, y]) => .ok (.nx ((ρ.set i (some x)).set j (some y))) M1
    | _ => .bad
  | _ => .bad
theorem z_unl2 {x y : Str} {i j : Nat} {m : EM} {px py pt pos : Pos} {k : Nat} (hc : X.calm = true) (hN : X.N.Nodup) (h : PE X e (tM G Wx m)) (hK : X.K = G.K) (hi : X.N[i]? = some x := by rfl) (hj : X.N[j]? = some y := by rfl)
    (hx : Loc X.env.scope x := by first | exact Or.inl rfl | exact Or.inr rfl) (hy : Loc X.env.scope y := by first | exact Or.inl rfl | exact Or.inr rfl) (hfx : X.fn x = true ∨ X.env.scope.names.lookup x = some .local := by first | exact .inl rfl | exact .inr rfl) (hfy : X.fn y = true ∨ X.env.scope.names.lookup y = some .local := by first | exact .inl rfl | exact .inr rfl)
    (hs : swapsWithSole [.Tuple [.Name x px, .Name y py] k pt] e pos.line X.env = pure false := by rfl) (hw : swappedStores [.Tuple [.Name x px, .Name y py] k pt] e X.env = pure none := by rfl) :
    PS X (.Assign [.Tuple [.Name x px, .Name y py] k pt] e pos) (tS G Wx (sUnl2 i j m)) :=
  PS.imp (ps_asg h (pg_unl hc (pgs_cons (pg_name hN hi hx hfx) (pgs_cons (pg_name hN hj hy hfy) pgs_nil))) hs hw) fun E σ H h => by
    obtain ⟨F, lab, ρ, M, S, h⟩ := h
    refine ⟨F, lab, ρ, M, S, PstS.bind S h fun w M1 v F1 lab1 H1 A1 S1 r1 h1 => ?_⟩
    split at h1
    · rename_i l
      split at h1
      · rename_i a b ho
        obtain ⟨p, hl, rfl⟩ := r1
        obtain ⟨fa, vs, ha, rr⟩ := S1.at_ l p _ hl ho
        obtain ⟨u, t, rfl, ru, rt⟩ := rw2 rr
        rw [hK]
        refine ⟨p, [u, t], rfl, SqL.of ha, rfl, u, [t], rfl, t, [], rfl, rfl, ?_⟩
        exact h1 _ F1 lab1 H1 Aft.refl (((S.aft A1 S1).set i ru).set j rt)
      · exact h1.elim
    · exact h1.elim
end

/-! ### defs -/
/-- what a def promises, by its meaning -/
def spM (G : GT) (n : Nat) (g : List W → Sto → R W) : Sp := fun vs H Q E => ∃ F lab M ws, Stt G F lab M H ∧ RepWs G F lab ws vs ∧ ws.length = n ∧ Pst G (RepW G) F lab H (g ws M) Q E
/-- the promise is kept wherever no repr is under way -/
structure Fnk (P : Program) (w : World) (K : PySem.W.Frag) (mg : Str → Option Value) (base : Heap) (k : Nat) (f : Addr) (fd : FuncData) (ps : List Str) (sp : Sp) : Prop where
  len : ∀ vs H Q E, sp vs H Q E → vs.length = ps.length
  run : ∀ (A : Around) (outer : List PySem.Env) (s : Shared) (H : Hp) (args : Args) (us : List Value) (vs : List V) (Q : VK) (E : XK), A.guards = some [] → Room k A → Env0 P w K mg base A outer s H → BindsTo s fd args (ps.zip us) → Vals vs us → sp vs H Q E →
    codeAny (model P w) A (.call (.ref f) args) (CR (L2.CX P w) outer P w H s Q E) s
section
variable {P : Program} {w : World} {K : PySem.W.Frag} {mg : Str → Option Value} {base : Heap}
theorem Fnk.mono {j k : Nat} {f : Addr} {fd : FuncData} {ps : List Str} {sp : Sp} (F : Fnk P w K mg base j f fd ps sp) (h : j ≤ k) : Fnk P w K mg base k f fd ps sp :=
  ⟨F.len, fun A outer s H args us vs Q E hg hr => F.run A outer s H args us vs Q E hg (hr.mono h)⟩
theorem Fnk.imp {k : Nat} {f : Addr} {fd : FuncData} {ps : List Str} {sp sp' : Sp} (F : Fnk P w K mg base k f fd ps sp) (h : ∀ vs H Q E, sp' vs H Q E → sp vs H Q E) : Fnk P w K mg base k f fd ps sp' :=
  ⟨fun vs H Q E q => F.len vs H Q E (h _ _ _ _ q), fun A outer s H args us vs Q E hg hr he hb hv hs => F.run A outer s H args us vs Q E hg hr he hb hv (h _ _ _ _ hs)⟩
theorem fnk_of {k : Nat} {f : Addr} {name qual : Str} {params : Arguments} {body : List Stmt} {scope : Scope} {dV kV doc pm cdv ct oc : Value} {an od : Option Addr} {osl : Array (Option Value)} {N ps : List Str} {sp : Sp}
    (lk : K.lookup f = some ⟨oc, od, .func (PySem.W.fnOf name qual params body scope dV kV doc pm an cdv ct), osl⟩) (hcd : PySem.W.codeIn K cdv qual = true) (S : FnScope N ps scope) (len : ∀ vs H Q E, sp vs H Q E → vs.length = ps.length)
    (hbody : ∀ (A : Around) (outer : List PySem.Env) (s : Shared) (H : Hp) (vs : List V) (Q : VK) (E : XK), A.guards = some [] → Room k (A.deeper (envOfC qual scope s.heap.objs.size f cdv)) → sp vs H Q E →
      ∃ t, PSs (cxOf (L2.CX P w) P w K mg base N qual scope f cdv A outer s H E) body t ∧ t { nx := fun _ H' => Q .non H', rt := Q } (L2.start N vs) H) :
    Fnk P w K mg base (k + 1) f (PySem.W.fnOf name qual params body scope dV kV doc pm an cdv ct) ps sp := by
  refine ⟨len, fun A outer s H args us vs Q E hgd hr e0 hb r hsp => ?_⟩
  have KX : K.In s.heap := e0.mod.kin.keeps fun b o e => (e0.bs b o e).1
  have lim : s.heap.NoLimit := e0.mod.nolimit.keeps fun b o e => (e0.bs b o e).1
  have hkind : ∀ y ∈ ps.zip us, scope.names.lookup y.1 = some .local ∨ (scope.names.lookup y.1 = some .cell ∧ ((cellsFrom (s.heap.objs.size + 1) scope.names []).lookup y.1).isSome = true) := by
    rintro ⟨n, v⟩ hy
    rcases S.par n (List.of_mem_zip hy).1 with q | q
    · exact Or.inl q
    · exact Or.inr ⟨q, PySem.W.cellsFrom_some _ _ _ (Or.inl q)⟩
  refine codeAny_call_function hr.depth (KX _ _ lk) rfl S.co S.gen rfl (PySem.W.codeRec_of KX hcd) (hb _ _ _ _ ?_)
  refine wpAny_newFunctionEnv_cells S.kind hkind fun env he s1 x => ?_
  subst he; refine ⟨lim.keeps x.toInCall.keep, codeAny_func ?_⟩
  obtain ⟨t, ht, hq⟩ := hbody A outer s H vs Q E hgd (hr.deeper _) hsp
  have I : Inv (cxOf (L2.CX P w) P w K mg base N qual scope f cdv A outer s H E) [] (L2.start N vs) H s1 := inv_start S hr.hd e0 (len _ _ _ _ hsp) r x
  refine wpAny_mono (ht.run [] s1 (L2.start N vs) H _ I hq) (fun fl s' hs => ?_) fun e s' hs => hs
  cases fl with
  | ret u => obtain ⟨v, σ', H', J, rv, q⟩ := hs; exact ⟨v, H', J.os, J.bare, J.base, J.hok, rv, q⟩
  | next => obtain ⟨σ', H', J, q⟩ := hs; exact ⟨.non, H', J.os, J.bare, J.base, J.hok, rfl, q⟩
  | brk => obtain ⟨_, _, _, q⟩ := hs; exact False.elim q
  | cont => obtain ⟨_, _, _, q⟩ := hs; exact False.elim q
/-- a meaning of a body as a meaning of the def -/
def defM (N : List Str) (m : SM) (ws : List W) (M : Sto) : R W := match m (ws.map some ++ List.replicate (N.length - ws.length) none) M with
  | .ok (.nx _) M' => .ok (.d .non) M'
  | .ok (.rt w) M' => .ok w M'
  | .ok _ _ => .bad
  | .ex c es _ M' => .ex c es M'
  | .bad => .bad
theorem start_sim {G : GT} {F : Hp} {lab : List Addr} {M : Sto} {H : Hp} {ws : List W} {vs : List V} (N : List Str) (S : Stt G F lab M H) (r : RepWs G F lab ws vs) : Sim G F lab (ws.map some ++ List.replicate (N.length - ws.length) none) M (L2.start N vs) H := by
  refine ⟨S, fun i w e => ?_, by unfold L2.start; simp [r.length]⟩
  have hi : i < ws.length := by
    by_cases hi : i < ws.length
    · exact hi
    · rw [List.getElem?_append_right (by simpa using hi), List.getElem?_replicate] at e
      split at e <;> cases e
  rw [List.getElem?_append_left (by simpa using hi), List.getElem?_map] at e
  cases e2 : ws[i]? with
  | none => rw [e2] at e; cases e
  | some w' =>
    rw [e2] at e
    cases e
    obtain ⟨v, h1, h2⟩ := r.get e2
    refine ⟨v, ?_, h2⟩
    unfold L2.start
    rw [List.getElem?_append_left (by simp [r.length]; exact hi), List.getElem?_map, h1]
    rfl
/-- THE RULE for a def: its body's meaning -/
theorem defk {G : GT} {x qual : Str} {st : Stmt} {f : Addr} {fd : FuncData} {N ps : List Str} {k : Nat} {m : SM} (hK : G.K = K) (Fn : Fun K x qual st f fd) (S : FnScope N ps (defScope st))
    (hb : ∀ (cdv : Value) (A : Around) (outer : List PySem.Env) (s : Shared) (H : Hp) (E : XK), A.guards = some [] → Room k (A.deeper (envOfC qual (defScope st) s.heap.objs.size f cdv)) →
      ∀ (Wx : WX), Takes (cxOf (L2.CX P w) P w K mg base N qual (defScope st) f cdv A outer s H E) Wx → PSs (cxOf (L2.CX P w) P w K mg base N qual (defScope st) f cdv A outer s H E) (defBody st) (tS G Wx m)) :
    Fnk P w K mg base (k + 1) f fd ps (spM G ps.length (defM N m)) := by
  obtain ⟨oc, od, kV, doc, pm, an, cdv, ct, osl, rfl, lk, hcd⟩ := Fn.ex
  refine fnk_of lk hcd S (fun vs H Q E h => ?_) fun A outer s H vs Q E hgd hr hsp => ?_
  · obtain ⟨F, lab, M, ws, S', r, hl, _⟩ := h
    rw [r.length, hl]
  · obtain ⟨F, lab, M, ws, S', r, hl, q⟩ := hsp
    refine ⟨_, hb cdv A outer s H E hgd hr (fun cls d _ H => E cls d H) (takes_of rfl rfl rfl rfl), F, lab, _, M, start_sim N S' r, ?_⟩
    unfold defM at q
    cases e : m (ws.map some ++ List.replicate (N.length - ws.length) none) M with
    | ok fl M' =>
      rw [e] at q
      cases fl with
      | nx ρ => exact fun σ' F' lab' H' A' S2 => q .non F' lab' H' A' S2.st k_non
      | rt w => exact q
      | bk ρ => exact q.elim
      | ct ρ => exact q.elim
    | ex c es ρ M' => rw [e] at q; exact fun cls dx σ' F' lab' H' A' S2 x => q cls dx F' lab' H' A' S2.st x
    | bad => rw [e] at q; exact q.elim
/-! ### a def without effects on what stood -/
theorem aft_pure {G : GT} {F F' : Hp} {lab : List Addr} {M : Sto} {H H' : Hp} {lab0 : List Addr} (S : Stt G F lab M H) (A : Aft F [] H F' lab0 H') (ex : Same F' H') : Aft F lab H F' lab H' ∧ Stt G F' lab M H' := by
  have B : Aft F lab H F' lab H' := ⟨A.fx, ⟨[], by simp, by simp⟩, fun a o e _ => A.kp a o e (by simp), A.hx⟩
  refine ⟨B, ex, S.len, S.nd, fun l a c h1 h2 => ?_, fun a h => A.hx a (S.th a h)⟩
  have ha := S.th a (List.mem_of_getElem? h1)
  cases e : H a with
  | none => exact absurd e ha
  | some o =>
    obtain ⟨k1, k2⟩ := A.kp a o e (by simp)
    exact (S.at_ l a c h1 h2).aft B (fun f => k2.trans f) (k1.trans e.symm)
theorem RepWs.lab {G : GT} {F : Hp} {lab t : List Addr} : ∀ {ws : List W} {vs : List V}, RepWs G F lab ws vs → RepWs G F (lab ++ t) ws vs
  | [], _, h => h
  | .d x :: ws, _, h => by
    obtain ⟨v, r, e, h1, h2⟩ := h
    exact ⟨v, r, e, h1, RepWs.lab h2⟩
  | .cell l :: ws, _, h => by
    obtain ⟨v, r, e, ⟨a, h0, h1⟩, h2⟩ := h
    exact ⟨v, r, e, ⟨a, by rw [List.getElem?_append_left (List.getElem?_eq_some_iff.mp h0).1]; exact h0, h1⟩, RepWs.lab h2⟩
theorem CellOk.lab {G : GT} {F : Hp} {lab t : List Addr} {H : Hp} {a : Addr} {o : O} (c : CellOk G F lab H a o) : CellOk G F (lab ++ t) H a o := by
  cases o with
  | lst xs => exact c
  | dct ks xs => exact c
  | ins k ws => obtain ⟨f, dx, vs, e, r, l⟩ := c; exact ⟨f, dx, vs, e, r.lab, l⟩
  | frz x => exact c
  | wl ws => obtain ⟨f, vs, e, r⟩ := c; exact ⟨f, vs, e, r.lab⟩
def pureC (g : List W → Sto → R W) (ws : List W) (M : Sto) : R W := match unW ws with
  | none => .bad
  | some ds => match g (ds.map .d) [] with
    | .ok (.d d) _ => .ok (.d d) M
    | .ex c es M' => match unW es with
      | some ds => .ex c (ds.map .d) M
      | none => match es with
        | [.cell l] => match M'[l]? with
          | some (.lst xs) => .ex c [.cell M.length] (M ++ [.lst xs])
          | _ => .bad
        | _ => .bad
    | _ => .bad
theorem unW_eq : ∀ {ws : List W} {ds : List D}, unW ws = some ds → ws = ds.map .d
  | [], _, e => by cases e; rfl
  | .d x :: r, ds, e => by
    unfold unW at e
    cases e2 : unW r with
    | none => rw [e2] at e; cases e
    | some ys => rw [e2] at e; cases e; rw [unW_eq e2]; rfl
  | .cell l :: r, ds, e => by cases e
theorem repWs_lab {G : GT} {F : Hp} {lab lab' : List Addr} : ∀ {ds : List D} {vs : List V}, RepWs G F lab (ds.map .d) vs → RepWs G F lab' (ds.map .d) vs
  | [], _, h => h
  | d :: ds, _, h => by
    obtain ⟨v, r, e, h1, h2⟩ := h
    exact ⟨v, r, e, h1, repWs_lab h2⟩
theorem stt_nil {G : GT} {F : Hp} {H : Hp} (e : Same F H) : Stt G F [] [] H := ⟨e, rfl, List.nodup_nil, fun l a o h _ => by simp at h, fun a h => by simp at h⟩
theorem spM_pure {G : GT} {n : Nat} {g : List W → Sto → R W} {vs : List V} {H : Hp} {Q : VK} {E : XK} (h : spM G n (pureC g) vs H Q E) : spM G n g vs H Q E := by
  obtain ⟨F, lab, M, ws, S, r, hl, q⟩ := h
  unfold pureC at q
  split at q
  · exact q.elim
  · rename_i ds hd
    have ew := unW_eq hd
    subst ew
    refine ⟨F, [], [], ds.map .d, stt_nil S.ex, repWs_lab r, hl, ?_⟩
    cases e : g (ds.map .d) [] with
    | ok w M' =>
      rw [e] at q
      cases w with
      | d d =>
        intro v F' lab' H' A S' rv
        obtain ⟨B, T⟩ := aft_pure S A S'.ex
        exact q v F' lab H' B T rv
      | cell l => exact q.elim
    | ex c es M' =>
      rw [e] at q
      intro cls dx F' lab' H' A S' x
      obtain ⟨B, T⟩ := aft_pure S A S'.ex
      simp only at q
      split at q
      · rename_i ds' he
        have ee := unW_eq he
        subst ee
        refine q cls dx F' lab H' B T ⟨x.1, ?_⟩
        rcases x.2 with y | ⟨d, vs', h1, h2, h3⟩
        · exact .inl y
        · exact .inr ⟨d, vs', h1, h2, repWs_lab h3⟩
      · rename_i he
        split at q
        · rename_i l
          split at q
          · rename_i xs hM
            -- the cell is taken over
            rcases x.2 with y | ⟨d, vs', h1, h2, h3⟩
            · exact absurd y.1 (by simp)
            · obtain ⟨v, rfl, a, hla, rfl⟩ := rw1 h3
              obtain ⟨fa, us, ha, ra⟩ := S'.at_ l a _ hla hM
              have nH : H a = none := by
                obtain ⟨t, et, ht⟩ := A.lx
                rw [List.nil_append] at et
                exact ht a (by rw [← et]; exact List.mem_of_getElem? hla)
              have na : a ∉ lab := fun z => S.th a z nH
              refine q cls dx F' (lab ++ [a]) H' ⟨B.fx, ⟨[a], rfl, by simpa using nH⟩, B.kp, B.hx⟩ ⟨T.ex, by simp [T.len], ?_, fun j b c hb hc => ?_, fun b hb => ?_⟩ ⟨x.1, .inr ⟨d, [.ref a], h1, h2, .ref a, [], rfl, ⟨a, by rw [← S.len]; simp, rfl⟩, rfl⟩⟩
              · rw [List.nodup_append]
                exact ⟨S.nd, by simp, fun b hb c hc e => na (by simp at hc; subst hc; subst e; exact hb)⟩
              · by_cases hj : j < lab.length
                · rw [List.getElem?_append_left hj] at hb
                  rw [List.getElem?_append_left (by rw [← S.len]; exact hj)] at hc
                  exact (T.at_ j b c hb hc).lab
                · have ej : j = lab.length := by
                    have := (List.getElem?_eq_some_iff.mp hb).1
                    simp at this
                    omega
                  subst ej
                  rw [List.getElem?_append_right (Nat.le_refl _)] at hb
                  rw [S.len, List.getElem?_append_right (Nat.le_refl _)] at hc
                  simp at hb hc
                  subst hb hc
                  exact ⟨fa, us, ha, ra⟩
              · rcases List.mem_append.mp hb with hb | hb
                · exact T.th b hb
                · simp at hb
                  subst hb
                  rw [ha]; simp
          · exact q.elim
        · exact q.elim
    | bad => rw [e] at q; exact q.elim
end
end VL
/-! V5: calls of defs, raise, try, the law's end. -/
namespace VL
open PySem PySem.Spec PyProof.Rows L2

/-! ### calls -/
def mFn (n : Nat) (g : List W → Sto → R W) (a : AM) : EM := fun ρ M => bnd (a ρ M) fun ws M1 => if ws.length = n then g ws M1 else .bad
section
variable {X : Cx} {G : GT} {Wx : WX} {k : Nat} {f : Addr} {fd : FuncData} {ps : List Str} {n : Nat} {g : List W → Sto → R W} {x : Str} {p pos pos2 : Pos} {e : Expr} {es : List Expr} {ma : AM}
theorem run_k {pins : List (Addr × Obj)} {σ : St} {H : Hp} {s : Shared} {Q : VK} {us : List Value} {vs : List V} (F : Fnk X.prog X.w X.K X.mg X.base k f fd ps (spM G n g)) (hgd : X.A.guards = some []) (hr : Room k X.A) (hb : Binds X.K fd ps []) (tk : Takes X Wx)
    (I : Inv X pins σ H s) (r : Vals vs us) (h : spM G n g vs H Q (atS Wx σ)) : wpAny (model X.prog X.w) X.A (call (.ref f) us) (EP X pins σ Q) X.xe s := by
  have hl : us.length = ps.length := by rw [← r.length]; exact F.len _ _ _ _ h
  have bt := hb s us I.kIn (by simpa using hl)
  rw [List.append_nil] at bt
  have c := F.run X.A X.stack s H ⟨us, []⟩ us vs Q (atS Wx σ) hgd hr I.env0 bt r h
  refine wpAny_call (codeAny_mono c fun rr s' hq => ?_)
  match rr, hq with
  | .error er, hq => exact tk er s' (XE.of_call I (fun _ _ _ z => z) hq)
  | .ok (.ret u), hq => exact I.after hq
theorem s_call (F : Fnk X.prog X.w X.K X.mg X.base k f fd ps (spM G n g)) (hgd : X.A.guards = some []) (hr : Room k X.A) (hm : X.mg x = some (.ref f)) (hk : PySem.W.keepIn X.K (.ref f) = true) (hb : Binds X.K fd ps []) (tk : Takes X Wx) (ha : PA X (e :: es) (tMs G Wx ma))
    (hg : Gl X x := by rfl) (hdb : (x == ("__debug__" : Str)) = false := by decide) (he : starEach (e :: es) X.env = (false, eval e X.env) :: starEach es X.env := by rfl) (hpl : (backTo pos (starEach es X.env)).any (·.1) = false := by rfl) :
    PE X (.Call (.Name x p) (e :: es) [] pos) (tM G Wx (mFn n g ma)) := by
  refine ⟨fun pins s σ H Q I h => ?_⟩
  obtain ⟨F0, lab, ρ, M, S, h⟩ := h
  have hA := ha.run pos pins s σ H (fun vs H1 => spM G n g vs H1 Q (atS Wx σ)) I ⟨F0, lab, ρ, M, S, Pst.bind h fun ws M1 vs F1 lab1 H1 A1 S1 r1 h1 => by
    split at h1
    · rename_i hl
      exact ⟨F1, lab1, M1, ws, S1, r1, hl, h1⟩
    · exact h1.elim⟩
  refine wpAny_Call_Name_kw (ld_glob I hg hm (PySem.W.callWith_K (h₀ := X.base) I.ok.mod.kin hk (thn hA fun us s1 ⟨vs, H1, I1, r, q⟩ => ⟨I1.kIn, run_k F hgd hr hb tk I1 r q⟩) he hpl) hdb)
theorem s_call0 (F : Fnk X.prog X.w X.K X.mg X.base k f fd ps (spM G 0 g)) (hgd : X.A.guards = some []) (hr : Room k X.A) (hm : X.mg x = some (.ref f)) (hk : PySem.W.keepIn X.K (.ref f) = true) (hb : Binds X.K fd ps []) (tk : Takes X Wx)
    (hg : Gl X x := by rfl) (hdb : (x == ("__debug__" : Str)) = false := by decide) : PE X (.Call (.Name x p) [] [] pos) (tM G Wx (mFn 0 g aNil)) := by
  refine ⟨fun pins s σ H Q I h => ?_⟩
  obtain ⟨F0, lab, ρ, M, S, h⟩ := h
  exact wpAny_Call_Name_kw (ld_glob I hg hm (PySem.W.callWith_K0 I.kIn hk (run_k (us := []) (vs := []) F hgd hr hb tk I .nil ⟨F0, lab, M, [], S.st, rfl, rfl, h⟩)) hdb)

/-- an int of the module -/
theorem s_gi {i : Int} (h : ∃ u, X.mg x = some u ∧ RelV (.int i) u) (hg : Gl X x := by rfl) (hd : (x == ("__debug__" : Str)) = false := by decide) : PE X (.Name x p) (tM G Wx (mC (.int i))) := by
  obtain ⟨u, hm, r⟩ := h
  exact sc (pe_glob hg hm r hd) fun _ => rep_int.mpr rfl

/-! ### raise -/
def sRaise (c : Nat) : SM := fun ρ M => .ex c [] ρ M
def sRaiseV (c : Nat) (m : EM) : SM := fun ρ M => bS (m ρ M) ρ fun w M1 => .ex c [w] ρ M1
theorem PS.impR {st : Stmt} {t : St → Hp → XK → Prop} {m : SM} (h : PS X st (fun _ σ H => t σ H fun cls d H' => Wx cls d σ H')) (k : ∀ (E : Ends) (σ : St) (H : Hp), tS G Wx m E σ H → t σ H fun cls d H' => Wx cls d σ H') : PS X st (tS G Wx m) := PS.imp h k
theorem z_raise {c : Nat} {C : Addr} {bmB : List Value} {B newId initId : String} {m : Str} {j : Nat} {p2 : Pos} (hc : X.calm = true) (tk : Takes X Wx) (Fx : ExcBaseFacts B newId initId bmB) (q : PySem.W.excIn X.K C bmB newId = true) (gC : X.mg x = some (.ref C)) (kC : PySem.W.keepIn X.K (.ref C) = true) (r : Raises X (.ref C)) (hC : G.ca c = C)
    (hg : Gl X x := by rfl) (hdb : (x == ("__debug__" : Str)) = false := by decide) : PS X (.Raise (some (.Call (.Name x p) [.Constant (.str m) j p2] [] pos)) none pos2) (tS G Wx (sRaise c)) :=
  PS.imp (ps_raise hc tk (pmk_own Fx q gC kC r hg hdb)) fun E σ H h => by
    obtain ⟨F, lab, ρ, M, S, h⟩ := h
    exact h _ _ σ F lab H Aft.refl S ⟨by rw [hC], .inl ⟨rfl, rfl⟩⟩
end

/-! ### an exception class with one field -/
/-- what its __init__ does -/
def spIni (C : Addr) (f : Str) : Sp := fun vs H Q _ => ∃ a v, vs = [.ref a, v] ∧ H a = some (exo a C none) ∧ ∀ dx, H dx = none → dx ≠ a → Q .non (upd (upd H dx (exd dx [(f, v)])) a (exo a C (some dx)))
section
variable {X : Cx} {G : GT} {Wx : WX} {x : Str} {p p1 p2 pos pos2 : Pos} {e : Expr} {es : List Expr} {ta : TA}
/-- C0.__init__(self, ..), C0 an own class over ValueError without own __init__ -/
theorem pe_pinit {C0 : Addr} {mc : Value} {pl : Sem Bool} (hm : X.mg x = some (.ref C0)) (rd : PySem.W.readsIn X.K C0 mc = true) (ga : PySem.W.specialIn X.K (.ref C0) "__getattribute__" = some (some (.builtin "type.__getattribute__")))
    (fc : PySem.W.findCls X.K (.ref C0) mc "__init__" = some (.val (.builtin "ValueError.__init__"))) (ha : PA X (e :: es) ta) (hg : Gl X x := by rfl) (hdb : (x == ("__debug__" : Str)) = false := by decide)
    (hc : eval (.Call (.Attribute (.Name x p1) "__init__" p2) (e :: es) [] pos) X.env = (do
      let ov ← eval (.Name x p1) X.env
      standAt p2.atName
      let (f, first) ← holding [ov] (getMethod ov "__init__" pl)
      callWith pos f first (backTo pos (starEach (e :: es) X.env)) (backToKw pos (keywordEach [] X.env))) := by rfl)
    (he : starEach (e :: es) X.env = (false, eval e X.env) :: starEach es X.env := by rfl) (hpl : (backTo pos (starEach es X.env)).any (·.1) = false := by rfl) :
    PE X (.Call (.Attribute (.Name x p1) "__init__" p2) (e :: es) [] pos) (tVeI X.K ta) := by
  refine ⟨fun pins s σ H Q I h => ?_⟩
  refine PySem.W.methodCall_KW (ld_glob I hg hm ?_ hdb) hc
  refine PySem.W.method_cls I.kIn ga (PySem.W.cls_value I.kIn rd fc (by decide +kernel) ?_)
  show wpAny _ _ (callWith pos (Value.builtin "ValueError.__init__") [] (backTo pos (starEach (e :: es) X.env)) []) _ _ _
  have hA := ha.run pos pins _ σ H _ (I.tok (s.toks + 1)) h
  refine PyProof.Rows.callWith_method1 (thn hA fun us s1 ⟨vs, H1, I1, r1, a, C, ws, ev, hl, T, ea, q⟩ => ?_) he hpl
  subst ev
  cases r1 with
  | @cons _ u0 _ ur ra rw' =>
    cases (show u0 = Value.ref a from ra)
    exact oinit_ok T I1 ea (by rw [← Paired.length rw', sizeLine_eq]; omega) fun s' J => ⟨.non, H1, J, rfl, q⟩
theorem z_raiseV {c : Nat} {C fI : Addr} {k : Nat} {fd : FuncData} {ps : List Str} {fld : Str} {m : EM} (hc : X.calm = true) (tk : Takes X Wx) (T : OexC X.K C) (iC : PySem.W.findIn X.K (.ref C) "__init__" = some (some (.ref fI))) (tI : PySem.W.typeIn X.K (.ref fI) = some (.type "function"))
    (F1 : FnOk X.prog X.w X.K X.mg X.base CX0 k fI fd ps (spIni C fld)) (hr : Room (k + 1) X.A) (hb : Binds X.K fd ps []) (hm : X.mg x = some (.ref C)) (h : PE X e (tM G Wx m)) (hC : G.ca c = C) (hF : G.cf c = [fld])
    (hg : Gl X x := by rfl) (hdb : (x == ("__debug__" : Str)) = false := by decide) (he : starEach [e] X.env = (false, eval e X.env) :: starEach [] X.env := by rfl) : PS X (.Raise (some (.Call (.Name x p) [e] [] pos)) none pos2) (tS G Wx (sRaiseV c m)) :=
  PS.imp (ps_raise hc tk (pmk_oex T iC tI F1 hr hb .nil (fun _ _ _ _ _ _ _ z => z.elim) hg hm (pa_cons h pa_nil he) hdb he (by rfl))) fun E σ H h => by
    obtain ⟨F, lab, ρ, M, S, h⟩ := h
    refine ⟨F, lab, ρ, M, S, PstS.bind S h fun w M1 v F1 lab1 H1 A1 S1 r1 h1 => ⟨(by show 1 ≤ 1000; decide), fun a na => ?_⟩⟩
    refine ⟨a, v, rfl, upd_same, fun dx nd ne => ⟨rfl, dx, [(fld, v)], upd_same, ?_, ?_, ?_⟩⟩
    · rw [upd_ne ne, upd_same]
    · rw [upd_ne ne] at nd; exact nd
    · have nd' : H1 dx = none := by rw [upd_ne ne] at nd; exact nd
      have e1 : upd (del (upd (upd (upd H1 a (exo a C none)) dx (exd dx [(fld, v)])) a (exo a C (some dx))) a) dx (.xd [(fld, v)]) = upd H1 dx (.xd [(fld, v)]) := by
        funext b
        by_cases hb1 : b = dx
        · subst hb1; rw [upd_same, upd_same]
        · rw [upd_ne hb1, upd_ne hb1]
          by_cases hb2 : b = a
          · subst hb2; rw [del_same, na]
          · rw [del_ne hb2, upd_ne hb2, upd_ne hb1, upd_ne hb2]
      rw [e1]
      have A2 := aft_put (o := .xd [(fld, v)]) S1 nd'
      exact h1 _ _ σ F1 lab1 _ A2 (S.aft (A1.trans A2) (S1.put nd')) ⟨by rw [hC], .inr ⟨dx, [v], rfl, by rw [upd_same, hF]; rfl, v, [], rfl, r1.aft A2, rfl⟩⟩
end

/-! ### try: body, except C as n: y = n.f -/
/-- i: the slot of n, j: that of y; t: which classes the clause takes -/
def sTryF (i j : Nat) (t : Nat → Option Bool) (m : SM) : SM := fun ρ M => match m ρ M with
  | .ex c ws ρ' M' => match t c with
    | some true => match ws with
      | [w] => if i < ρ'.length then .ok (.nx ((ρ'.set j (some w)).set i none)) M' else .bad
      | _ => .bad
    | some false => .ex c ws ρ' M'
    | none => .bad
  | r => r
section
variable {X : Cx} {G : GT} {Wx : WX} {x n y fld : Str} {body : List Stmt} {m : SM} {i j c0 : Nat} {C : Addr} {t : Nat → Option Bool} {np q1 q2 q3 q4 pos pos' : Pos}
theorem z_tryF (hs : X.stack = X.env :: X.outer) (hf : X.env.frame = some X.env.locals) (hN : X.N.Nodup) (tk : Takes X Wx) (hm : X.mg x = some (.ref C)) (T : XfC X.K C) (hno : PySem.W.findIn X.K (.ref C) fld = some none) (hC : G.ca c0 = C) (hF : G.cf c0 = [fld])
    (ht : ∀ c b, t c = some b → PySem.W.exmOne X.K (.ref (G.ca c)) (.ref C) = some b) (ht1 : ∀ c, t c = some true → c = c0) (hij : i ≠ j)
    (hb : ∀ (W : WX) (pn : List (Addr × Obj)) (xe : Value → Shared → Prop), Takes (X.tr pn xe) W → PassesOwn (model X.prog X.w) X.A X.env xe → PSs (X.tr pn xe) body (tS G W m))
    (hi : X.N[i]? = some n := by rfl) (hln : X.env.kindOf n = some .local := by rfl) (hj : X.N[j]? = some y := by rfl) (hly : X.env.scope.names.lookup y = some .local := by rfl) (hvn : X.env.scope.names.lookup n = some .local := by rfl) (hg : Gl X x := by rfl) (hdb : (x == ("__debug__" : Str)) = false := by decide) (hdn : (n == ("__debug__" : Str)) = false := by decide) (hcn : (n == ("__classdict__" : Str)) = false := by decide)
    (hba : attributeBase (.Name n q1) fld X.env (eval (.Name n q1) X.env) = eval (.Name n q1) X.env := by rfl) (hsw : swapsWith (.Attribute (.Name n q1) fld q2) (some (.Name y q3)) q4.line X.env = pure false := by rfl) :
    PS X (.Try body [.ExceptHandler (some (.Name x np)) (some n) [.Assign [.Name y q3] (.Attribute (.Name n q1) fld q2) q4] pos'] [] [] pos) (tS G Wx (sTryF i j t m)) := by
  refine PS.imp (ps_try_as hs hf hN hi hln ⟨hg, hdb, .inl hm⟩ tk (fun W pn xe tk' pa => hb W pn xe tk' pa) fun a oe cls d pn hz hfl => pss_one (ps_set (X := X.suite a ((a, oe) :: pn)) hN hj (.inl hly) (pe_xf T hno hz hfl (pe_var (X := X.suite a ((a, oe) :: pn)) hi (.inl hvn) hdn hcn) hba) hsw (.inr hly))) fun E σ H h => ?_
  obtain ⟨F, lab, ρ, M, S, h⟩ := h
  refine ⟨F, lab, ρ, M, S, ?_⟩
  unfold sTryF at h
  cases e : m ρ M with
  | ok f M' =>
    rw [e] at h
    cases f with
    | nx ρ' => exact h
    | bk ρ' => exact h
    | ct ρ' => exact h
    | rt w => exact h
  | ex c ws ρ' M' =>
    rw [e] at h
    intro cls dx σ' F' lab' H' A S' x'
    simp only at h
    split at h
    · rename_i e1
      split at h
      · rename_i w
        split at h
        case isFalse => exact h.elim
        rename_i hlt
        obtain rfl : c = c0 := ht1 c e1
        refine ⟨true, by rw [x'.1]; exact ht c true e1, fun _ a na => ?_, (fun z => nomatch z)⟩
        rcases x'.2 with z | ⟨d, vs, rfl, h2, h3⟩
        · exact absurd z.1 (by simp)
        · obtain ⟨v, rfl, rv⟩ := rw1 h3
          rw [hF] at h2
          refine ⟨.ref a, ?_, rfl, by rw [x'.1, hC], d, [(fld, v)], v, rfl, h2, by simp [List.lookup], ?_⟩
          · rw [List.getElem?_set_self (by rw [← S'.ln]; exact hlt)]
          · refine h _ F' lab' H' A ?_
            have s1 := (S'.set j rv).unset i none
            have e2 : ((σ'.set i (some (V.ref a))).set j (some v)).set i none = (σ'.set j (some v)).set i none := by
              rw [List.set_comm _ _ hij, List.set_set]
            rw [e2]
            exact s1
      · exact h.elim
    · rename_i e1
      refine ⟨false, by rw [x'.1]; exact ht c false e1, (fun z => nomatch z), fun _ => h cls dx σ' F' lab' H' A S' x'⟩
    · exact h.elim
  | bad => rw [e] at h; exact h.elim
end

/-! ### the law's end -/
theorem law_end {l : PySem.W.OpenLaw} {n k : Nat} {q : Program} {loose : List Str} {XP : (Str → Option Value) → Heap → Prop} {YP : World → Heap → Prop} {d : DefRec} {K : Params → PySem.W.Frag} {x : Str} {ps : List Str}
    (hn : l.most = some n) (hn2 : n ≤ sizeLine) (hdf : d.params.defaults = []) (hr : Room k callerA) (hps : ps = [x])
    (hY : ∀ (w : World) (h : Heap), YP w h → (K w.params).In h)
    (F : ∀ (w : World) (mg : Str → Option Value) (fa : Addr) (h : Heap), (K w.params).In h → h.Ns mainGlobals mg → mg d.name = some (.ref fa) →
      ∃ (fd : FuncData) (G : GT) (g : List W → Sto → R W), (∀ (s : Shared) (u : Value), BindsTo s fd ⟨[u], []⟩ [(x, u)]) ∧ G.K = K w.params ∧ (∀ ns : List Int, ns.length ≤ n → ∃ M, g [.d (.scr ns)] [] = .ok (.d (.bl true)) M) ∧
        ∀ base : Heap, (K w.params).In base → base.Ns mainGlobals mg → Fnk l.prog w (K w.params) mg base k fa fd ps (spM G 1 g)) :
    PySem.W.WalkO q loose XP YP l.row.toRowW d [] (fun f vs => PySem.call f vs) := by
  subst hps
  refine Att.attach_call hn hdf fun w s₀ s₁ mg mb fa o pm cd doc a vs ns GR Y ho hd hcd hmg ha hi hlen hg => ?_
  have KX := hY w _ Y
  obtain ⟨fd, G, g, hbind, hGK, hval, hF⟩ := F w mg fa _ KX GR.T.g hmg
  have rv := vals_ints hi
  have hl : ns.length ≤ sizeLine := Nat.le_trans hlen hn2
  -- the call, where H tells at most of the script
  have core : ∀ H : Hp, (∀ b, H b = none ∨ ∃ ob xs, H b = some (.frz ob (.lst xs))) → SqL (K w.params) H a (ns.map V.int) → HOk l.prog w H s₁.heap → (∀ b, H b ≠ none → b = a) → (H a ≠ none → (K w.params).lookup a = none) →
      codeAny (model l.prog w) callerA (.call (.ref fa) ⟨[.ref a], []⟩) (fun r s' => r = .ok (.ret (.bool true)) ∧ OldK s₁.heap s'.heap ∧ s'.os = s₁.os ∧ AllBare s'.gens) s₁ := by
    intro H hO hS hok hA hKn
    have only : ∀ {b : Addr} {u : HO}, H b = some u → b = a := fun {b u} z => hA b (by rw [z]; simp)
    have dictFree : ∀ {b : Addr} {ob : Obj} {es : Array DictEntry} {ep : Nat}, s₁.heap.get? b = some ob → ob.data = .dict es ep → H b = none := by
      intro b ob es ep e dd
      cases z : H b with
      | none => rfl
      | some u =>
        have eb := only z
        subst eb
        rw [ha] at e
        cases e
        cases (show Data.seq vs.toArray _ = Data.dict es ep from dd)
    have nsK : ∀ {b : Addr} {m : Str → Option Value}, s₁.heap.Ns b m → (hidT s₁.heap H).Ns b m := by
      rintro b m ⟨ob, es, ep, e, dd, rest⟩
      exact ⟨ob, es, ep, hidT_get e (dictFree e dd), dd, rest⟩
    have inB : (K w.params).In (hidT s₁.heap H) := by
      intro b ob e
      refine hidT_get (KX b ob e) ?_
      cases z : H b with
      | none => rfl
      | some u =>
        have eb := only z
        subst eb
        rw [hKn (by rw [z]; simp)] at e
        cases e
    have md : Mod (K w.params) mg (hidT s₁.heap H) := by
      obtain ⟨mc, h1, h2⟩ := GR.T.nolimit
      exact ⟨inB, nsK GR.T.g, ⟨mb, nsK GR.T.b, GR.T.builtins⟩, ⟨mc, nsK h1, h2⟩⟩
    have e0 : Env0 l.prog w (K w.params) mg (hidT s₁.heap H) callerA [] s₁ H := by
      refine ⟨rfl, md, fun b ob e => of_hidT e, Nat.le_of_eq (hidT_size _ _), trivial, fun b hb => ?_, hok, .of_eq hg⟩
      exact absurd (show b ∈ ([] : List Addr) from hb) (by simp)
    obtain ⟨M, hM⟩ := hval ns hlen
    have hsp : spM G 1 g [.ref a] H (fun v _ => v = .bl true) fun _ _ _ => False := by
      refine ⟨H, [], [], [.d (.scr ns)], stt_nil (Same.refl H), ⟨.ref a, [], rfl, rep_scr.mpr ⟨a, rfl, by rw [hGK]; exact hS⟩, rfl⟩, rfl, ?_⟩
      rw [hM]
      exact fun v F' lab' H' _ _ r => w_bl r
    have run := (hF _ inB (nsK GR.T.g)).run callerA [] s₁ H ⟨[.ref a], []⟩ [.ref a] [.ref a] _ _ rfl hr e0 (hbind s₁ (.ref a)) (.cons rfl .nil) hsp
    refine codeAny_mono run fun rr s' hq => ?_
    match rr, hq with
    | .error er, hq =>
      obtain ⟨_, _, _, _, _, _, _, _, _, _, _, _, z⟩ := hq
      exact z.elim
    | .ok (.ret u), hq =>
      obtain ⟨v, H', os, bare, un, hok', r', e1⟩ := hq
      have e2 : v = .bl true := e1
      subst e2
      cases (show u = Value.bool true from r')
      refine ⟨rfl, OldK.of_keep fun b ob e => ?_, os, bare⟩
      cases z : H b with
      | none => exact un.keep b ob e z (fun hb => absurd (show b ∈ ([] : List Addr) from hb) (by simp)) (by simp)
      | some u =>
        rcases hO b with y | ⟨ob', xs, y⟩
        · rw [z] at y; cases y
        · obtain ⟨e3, _⟩ := hok b _ y
          obtain ⟨e4, _⟩ := hok' b _ (un.frzs b ob' _ y)
          rw [e] at e3
          cases e3
          exact e4
  cases hk : (K w.params).lookup a with
  | some ob =>
    have e := KX a ob hk
    rw [ha] at e
    cases e
    refine core (fun _ => none) (fun _ => .inl rfl) (.inr ⟨_, vs.toArray, _, hk, rfl, rfl, rfl, ?_, by simpa using rv⟩) (fun b u z => nomatch z) (fun b z => absurd rfl z) fun z => absurd rfl z
    rw [List.size_toArray, hi.length]
    exact hl
  | none =>
    have at1 : ∀ b : Addr, b = a → (fun b : Addr => if b = a then some (HO.frz { cls := .type "list", data := .seq vs.toArray } (.lst (ns.map V.int))) else none) b = some (HO.frz { cls := .type "list", data := .seq vs.toArray } (.lst (ns.map V.int))) := fun b e => if_pos e
    have at0 : ∀ b : Addr, b ≠ a → (fun b : Addr => if b = a then some (HO.frz { cls := .type "list", data := .seq vs.toArray } (.lst (ns.map V.int))) else none) b = none := fun b e => if_neg e
    refine core (fun b => if b = a then some (.frz { cls := .type "list", data := .seq vs.toArray } (.lst (ns.map V.int))) else none) (fun b => ?_) (.inl (.inr ⟨_, at1 a rfl⟩)) (fun b u z => ?_) (fun b z => ?_) fun _ => hk
    · by_cases hb : b = a
      · exact .inr ⟨_, _, at1 b hb⟩
      · exact .inl (at0 b hb)
    · by_cases hb : b = a
      · have z' := (at1 b hb).symm.trans z
        cases z'
        subst hb
        exact ⟨ha, by rw [List.length_map]; exact hl, vs, _, rv, ha⟩
      · have z' := (at0 b hb).symm.trans z
        cases z'
    · by_cases hb : b = a
      · exact hb
      · exact absurd (at0 b hb) z
end VL
/-! V6: meanings computed: the words for simp; loops; the pen. -/
namespace VL
open PySem PySem.Spec PyProof.Rows L2
/-! ### how a meaning is computed: what stands first, first; what comes behind is a word that waits -/
section
variable {α β : Type} {ρ ρ' : Env} {M : Sto}
def getW (x : Option (Option W)) (M : Sto) : R W := match x with
  | some (some w) => .ok w M
  | _ => .bad
@[simp] theorem e_mV (i : Nat) : mV i ρ M = getW ρ[i]? M := (rfl)
@[simp] theorem getW_s (w : W) : getW (some (some w)) M = .ok w M := (rfl)
@[simp] theorem e_mFz (i : Nat) : mFz i ρ M = bnd (getW ρ[i]? M) frzW := (rfl)
@[simp] theorem e_frzD (x : D) : frzW (.d x) M = .ok (.d x) M := (rfl)
theorem e_frzC {l : Nat} {xs : List D} (h : M[l]? = some (.lst xs)) : frzW (.cell l) M = .ok (.d (.lst xs)) (M.set l (.frz (.lst xs))) := by
  unfold frzW; simp only [h]
@[simp] theorem e_mC (x : D) : mC x ρ M = .ok (.d x) M := (rfl)
def k2' (f : W → W → Sto → R W) (x : W) (y : W) (M : Sto) : R W := f x y M
def k2 (f : W → W → Sto → R W) (b : EM) (ρ : Env) (x : W) (M : Sto) : R W := bnd (b ρ M) (k2' f x)
@[simp] theorem e_m2 (f : W → W → Sto → R W) (a b : EM) : m2 f a b ρ M = bnd (a ρ M) (k2 f b ρ) := (rfl)
@[simp] theorem e_k2 (f : W → W → Sto → R W) (b : EM) (x : W) : k2 f b ρ x M = bnd (b ρ M) (k2' f x) := (rfl)
@[simp] theorem e_k2' (f : W → W → Sto → R W) (x y : W) : k2' f x y M = f x y M := (rfl)
@[simp] theorem e_m1 (f : W → Sto → R W) (a : EM) : m1 f a ρ M = bnd (a ρ M) f := (rfl)
@[simp] theorem e_mCall (f : List W → Sto → R W) (a : AM) : mCall f a ρ M = bnd (a ρ M) f := (rfl)
def kC' (x : W) (xs : List W) (M : Sto) : R (List W) := .ok (x :: xs) M
def kC (r : AM) (ρ : Env) (x : W) (M : Sto) : R (List W) := bnd (r ρ M) (kC' x)
@[simp] theorem e_aNil : aNil ρ M = .ok [] M := (rfl)
@[simp] theorem e_aCons (a : EM) (r : AM) : aCons a r ρ M = bnd (a ρ M) (kC r ρ) := (rfl)
@[simp] theorem e_kC (r : AM) (x : W) : kC r ρ x M = bnd (r ρ M) (kC' x) := (rfl)
@[simp] theorem e_kC' (x : W) (xs : List W) : kC' x xs M = .ok (x :: xs) M := (rfl)
@[simp] theorem e_mTup (a : AM) : mTup a ρ M = bnd (a ρ M) (seqW .tup) := (rfl)
@[simp] theorem e_mLst (a : AM) : mLst a ρ M = bnd (a ρ M) (seqW .lst) := (rfl)
@[simp] theorem e_mLstC (a : AM) : mLstC a ρ M = bnd (a ρ M) cellW := (rfl)
@[simp] theorem e_mLstW (a : AM) : mLstW a ρ M = bnd (a ρ M) wlW := (rfl)
theorem e_seqW {k : List D → D} {ws : List W} {ds : List D} (h : unW ws = some ds) (hl : ds.length ≤ lim) : seqW k ws M = .ok (.d (k ds)) M := by
  unfold seqW; simp only [h]; rw [if_pos hl]
@[simp] theorem e_seq0 (k : List D → D) : seqW k [] M = .ok (.d (k [])) M := e_seqW rfl (Nat.zero_le _)
@[simp] theorem e_seq1 (k : List D → D) (a : D) : seqW k [.d a] M = .ok (.d (k [a])) M := e_seqW rfl (by show 1 ≤ lim; decide)
@[simp] theorem e_seq2 (k : List D → D) (a b : D) : seqW k [.d a, .d b] M = .ok (.d (k [a, b])) M := e_seqW rfl (by show 2 ≤ lim; decide)
@[simp] theorem e_seq3 (k : List D → D) (a b c : D) : seqW k [.d a, .d b, .d c] M = .ok (.d (k [a, b, c])) M := e_seqW rfl (by show 3 ≤ lim; decide)
@[simp] theorem e_seq4 (k : List D → D) (a b c d : D) : seqW k [.d a, .d b, .d c, .d d] M = .ok (.d (k [a, b, c, d])) M := e_seqW rfl (by show 4 ≤ lim; decide)
@[simp] theorem e_seq5 (k : List D → D) (a b c d e : D) : seqW k [.d a, .d b, .d c, .d d, .d e] M = .ok (.d (k [a, b, c, d, e])) M := e_seqW rfl (by show 5 ≤ lim; decide)
theorem e_cellW {ws : List W} {ds : List D} (h : unW ws = some ds) (hl : ds.length ≤ lim) : cellW ws M = .ok (.cell M.length) (M ++ [.lst ds]) := by
  unfold cellW; simp only [h]; rw [if_pos hl]
@[simp] theorem e_cell0 : cellW [] M = .ok (.cell M.length) (M ++ [.lst []]) := e_cellW rfl (Nat.zero_le _)
@[simp] theorem e_cell1 (a : D) : cellW [.d a] M = .ok (.cell M.length) (M ++ [.lst [a]]) := e_cellW rfl (by show 1 ≤ lim; decide)
@[simp] theorem e_cell3 (a b c : D) : cellW [.d a, .d b, .d c] M = .ok (.cell M.length) (M ++ [.lst [a, b, c]]) := e_cellW rfl (by show 3 ≤ lim; decide)
@[simp] theorem e_wl2 (a b : W) : wlW [a, b] M = .ok (.cell M.length) (M ++ [.wl [a, b]]) := by
  unfold wlW; rw [if_pos (by show 2 ≤ lim; decide)]
def kS2 (x : W) (lo hi : Option Int) (M : Sto) : R W := slW x lo hi M
def kS1 (h : OM) (ρ : Env) (x : W) (lo : Option Int) (M : Sto) : R W := bnd (h ρ M) (kS2 x lo)
def kS (l h : OM) (ρ : Env) (x : W) (M : Sto) : R W := bnd (l ρ M) (kS1 h ρ x)
@[simp] theorem e_mSl (a : EM) (l h : OM) : mSl a l h ρ M = bnd (a ρ M) (kS l h ρ) := (rfl)
@[simp] theorem e_kS (l h : OM) (x : W) : kS l h ρ x M = bnd (l ρ M) (kS1 h ρ x) := (rfl)
@[simp] theorem e_kS1 (h : OM) (x : W) (lo : Option Int) : kS1 h ρ x lo M = bnd (h ρ M) (kS2 x lo) := (rfl)
@[simp] theorem e_kS2l (xs : List D) (lo hi : Option Int) : kS2 (.d (.lst xs)) lo hi M = .ok (.d (.lst (cutD xs lo hi))) M := (rfl)
@[simp] theorem e_kS2t (xs : List D) (lo hi : Option Int) : kS2 (.d (.tup xs)) lo hi M = .ok (.d (.tup (cutD xs lo hi))) M := (rfl)
@[simp] theorem e_kS2s (xs : List Int) (lo hi : Option Int) : kS2 (.d (.scr xs)) lo hi M = .ok (.d (.lst ((cutD xs lo hi).map .int))) M := (rfl)
def kO (w : W) (M : Sto) : R (Option Int) := match w with
  | .d (.int i) => .ok (some i) M
  | _ => .bad
@[simp] theorem e_oNone : oNone ρ M = .ok none M := (rfl)
@[simp] theorem e_oSome (m : EM) : oSome m ρ M = bnd (m ρ M) kO := (rfl)
@[simp] theorem e_kO (i : Int) : kO (.d (.int i)) M = .ok (some i) M := (rfl)
def kB (w : W) (M : Sto) : R Bool := match w with
  | .d (.bl k) => .ok k M
  | _ => .bad
@[simp] theorem e_toB (m : EM) : toB m ρ M = bnd (m ρ M) kB := (rfl)
@[simp] theorem e_kB (k : Bool) : kB (.d (.bl k)) M = .ok k M := (rfl)
/-- one of two -/
def kIf {γ : Type} (a b : Env → Sto → R γ) (ρ : Env) (k : Bool) (M : Sto) : R γ := if k = true then a ρ M else b ρ M
@[simp] theorem e_kIft {γ : Type} (a b : Env → Sto → R γ) : kIf a b ρ true M = a ρ M := (rfl)
@[simp] theorem e_kIff {γ : Type} (a b : Env → Sto → R γ) : kIf a b ρ false M = b ρ M := (rfl)
def bF (k : Bool) : BM := fun _ M => .ok k M
@[simp] theorem e_bF (k : Bool) : bF k ρ M = .ok k M := (rfl)
@[simp] theorem e_bAnd (a b : BM) : bAnd a b ρ M = bnd (a ρ M) (kIf b (bF false) ρ) := (rfl)
@[simp] theorem e_bOr (a b : BM) : bOr a b ρ M = bnd (a ρ M) (kIf (bF true) b ρ) := (rfl)
def kNot (k : Bool) (M : Sto) : R Bool := .ok (!k) M
@[simp] theorem e_bNot (a : BM) : bNot a ρ M = bnd (a ρ M) kNot := (rfl)
@[simp] theorem e_kNot (k : Bool) : kNot k M = .ok (!k) M := (rfl)
@[simp] theorem e_bYes : bYes ρ M = .ok true M := (rfl)
@[simp] theorem e_mIf (t : BM) (a b : EM) : mIf t a b ρ M = bnd (t ρ M) (kIf a b ρ) := (rfl)
def kvA (b : EM) (ρ : Env) (w : W) (M : Sto) : R W := match w with
  | .d (.bl true) => b ρ M
  | .d (.bl false) => .ok (.d (.bl false)) M
  | _ => .bad
def kvO (b : EM) (ρ : Env) (w : W) (M : Sto) : R W := match w with
  | .d (.bl false) => b ρ M
  | .d (.bl true) => .ok (.d (.bl true)) M
  | _ => .bad
def kvN (w : W) (M : Sto) : R W := match w with
  | .d (.bl k) => .ok (.d (.bl (!k))) M
  | _ => .bad
@[simp] theorem e_vAnd (a b : EM) : vAnd a b ρ M = bnd (a ρ M) (kvA b ρ) := (rfl)
@[simp] theorem e_kvAt (b : EM) : kvA b ρ (.d (.bl true)) M = b ρ M := (rfl)
@[simp] theorem e_kvAf (b : EM) : kvA b ρ (.d (.bl false)) M = .ok (.d (.bl false)) M := (rfl)
@[simp] theorem e_vOr (a b : EM) : vOr a b ρ M = bnd (a ρ M) (kvO b ρ) := (rfl)
@[simp] theorem e_kvOt (b : EM) : kvO b ρ (.d (.bl true)) M = .ok (.d (.bl true)) M := (rfl)
@[simp] theorem e_kvOf (b : EM) : kvO b ρ (.d (.bl false)) M = b ρ M := (rfl)
@[simp] theorem e_vNot (a : EM) : vNot a ρ M = bnd (a ρ M) kvN := (rfl)
@[simp] theorem e_kvN (k : Bool) : kvN (.d (.bl k)) M = .ok (.d (.bl (!k))) M := (rfl)
def kc3 (f' : W → W → Sto → R W) (y : W) (u : W) (M : Sto) : R W := f' y u M
def kc2 (f' : W → W → Sto → R W) (c : EM) (ρ : Env) (y : W) (z : W) (M : Sto) : R W := match z with
  | .d (.bl true) => bnd (c ρ M) (kc3 f' y)
  | .d (.bl false) => .ok (.d (.bl false)) M
  | _ => .bad
def kc1 (f f' : W → W → Sto → R W) (c : EM) (ρ : Env) (x : W) (y : W) (M : Sto) : R W := bnd (f x y M) (kc2 f' c ρ y)
def kc0 (f f' : W → W → Sto → R W) (b c : EM) (ρ : Env) (x : W) (M : Sto) : R W := bnd (b ρ M) (kc1 f f' c ρ x)
@[simp] theorem e_mChain (f f' : W → W → Sto → R W) (a b c : EM) : mChain f f' a b c ρ M = bnd (a ρ M) (kc0 f f' b c ρ) := (rfl)
@[simp] theorem e_kc0 (f f' : W → W → Sto → R W) (b c : EM) (x : W) : kc0 f f' b c ρ x M = bnd (b ρ M) (kc1 f f' c ρ x) := (rfl)
@[simp] theorem e_kc1 (f f' : W → W → Sto → R W) (c : EM) (x y : W) : kc1 f f' c ρ x y M = bnd (f x y M) (kc2 f' c ρ y) := (rfl)
@[simp] theorem e_kc2t (f' : W → W → Sto → R W) (c : EM) (y : W) : kc2 f' c ρ y (.d (.bl true)) M = bnd (c ρ M) (kc3 f' y) := (rfl)
@[simp] theorem e_kc2f (f' : W → W → Sto → R W) (c : EM) (y : W) : kc2 f' c ρ y (.d (.bl false)) M = .ok (.d (.bl false)) M := (rfl)
@[simp] theorem e_kc3 (f' : W → W → Sto → R W) (y u : W) : kc3 f' y u M = f' y u M := (rfl)
def kF (n : Nat) (g : List W → Sto → R W) (ws : List W) (M : Sto) : R W := if ws.length = n then g ws M else .bad
@[simp] theorem e_mFn (n : Nat) (g : List W → Sto → R W) (a : AM) : mFn n g a ρ M = bnd (a ρ M) (kF n g) := (rfl)
@[simp] theorem e_kF {n : Nat} {g : List W → Sto → R W} {ws : List W} (h : ws.length = n) : kF n g ws M = g ws M := if_pos h
def kM' (f : W → List W → Sto → R W) (x : W) (xs : List W) (M : Sto) : R W := f x xs M
def kM (T : String) (f : W → List W → Sto → R W) (a : AM) (ρ : Env) (x : W) (M : Sto) : R W := if tyW x M = some T then bnd (a ρ M) (kM' f x) else .bad
@[simp] theorem e_mMeth (T : String) (f : W → List W → Sto → R W) (o : EM) (a : AM) : mMeth T f o a ρ M = bnd (o ρ M) (kM T f a ρ) := (rfl)
theorem e_kM {T : String} {f : W → List W → Sto → R W} {a : AM} {x : W} (h : tyW x M = some T) : kM T f a ρ x M = bnd (a ρ M) (kM' f x) := if_pos h
@[simp] theorem e_kM' (f : W → List W → Sto → R W) (x : W) (xs : List W) : kM' f x xs M = f x xs M := (rfl)
def kI' (T : String) (t : Option String) (M : Sto) : R W := match t with
  | some t => .ok (.d (.bl (isiT T t))) M
  | none => .bad
def kI (T : String) (w : W) (M : Sto) : R W := kI' T (tyW w M) M
@[simp] theorem e_mIsi (T : String) (m : EM) : mIsi T m ρ M = bnd (m ρ M) (kI T) := (rfl)
@[simp] theorem e_kI (T : String) (w : W) : kI T w M = kI' T (tyW w M) M := (rfl)
@[simp] theorem e_kI' (T t : String) : kI' T (some t) M = .ok (.d (.bl (isiT T t))) M := (rfl)
@[simp] theorem ty_non : tyW (.d .non) M = some "NoneType" := (rfl)
@[simp] theorem ty_bl (b : Bool) : tyW (.d (.bl b)) M = some "bool" := (rfl)
@[simp] theorem ty_int (b : Int) : tyW (.d (.int b)) M = some "int" := (rfl)
@[simp] theorem ty_str (b : Str) : tyW (.d (.str b)) M = some "str" := (rfl)
@[simp] theorem ty_tup (b : List D) : tyW (.d (.tup b)) M = some "tuple" := (rfl)
@[simp] theorem ty_lst (b : List D) : tyW (.d (.lst b)) M = some "list" := (rfl)
theorem ty_cell {l : Nat} {xs : List D} (h : M[l]? = some (.lst xs)) : tyW (.cell l) M = some "list" := by unfold tyW; simp only [h]
def kCl (ys : List D) (M : Sto) : R W := if ys.length ≤ lim then .ok (.d (.lst ys)) M else .bad
def kClC (ys : List D) (M : Sto) : R W := if ys.length ≤ lim then .ok (.cell M.length) (M ++ [.lst ys]) else .bad
def kCmp (b : BD) (t : BM) (e : EM) (ρ : Env) (own : List Nat) (xs : List D) (M : Sto) : R W := bnd (unEx (cmpL b t e (wipeE ρ own) xs M)) kCl
def kCmpC (b : BD) (t : BM) (e : EM) (ρ : Env) (own : List Nat) (xs : List D) (M : Sto) : R W := bnd (unEx (cmpL b t e (wipeE ρ own) xs M)) kClC
@[simp] theorem e_mComp (it : IM) (b : BD) (t : BM) (e : EM) (own : List Nat) : mComp it b t e own ρ M = bnd (it ρ M) (kCmp b t e ρ own) := (rfl)
@[simp] theorem e_mCompC (it : IM) (b : BD) (t : BM) (e : EM) (own : List Nat) : mCompC it b t e own ρ M = bnd (it ρ M) (kCmpC b t e ρ own) := (rfl)
theorem e_kCmp {b : BD} {t : BM} {e : EM} {own : List Nat} {xs ys : List D} {M2 : Sto} (h : cmpL b t e (wipeE ρ own) xs M = .ok ys M2) (hl : ys.length ≤ lim) : kCmp b t e ρ own xs M = .ok (.d (.lst ys)) M2 := by
  unfold kCmp; rw [h]; show kCl ys M2 = _; unfold kCl; rw [if_pos hl]
theorem e_kCmpC {b : BD} {t : BM} {e : EM} {own : List Nat} {xs ys : List D} {M2 : Sto} (h : cmpL b t e (wipeE ρ own) xs M = .ok ys M2) (hl : ys.length ≤ lim) : kCmpC b t e ρ own xs M = .ok (.cell M2.length) (M2 ++ [.lst ys]) := by
  unfold kCmpC; rw [h]; show kClC ys M2 = _; unfold kClC; rw [if_pos hl]
-- statements
def seqK (r : RS) (b : SM) : RS := match r with
  | .ok (.nx ρ') M' => b ρ' M'
  | r => r
@[simp] theorem e_sNil : sNil ρ M = .ok (.nx ρ) M := (rfl)
@[simp] theorem e_sSeq (a b : SM) : sSeq a b ρ M = seqK (a ρ M) b := (rfl)
@[simp] theorem seqK_nx (b : SM) : seqK (.ok (.nx ρ) M) b = b ρ M := (rfl)
@[simp] theorem seqK_rt (w : W) (b : SM) : seqK (.ok (.rt w) M) b = .ok (.rt w) M := (rfl)
@[simp] theorem seqK_ex (c : Nat) (ws : List W) (b : SM) : seqK (.ex c ws ρ M) b = .ex c ws ρ M := (rfl)
def jE (ρ : Env) (w : W) (M : Sto) : RS := .ok (.nx ρ) M
@[simp] theorem e_sExpr (m : EM) : sExpr m ρ M = bS (m ρ M) ρ (jE ρ) := (rfl)
@[simp] theorem e_jE (w : W) : jE ρ w M = .ok (.nx ρ) M := (rfl)
def jR (w : W) (M : Sto) : RS := .ok (.rt w) M
@[simp] theorem e_sRet (m : EM) : sRet m ρ M = bS (m ρ M) ρ jR := (rfl)
@[simp] theorem e_jR (w : W) : jR w M = .ok (.rt w) M := (rfl)
def jS (i : Nat) (ρ : Env) (w : W) (M : Sto) : RS := .ok (.nx (ρ.set i (some w))) M
@[simp] theorem e_sSet (i : Nat) (m : EM) : sSet i m ρ M = bS (m ρ M) ρ (jS i ρ) := (rfl)
@[simp] theorem e_jS (i : Nat) (w : W) : jS i ρ w M = .ok (.nx (ρ.set i (some w))) M := (rfl)
def jIf (s t : SM) (ρ : Env) (k : Bool) (M : Sto) : RS := if k = true then s ρ M else t ρ M
@[simp] theorem e_sIf (b : BM) (s t : SM) : sIf b s t ρ M = bS (b ρ M) ρ (jIf s t ρ) := (rfl)
@[simp] theorem e_jIft (s t : SM) : jIf s t ρ true M = s ρ M := (rfl)
@[simp] theorem e_jIff (s t : SM) : jIf s t ρ false M = t ρ M := (rfl)
def jP (i j : Nat) (ρ : Env) (ws : List W) (M : Sto) : RS := match ws with
  | [w, u] => .ok (.nx ((ρ.set i (some w)).set j (some u))) M
  | _ => .bad
@[simp] theorem e_sPar (i j : Nat) (a : AM) : sPar i j a ρ M = bS (a ρ M) ρ (jP i j ρ) := (rfl)
@[simp] theorem e_jP (i j : Nat) (w u : W) : jP i j ρ [w, u] M = .ok (.nx ((ρ.set i (some w)).set j (some u))) M := (rfl)
def optK (x : Option Env) (M : Sto) : RS := match x with
  | some ρ' => .ok (.nx ρ') M
  | none => .bad
def jA (b : BD) (ρ : Env) (w : W) (M : Sto) : RS := match w with
  | .d d => optK (b d ρ) M
  | _ => .bad
theorem e_sAsg0 (b : BD) (m : EM) : sAsg b m ρ M = bS (m ρ M) ρ (jA b ρ) := by
  unfold sAsg jA optK; rfl
@[simp] theorem e_jA (b : BD) (d : D) : jA b ρ (.d d) M = optK (b d ρ) M := (rfl)
@[simp] theorem e_optK : optK (some ρ) M = .ok (.nx ρ) M := (rfl)
@[simp] theorem e_bName (i : Nat) (d : D) : bName i d ρ = some (ρ.set i (some (.d d))) := (rfl)
def obK (x : Option Env) (r : Env → Option Env) : Option Env := match x with
  | some ρ' => r ρ'
  | none => none
@[simp] theorem e_obK (r : Env → Option Env) : obK (some ρ) r = r ρ := (rfl)
@[simp] theorem e_bNil : bNil [] ρ = some ρ := (rfl)
@[simp] theorem e_bCons (a : BD) (r : BDs) (d : D) (ds : List D) : bCons a r (d :: ds) ρ = obK (a d ρ) (r ds) := (rfl)
@[simp] theorem e_bTup {n : Nat} {r : BDs} {ds : List D} (h : ds.length = n) : bTup n r (.tup ds) ρ = r ds ρ := if_pos h
def setK (x : Option Sto) (ρ : Env) : RS := match x with
  | some M4 => .ok (.nx ρ) M4
  | none => .bad
def jU2 (ρ : Env) (v a : W) (k : W) (M : Sto) : RS := setK (setW a k v M) ρ
def jU1 (i : EM) (ρ : Env) (v : W) (a : W) (M : Sto) : RS := bS (i ρ M) ρ (jU2 ρ v a)
def jU (o i : EM) (ρ : Env) (v : W) (M : Sto) : RS := bS (o ρ M) ρ (jU1 i ρ v)
@[simp] theorem e_sSub (o i e : EM) : sSub o i e ρ M = bS (e ρ M) ρ (jU o i ρ) := (rfl)
@[simp] theorem e_jU (o i : EM) (v : W) : jU o i ρ v M = bS (o ρ M) ρ (jU1 i ρ v) := (rfl)
@[simp] theorem e_jU1 (i : EM) (v a : W) : jU1 i ρ v a M = bS (i ρ M) ρ (jU2 ρ v a) := (rfl)
@[simp] theorem e_jU2 (v a k : W) : jU2 ρ v a k M = setK (setW a k v M) ρ := (rfl)
@[simp] theorem e_setK (M4 : Sto) : setK (some M4) ρ = .ok (.nx ρ) M4 := (rfl)
def jF (b : BD) (body : SM) (ρ : Env) (xs : List D) (M : Sto) : RS := forL b body xs ρ M
@[simp] theorem e_sFor (it : IM) (b : BD) (body : SM) : sFor it b body ρ M = bS (it ρ M) ρ (jF b body ρ) := (rfl)
@[simp] theorem e_jF (b : BD) (body : SM) (xs : List D) : jF b body ρ xs M = forL b body xs ρ M := (rfl)
def unK (i j : Nat) (ρ : Env) (o : Option O) (M : Sto) : RS := match o with
  | some (.wl [x, y]) => .ok (.nx ((ρ.set i (some x)).set j (some y))) M
  | _ => .bad
def jN (i j : Nat) (ρ : Env) (w : W) (M : Sto) : RS := match w with
  | .cell l => unK i j ρ M[l]? M
  | _ => .bad
theorem e_sUnl2 (i j : Nat) (m : EM) : sUnl2 i j m ρ M = bS (m ρ M) ρ (jN i j ρ) := by
  unfold sUnl2 jN unK; rfl
@[simp] theorem e_jN (i j l : Nat) : jN i j ρ (.cell l) M = unK i j ρ M[l]? M := (rfl)
@[simp] theorem e_unK (i j : Nat) (x y : W) : unK i j ρ (some (.wl [x, y])) M = .ok (.nx ((ρ.set i (some x)).set j (some y))) M := (rfl)
@[simp] theorem e_sRaise (c : Nat) : sRaise c ρ M = .ex c [] ρ M := (rfl)
def jX (c : Nat) (ρ : Env) (w : W) (M : Sto) : RS := .ex c [w] ρ M
@[simp] theorem e_sRaiseV (c : Nat) (m : EM) : sRaiseV c m ρ M = bS (m ρ M) ρ (jX c ρ) := (rfl)
@[simp] theorem e_jX (c : Nat) (w : W) : jX c ρ w M = .ex c [w] ρ M := (rfl)
def tryK (i j : Nat) (t : Nat → Option Bool) (r : RS) : RS := match r with
  | .ex c ws ρ' M' => match t c with
    | some true => match ws with
      | [w] => if i < ρ'.length then .ok (.nx ((ρ'.set j (some w)).set i none)) M' else .bad
      | _ => .bad
    | some false => .ex c ws ρ' M'
    | none => .bad
  | r => r
@[simp] theorem e_sTryF (i j : Nat) (t : Nat → Option Bool) (m : SM) : sTryF i j t m ρ M = tryK i j t (m ρ M) := (rfl)
@[simp] theorem e_tryKok (i j : Nat) (t : Nat → Option Bool) (f : Fl) : tryK i j t (.ok f M) = .ok f M := (rfl)
theorem e_tryKex {i j c : Nat} {t : Nat → Option Bool} {w : W} (h : t c = some true) (hi : i < ρ.length) : tryK i j t (.ex c [w] ρ M) = .ok (.nx ((ρ.set j (some w)).set i none)) M := by
  unfold tryK; simp only [h]; rw [if_pos hi]
-- what is walked
def kSq (w : W) (M : Sto) : R (List D) := match w with
  | .d (.lst xs) => .ok xs M
  | .d (.tup xs) => .ok xs M
  | _ => .bad
@[simp] theorem e_iSeq (m : EM) : iSeq m ρ M = bnd (m ρ M) kSq := (rfl)
@[simp] theorem e_kSql (xs : List D) : kSq (.d (.lst xs)) M = .ok xs M := (rfl)
@[simp] theorem e_kSqt (xs : List D) : kSq (.d (.tup xs)) M = .ok xs M := (rfl)
def kR1 (ws : List W) (M : Sto) : R (List D) := match ws with
  | [.d (.int j)] => if j < 2 ^ 62 ∧ -(2 ^ 62) ≤ j then .ok (rangeD 0 j.toNat) M else .bad
  | _ => .bad
@[simp] theorem e_iR1 (a : AM) : iRange1 a ρ M = bnd (a ρ M) kR1 := (rfl)
theorem e_kR1 {j : Int} (h0 : 0 ≤ j) (h : j < 2 ^ 62) : kR1 [.d (.int j)] M = .ok (rangeD 0 j.toNat) M := by
  exact if_pos ⟨h, by omega⟩
theorem e_kR1n (n : Nat) (h : (n : Int) < 2 ^ 62) : kR1 [.d (.int n)] M = .ok (rangeD 0 n) M := e_kR1 (by omega) h
theorem e_kR1s {n : Nat} (h : n ≤ 1000000) : kR1 [.d (.int n)] M = .ok ((List.range n).map fun (k : Nat) => .int k) M := by
  rw [e_kR1n n (by omega)]
  congr 1
  unfold rangeD
  apply List.map_congr_left
  intro k _
  simp
def kR2 (ws : List W) (M : Sto) : R (List D) := match ws with
  | [.d (.int i), .d (.int j)] => if (i < 2 ^ 62 ∧ -(2 ^ 62) ≤ i) ∧ j < 2 ^ 62 ∧ -(2 ^ 62) ≤ j then .ok (rangeD i (j - i).toNat) M else .bad
  | _ => .bad
@[simp] theorem e_iR2 (a : AM) : iRange2 a ρ M = bnd (a ρ M) kR2 := (rfl)
def kEn (ws : List W) (M : Sto) : R (List D) := match ws with
  | [.d (.lst xs)] => .ok (enumD 0 xs) M
  | _ => .bad
@[simp] theorem e_iEn (a : AM) : iEnumM a ρ M = bnd (a ρ M) kEn := (rfl)
@[simp] theorem e_kEn (xs : List D) : kEn [.d (.lst xs)] M = .ok (enumD 0 xs) M := (rfl)
-- operators
@[simp] theorem add_ii (i j : Int) : addW (.d (.int i)) (.d (.int j)) M = .ok (.d (.int (i + j))) M := (rfl)
@[simp] theorem sub_ii (i j : Int) : intW subI (.d (.int i)) (.d (.int j)) M = .ok (.d (.int (i - j))) M := (rfl)
@[simp] theorem lt_ii (i j : Int) : intW ltI (.d (.int i)) (.d (.int j)) M = .ok (.d (.bl (decide (i < j)))) M := (rfl)
@[simp] theorem le_ii (i j : Int) : intW leI (.d (.int i)) (.d (.int j)) M = .ok (.d (.bl (decide (i ≤ j)))) M := (rfl)
@[simp] theorem gt_ii (i j : Int) : intW gtI (.d (.int i)) (.d (.int j)) M = .ok (.d (.bl (decide (j < i)))) M := (rfl)
@[simp] theorem ge_ii (i j : Int) : intW geI (.d (.int i)) (.d (.int j)) M = .ok (.d (.bl (decide (j ≤ i)))) M := (rfl)
@[simp] theorem mod_ii {i j : Int} (h : 0 < j) : intW modI (.d (.int i)) (.d (.int j)) M = .ok (.d (.int (i % j))) M := by
  unfold intW modI; simp only [h, if_true]
@[simp] theorem div_ii {i j : Int} (h : 0 < j) (h2 : j < 2 ^ 64) : intW divI (.d (.int i)) (.d (.int j)) M = .ok (.d (.int (i / j))) M := by
  unfold intW divI; simp only [h, h2, and_self, if_true]
theorem pow_ii {i j : Int} (h : 0 ≤ j ∧ j ≤ 1000000 ∧ i.natAbs < 2 ^ 64) : intW powI (.d (.int i)) (.d (.int j)) M = .ok (.d (.int (i ^ j.toNat))) M := by
  unfold intW powI; simp only [h, and_self, if_true]
@[simp] theorem pow_lit : intW powI (.d (.int 10)) (.d (.int 18)) M = .ok (.d (.int (10 ^ 18))) M := pow_ii (by decide)
@[simp] theorem pow_6 : intW powI (.d (.int 10)) (.d (.int 6)) M = .ok (.d (.int (10 ^ 6))) M := pow_ii (by decide)
@[simp] theorem pow_8 : intW powI (.d (.int 10)) (.d (.int 8)) M = .ok (.d (.int (10 ^ 8))) M := pow_ii (by decide)
@[simp] theorem neg_i (i : Int) : negW (.d (.int i)) M = .ok (.d (.int (-i))) M := (rfl)
@[simp] theorem isN_ (w : W) : isNW w (.d .non) M = .ok (.d (.bl (noneW w))) M := (rfl)
@[simp] theorem notN_ (w : W) : notNW w (.d .non) M = .ok (.d (.bl (!noneW w))) M := (rfl)
@[simp] theorem noneW_n : noneW (.d .non) = true := (rfl)
@[simp] theorem noneW_i (i : Int) : noneW (.d (.int i)) = false := (rfl)
@[simp] theorem noneW_t (i : List D) : noneW (.d (.tup i)) = false := (rfl)
@[simp] theorem noneW_l (i : List D) : noneW (.d (.lst i)) = false := (rfl)
@[simp] theorem noneW_b (i : Bool) : noneW (.d (.bl i)) = false := (rfl)
@[simp] theorem noneW_s (i : Str) : noneW (.d (.str i)) = false := (rfl)
@[simp] theorem noneW_c (i : Nat) : noneW (.cell i) = false := (rfl)
@[simp] theorem int1_i (i : Int) : int1W [.d (.int i)] M = .ok (.d (.int i)) M := (rfl)
@[simp] theorem max2_i (i j : Int) : max2W [.d (.int i), .d (.int j)] M = .ok (.d (.int (max i j))) M := by
  have e : (if j > i then j else i) = max i j := by split <;> omega
  rw [← e]; rfl
@[simp] theorem min2_i (i j : Int) : min2W [.d (.int i), .d (.int j)] M = .ok (.d (.int (min i j))) M := by
  have e : (if j < i then j else i) = min i j := by split <;> omega
  rw [← e]; rfl
@[simp] theorem len_lst (xs : List D) : lenW [.d (.lst xs)] M = .ok (.d (.int xs.length)) M := (rfl)
@[simp] theorem len_tup (xs : List D) : lenW [.d (.tup xs)] M = .ok (.d (.int xs.length)) M := (rfl)
theorem len_cell {l : Nat} {xs : List D} (h : M[l]? = some (.lst xs)) : lenW [.cell l] M = .ok (.d (.int xs.length)) M := by
  unfold lenW itemsW; simp only [h]
@[simp] theorem list_lst (xs : List D) : listW [.d (.lst xs)] M = .ok (.d (.lst xs)) M := (rfl)
@[simp] theorem list_tup (xs : List D) : listW [.d (.tup xs)] M = .ok (.d (.lst xs)) M := (rfl)
theorem app_cell {l : Nat} {xs : List D} {d : D} (h : M[l]? = some (.lst xs)) (hl : xs.length < lim) : appW (.cell l) [.d d] M = .ok (.d .non) (M.set l (.lst (xs ++ [d]))) := by
  unfold appW; simp only [h]; rw [if_pos hl]
theorem set_cell {l : Nat} {xs : List D} {d : D} {k : Int} {j : Nat} (h : M[l]? = some (.lst xs)) (hk : ixN xs.length k = some j) : setW (.cell l) (.d (.int k)) (.d d) M = some (M.set l (.lst (xs.set j d))) := by
  unfold setW; simp only [h, hk]
theorem add_ll {xs ys : List D} (h : xs.length + ys.length ≤ lim) : addW (.d (.lst xs)) (.d (.lst ys)) M = .ok (.d (.lst (xs ++ ys))) M := by
  exact if_pos h
theorem mul_li {xs : List D} {k : Int} (h : xs.length * k.toNat ≤ lim) (h2 : -(2 ^ 63) ≤ k) (h3 : k < 2 ^ 63) : mulW (.d (.lst xs)) (.d (.int k)) M = .ok (.d (.lst (List.replicate k.toNat xs).flatten)) M := by
  exact if_pos ⟨h, h2, h3⟩
theorem ix_cell {l : Nat} {xs : List D} {i : Int} {d : D} (h : M[l]? = some (.lst xs)) (e : atI xs i = some d) : ixW (.cell l) (.d (.int i)) M = .ok (.d d) M := by
  unfold ixW itemsW
  simp only [h, e]
theorem ix_lst {xs : List D} {i : Int} {d : D} (e : atI xs i = some d) : ixW (.d (.lst xs)) (.d (.int i)) M = .ok (.d d) M := by
  unfold ixW itemsW
  simp only [e]
theorem ix_tup {xs : List D} {i : Int} {d : D} (e : atI xs i = some d) : ixW (.d (.tup xs)) (.d (.int i)) M = .ok (.d d) M := by
  unfold ixW itemsW
  simp only [e]
/-- a def's end -/
def endK (r : RS) : R W := match r with
  | .ok (.nx _) M' => .ok (.d .non) M'
  | .ok (.rt w) M' => .ok w M'
  | .ok _ _ => .bad
  | .ex c es _ M' => .ex c es M'
  | .bad => .bad
@[simp] theorem endK_nx : endK (.ok (.nx ρ) M) = .ok (.d .non) M := (rfl)
@[simp] theorem endK_rt (w : W) : endK (.ok (.rt w) M) = .ok w M := (rfl)
@[simp] theorem endK_ex (c : Nat) (ws : List W) : endK (.ex c ws ρ M) = .ex c ws M := (rfl)
theorem e_defM (N : List Str) (m : SM) (ws : List W) : defM N m ws M = endK (m (ws.map some ++ List.replicate (N.length - ws.length) none) M) := (rfl)
end
@[simp] theorem mulW_ii {i j : Int} {M : Sto} (h : mulOk i j = true) : mulW (.d (.int i)) (.d (.int j)) M = .ok (.d (.int (i * j))) M := by
  unfold mulW
  simp only [h, if_true]
theorem mulOk_of {i j : Int} (a b : Nat) (h : i.natAbs < 2 ^ a) (k : j.natAbs < 2 ^ b) (hab : a + b < 1000000) : mulOk i j = true := by
  unfold mulOk
  refine decide_eq_true ?_
  have e : ∀ {n a : Nat}, n < 2 ^ a → n.log2 ≤ a := fun {n a} h => by
    by_cases z : n = 0
    · subst z; simp
    · exact Nat.le_of_lt ((Nat.log2_lt z).mpr h)
  have := e h
  have := e k
  omega

/-! ### the pen: [list(script[:60]), 0, 0] -/
def mPenB : SM :=
  (sRet (mLstC (aCons (mCall listW (aCons (mSl (mV 0) oNone (oSome (mC (.int 60)))) aNil)) (aCons (mC (.int 0)) (aCons (mC (.int 0)) aNil)))))

def mNextT : SM :=
  (sSeq (sIf (bAnd (toB (m2 (intW ltI) (mV 1) (mCall lenW (aCons (m2 ixW (mV 0) (mC (.int 0))) aNil)))) (toB (m2 (intW geI) (mV 2) (m2 (intW powI) (mC (.int 10)) (mC (.int 18))))))
   (sRet (mV 2))
   sNil)
  (sSeq (sSet 3 (m2 (intW modI) (mCall int1W (aCons (m2 addW (m2 addW (m2 (intW modI) (mCall int1W (aCons (mV 2) aNil)) (mC (.int 2147483587))) (m2 mulW (mV 1) (mC (.int 30097)))) (mC (.int 73))) aNil)) (mC (.int 2147483587))))
  (sSeq (sSet 4 (m2 (intW modI) (mCall int1W (aCons (m2 addW (m2 addW (m2 mulW (mV 3) (mV 3)) (m2 mulW (mV 1) (mC (.int 70019)))) (mC (.int 59))) aNil)) (mC (.int 2147483563))))
  (sSeq (sSet 5 (m2 (intW modI) (mCall int1W (aCons (m2 addW (m2 addW (m2 mulW (mV 4) (mV 4)) (mV 3)) (m2 mulW (m2 mulW (mV 1) (mV 1)) (mC (.int 31)))) aNil)) (mC (.int 2147483549))))
  (sRet (m2 addW (m2 mulW (m2 addW (m2 mulW (mV 5) (mC (.int 2147483587))) (mV 4)) (mC (.int 2147483563))) (mV 3)))))))
def mNextB : SM :=
  (sSeq (sSet 1 (m2 ixW (mV 0) (mC (.int 1))))
  (sSeq (sSub (mV 0) (mC (.int 1)) (m2 addW (mV 1) (mC (.int 1))))
  (sSeq (sSet 2 (m2 addW (m2 mulW (mV 1) (mC (.int 1063))) (mC (.int 47))))
  (sSeq (sIf (toB (m2 (eqW true) (m2 ixW (mV 0) (mC (.int 0))) (mLst aNil)))
   (sSet 2 (m2 ixW (m2 ixW (mV 0) (mC (.int 0))) (m2 (intW modI) (mCall int1W (aCons (mV 1) aNil)) (mCall lenW (aCons (m2 ixW (mV 0) (mC (.int 0))) aNil)))))
   sNil)
  mNextT))))
def mDrawT : SM :=
  (sSeq (sSet 2 (m2 (intW modI) (mCall int1W (aCons (m2 ixW (mV 0) (mC (.int 2))) aNil)) (mV 1)))
  (sSeq (sSub (mV 0) (mC (.int 2)) (m2 (intW divI) (m2 ixW (mV 0) (mC (.int 2))) (mV 1)))
  (sRet (mV 2))))
def mDrawB (g : List W → Sto → R W) : SM :=
  (sSeq (sIf (toB (m2 (intW ltI) (m2 ixW (mV 0) (mC (.int 2))) (mV 1)))
   (sSub (mV 0) (mC (.int 2)) (mFn 1 g (aCons (mV 0) aNil)))
   sNil)
  mDrawT)
/-- the pen as a cell's content -/
def penO (ns : List Int) (k st : Int) : O := .lst [.lst (ns.map .int), .int k, .int st]
theorem cut60 (ns : List Int) : ∃ ms : List Int, cutD ns none (some 60) = ms := ⟨_, rfl⟩
theorem pen_ok {N : List Str} (hN : N.length = 1) (ns : List Int) (M : Sto) : ∃ ms, defM N mPenB [.d (.scr ns)] M = .ok (.cell M.length) (M ++ [penO ms 0 0]) := by
  refine ⟨cutD ns none (some 60), ?_⟩
  simp [e_defM, hN, mPenB, listW, itemsW, lim, penO]
theorem seeW_lst (xs : List D) (M : Sto) : seeW (.d (.lst xs)) M = some (.lst xs) := (rfl)
theorem eqDs_nil (ns : List Int) : eqDs (ns.map .int) [] = ns.isEmpty := by cases ns <;> rfl
theorem ok_ints (n : Nat) (ns : List Int) : okN (n + 1) (.lst (ns.map .int)) = true := by
  simp [okN]
theorem ok_nil (n : Nat) : okN (n + 1) (.lst []) = true := by simp [okN]
theorem atI_lt {α : Type} {xs : List α} {i : Int} (h0 : 0 ≤ i) (h1 : i < xs.length) : ∃ x, atI xs i = some x ∧ x ∈ xs := by
  have hl : i.toNat < xs.length := by omega
  refine ⟨xs[i.toNat], ?_, by simp⟩
  unfold atI ixN
  simp [h0, h1, hl]
theorem mod_lt {a : Int} {m : Int} (h : 0 < m) : (a % m).natAbs < m.natAbs := by
  have := Int.emod_nonneg a (show m ≠ 0 by omega)
  have := Int.emod_lt_of_pos a h
  omega
theorem abs_lt {a b : Int} {n : Nat} (h : 0 < b) (k : b.natAbs ≤ n) : (a % b).natAbs < n := Nat.lt_of_lt_of_le (mod_lt h) k
theorem next_tail (ns : List Int) (k st c : Int) (M : Sto) (l : Nat) (h2 : M[l]? = some (penO ns k st)) (i : Int) (h0 : 0 ≤ i) (h1 : i < 2 ^ 64) :
    ∃ v : Int, endK (mNextT [some (.cell l), some (.d (.int i)), some (.d (.int c)), none, none, none] M) = .ok (.d (.int v)) M := by
  have e2 : ixW (.cell l) (.d (.int 0)) M = .ok (.d (.lst (ns.map .int))) M := ix_cell h2 rfl
  have kk : i.natAbs < 2 ^ 64 := by omega
  have q1 : mulOk i 30097 = true := mulOk_of 64 64 kk (by decide) (by decide)
  have q2 : mulOk i 70019 = true := mulOk_of 64 64 kk (by decide) (by decide)
  have q3 : mulOk i i = true := mulOk_of 64 64 kk kk (by decide)
  have q4 : mulOk (i * i) 31 = true := mulOk_of 128 64 (by rw [Int.natAbs_mul]; have := Nat.mul_lt_mul'' kk kk; simpa using this) (by decide) (by decide)
  generalize hs : (c % 2147483587 + i * 30097 + 73) % 2147483587 = s
  have s1 : s.natAbs < 2 ^ 32 := by rw [← hs]; exact abs_lt (by decide) (by decide)
  have q5 : mulOk s s = true := mulOk_of 32 32 s1 s1 (by decide)
  generalize hm : (s * s + i * 70019 + 59) % 2147483563 = m
  have m1 : m.natAbs < 2 ^ 32 := by rw [← hm]; exact abs_lt (by decide) (by decide)
  have q6 : mulOk m m = true := mulOk_of 32 32 m1 m1 (by decide)
  generalize ht : (m * m + s + i * i * 31) % 2147483549 = t
  have t1 : t.natAbs < 2 ^ 32 := by rw [← ht]; exact abs_lt (by decide) (by decide)
  have q7 : mulOk t 2147483587 = true := mulOk_of 32 32 t1 (by decide) (by decide)
  have q8 : mulOk (t * 2147483587 + m) 2147483563 = true := mulOk_of 80 32 (by omega) (by decide) (by decide)
  have go : ∃ v : Int, endK (mNextT [some (.cell l), some (.d (.int i)), some (.d (.int c)), none, none, none] M) = .ok (.d (.int v)) M := by
    by_cases hk : i < (ns.map D.int).length
    · by_cases hc : (10 : Int) ^ 18 ≤ c
      · refine ⟨c, ?_⟩
        simp only [Int.reducePow] at hc
        simp at hk
        simp [mNextT, e2, hk, hc]
      · refine ⟨(t * 2147483587 + m) * 2147483563 + s, ?_⟩
        simp only [Int.reducePow] at hc
        simp at hk
        simp [mNextT, e2, hk, hc, q1, q2, q3, q4, q5, q6, q7, q8, hs, hm, ht]
    · refine ⟨(t * 2147483587 + m) * 2147483563 + s, ?_⟩
      simp at hk
      simp [mNextT, e2, Int.not_lt.mpr hk, q1, q2, q3, q4, q5, q6, q7, q8, hs, hm, ht]
  exact go
theorem next_ok {N : List Str} (hN : N.length = 6) (ns : List Int) (k st : Int) (M : Sto) (l : Nat) (h : M[l]? = some (penO ns k st)) (h0 : 0 ≤ k) (h1 : k < 2 ^ 64) :
    ∃ v : Int, defM N mNextB [.cell l] M = .ok (.d (.int v)) (M.set l (penO ns (k + 1) st)) := by
  have hl := (List.getElem?_eq_some_iff.mp h).1
  have e1 : ixW (.cell l) (.d (.int 1)) M = .ok (.d (.int k)) M := ix_cell h rfl
  have h2 : (M.set l (penO ns (k + 1) st))[l]? = some (penO ns (k + 1) st) := by simp [hl]
  have e2 : ixW (.cell l) (.d (.int 0)) (M.set l (penO ns (k + 1) st)) = .ok (.d (.lst (ns.map .int))) (M.set l (penO ns (k + 1) st)) := ix_cell h2 rfl
  have e3 : setW (.cell l) (.d (.int 1)) (.d (.int (k + 1))) M = some (M.set l (penO ns (k + 1) st)) := set_cell (xs := [.lst (ns.map .int), .int k, .int st]) (j := 1) (d := .int (k + 1)) h rfl
  have kk : k.natAbs < 2 ^ 64 := by omega
  have m1 : mulOk k 1063 = true := mulOk_of 64 64 kk (by decide) (by decide)
  have m2 : mulOk k 30097 = true := mulOk_of 64 64 kk (by decide) (by decide)
  have m3 : mulOk k 70019 = true := mulOk_of 64 64 kk (by decide) (by decide)
  have m4 : mulOk k k = true := mulOk_of 64 64 kk kk (by decide)
  have m5 : mulOk (k * k) 31 = true := mulOk_of 128 64 (by rw [Int.natAbs_mul]; have := Nat.mul_lt_mul'' kk kk; simpa using this) (by decide) (by decide)
  have e4 : eqW true (.d (.lst (ns.map .int))) (.d (.lst [])) (M.set l (penO ns (k + 1) st)) = .ok (.d (.bl (!ns.isEmpty))) (M.set l (penO ns (k + 1) st)) := by
    unfold eqW
    simp [seeW, okN, eqD, eqDs_nil]
  generalize M.set l (penO ns (k + 1) st) = M1 at *
  have tl : ∀ c : Int, ∃ v : Int, endK (mNextT [some (.cell l), some (.d (.int k)), some (.d (.int c)), none, none, none] M1) = .ok (.d (.int v)) M1 := fun c => next_tail ns (k + 1) st c M1 l h2 k h0 h1
  cases hn : ns with
  | nil =>
    subst hn
    obtain ⟨v, hv⟩ := tl (k * 1063 + 47)
    refine ⟨v, ?_⟩
    simp only [List.map_nil, List.isEmpty_nil, Bool.not_true] at e2 e4
    simp [e_defM, hN, mNextB, e1, e3, List.replicate, m1, e2, e4, hv]
  | cons a r =>
    have hp : (0 : Int) < ((ns.map D.int).length : Nat) := by rw [hn]; simp
    obtain ⟨x, hx, hm⟩ := atI_lt (xs := ns.map D.int) (Int.emod_nonneg k (Int.ne_of_gt hp)) (Int.emod_lt_of_pos k hp)
    obtain ⟨y, _, rfl⟩ := List.mem_map.mp hm
    have e5 := ix_lst (M := M1) hx
    obtain ⟨v, hv⟩ := tl y
    refine ⟨v, ?_⟩
    have hne : ns.isEmpty = false := by rw [hn]; rfl
    rw [hne] at e4
    simp only [List.length_map] at e5 hp
    have hp2 : 0 < ns.length := by omega
    have hne2 : ns ≠ [] := by rw [hn]; simp
    simp [e_defM, hN, mNextB, e1, e3, List.replicate, m1, e2, e4, hp, hp2, hne2, e5, hv]
/-- a pen at l, drawn from at most k times -/
def PenAt (K : Int) (l : Nat) (M : Sto) : Prop := ∃ ns k st, M[l]? = some (penO ns k st) ∧ 0 ≤ k ∧ k ≤ K
theorem PenAt.mono {K K' : Int} {l : Nat} {M : Sto} (h : PenAt K l M) (k : K ≤ K') : PenAt K' l M := by
  obtain ⟨ns, j, st, h1, h2, h3⟩ := h
  exact ⟨ns, j, st, h1, h2, by omega⟩
theorem draw_ok {N N1 : List Str} (hN1 : N1.length = 6) (hN : N.length = 3) {K : Int} {l : Nat} {M : Sto} (h : PenAt K l M) (hK : K < 2 ^ 64) (u : Int) (hu : 0 < u) (hu2 : u < 2 ^ 64) :
    ∃ (d : Int) (o : O), 0 ≤ d ∧ d < u ∧ defM N (mDrawB (defM N1 mNextB)) [.cell l, .d (.int u)] M = .ok (.d (.int d)) (M.set l o) ∧ PenAt (K + 1) l (M.set l o) := by
  obtain ⟨ns, k, st, h1, h2, h3⟩ := h
  have hl := (List.getElem?_eq_some_iff.mp h1).1
  have e1 : ixW (.cell l) (.d (.int 2)) M = .ok (.d (.int st)) M := ix_cell h1 rfl
  -- behind the first if: a pen with state v
  have tl : ∀ (M1 : Sto) (k' v : Int), M1 = M.set l (penO ns k' v) → 0 ≤ k' → k' ≤ K + 1 → ∃ (d : Int) (o : O), 0 ≤ d ∧ d < u ∧ endK (mDrawT [some (.cell l), some (.d (.int u)), none] M1) = .ok (.d (.int d)) (M.set l o) ∧ PenAt (K + 1) l (M.set l o) := by
    intro M1 k' v e z1 z2
    have g1 : M1[l]? = some (penO ns k' v) := by rw [e]; simp [hl]
    have f1 : ixW (.cell l) (.d (.int 2)) M1 = .ok (.d (.int v)) M1 := ix_cell g1 rfl
    have f2 : setW (.cell l) (.d (.int 2)) (.d (.int (v / u))) M1 = some (M1.set l (penO ns k' (v / u))) := set_cell (xs := [.lst (ns.map .int), .int k', .int v]) (j := 2) (d := .int (v / u)) g1 rfl
    have f3 : M1.set l (penO ns k' (v / u)) = M.set l (penO ns k' (v / u)) := by rw [e, List.set_set]
    rw [f3] at f2
    refine ⟨v % u, penO ns k' (v / u), Int.emod_nonneg _ (by omega), Int.emod_lt_of_pos _ hu, ?_, ns, k', v / u, by simp [hl], z1, z2⟩
    simp only [Int.reducePow] at hu2
    simp [mDrawT, f1, f2, hu, hu2]
  by_cases c : st < u
  · obtain ⟨v, hv⟩ := next_ok hN1 ns k st M l h1 h2 (by omega)
    have g1 : (M.set l (penO ns (k + 1) st))[l]? = some (penO ns (k + 1) st) := by simp [hl]
    have e2 : setW (.cell l) (.d (.int 2)) (.d (.int v)) (M.set l (penO ns (k + 1) st)) = some ((M.set l (penO ns (k + 1) st)).set l (penO ns (k + 1) v)) := set_cell (xs := [.lst (ns.map .int), .int (k + 1), .int st]) (j := 2) (d := .int v) g1 rfl
    rw [List.set_set] at e2
    obtain ⟨d, o, d1, d2, d3, d4⟩ := tl (M.set l (penO ns (k + 1) v)) (k + 1) v rfl (by omega) (by omega)
    refine ⟨d, o, d1, d2, ?_, d4⟩
    simp [e_defM, hN, mDrawB, List.replicate, e1, c] at hv ⊢
    simp [e_defM, hv, e2, d3]
  · obtain ⟨d, o, d1, d2, d3, d4⟩ := tl M k st (by
      apply List.ext_getElem?
      intro j
      by_cases hj : l = j
      · subst hj
        rw [List.getElem?_set_self hl]
        exact h1
      · simp [hj]) (by omega) (by omega)
    refine ⟨d, o, d1, d2, ?_, d4⟩
    simp [e_defM, hN, mDrawB, List.replicate, e1, c, d3]

/-! ### defs without effects; comprehensions and loops over a list that is known -/
theorem pure_ok {g : List W → Sto → R W} {ws : List W} {ds : List D} {M M' : Sto} {d : D} (h1 : unW ws = some ds) (h2 : g (ds.map .d) [] = .ok (.d d) M') : pureC g ws M = .ok (.d d) M := by
  unfold pureC
  simp only [h1, h2]
theorem pure_exc {g : List W → Sto → R W} {ws : List W} {ds : List D} {M M' : Sto} {c l : Nat} {xs : List D} (h1 : unW ws = some ds) (h2 : g (ds.map .d) [] = .ex c [.cell l] M') (h3 : M'[l]? = some (.lst xs)) : pureC g ws M = .ex c [.cell M.length] (M ++ [.lst xs]) := by
  unfold pureC
  simp only [h1, h2, unW, h3]
theorem pure_ex0 {g : List W → Sto → R W} {ws : List W} {ds : List D} {M M' : Sto} {c : Nat} (h1 : unW ws = some ds) (h2 : g (ds.map .d) [] = .ex c [] M') : pureC g ws M = .ex c [] M := by
  unfold pureC
  simp only [h1, h2, unW]
  rfl
theorem cmpL_pure {γ : Type} {b : BD} {t : BM} {e : EM} {ρ : Env} {M : Sto} {f y : γ → D} {p : γ → Bool} : ∀ {xs : List γ}, (∀ x ∈ xs, ∃ ρ1, b (f x) ρ = some ρ1 ∧ t ρ1 M = .ok (p x) M ∧ (p x = true → e ρ1 M = .ok (.d (y x)) M)) → cmpL b t e ρ (xs.map f) M = .ok ((xs.filter p).map y) M
  | [], _ => rfl
  | x :: xs, h => by
    obtain ⟨ρ1, h1, h2, h3⟩ := h x (by simp)
    have ih := cmpL_pure (xs := xs) fun z hz => h z (by simp [hz])
    simp only [List.map_cons]
    unfold cmpL
    simp only [h1, h2, bnd_ok]
    cases hp : p x with
    | true =>
      rw [if_pos rfl, h3 hp]
      simp only [bnd_ok, ih, List.filter_cons, hp, if_true, List.map_cons]
    | false =>
      rw [if_neg Bool.false_ne_true, ih]
      simp only [List.filter_cons, hp, Bool.false_eq_true, if_false]
/-- .. whose parts change the store: what holds, holds on -/
theorem cmpL_inv {γ : Type} {b : BD} {t : BM} {e : EM} {ρ : Env} {f : γ → D} {P : D → Prop} {I : Nat → Sto → Prop} : ∀ {xs : List γ} {n : Nat} {M : Sto}, I n M → (∀ x ∈ xs, ∀ k M, k < n + xs.length → I k M → ∃ ρ1, b (f x) ρ = some ρ1 ∧ t ρ1 M = .ok true M ∧ ∃ y M2, e ρ1 M = .ok (.d y) M2 ∧ P y ∧ I (k + 1) M2) →
    ∃ ys M2, cmpL b t e ρ (xs.map f) M = .ok ys M2 ∧ ys.length = xs.length ∧ (∀ y ∈ ys, P y) ∧ I (n + xs.length) M2
  | [], n, M, i, _ => ⟨[], M, rfl, rfl, by simp, by simpa using i⟩
  | x :: xs, n, M, i, h => by
    obtain ⟨ρ1, h1, h2, y, M1, h3, hy, i1⟩ := h x (by simp) n M (by simp) i
    obtain ⟨ys, M2, h4, h5, h6, i2⟩ := cmpL_inv (xs := xs) i1 fun z hz k M hk => h z (by simp [hz]) k M (by simp; omega)
    refine ⟨y :: ys, M2, ?_, by simp [h5], fun z hz => (List.mem_cons.mp hz).elim (fun e => e ▸ hy) (h6 z), by rw [List.length_cons, Nat.add_comm xs.length 1, ← Nat.add_assoc]; exact i2⟩
    simp only [List.map_cons]
    unfold cmpL
    simp only [h1, h2, bnd_ok, if_true, h3, h4]
theorem forL_inv {γ : Type} {b : BD} {body : SM} {f : γ → D} {I : List γ → Env → Sto → Prop} : ∀ {post pre : List γ} {ρ : Env} {M : Sto}, I pre ρ M → (∀ pre' x post', pre ++ post = pre' ++ x :: post' → ∀ ρ M, I pre' ρ M → ∃ ρ1, b (f x) ρ = some ρ1 ∧ ∃ ρ2 M2, body ρ1 M = .ok (.nx ρ2) M2 ∧ I (pre' ++ [x]) ρ2 M2) →
    ∃ ρ' M', forL b body (post.map f) ρ M = .ok (.nx ρ') M' ∧ I (pre ++ post) ρ' M'
  | [], pre, ρ, M, i, _ => ⟨ρ, M, rfl, by simpa using i⟩
  | x :: post, pre, ρ, M, i, h => by
    obtain ⟨ρ1, h1, ρ2, M2, h2, i2⟩ := h pre x post rfl ρ M i
    obtain ⟨ρ', M', h3, i3⟩ := forL_inv (post := post) (pre := pre ++ [x]) i2 fun pre' y post' e => h pre' y post' (by rw [← e]; simp)
    refine ⟨ρ', M', ?_, by simpa using i3⟩
    simp only [List.map_cons]
    unfold forL
    simp only [h1, h2, h3]
theorem forL_inv0 {γ : Type} {b : BD} {body : SM} {f : γ → D} {xs : List γ} {I : List γ → Env → Sto → Prop} {ρ : Env} {M : Sto} (i : I [] ρ M) (h : ∀ pre x post, xs = pre ++ x :: post → ∀ ρ M, I pre ρ M → ∃ ρ1, b (f x) ρ = some ρ1 ∧ ∃ ρ2 M2, body ρ1 M = .ok (.nx ρ2) M2 ∧ I (pre ++ [x]) ρ2 M2) :
    ∃ ρ' M', forL b body (xs.map f) ρ M = .ok (.nx ρ') M' ∧ I xs ρ' M' := forL_inv (pre := []) i h
/-- it runs through, and then P -/
def isNx (P : Env → Sto → Prop) (r : RS) : Prop := ∃ ρ M, r = .ok (.nx ρ) M ∧ P ρ M
@[simp] theorem isNx_nx (P : Env → Sto → Prop) (ρ : Env) (M : Sto) : isNx P (.ok (.nx ρ) M) = P ρ M := by
  refine propext ⟨fun h => ?_, fun h => ⟨_, _, rfl, h⟩⟩
  obtain ⟨ρ', M', e, q⟩ := h
  cases e
  exact q
theorem isNx_of {P : Env → Sto → Prop} {r : RS} (h : isNx P r) : ∃ ρ M, r = .ok (.nx ρ) M ∧ P ρ M := h
theorem forL_run {γ : Type} {b : BD} {body : SM} {f : γ → D} {xs : List γ} {I : List γ → Env → Sto → Prop} {ρ : Env} {M : Sto} (i : I [] ρ M) (h : ∀ pre x post, xs = pre ++ x :: post → ∀ ρ M, I pre ρ M → ∃ ρ1, b (f x) ρ = some ρ1 ∧ isNx (I (pre ++ [x])) (body ρ1 M)) :
    isNx (I xs) (forL b body (xs.map f) ρ M) := by
  obtain ⟨ρ', M', e, q⟩ := forL_inv0 (b := b) (body := body) (f := f) i fun pre x post hx ρ M hi => by
    obtain ⟨ρ1, h1, h2⟩ := h pre x post hx ρ M hi
    obtain ⟨ρ2, M2, h3, h4⟩ := isNx_of h2
    exact ⟨ρ1, h1, ρ2, M2, h3, h4⟩
  rw [e, isNx_nx]
  exact q
theorem rangeD0 (n : Nat) : rangeD 0 n = (List.range n).map fun k => .int k := by
  unfold rangeD
  apply List.map_congr_left
  intro k _
  simp

/-! ### more words by values -/
section
variable {M : Sto}
@[simp] theorem eq_ii (neg : Bool) (i j : Int) : eqW neg (.d (.int i)) (.d (.int j)) M = .ok (.d (.bl (neg != (i == j)))) M := (rfl)
@[simp] theorem eq_bb (neg : Bool) (i j : Bool) : eqW neg (.d (.bl i)) (.d (.bl j)) M = .ok (.d (.bl (neg != (i == j)))) M := (rfl)
@[simp] theorem eq_ss (neg : Bool) (i j : Str) : eqW neg (.d (.str i)) (.d (.str j)) M = .ok (.d (.bl (neg != decide (i = j)))) M := (rfl)
theorem eq_dd {neg : Bool} {a b : D} (ha : okN 60 a = true) (hb : okN 60 b = true) (hs : ∀ s, a ≠ .str s) : eqW neg (.d a) (.d b) M = .ok (.d (.bl (neg != eqD a b))) M := by
  unfold eqW
  simp only [seeW]
  split
  · rename_i s _ e _
    exact absurd (Option.some.inj e) (hs s)
  · rename_i e1 e2
    cases e1
    cases e2
    rw [ha, hb]
    rfl
  · rename_i h1 h2
    exact absurd rfl (h2 _ _ rfl)
theorem sort_ints (ns : List Int) : sortW [.d (.lst (ns.map .int))] M = .ok (.d (.lst ((sortI ns).map .int))) M := by
  simp [sortW, sortedW, notTup, itemsW]
theorem sort_intsC {l : Nat} {ns : List Int} (h : M[l]? = some (.lst (ns.map .int))) : sortW [.cell l] M = .ok (.d (.lst ((sortI ns).map .int))) M := by
  simp [sortW, sortedW, notTup, itemsW, h]
theorem sort_pairs (ps : List (Int × Int)) : sortW [.d (.lst (ps.map pairD))] M = .ok (.d (.lst ((sortP ps).map pairD))) M := by
  cases ps with
  | nil => simp [sortW, sortedW, notTup, itemsW, unI, sortI, sortP]
  | cons p ps =>
    have h : unI (List.map pairD (p :: ps)) = none := (rfl)
    simp only [sortW, sortedW, notTup, itemsW, h, unP_map]
    rfl
theorem repr_d {d : D} (h1 : okN 60 d = true) (h2 : sayD d = true) (h3 : rlen d ≤ lim) : reprW [.d d] M = .ok (.d (.str (reprD d))) M := by
  unfold reprW
  simp only [seeW, h1, h2, h3, decide_true, Bool.and_self, if_true]
theorem repr_c {l : Nat} {xs : List D} (h : M[l]? = some (.lst xs)) (h1 : okN 60 (.lst xs) = true) (h2 : sayD (.lst xs) = true) (h3 : rlen (.lst xs) ≤ lim) : reprW [.cell l] M = .ok (.d (.str (reprD (.lst xs)))) M := by
  unfold reprW
  simp only [seeW, h, h1, h2, h3, decide_true, Bool.and_self, if_true]
theorem say_ints {l : List Int} (h : ∀ i ∈ l, i.natAbs < 2 ^ 1900) : sayDs (l.map .int) = true := by
  induction l with
  | nil => rfl
  | cons a l ih =>
    simp only [List.map_cons, sayDs, sayD, Bool.and_eq_true]
    refine ⟨decide_eq_true ?_, ih fun i hi => h i (by simp [hi])⟩
    have := h a (by simp)
    by_cases z : a.natAbs = 0
    · rw [z]; decide
    · exact (Nat.log2_lt z).mpr this
theorem log2_le {n k : Nat} (h : n < 2 ^ k) : n.log2 ≤ k := by
  by_cases z : n = 0
  · subst z; simp
  · exact Nat.le_of_lt ((Nat.log2_lt z).mpr h)
theorem rlens_le {l : List D} {k : Nat} (h : ∀ d ∈ l, rlen d ≤ k) : rlens l ≤ l.length * (k + 2) := by
  induction l with
  | nil => simp [rlens]
  | cons a l ih =>
    have := h a (by simp)
    have := ih fun d hd => h d (by simp [hd])
    simp only [rlens, List.length_cons, Nat.succ_mul]
    omega
end
end VL
namespace K47
open PySem PySem.Spec PyProof.Rows L2 VL
/-- the i-th statement of the program -/
def top (i : Nat) : Stmt := PySem.Challenge.pw_evenplay_k47_least_delays.main.body.getD i (.Pass ⟨0, 0, 0, 0⟩)
abbrev s_is_integer : Stmt := top 6
abbrev N_is_integer : List Str := ["thing"]
theorem sc_is_integer : FnScope N_is_integer ["thing"] (defScope s_is_integer) := ⟨rfl, rfl, rfl, by decide +kernel, rfl, by decide +kernel, by decide +kernel⟩
abbrev s_check_times : Stmt := top 10
abbrev N_check_times : List Str := ["ready", "start", "period", "time"]
theorem sc_check_times : FnScope N_check_times ["ready", "start", "period"] (defScope s_check_times) := ⟨rfl, rfl, rfl, by decide +kernel, rfl, by decide +kernel, by decide +kernel⟩
abbrev s_check_delay : Stmt := top 11
abbrev N_check_delay : List Str := ["thing"]
theorem sc_check_delay : FnScope N_check_delay ["thing"] (defScope s_check_delay) := ⟨rfl, rfl, rfl, by decide +kernel, rfl, by decide +kernel, by decide +kernel⟩
abbrev s_least_delay : Stmt := top 12
abbrev N_least_delay : List Str := ["ready", "start", "period", "allowed", "never", "early", "rest", "frame", "time"]
theorem sc_least_delay : FnScope N_least_delay ["ready", "start", "period", "allowed"] (defScope s_least_delay) := ⟨rfl, rfl, rfl, by decide +kernel, rfl, by decide +kernel, by decide +kernel⟩
abbrev s__law_pen : Stmt := top 14
abbrev N__law_pen : List Str := ["_law_script"]
theorem sc__law_pen : FnScope N__law_pen ["_law_script"] (defScope s__law_pen) := ⟨rfl, rfl, rfl, by decide +kernel, rfl, by decide +kernel, by decide +kernel⟩
abbrev s__law_next : Stmt := top 15
abbrev N__law_next : List Str := ["_law_pen_here", "_law_index", "_law_cell_here", "_law_some", "_law_more", "_law_top"]
theorem sc__law_next : FnScope N__law_next ["_law_pen_here"] (defScope s__law_next) := ⟨rfl, rfl, rfl, by decide +kernel, rfl, by decide +kernel, by decide +kernel⟩
abbrev s__law_draw : Stmt := top 16
abbrev N__law_draw : List Str := ["_law_pen_here", "_law_under", "_law_digit"]
theorem sc__law_draw : FnScope N__law_draw ["_law_pen_here", "_law_under"] (defScope s__law_draw) := ⟨rfl, rfl, rfl, by decide +kernel, rfl, by decide +kernel, by decide +kernel⟩
abbrev s__law_ready : Stmt := top 17
abbrev N__law_ready : List Str := ["_law_pen_here", "_law_most", "_law_wide", "_law_start", "_law_found", "_law_k", "_law_moment"]
theorem sc__law_ready : FnScope N__law_ready ["_law_pen_here", "_law_most"] (defScope s__law_ready) := ⟨rfl, rfl, rfl, by decide +kernel, rfl, by decide +kernel, by decide +kernel⟩
abbrev s__law_late : Stmt := top 18
abbrev N__law_late : List Str := ["_law_ready_here", "_law_start", "_law_period", "_law_wait", "_law_found", "_law_k"]
theorem sc__law_late : FnScope N__law_late ["_law_ready_here", "_law_start", "_law_period", "_law_wait"] (defScope s__law_late) := ⟨rfl, rfl, rfl, by decide +kernel, rfl, by decide +kernel, by decide +kernel⟩
abbrev s__law_caught : Stmt := top 19
abbrev N__law_caught : List Str := ["_law_ready_here", "_law_start", "_law_period", "_law_most", "_law_caught_here", "_law_found", "e"]
theorem sc__law_caught : FnScope N__law_caught ["_law_ready_here", "_law_start", "_law_period", "_law_most"] (defScope s__law_caught) := ⟨rfl, rfl, rfl, by decide +kernel, rfl, by decide +kernel, by decide +kernel⟩
abbrev s__law_waits : Stmt := top 20
abbrev N__law_waits : List Str := ["_law_ready_here", "_law_start", "_law_period", "_law_found", "_law_k"]
theorem sc__law_waits : FnScope N__law_waits ["_law_ready_here", "_law_start", "_law_period"] (defScope s__law_waits) := ⟨rfl, rfl, rfl, by decide +kernel, rfl, by decide +kernel, by decide +kernel⟩
abbrev s__law_right : Stmt := top 21
abbrev N__law_right : List Str := ["_law_ready_here", "_law_start", "_law_period", "_law_most", "_law_never", "_law_seen", "_law_again", "_law_caught_here", "_law_found", "_law_fine", "_law_late_here", "_law_k", "_law_wait", "_law_less"]
theorem sc__law_right : FnScope N__law_right ["_law_ready_here", "_law_start", "_law_period", "_law_most"] (defScope s__law_right) := ⟨rfl, rfl, rfl, by decide +kernel, rfl, by decide +kernel, by decide +kernel⟩
abbrev s_law : Stmt := top 22
abbrev N_law : List Str := ["_law_script", "_law_pen_here", "_law_turn", "_law_ready_here", "_law_start", "_law_period", "_law_most"]
theorem sc_law : FnScope N_law ["_law_script"] (defScope s_law) := ⟨rfl, rfl, rfl, by decide +kernel, rfl, by decide +kernel, by decide +kernel⟩
abbrev s_init_NoDelay : Stmt := inClass (top 2) 0
theorem sc_init_NoDelay : FnScope ["self", "missing"] ["self", "missing"] (defScope s_init_NoDelay) := ⟨rfl, rfl, rfl, by decide +kernel, rfl, by decide +kernel, by decide +kernel⟩
/-- what the written part says -/
structure TX (K : PySem.W.Frag) (mg : Str → Option Value) where
  f_is_integer : Addr
  d_is_integer : FuncData
  F_is_integer : Fun K "is_integer" "is_integer" s_is_integer f_is_integer d_is_integer
  g_is_integer : mg "is_integer" = some (.ref f_is_integer)
  k_is_integer : PySem.W.keepIn K (.ref f_is_integer) = true
  b_is_integer : Binds K d_is_integer ["thing"] []
  f_check_times : Addr
  d_check_times : FuncData
  F_check_times : Fun K "check_times" "check_times" s_check_times f_check_times d_check_times
  g_check_times : mg "check_times" = some (.ref f_check_times)
  k_check_times : PySem.W.keepIn K (.ref f_check_times) = true
  b_check_times : Binds K d_check_times ["ready", "start", "period"] []
  f_check_delay : Addr
  d_check_delay : FuncData
  F_check_delay : Fun K "check_delay" "check_delay" s_check_delay f_check_delay d_check_delay
  g_check_delay : mg "check_delay" = some (.ref f_check_delay)
  k_check_delay : PySem.W.keepIn K (.ref f_check_delay) = true
  b_check_delay : Binds K d_check_delay ["thing"] []
  f_least_delay : Addr
  d_least_delay : FuncData
  F_least_delay : Fun K "least_delay" "least_delay" s_least_delay f_least_delay d_least_delay
  g_least_delay : mg "least_delay" = some (.ref f_least_delay)
  k_least_delay : PySem.W.keepIn K (.ref f_least_delay) = true
  b_least_delay : Binds K d_least_delay ["ready", "start", "period", "allowed"] []
  f__law_pen : Addr
  d__law_pen : FuncData
  F__law_pen : Fun K "_law_pen" "_law_pen" s__law_pen f__law_pen d__law_pen
  g__law_pen : mg "_law_pen" = some (.ref f__law_pen)
  k__law_pen : PySem.W.keepIn K (.ref f__law_pen) = true
  b__law_pen : Binds K d__law_pen ["_law_script"] []
  f__law_next : Addr
  d__law_next : FuncData
  F__law_next : Fun K "_law_next" "_law_next" s__law_next f__law_next d__law_next
  g__law_next : mg "_law_next" = some (.ref f__law_next)
  k__law_next : PySem.W.keepIn K (.ref f__law_next) = true
  b__law_next : Binds K d__law_next ["_law_pen_here"] []
  f__law_draw : Addr
  d__law_draw : FuncData
  F__law_draw : Fun K "_law_draw" "_law_draw" s__law_draw f__law_draw d__law_draw
  g__law_draw : mg "_law_draw" = some (.ref f__law_draw)
  k__law_draw : PySem.W.keepIn K (.ref f__law_draw) = true
  b__law_draw : Binds K d__law_draw ["_law_pen_here", "_law_under"] []
  f__law_ready : Addr
  d__law_ready : FuncData
  F__law_ready : Fun K "_law_ready" "_law_ready" s__law_ready f__law_ready d__law_ready
  g__law_ready : mg "_law_ready" = some (.ref f__law_ready)
  k__law_ready : PySem.W.keepIn K (.ref f__law_ready) = true
  b__law_ready : Binds K d__law_ready ["_law_pen_here", "_law_most"] []
  f__law_late : Addr
  d__law_late : FuncData
  F__law_late : Fun K "_law_late" "_law_late" s__law_late f__law_late d__law_late
  g__law_late : mg "_law_late" = some (.ref f__law_late)
  k__law_late : PySem.W.keepIn K (.ref f__law_late) = true
  b__law_late : Binds K d__law_late ["_law_ready_here", "_law_start", "_law_period", "_law_wait"] []
  f__law_caught : Addr
  d__law_caught : FuncData
  F__law_caught : Fun K "_law_caught" "_law_caught" s__law_caught f__law_caught d__law_caught
  g__law_caught : mg "_law_caught" = some (.ref f__law_caught)
  k__law_caught : PySem.W.keepIn K (.ref f__law_caught) = true
  b__law_caught : Binds K d__law_caught ["_law_ready_here", "_law_start", "_law_period", "_law_most"] []
  f__law_waits : Addr
  d__law_waits : FuncData
  F__law_waits : Fun K "_law_waits" "_law_waits" s__law_waits f__law_waits d__law_waits
  g__law_waits : mg "_law_waits" = some (.ref f__law_waits)
  k__law_waits : PySem.W.keepIn K (.ref f__law_waits) = true
  b__law_waits : Binds K d__law_waits ["_law_ready_here", "_law_start", "_law_period"] []
  f__law_right : Addr
  d__law_right : FuncData
  F__law_right : Fun K "_law_right" "_law_right" s__law_right f__law_right d__law_right
  g__law_right : mg "_law_right" = some (.ref f__law_right)
  k__law_right : PySem.W.keepIn K (.ref f__law_right) = true
  b__law_right : Binds K d__law_right ["_law_ready_here", "_law_start", "_law_period", "_law_most"] []
  f_law : Addr
  d_law : FuncData
  F_law : Fun K "law" "law" s_law f_law d_law
  g_law : mg "law" = some (.ref f_law)
  k_law : PySem.W.keepIn K (.ref f_law) = true
  b_law : Binds K d_law ["_law_script"] []
  n_all : mg "all" = none
  n_bool : mg "bool" = none
  n_enumerate : mg "enumerate" = none
  n_int : mg "int" = none
  n_isinstance : mg "isinstance" = none
  n_len : mg "len" = none
  n_list : mg "list" = none
  n_max : mg "max" = none
  n_range : mg "range" = none
  n_repr : mg "repr" = none
  n_sorted : mg "sorted" = none
  n_tuple : mg "tuple" = none
  c_MAX_DELAY : ∃ u, mg "MAX_DELAY" = some u ∧ RelV (.int 99999) u
  c_MAX_PERIOD : ∃ u, mg "MAX_PERIOD" = some u ∧ RelV (.int 999) u
  a_InvalidTimes : Addr
  g_InvalidTimes : mg "InvalidTimes" = some (.ref a_InvalidTimes)
  k_InvalidTimes : PySem.W.keepIn K (.ref a_InvalidTimes) = true
  e_InvalidTimes : PySem.W.subIn K (.ref a_InvalidTimes) (.type "BaseException") = some true
  t_InvalidTimes : PySem.W.typeIn K (.ref a_InvalidTimes) = some (.type "type")
  x_InvalidTimes : PySem.W.excIn K a_InvalidTimes [.type "ValueError", .type "Exception", .type "BaseException", .type "object"] "ValueError.__new__" = true
  a_InvalidNumber : Addr
  g_InvalidNumber : mg "InvalidNumber" = some (.ref a_InvalidNumber)
  k_InvalidNumber : PySem.W.keepIn K (.ref a_InvalidNumber) = true
  e_InvalidNumber : PySem.W.subIn K (.ref a_InvalidNumber) (.type "BaseException") = some true
  t_InvalidNumber : PySem.W.typeIn K (.ref a_InvalidNumber) = some (.type "type")
  x_InvalidNumber : PySem.W.excIn K a_InvalidNumber [.type "ValueError", .type "Exception", .type "BaseException", .type "object"] "ValueError.__new__" = true
  a_NoDelay : Addr
  g_NoDelay : mg "NoDelay" = some (.ref a_NoDelay)
  k_NoDelay : PySem.W.keepIn K (.ref a_NoDelay) = true
  e_NoDelay : PySem.W.subIn K (.ref a_NoDelay) (.type "BaseException") = some true
  t_NoDelay : PySem.W.typeIn K (.ref a_NoDelay) = some (.type "type")
  o_NoDelay : OexC K a_NoDelay
  xf_NoDelay : XfC K a_NoDelay
  no_NoDelay : PySem.W.findIn K (.ref a_NoDelay) "missing" = some none
  fi_NoDelay : Addr
  di_NoDelay : FuncData
  Fi_NoDelay : Fun K "__init__" "NoDelay.__init__" s_init_NoDelay fi_NoDelay di_NoDelay
  i_NoDelay : PySem.W.findIn K (.ref a_NoDelay) "__init__" = some (some (.ref fi_NoDelay))
  ti_NoDelay : PySem.W.typeIn K (.ref fi_NoDelay) = some (.type "function")
  bi_NoDelay : Binds K di_NoDelay ["self", "missing"] []
  a_PlayError : Addr
  g_PlayError : mg "PlayError" = some (.ref a_PlayError)
  mc : Value
  rd_PlayError : PySem.W.readsIn K a_PlayError mc = true
  ga_PlayError : PySem.W.specialIn K (.ref a_PlayError) "__getattribute__" = some (some (.builtin "type.__getattribute__"))
  fc_PlayError : PySem.W.findCls K (.ref a_PlayError) mc "__init__" = some (.val (.builtin "ValueError.__init__"))
  B_law : ∀ (s : Shared) (u : Value), BindsTo s d_law ⟨[u], []⟩ [("_law_script", u)]
  m_NoDelay_InvalidTimes : PySem.W.exmOne K (.ref a_InvalidTimes) (.ref a_NoDelay) = some false
  m_NoDelay_InvalidNumber : PySem.W.exmOne K (.ref a_InvalidNumber) (.ref a_NoDelay) = some false
  m_NoDelay_NoDelay : PySem.W.exmOne K (.ref a_NoDelay) (.ref a_NoDelay) = some true
section
variable {P : Program} {w : World} {K : PySem.W.Frag} {mg : Str → Option Value} {base : Heap}
def TX.G (T : TX K mg) : GT := ⟨K, fun c => match c with
  | 0 => T.a_InvalidTimes
  | 1 => T.a_InvalidNumber
  | 2 => T.a_NoDelay
  | _ => 0, fun c => match c with
  | 0 => []
  | 1 => []
  | 2 => ["missing"]
  | _ => []⟩
/-- which errors the clause takes -/
def cl_NoDelay : Nat → Option Bool := fun c => match c with
  | 0 => some false
  | 1 => some false
  | 2 => some true
  | _ => none
theorem cl_NoDelay_one (c : Nat) (h : cl_NoDelay c = some true) : c = 2 := by
  unfold cl_NoDelay at h
  split at h <;> first | rfl | (cases h)
theorem TX.m_NoDelay (T : TX K mg) (c : Nat) (b : Bool) (h : cl_NoDelay c = some b) : PySem.W.exmOne K (.ref (T.G.ca c)) (.ref T.a_NoDelay) = some b := by
  unfold cl_NoDelay at h
  split at h <;> cases h
  · exact T.m_NoDelay_InvalidTimes
  · exact T.m_NoDelay_InvalidNumber
  · exact T.m_NoDelay_NoDelay
theorem ok_init_NoDelay (T : TX K mg) : FnOk P w K mg base CX0 1 T.fi_NoDelay T.di_NoDelay ["self", "missing"] (spIni T.a_NoDelay "missing") := by
  refine T.Fi_NoDelay.ok sc_init_NoDelay (fun vs H Q E h => ?_) (fun cdv A outer s H vs Q E hr h => ⟨tSeq (tDrop (tVeI K (tCons (tVar 0) (tCons (tC (.str "too many frames are never ready")) tNil)))) (tOst K "missing" (tVar 0) (tVar 1)),
    pss_cons (ps_expr (pe_pinit T.g_PlayError T.rd_PlayError T.ga_PlayError T.fc_PlayError (pa_cons (pv 0) (pa_cons pe_str pa_nil)))) (pss_one (ps_ost (pv 0) (pv 1))), ?_⟩)
  · obtain ⟨a, v, rfl, _⟩ := h
    rfl
  · obtain ⟨a, v, rfl, ha, q⟩ := h
    exact ⟨_, rfl, a, T.a_NoDelay, _, rfl, by show 1 ≤ 1000; decide, T.o_NoDelay, ha, _, rfl, _, rfl, a, T.a_NoDelay, rfl, T.o_NoDelay, T.no_NoDelay, .inl ⟨ha, q⟩⟩
def m_is_integer : SM :=
  (sRet (vAnd (mIsi "int" (mV 0)) (vNot (mIsi "bool" (mV 0)))))
def g_is_integer : List W → Sto → R W := pureC (defM N_is_integer m_is_integer)
theorem ok_is_integer (T : TX K mg) : Fnk P w K mg base 1 T.f_is_integer T.d_is_integer ["thing"] (spM T.G 1 g_is_integer) :=
  Fnk.imp (defk (m := m_is_integer) rfl T.F_is_integer sc_is_integer (fun cdv A outer s H E hgd hr Wx tk =>
  (z_one (z_ret (s_vand (s_isi (by decide) (sv (pv 0)) rfl T.n_isinstance T.n_int (by decide +kernel)) (s_vone (s_vnot (s_isi (by decide) (sv (pv 0)) rfl T.n_isinstance T.n_bool (by decide +kernel))))))))) fun _ _ _ _ h => spM_pure h
def m_check_times : SM :=
  (sSeq (sIf (bOr (bNot (toB (mIsi "list" (mV 0)))) (bNot (toB (mCall (allW fun bs => bs.all id) (aCons (mComp (iSeq (mV 0)) (bName 3) bYes (vOr (m2 isNW (mV 3) (mC .non)) (mFn 1 g_is_integer (aCons (mV 3) aNil))) [3]) aNil)))))
   (sRaise 0)
   sNil)
  (sIf (bOr (bNot (toB (mFn 1 g_is_integer (aCons (mV 1) aNil)))) (bOr (bNot (toB (mFn 1 g_is_integer (aCons (mV 2) aNil)))) (bNot (toB (mChain (intW leI) (intW leI) (mC (.int 1)) (mV 2) (mC (.int 999)))))))
   (sRaise 0)
   sNil))
def g_check_times : List W → Sto → R W := pureC (defM N_check_times m_check_times)
theorem ok_check_times (T : TX K mg) : Fnk P w K mg base 2 T.f_check_times T.d_check_times ["ready", "start", "period"] (spM T.G 3 g_check_times) :=
  Fnk.imp (defk (m := m_check_times) rfl T.F_check_times sc_check_times (fun cdv A outer s H E hgd hr Wx tk =>
  (z_cons (z_if (PW.pt (s_or (s_not (s_tval (s_isi (by decide) (sv (pv 0)) rfl T.n_isinstance T.n_list (by decide +kernel)))) (s_or1 (s_not (s_tval (s_callB (cr_all rfl) cs_allany T.n_all (by decide +kernel) (a_cons (s_comp rfl sc_check_times.nd (i_seq (sv (pv 0)) rfl) (blkOk_by (own := [("time", 3)]) (N := N_check_times) (sc := defScope s_check_times) (by decide +kernel)) (fun _ _ _ _ _ => (g_name sc_check_times.nd)) (fun _ _ _ _ _ => t_nil) (fun _ _ _ _ _ => (s_vor (s_cmp op_isN os_isN (sv (pv 3)) s_non) (s_vone (s_call (ok_is_integer T) hgd (hr.mono (by decide)) T.g_is_integer T.k_is_integer T.b_is_integer takes0 (a_cons (sv (pv 3)) a_nil)))))) a_nil)))))))
   (z_one (z_raise rfl tk PySem.F.excBase_ValueError T.x_InvalidTimes T.g_InvalidTimes T.k_InvalidTimes (raises_own T.e_InvalidTimes T.t_InvalidTimes) rfl))
   z_nil)
  (z_one (z_if (PW.pt (s_or (s_not (s_tval (s_call (ok_is_integer T) hgd (hr.mono (by decide)) T.g_is_integer T.k_is_integer T.b_is_integer tk (a_cons (sv (pv 1)) a_nil)))) (s_or (s_not (s_tval (s_call (ok_is_integer T) hgd (hr.mono (by decide)) T.g_is_integer T.k_is_integer T.b_is_integer tk (a_cons (sv (pv 2)) a_nil)))) (s_or1 (s_not (s_tchain op_le os_le op_le os_le s_int (sv (pv 2)) (s_gi T.c_MAX_PERIOD)))))))
   (z_one (z_raise rfl tk PySem.F.excBase_ValueError T.x_InvalidTimes T.g_InvalidTimes T.k_InvalidTimes (raises_own T.e_InvalidTimes T.t_InvalidTimes) rfl))
   z_nil))))) fun _ _ _ _ h => spM_pure h
def m_check_delay : SM :=
  (sIf (bOr (bNot (toB (mFn 1 g_is_integer (aCons (mV 0) aNil)))) (bNot (toB (mChain (intW leI) (intW leI) (mC (.int 0)) (mV 0) (mC (.int 99999))))))
   (sRaise 1)
   sNil)
def g_check_delay : List W → Sto → R W := pureC (defM N_check_delay m_check_delay)
theorem ok_check_delay (T : TX K mg) : Fnk P w K mg base 2 T.f_check_delay T.d_check_delay ["thing"] (spM T.G 1 g_check_delay) :=
  Fnk.imp (defk (m := m_check_delay) rfl T.F_check_delay sc_check_delay (fun cdv A outer s H E hgd hr Wx tk =>
  (z_one (z_if (PW.pt (s_or (s_not (s_tval (s_call (ok_is_integer T) hgd (hr.mono (by decide)) T.g_is_integer T.k_is_integer T.b_is_integer tk (a_cons (sv (pv 0)) a_nil)))) (s_or1 (s_not (s_tchain op_le os_le op_le os_le s_int (sv (pv 0)) (s_gi T.c_MAX_DELAY))))))
   (z_one (z_raise rfl tk PySem.F.excBase_ValueError T.x_InvalidNumber T.g_InvalidNumber T.k_InvalidNumber (raises_own T.e_InvalidNumber T.t_InvalidNumber) rfl))
   z_nil)))) fun _ _ _ _ h => spM_pure h
def m_least_delay : SM :=
  (sSeq (sExpr (mFn 3 g_check_times (aCons (mV 0) (aCons (mV 1) (aCons (mV 2) aNil)))))
  (sSeq (sExpr (mFn 1 g_check_delay (aCons (mV 3) aNil)))
  (sSeq (sSet 4 (mCompC (iEnumM (aCons (mV 0) aNil)) (bTup 2 (bCons (bName 7) (bCons (bName 8) bNil))) (toB (m2 isNW (mV 8) (mC .non))) (mV 7) [7, 8]))
  (sSeq (sIf (toB (m2 (intW gtI) (mCall lenW (aCons (mV 4) aNil)) (mV 3)))
   (sRaiseV 2 (mV 4))
   sNil)
  (sSeq (sSet 5 (mCall sortW (aCons (mComp (iEnumM (aCons (mV 0) aNil)) (bTup 2 (bCons (bName 7) (bCons (bName 8) bNil))) (toB (m2 notNW (mV 8) (mC .non))) (mTup (aCons (m2 (intW subI) (m2 addW (mV 1) (m2 mulW (mV 7) (mV 2))) (mV 8)) (aCons (mV 7) aNil))) [7, 8]) aNil)))
  (sSeq (sSet 6 (mSl (mV 5) (oSome (m2 (intW subI) (mV 3) (mCall lenW (aCons (mV 4) aNil)))) oNone))
  (sSeq (sIf (bOr (toB (m2 (eqW false) (mV 6) (mLst aNil))) (toB (m2 (intW geI) (m2 ixW (m2 ixW (mV 6) (mC (.int 0))) (mC (.int 0))) (mC (.int 0)))))
   (sRet (mTup (aCons (mC (.int 0)) (aCons (mC .non) aNil))))
   sNil)
  (sRet (mTup (aCons (m1 negW (m2 ixW (m2 ixW (mV 6) (mC (.int 0))) (mC (.int 0)))) (aCons (m2 ixW (m2 ixW (mV 6) (mC (.int 0))) (mC (.int 1))) aNil)))))))))))
def g_least_delay : List W → Sto → R W := pureC (defM N_least_delay m_least_delay)
theorem ok_least_delay (T : TX K mg) : Fnk P w K mg base 3 T.f_least_delay T.d_least_delay ["ready", "start", "period", "allowed"] (spM T.G 4 g_least_delay) :=
  Fnk.imp (defk (m := m_least_delay) rfl T.F_least_delay sc_least_delay (fun cdv A outer s H E hgd hr Wx tk =>
  (z_cons (z_expr (s_call (ok_check_times T) hgd (hr.mono (by decide)) T.g_check_times T.k_check_times T.b_check_times tk (a_cons (sv (pv 0)) (a_cons (sv (pv 1)) (a_cons (sv (pv 2)) a_nil)))))
  (z_cons (z_expr (s_call (ok_check_delay T) hgd (hr.mono (by decide)) T.g_check_delay T.k_check_delay T.b_check_delay tk (a_cons (sv (pv 3)) a_nil)))
  (z_cons (z_compC rfl sc_least_delay.nd (i_enum T.n_enumerate (a_cons (sv (pv 0)) a_nil) rfl) (blkOk_by (own := [("frame", 7), ("time", 8)]) (N := N_least_delay) (sc := defScope s_least_delay) (by decide +kernel)) (fun _ _ _ _ _ => (g_tup rfl (gs_cons (g_name sc_least_delay.nd) (gs_cons (g_name sc_least_delay.nd) gs_nil)))) (fun _ _ _ _ _ => (t_one (s_tcmp op_isN os_isN (sv (pv 8)) s_non))) (fun _ _ _ _ _ => (sv (pv 7))) (sw_true rfl rfl rfl (by decide +kernel)))
  (z_cons (z_if (s_tcmp op_gt os_gt (s_callB call_len cs_len T.n_len (by decide +kernel) (a_cons (sv (pv 4)) a_nil)) (sv (pv 3)))
   (z_one (z_raiseV rfl tk T.o_NoDelay T.i_NoDelay T.ti_NoDelay (ok_init_NoDelay T) (hr.mono (by decide)) T.bi_NoDelay T.g_NoDelay (sv (pv 4)) rfl rfl))
   z_nil)
  (z_cons (z_set sc_least_delay.nd (s_callB call_sortedV cs_sorted T.n_sorted (by decide +kernel) (a_cons (s_comp rfl sc_least_delay.nd (i_enum T.n_enumerate (a_cons (sv (pv 0)) a_nil) rfl) (blkOk_by (own := [("frame", 7), ("time", 8)]) (N := N_least_delay) (sc := defScope s_least_delay) (by decide +kernel)) (fun _ _ _ _ _ => (g_tup rfl (gs_cons (g_name sc_least_delay.nd) (gs_cons (g_name sc_least_delay.nd) gs_nil)))) (fun _ _ _ _ _ => (t_one (s_tcmp op_notN os_notN (sv (pv 8)) s_non))) (fun _ _ _ _ _ => (s_tup (a_cons (s_op op_sub os_sub (s_op op_addV os_add (sv (pv 1)) (s_op op_mulV os_mul (sv (pv 7)) (sv (pv 2)))) (sv (pv 8))) (a_cons (sv (pv 7)) a_nil))))) a_nil)))
  (z_cons (z_set sc_least_delay.nd (s_sl (sv (pv 5)) (o_some (s_op op_sub os_sub (sv (pv 3)) (s_callB call_len cs_len T.n_len (by decide +kernel) (a_cons (sv (pv 4)) a_nil)))) o_none rfl))
  (z_cons (z_if (PW.pt (s_or (s_tcmp (op_eqV hr.units) os_eq (sv (pv 6)) (s_lst a_nil)) (s_or1 (s_tcmp op_ge os_ge (s_ix ix_seq os_ix (s_ix ix_seq os_ix (sv (pv 6)) s_int) s_int) s_int))))
   (z_one (z_ret (s_tup (a_cons s_int (a_cons s_non a_nil)))))
   z_nil)
  (z_one (z_ret (s_tup (a_cons (s_un un_neg us_neg (s_ix ix_seq os_ix (s_ix ix_seq os_ix (sv (pv 6)) s_int) s_int)) (a_cons (s_ix ix_seq os_ix (s_ix ix_seq os_ix (sv (pv 6)) s_int) s_int) a_nil)))))))))))))) fun _ _ _ _ h => spM_pure h
def m__law_pen : SM :=
  (sRet (mLstC (aCons (mCall listW (aCons (mSl (mV 0) oNone (oSome (mC (.int 60)))) aNil)) (aCons (mC (.int 0)) (aCons (mC (.int 0)) aNil)))))
def g__law_pen : List W → Sto → R W := defM N__law_pen m__law_pen
theorem ok__law_pen (T : TX K mg) : Fnk P w K mg base 1 T.f__law_pen T.d__law_pen ["_law_script"] (spM T.G 1 g__law_pen) :=
  defk (m := m__law_pen) rfl T.F__law_pen sc__law_pen (fun cdv A outer s H E hgd hr Wx tk =>
  (z_one (z_ret (s_lstC (a_cons (s_callTy call_list_of cs_list T.n_list (by decide +kernel) (a_cons (s_sl (sv (pv 0)) o_none (o_some s_int) rfl) a_nil)) (a_cons s_int (a_cons s_int a_nil)))))))
def m__law_next : SM :=
  (sSeq (sSet 1 (m2 ixW (mV 0) (mC (.int 1))))
  (sSeq (sSub (mV 0) (mC (.int 1)) (m2 addW (mV 1) (mC (.int 1))))
  (sSeq (sSet 2 (m2 addW (m2 mulW (mV 1) (mC (.int 1063))) (mC (.int 47))))
  (sSeq (sIf (toB (m2 (eqW true) (m2 ixW (mV 0) (mC (.int 0))) (mLst aNil)))
   (sSet 2 (m2 ixW (m2 ixW (mV 0) (mC (.int 0))) (m2 (intW modI) (mCall int1W (aCons (mV 1) aNil)) (mCall lenW (aCons (m2 ixW (mV 0) (mC (.int 0))) aNil)))))
   sNil)
  (sSeq (sIf (bAnd (toB (m2 (intW ltI) (mV 1) (mCall lenW (aCons (m2 ixW (mV 0) (mC (.int 0))) aNil)))) (toB (m2 (intW geI) (mV 2) (m2 (intW powI) (mC (.int 10)) (mC (.int 18))))))
   (sRet (mV 2))
   sNil)
  (sSeq (sSet 3 (m2 (intW modI) (mCall int1W (aCons (m2 addW (m2 addW (m2 (intW modI) (mCall int1W (aCons (mV 2) aNil)) (mC (.int 2147483587))) (m2 mulW (mV 1) (mC (.int 30097)))) (mC (.int 73))) aNil)) (mC (.int 2147483587))))
  (sSeq (sSet 4 (m2 (intW modI) (mCall int1W (aCons (m2 addW (m2 addW (m2 mulW (mV 3) (mV 3)) (m2 mulW (mV 1) (mC (.int 70019)))) (mC (.int 59))) aNil)) (mC (.int 2147483563))))
  (sSeq (sSet 5 (m2 (intW modI) (mCall int1W (aCons (m2 addW (m2 addW (m2 mulW (mV 4) (mV 4)) (mV 3)) (m2 mulW (m2 mulW (mV 1) (mV 1)) (mC (.int 31)))) aNil)) (mC (.int 2147483549))))
  (sRet (m2 addW (m2 mulW (m2 addW (m2 mulW (mV 5) (mC (.int 2147483587))) (mV 4)) (mC (.int 2147483563))) (mV 3)))))))))))
def g__law_next : List W → Sto → R W := defM N__law_next m__law_next
theorem ok__law_next (T : TX K mg) : Fnk P w K mg base 1 T.f__law_next T.d__law_next ["_law_pen_here"] (spM T.G 1 g__law_next) :=
  defk (m := m__law_next) rfl T.F__law_next sc__law_next (fun cdv A outer s H E hgd hr Wx tk =>
  (z_cons (z_set sc__law_next.nd (s_ix ix_seq os_ix (sv (pv 0)) s_int))
  (z_cons (z_sub (s_op op_addV os_add (sv (pv 1)) s_int) (sv (pv 0)) s_int)
  (z_cons (z_set sc__law_next.nd (s_op op_addV os_add (s_op op_mulV os_mul (sv (pv 1)) s_int) s_int))
  (z_cons (z_if (s_tcmp (op_neV hr.units) os_ne (s_ix ix_seq os_ix (sv (pv 0)) s_int) (s_lst a_nil))
   (z_one (z_set sc__law_next.nd (s_ix ix_seq os_ix (s_ix ix_seq os_ix (sv (pv 0)) s_int) (s_op op_mod os_mod (s_callTy call_int1 cs_int1 T.n_int (by decide +kernel) (a_cons (sv (pv 1)) a_nil)) (s_callB call_len cs_len T.n_len (by decide +kernel) (a_cons (s_ix ix_seq os_ix (sv (pv 0)) s_int) a_nil))))))
   z_nil)
  (z_cons (z_if (PW.pt (s_and (s_tcmp op_lt os_lt (sv (pv 1)) (s_callB call_len cs_len T.n_len (by decide +kernel) (a_cons (s_ix ix_seq os_ix (sv (pv 0)) s_int) a_nil))) (s_and1 (s_tcmp op_ge os_ge (sv (pv 2)) (s_op op_pow os_pow s_int s_int)))))
   (z_one (z_ret (sv (pv 2))))
   z_nil)
  (z_cons (z_set sc__law_next.nd (s_op op_mod os_mod (s_callTy call_int1 cs_int1 T.n_int (by decide +kernel) (a_cons (s_op op_addV os_add (s_op op_addV os_add (s_op op_mod os_mod (s_callTy call_int1 cs_int1 T.n_int (by decide +kernel) (a_cons (sv (pv 2)) a_nil)) s_int) (s_op op_mulV os_mul (sv (pv 1)) s_int)) s_int) a_nil)) s_int))
  (z_cons (z_set sc__law_next.nd (s_op op_mod os_mod (s_callTy call_int1 cs_int1 T.n_int (by decide +kernel) (a_cons (s_op op_addV os_add (s_op op_addV os_add (s_op op_mulV os_mul (sv (pv 3)) (sv (pv 3))) (s_op op_mulV os_mul (sv (pv 1)) s_int)) s_int) a_nil)) s_int))
  (z_cons (z_set sc__law_next.nd (s_op op_mod os_mod (s_callTy call_int1 cs_int1 T.n_int (by decide +kernel) (a_cons (s_op op_addV os_add (s_op op_addV os_add (s_op op_mulV os_mul (sv (pv 4)) (sv (pv 4))) (sv (pv 3))) (s_op op_mulV os_mul (s_op op_mulV os_mul (sv (pv 1)) (sv (pv 1))) s_int)) a_nil)) s_int))
  (z_one (z_ret (s_op op_addV os_add (s_op op_mulV os_mul (s_op op_addV os_add (s_op op_mulV os_mul (sv (pv 5)) s_int) (sv (pv 4))) s_int) (sv (pv 3))))))))))))))
def m__law_draw : SM :=
  (sSeq (sIf (toB (m2 (intW ltI) (m2 ixW (mV 0) (mC (.int 2))) (mV 1)))
   (sSub (mV 0) (mC (.int 2)) (mFn 1 g__law_next (aCons (mV 0) aNil)))
   sNil)
  (sSeq (sSet 2 (m2 (intW modI) (mCall int1W (aCons (m2 ixW (mV 0) (mC (.int 2))) aNil)) (mV 1)))
  (sSeq (sSub (mV 0) (mC (.int 2)) (m2 (intW divI) (m2 ixW (mV 0) (mC (.int 2))) (mV 1)))
  (sRet (mV 2)))))
def g__law_draw : List W → Sto → R W := defM N__law_draw m__law_draw
theorem ok__law_draw (T : TX K mg) : Fnk P w K mg base 2 T.f__law_draw T.d__law_draw ["_law_pen_here", "_law_under"] (spM T.G 2 g__law_draw) :=
  defk (m := m__law_draw) rfl T.F__law_draw sc__law_draw (fun cdv A outer s H E hgd hr Wx tk =>
  (z_cons (z_if (s_tcmp op_lt os_lt (s_ix ix_seq os_ix (sv (pv 0)) s_int) (sv (pv 1)))
   (z_one (z_sub (s_call (ok__law_next T) hgd (hr.mono (by decide)) T.g__law_next T.k__law_next T.b__law_next tk (a_cons (sv (pv 0)) a_nil)) (sv (pv 0)) s_int))
   z_nil)
  (z_cons (z_set sc__law_draw.nd (s_op op_mod os_mod (s_callTy call_int1 cs_int1 T.n_int (by decide +kernel) (a_cons (s_ix ix_seq os_ix (sv (pv 0)) s_int) a_nil)) (sv (pv 1))))
  (z_cons (z_sub (s_op op_fdivW os_div (s_ix ix_seq os_ix (sv (pv 0)) s_int) (sv (pv 1))) (sv (pv 0)) s_int)
  (z_one (z_ret (sv (pv 2))))))))
def m__law_ready : SM :=
  (sSeq (sAsg (bTup 2 (bCons (bName 2) (bCons (bName 3) bNil))) (mTup (aCons (m2 ixW (mLst (aCons (mC (.int 3)) (aCons (mC (.int 30)) (aCons (m2 (intW powI) (mC (.int 10)) (mC (.int 6))) aNil)))) (mFn 2 g__law_draw (aCons (mV 0) (aCons (mC (.int 3)) aNil)))) (aCons (m2 (intW subI) (mFn 2 g__law_draw (aCons (mV 0) (aCons (mC (.int 41)) aNil))) (mC (.int 20))) aNil))))
  (sSeq (sSet 3 (m2 addW (mV 3) (m2 ixW (mLst (aCons (mC (.int 0)) (aCons (mC (.int 0)) (aCons (mC (.int 0)) (aCons (m2 (intW powI) (mC (.int 10)) (mC (.int 8))) (aCons (m2 (intW subI) (mC (.int 0)) (m2 (intW powI) (mC (.int 10)) (mC (.int 8)))) aNil)))))) (mFn 2 g__law_draw (aCons (mV 0) (aCons (mC (.int 5)) aNil))))))
  (sSeq (sSet 4 (mComp (iRange1 (aCons (mFn 2 g__law_draw (aCons (mV 0) (aCons (m2 addW (mV 1) (mC (.int 1))) aNil))) aNil)) (bName 5) bYes (m2 (intW subI) (m2 addW (mV 3) (mFn 2 g__law_draw (aCons (mV 0) (aCons (m2 mulW (mC (.int 2)) (mV 2)) aNil)))) (m2 (intW divI) (mV 2) (mC (.int 3)))) [5]))
  (sSeq (sSet 4 (mComp (iSeq (mV 4)) (bName 6) bYes (mIf (toB (m2 (eqW false) (mFn 2 g__law_draw (aCons (mV 0) (aCons (mC (.int 6)) aNil))) (mC (.int 0)))) (mC .non) (mV 6)) [6]))
  (sRet (mTup (aCons (mV 4) (aCons (mV 3) (aCons (m2 ixW (mLst (aCons (mC (.int 1)) (aCons (mC (.int 2)) (aCons (mC (.int 7)) (aCons (mC (.int 10)) (aCons (mC (.int 999)) aNil)))))) (mFn 2 g__law_draw (aCons (mV 0) (aCons (mC (.int 5)) aNil)))) aNil)))))))))
def g__law_ready : List W → Sto → R W := defM N__law_ready m__law_ready
theorem ok__law_ready (T : TX K mg) : Fnk P w K mg base 3 T.f__law_ready T.d__law_ready ["_law_pen_here", "_law_most"] (spM T.G 2 g__law_ready) :=
  defk (m := m__law_ready) rfl T.F__law_ready sc__law_ready (fun cdv A outer s H E hgd hr Wx tk =>
  (z_cons (z_asg (own := [2, 3]) (s_tup (a_cons (s_ix ix_seq os_ix (s_lst (a_cons s_int (a_cons s_int (a_cons (s_op op_pow os_pow s_int s_int) a_nil)))) (s_call (ok__law_draw T) hgd (hr.mono (by decide)) T.g__law_draw T.k__law_draw T.b__law_draw tk (a_cons (sv (pv 0)) (a_cons s_int a_nil)))) (a_cons (s_op op_sub os_sub (s_call (ok__law_draw T) hgd (hr.mono (by decide)) T.g__law_draw T.k__law_draw T.b__law_draw tk (a_cons (sv (pv 0)) (a_cons s_int a_nil))) s_int) a_nil))) (g_tup rfl (gs_cons (g_name sc__law_ready.nd) (gs_cons (g_name sc__law_ready.nd) gs_nil))))
  (z_cons (z_set sc__law_ready.nd (s_op op_addV os_add (sv (pv 3)) (s_ix ix_seq os_ix (s_lst (a_cons s_int (a_cons s_int (a_cons s_int (a_cons (s_op op_pow os_pow s_int s_int) (a_cons (s_op op_sub os_sub s_int (s_op op_pow os_pow s_int s_int)) a_nil)))))) (s_call (ok__law_draw T) hgd (hr.mono (by decide)) T.g__law_draw T.k__law_draw T.b__law_draw tk (a_cons (sv (pv 0)) (a_cons s_int a_nil))))))
  (z_cons (z_comp rfl sc__law_ready.nd (i_range1 T.n_range (a_cons (s_call (ok__law_draw T) hgd (hr.mono (by decide)) T.g__law_draw T.k__law_draw T.b__law_draw tk (a_cons (sv (pv 0)) (a_cons (s_op op_addV os_add (sv (pv 1)) s_int) a_nil))) a_nil)) (blkOk_by (own := [("_law_k", 5)]) (N := N__law_ready) (sc := defScope s__law_ready) (by decide +kernel)) (fun _ _ _ _ _ => (g_name sc__law_ready.nd)) (fun _ _ _ _ _ => t_nil) (fun _ _ _ _ _ => (s_op op_sub os_sub (s_op op_addV os_add (sv (pv 3)) (s_call (ok__law_draw T) hgd (hr.mono (by decide)) T.g__law_draw T.k__law_draw T.b__law_draw takes0 (a_cons (sv (pv 0)) (a_cons (s_op op_mulV os_mul s_int (sv (pv 2))) a_nil)))) (s_op op_fdivW os_div (sv (pv 2)) s_int))) (sw_true rfl rfl rfl (by decide +kernel)))
  (z_cons (z_comp rfl sc__law_ready.nd (i_seq (sv (pv 4)) rfl) (blkOk_by (own := [("_law_moment", 6)]) (N := N__law_ready) (sc := defScope s__law_ready) (by decide +kernel)) (fun _ _ _ _ _ => (g_name sc__law_ready.nd)) (fun _ _ _ _ _ => t_nil) (fun _ _ _ _ _ => (s_ifx (s_tcmp (op_eqV hr.units) os_eq (s_call (ok__law_draw T) hgd (hr.mono (by decide)) T.g__law_draw T.k__law_draw T.b__law_draw takes0 (a_cons (sv (pv 0)) (a_cons s_int a_nil))) s_int) s_non (sv (pv 6)))) (sw_true rfl rfl rfl (by decide +kernel)))
  (z_one (z_ret (s_tup (a_cons (sv (pv 4)) (a_cons (sv (pv 3)) (a_cons (s_ix ix_seq os_ix (s_lst (a_cons s_int (a_cons s_int (a_cons s_int (a_cons s_int (a_cons s_int a_nil)))))) (s_call (ok__law_draw T) hgd (hr.mono (by decide)) T.g__law_draw T.k__law_draw T.b__law_draw tk (a_cons (sv (pv 0)) (a_cons s_int a_nil)))) a_nil)))))))))))
def m__law_late : SM :=
  (sSeq (sSet 4 (mLstC aNil))
  (sSeq (sFor (iRange1 (aCons (mCall lenW (aCons (mV 0) aNil)) aNil)) (bName 5)
   (sIf (bOr (toB (m2 isNW (m2 ixW (mV 0) (mV 5)) (mC .non))) (toB (m2 (intW gtI) (m2 ixW (mV 0) (mV 5)) (m2 addW (m2 addW (mV 1) (m2 mulW (mV 5) (mV 2))) (mV 3)))))
    (sExpr (mMeth "list" appW (mV 4) (aCons (mV 5) aNil)))
    sNil))
  (sRet (mFz 4))))
def g__law_late : List W → Sto → R W := pureC (defM N__law_late m__law_late)
theorem ok__law_late (T : TX K mg) : Fnk P w K mg base 1 T.f__law_late T.d__law_late ["_law_ready_here", "_law_start", "_law_period", "_law_wait"] (spM T.G 4 g__law_late) :=
  Fnk.imp (defk (m := m__law_late) rfl T.F__law_late sc__law_late (fun cdv A outer s H E hgd hr Wx tk =>
  (z_cons (z_set sc__law_late.nd (s_lstC a_nil))
  (z_cons (z_for (own := [5]) (passes_of rfl) rfl (i_range1 T.n_range (a_cons (s_callB call_len cs_len T.n_len (by decide +kernel) (a_cons (sv (pv 0)) a_nil)) a_nil)) (g_name sc__law_late.nd)
   (z_one (z_if (PW.pt (s_or (s_tcmp op_isN os_isN (s_ix ix_seq os_ix (sv (pv 0)) (sv (pv 5))) s_non) (s_or1 (s_tcmp op_gt os_gt (s_ix ix_seq os_ix (sv (pv 0)) (sv (pv 5))) (s_op op_addV os_add (s_op op_addV os_add (sv (pv 1)) (s_op op_mulV os_mul (sv (pv 5)) (sv (pv 2)))) (sv (pv 3)))))))
    (z_one (z_expr (s_append (sv (pv 4)) (sv (pv 5)) rfl)))
    z_nil)))
  (z_one (z_ret (sfz (pv 4)))))))) fun _ _ _ _ h => spM_pure h
def m__law_caught : SM :=
  (sSeq (sSet 4 (mC .non))
  (sSeq (sSet 5 (mC .non))
  (sSeq (sTryF 6 4 cl_NoDelay (sSet 5 (mFn 4 g_least_delay (aCons (mV 0) (aCons (mV 1) (aCons (mV 2) (aCons (mV 3) aNil)))))))
  (sRet (mLstW (aCons (mV 4) (aCons (mV 5) aNil)))))))
def g__law_caught : List W → Sto → R W := defM N__law_caught m__law_caught
theorem ok__law_caught (T : TX K mg) : Fnk P w K mg base 4 T.f__law_caught T.d__law_caught ["_law_ready_here", "_law_start", "_law_period", "_law_most"] (spM T.G 4 g__law_caught) :=
  defk (m := m__law_caught) rfl T.F__law_caught sc__law_caught (fun cdv A outer s H E hgd hr Wx tk =>
  (z_cons (z_set sc__law_caught.nd s_non)
  (z_cons (z_set sc__law_caught.nd s_non)
  (z_cons (z_tryF rfl rfl sc__law_caught.nd tk T.g_NoDelay T.xf_NoDelay T.no_NoDelay rfl rfl T.m_NoDelay cl_NoDelay_one (by decide) (fun _ _ _ tk pa => (z_one (z_set sc__law_caught.nd (s_call (ok_least_delay T) hgd (hr.mono (by decide)) T.g_least_delay T.k_least_delay T.b_least_delay tk (a_cons (sv (pv 0)) (a_cons (sv (pv 1)) (a_cons (sv (pv 2)) (a_cons (sv (pv 3)) a_nil)))))))))
  (z_one (z_ret (s_lstW (a_cons (sv (pv 4)) (a_cons (sv (pv 5)) a_nil)))))))))
def m__law_waits : SM :=
  (sSeq (sSet 3 (mLstC (aCons (mC (.int 0)) aNil)))
  (sSeq (sFor (iRange1 (aCons (mCall lenW (aCons (mV 0) aNil)) aNil)) (bName 4)
   (sIf (toB (m2 notNW (m2 ixW (mV 0) (mV 4)) (mC .non)))
    (sExpr (mMeth "list" appW (mV 3) (aCons (mCall max2W (aCons (mC (.int 0)) (aCons (m2 (intW subI) (m2 (intW subI) (m2 ixW (mV 0) (mV 4)) (mV 1)) (m2 mulW (mV 4) (mV 2))) aNil))) aNil)))
    sNil))
  (sRet (mCall sortW (aCons (mV 3) aNil)))))
def g__law_waits : List W → Sto → R W := pureC (defM N__law_waits m__law_waits)
theorem ok__law_waits (T : TX K mg) : Fnk P w K mg base 1 T.f__law_waits T.d__law_waits ["_law_ready_here", "_law_start", "_law_period"] (spM T.G 3 g__law_waits) :=
  Fnk.imp (defk (m := m__law_waits) rfl T.F__law_waits sc__law_waits (fun cdv A outer s H E hgd hr Wx tk =>
  (z_cons (z_set sc__law_waits.nd (s_lstC (a_cons s_int a_nil)))
  (z_cons (z_for (own := [4]) (passes_of rfl) rfl (i_range1 T.n_range (a_cons (s_callB call_len cs_len T.n_len (by decide +kernel) (a_cons (sv (pv 0)) a_nil)) a_nil)) (g_name sc__law_waits.nd)
   (z_one (z_if (s_tcmp op_notN os_notN (s_ix ix_seq os_ix (sv (pv 0)) (sv (pv 4))) s_non)
    (z_one (z_expr (s_append (sv (pv 3)) (s_callB (call_max2 rfl) cs_max2 T.n_max (by decide +kernel) (a_cons s_int (a_cons (s_op op_sub os_sub (s_op op_sub os_sub (s_ix ix_seq os_ix (sv (pv 0)) (sv (pv 4))) (sv (pv 1))) (s_op op_mulV os_mul (sv (pv 4)) (sv (pv 2)))) a_nil))) rfl)))
    z_nil)))
  (z_one (z_ret (s_callB call_sortedV cs_sorted T.n_sorted (by decide +kernel) (a_cons (sv (pv 3)) a_nil)))))))) fun _ _ _ _ h => spM_pure h
def m__law_right : SM :=
  (sSeq (sPar 4 5 (aCons (mComp (iRange1 (aCons (mCall lenW (aCons (mV 0) aNil)) aNil)) (bName 11) (toB (m2 isNW (m2 ixW (mV 0) (mV 11)) (mC .non))) (mV 11) [11]) (aCons (mCall reprW (aCons (mV 0) aNil)) aNil)))
  (sSeq (sFor (iRange1 (aCons (mC (.int 2)) aNil)) (bName 6)
   (sSeq (sUnl2 7 8 (mFn 4 g__law_caught (aCons (mV 0) (aCons (mV 1) (aCons (mV 2) (aCons (mV 3) aNil))))))
   (sSeq (sIf (bOr (toB (m2 (eqW true) (mCall reprW (aCons (mV 0) aNil)) (mV 5))) (toB (m2 (eqW true) (m2 isNW (mV 7) (mC .non)) (m2 (intW leI) (mCall lenW (aCons (mV 4) aNil)) (mV 3)))))
    (sRet (mC (.bl false)))
    sNil)
   (sIf (toB (m2 notNW (mV 7) (mC .non)))
    (sSeq (sIf (toB (m2 (eqW true) (mCall reprW (aCons (mV 7) aNil)) (mCall reprW (aCons (mV 4) aNil))))
     (sRet (mC (.bl false)))
     sNil)
    (sExpr (mMeth "list" appW (mV 7) (aCons (mC .non) aNil))))
    (sSeq (sSet 9 (mFn 3 g__law_waits (aCons (mV 0) (aCons (mV 1) (aCons (mV 2) aNil)))))
    (sSeq (sSet 9 (mComp (iSeq (mV 9)) (bName 12) (toB (m2 (intW leI) (mCall lenW (aCons (mFn 4 g__law_late (aCons (mV 0) (aCons (mV 1) (aCons (mV 2) (aCons (mV 12) aNil))))) aNil)) (mV 3))) (mV 12) [12]))
    (sSeq (sIf (bOr (bNot (toB (mIsi "tuple" (mV 8)))) (bOr (toB (m2 (eqW true) (mCall lenW (aCons (mV 8) aNil)) (mC (.int 2)))) (toB (m2 (eqW true) (mCall reprW (aCons (m2 ixW (mV 8) (mC (.int 0))) aNil)) (mCall reprW (aCons (m2 ixW (mV 9) (mC (.int 0))) aNil))))))
     (sRet (mC (.bl false)))
     sNil)
    (sSeq (sIf (bAnd (toB (m2 (eqW false) (m2 ixW (mV 9) (mC (.int 0))) (mC (.int 0)))) (toB (m2 notNW (m2 ixW (mV 8) (mC (.int 1))) (mC .non))))
     (sRet (mC (.bl false)))
     sNil)
    (sSeq (sSet 10 (mComp (iRange1 (aCons (mC (.int 2)) aNil)) (bName 13) bYes (mFn 4 g__law_late (aCons (mV 0) (aCons (mV 1) (aCons (mV 2) (aCons (m2 (intW subI) (m2 ixW (mV 9) (mC (.int 0))) (mV 13)) aNil))))) [13]))
    (sSeq (sIf (bAnd (toB (m2 (intW gtI) (m2 ixW (mV 9) (mC (.int 0))) (mC (.int 0)))) (bOr (toB (m2 (inW true) (m2 ixW (mV 8) (mC (.int 1))) (m2 ixW (mV 10) (mC (.int 1))))) (toB (m2 (inW false) (m2 ixW (mV 8) (mC (.int 1))) (m2 ixW (mV 10) (mC (.int 0)))))))
     (sRet (mC (.bl false)))
     sNil)
    (sIf (toB (mIsi "bool" (m2 ixW (mV 8) (mC (.int 1)))))
     (sRet (mC (.bl false)))
     sNil)))))))))))
  (sRet (mC (.bl true)))))
def g__law_right : List W → Sto → R W := pureC (defM N__law_right m__law_right)
theorem ok__law_right (T : TX K mg) : Fnk P w K mg base 5 T.f__law_right T.d__law_right ["_law_ready_here", "_law_start", "_law_period", "_law_most"] (spM T.G 4 g__law_right) :=
  Fnk.imp (defk (m := m__law_right) rfl T.F__law_right sc__law_right (fun cdv A outer s H E hgd hr Wx tk =>
  (z_cons (z_par rfl sc__law_right.nd (a_cons (s_comp rfl sc__law_right.nd (i_range1 T.n_range (a_cons (s_callB call_len cs_len T.n_len (by decide +kernel) (a_cons (sv (pv 0)) a_nil)) a_nil)) (blkOk_by (own := [("_law_k", 11)]) (N := N__law_right) (sc := defScope s__law_right) (by decide +kernel)) (fun _ _ _ _ _ => (g_name sc__law_right.nd)) (fun _ _ _ _ _ => (t_one (s_tcmp op_isN os_isN (s_ix ix_seq os_ix (sv (pv 0)) (sv (pv 11))) s_non))) (fun _ _ _ _ _ => (sv (pv 11)))) (a_cons (s_callB (call_reprV hgd hr.units) cs_repr T.n_repr (by decide +kernel) (a_cons (sv (pv 0)) a_nil)) a_nil)))
  (z_cons (z_for (own := [6]) (passes_of rfl) rfl (i_range1 T.n_range (a_cons s_int a_nil)) (g_name sc__law_right.nd)
   (z_cons (z_unl2 rfl sc__law_right.nd (s_call (ok__law_caught T) hgd (hr.mono (by decide)) T.g__law_caught T.k__law_caught T.b__law_caught tk (a_cons (sv (pv 0)) (a_cons (sv (pv 1)) (a_cons (sv (pv 2)) (a_cons (sv (pv 3)) a_nil))))) rfl)
   (z_cons (z_if (PW.pt (s_or (s_tcmp (op_neV hr.units) os_ne (s_callB (call_reprV hgd hr.units) cs_repr T.n_repr (by decide +kernel) (a_cons (sv (pv 0)) a_nil)) (sv (pv 5))) (s_or1 (s_tcmp (op_neV hr.units) os_ne (s_cmp op_isN os_isN (sv (pv 7)) s_non) (s_cmp op_le os_le (s_callB call_len cs_len T.n_len (by decide +kernel) (a_cons (sv (pv 4)) a_nil)) (sv (pv 3)))))))
    (z_one (z_ret s_bl))
    z_nil)
   (z_one (z_if (s_tcmp op_notN os_notN (sv (pv 7)) s_non)
    (z_cons (z_if (s_tcmp (op_neV hr.units) os_ne (s_callB (call_reprV hgd hr.units) cs_repr T.n_repr (by decide +kernel) (a_cons (sv (pv 7)) a_nil)) (s_callB (call_reprV hgd hr.units) cs_repr T.n_repr (by decide +kernel) (a_cons (sv (pv 4)) a_nil)))
     (z_one (z_ret s_bl))
     z_nil)
    (z_one (z_expr (s_append (sv (pv 7)) s_non rfl))))
    (z_cons (z_set sc__law_right.nd (s_call (ok__law_waits T) hgd (hr.mono (by decide)) T.g__law_waits T.k__law_waits T.b__law_waits tk (a_cons (sv (pv 0)) (a_cons (sv (pv 1)) (a_cons (sv (pv 2)) a_nil)))))
    (z_cons (z_set sc__law_right.nd (s_comp rfl sc__law_right.nd (i_seq (sv (pv 9)) rfl) (blkOk_by (own := [("_law_wait", 12)]) (N := N__law_right) (sc := defScope s__law_right) (by decide +kernel)) (fun _ _ _ _ _ => (g_name sc__law_right.nd)) (fun _ _ _ _ _ => (t_one (s_tcmp op_le os_le (s_callB call_len cs_len T.n_len (by decide +kernel) (a_cons (s_call (ok__law_late T) hgd (hr.mono (by decide)) T.g__law_late T.k__law_late T.b__law_late takes0 (a_cons (sv (pv 0)) (a_cons (sv (pv 1)) (a_cons (sv (pv 2)) (a_cons (sv (pv 12)) a_nil))))) a_nil)) (sv (pv 3))))) (fun _ _ _ _ _ => (sv (pv 12)))))
    (z_cons (z_if (PW.pt (s_or (s_not (s_tval (s_isi (by decide) (sv (pv 8)) rfl T.n_isinstance T.n_tuple (by decide +kernel)))) (s_or (s_tcmp (op_neV hr.units) os_ne (s_callB call_len cs_len T.n_len (by decide +kernel) (a_cons (sv (pv 8)) a_nil)) s_int) (s_or1 (s_tcmp (op_neV hr.units) os_ne (s_callB (call_reprV hgd hr.units) cs_repr T.n_repr (by decide +kernel) (a_cons (s_ix ix_seq os_ix (sv (pv 8)) s_int) a_nil)) (s_callB (call_reprV hgd hr.units) cs_repr T.n_repr (by decide +kernel) (a_cons (s_ix ix_seq os_ix (sv (pv 9)) s_int) a_nil)))))))
     (z_one (z_ret s_bl))
     z_nil)
    (z_cons (z_if (PW.pt (s_and (s_tcmp (op_eqV hr.units) os_eq (s_ix ix_seq os_ix (sv (pv 9)) s_int) s_int) (s_and1 (s_tcmp op_notN os_notN (s_ix ix_seq os_ix (sv (pv 8)) s_int) s_non))))
     (z_one (z_ret s_bl))
     z_nil)
    (z_cons (z_comp rfl sc__law_right.nd (i_range1 T.n_range (a_cons s_int a_nil)) (blkOk_by (own := [("_law_less", 13)]) (N := N__law_right) (sc := defScope s__law_right) (by decide +kernel)) (fun _ _ _ _ _ => (g_name sc__law_right.nd)) (fun _ _ _ _ _ => t_nil) (fun _ _ _ _ _ => (s_call (ok__law_late T) hgd (hr.mono (by decide)) T.g__law_late T.k__law_late T.b__law_late takes0 (a_cons (sv (pv 0)) (a_cons (sv (pv 1)) (a_cons (sv (pv 2)) (a_cons (s_op op_sub os_sub (s_ix ix_seq os_ix (sv (pv 9)) s_int) (sv (pv 13))) a_nil)))))) (sw_true rfl rfl rfl (by decide +kernel)))
    (z_cons (z_if (PW.pt (s_and (s_tcmp op_gt os_gt (s_ix ix_seq os_ix (sv (pv 9)) s_int) s_int) (s_and1 (PW.pt (s_or (s_tcmp op_notIn_seq (os_in true) (s_ix ix_seq os_ix (sv (pv 8)) s_int) (s_ix ix_seq os_ix (sv (pv 10)) s_int)) (s_or1 (s_tcmp op_in_seq (os_in false) (s_ix ix_seq os_ix (sv (pv 8)) s_int) (s_ix ix_seq os_ix (sv (pv 10)) s_int))))))))
     (z_one (z_ret s_bl))
     z_nil)
    (z_one (z_if (s_tval (s_isi (by decide) (s_ix ix_seq os_ix (sv (pv 8)) s_int) rfl T.n_isinstance T.n_bool (by decide +kernel)))
     (z_one (z_ret s_bl))
     z_nil)))))))))))))
  (z_one (z_ret s_bl)))))) fun _ _ _ _ h => spM_pure h
def m_law : SM :=
  (sSeq (sSet 1 (mFn 1 g__law_pen (aCons (mV 0) aNil)))
  (sSeq (sFor (iRange1 (aCons (mC (.int 14)) aNil)) (bName 2)
   (sSeq (sAsg (bTup 3 (bCons (bName 3) (bCons (bName 4) (bCons (bName 5) bNil)))) (mFn 2 g__law_ready (aCons (mV 1) (aCons (mC (.int 12)) aNil))))
   (sSeq (sIf (toB (m2 (eqW false) (m2 (intW modI) (mV 2) (mC (.int 3))) (mC (.int 0))))
    (sSet 3 (m2 mulW (mSl (mV 3) oNone (oSome (mC (.int 3)))) (mC (.int 3))))
    sNil)
   (sFor (iSeq (mLst (aCons (mC (.int 0)) (aCons (mC (.int 1)) (aCons (mFn 2 g__law_draw (aCons (mV 1) (aCons (mC (.int 13)) aNil))) (aCons (mCall lenW (aCons (mV 3) aNil)) (aCons (mC (.int 99999)) aNil))))))) (bName 6)
    (sIf (bNot (toB (mFn 4 g__law_right (aCons (mV 3) (aCons (mV 4) (aCons (mV 5) (aCons (mV 6) aNil)))))))
     (sRet (mC (.bl false)))
     sNil)))))
  (sRet (vAnd (m2 (eqW false) (mFn 4 g_least_delay (aCons (mLst aNil) (aCons (mC (.int 0)) (aCons (mC (.int 1)) (aCons (mC (.int 0)) aNil))))) (mTup (aCons (mC (.int 0)) (aCons (mC .non) aNil)))) (m2 (eqW false) (mFn 4 g__law_caught (aCons (mLst (aCons (mC .non) aNil)) (aCons (mC (.int 3)) (aCons (mC (.int 1)) (aCons (mC (.int 0)) aNil))))) (mLst (aCons (mLst (aCons (mC (.int 0)) aNil)) (aCons (mC .non) aNil))))))))
def g_law : List W → Sto → R W := defM N_law m_law
theorem ok_law (T : TX K mg) : Fnk P w K mg base 6 T.f_law T.d_law ["_law_script"] (spM T.G 1 g_law) :=
  defk (m := m_law) rfl T.F_law sc_law (fun cdv A outer s H E hgd hr Wx tk =>
  (z_cons (z_set sc_law.nd (s_call (ok__law_pen T) hgd (hr.mono (by decide)) T.g__law_pen T.k__law_pen T.b__law_pen tk (a_cons (sv (pv 0)) a_nil)))
  (z_cons (z_for (own := [2]) (passes_of rfl) rfl (i_range1 T.n_range (a_cons s_int a_nil)) (g_name sc_law.nd)
   (z_cons (z_asg (own := [3, 4, 5]) (s_call (ok__law_ready T) hgd (hr.mono (by decide)) T.g__law_ready T.k__law_ready T.b__law_ready tk (a_cons (sv (pv 1)) (a_cons s_int a_nil))) (g_tup rfl (gs_cons (g_name sc_law.nd) (gs_cons (g_name sc_law.nd) (gs_cons (g_name sc_law.nd) gs_nil)))))
   (z_cons (z_if (s_tcmp (op_eqV hr.units) os_eq (s_op op_mod os_mod (sv (pv 2)) s_int) s_int)
    (z_one (z_set sc_law.nd (s_op op_mulV os_mul (s_sl (sv (pv 3)) o_none (o_some s_int) rfl) s_int)))
    z_nil)
   (z_one (z_for (own := [6]) (passes_of rfl) rfl (i_seq (s_lst (a_cons s_int (a_cons s_int (a_cons (s_call (ok__law_draw T) hgd (hr.mono (by decide)) T.g__law_draw T.k__law_draw T.b__law_draw tk (a_cons (sv (pv 1)) (a_cons s_int a_nil))) (a_cons (s_callB call_len cs_len T.n_len (by decide +kernel) (a_cons (sv (pv 3)) a_nil)) (a_cons s_int a_nil)))))) rfl) (g_name sc_law.nd)
    (z_one (z_if (s_not (s_tval (s_call (ok__law_right T) hgd (hr.mono (by decide)) T.g__law_right T.k__law_right T.b__law_right tk (a_cons (sv (pv 3)) (a_cons (sv (pv 4)) (a_cons (sv (pv 5)) (a_cons (sv (pv 6)) a_nil)))))))
     (z_one (z_ret s_bl))
     z_nil)))))))
  (z_one (z_ret (s_vand (s_cmp (op_eqV hr.units) os_eq (s_call (ok_least_delay T) hgd (hr.mono (by decide)) T.g_least_delay T.k_least_delay T.b_least_delay tk (a_cons (s_lst a_nil) (a_cons s_int (a_cons s_int (a_cons s_int a_nil))))) (s_tup (a_cons s_int (a_cons s_non a_nil)))) (s_vone (s_cmp (op_eqV hr.units) os_eq (s_call (ok__law_caught T) hgd (hr.mono (by decide)) T.g__law_caught T.k__law_caught T.b__law_caught tk (a_cons (s_lst (a_cons s_non a_nil)) (a_cons s_int (a_cons s_int (a_cons s_int a_nil))))) (s_lst (a_cons (s_lst (a_cons s_int a_nil)) (a_cons s_non a_nil)))))))))))
end
end K47
/-! the plain law of k47 -/
namespace K47
open PySem PySem.Spec PyProof.Rows L2 VL
abbrev Rdy := List (Option Int)
def tD : Option Int → D
  | none => .non
  | some t => .int t
def rD (r : Rdy) : D := .lst (r.map tD)
/-- the k-th time -/
def at' (r : Rdy) (k : Nat) : Option Int := (r[k]?).getD none
/-- what frame k has left -/
def lat (r : Rdy) (s p : Int) (k : Nat) : Int := s + k * p - ((at' r k).getD 0)
def nev (r : Rdy) : List Nat := (List.range r.length).filter fun k => (at' r k).isNone
def hav (r : Rdy) : List Nat := (List.range r.length).filter fun k => (at' r k).isSome
def late (r : Rdy) (s p w : Int) : List Nat := (List.range r.length).filter fun k => (at' r k).isNone || decide (lat r s p k + w < 0)
def prs (r : Rdy) (s p : Int) : List (Int × Int) := (hav r).map fun k => (lat r s p k, (k : Int))
def natsD (l : List Nat) : D := .lst (l.map fun (k : Nat) => .int (k : Int))
theorem at_lt {r : Rdy} {k : Nat} (h : k < r.length) : r[k]? = some (at' r k) := by
  unfold at'
  rw [List.getElem?_eq_getElem h]
  rfl
theorem atI_r {r : Rdy} {k : Nat} (h : k < r.length) : atI (r.map tD) (k : Int) = some (tD (at' r k)) := atI_nat (by rw [List.getElem?_map, at_lt h]; rfl)
theorem enum_r (r : Rdy) : enumD 0 (r.map tD) = (List.range r.length).map fun k => .tup [.int k, tD (at' r k)] := by
  apply List.ext_getElem?
  intro k
  rw [enumD_get, List.getElem?_map, List.getElem?_map]
  by_cases h : k < r.length
  · rw [at_lt h, List.getElem?_range h]; simp
  · rw [List.getElem?_eq_none (by omega), List.getElem?_eq_none (by simpa using h)]; rfl
/-! ### the mathematics -/
/-- the wanted answer -/
def ans (r : Rdy) (s p : Int) (most : Nat) : D := match (sortP (prs r s p)).drop (most - (nev r).length) with
  | [] => .tup [.int 0, .non]
  | x :: _ => if 0 ≤ x.1 then .tup [.int 0, .non] else .tup [.int (-x.1), .int x.2]
theorem late_len (r : Rdy) (s p w : Int) : (late r s p w).length = (nev r).length + ((sortP (prs r s p)).filter fun q => decide (q.1 + w < 0)).length := by
  have h1 : ((sortP (prs r s p)).filter fun q => decide (q.1 + w < 0)).length = ((prs r s p).filter fun q => decide (q.1 + w < 0)).length := ((sortP_perm _).filter _).length_eq
  rw [h1]
  unfold late nev prs hav
  induction List.range r.length with
  | nil => rfl
  | cons k l ih =>
    simp only [List.filter_cons]
    cases h : at' r k with
    | none =>
      try simp at ih
      simp
      omega
    | some t =>
      try simp at ih
      simp
      by_cases c : lat r s p k + w < 0
      · simp [c]; omega
      · simp [c]; omega
theorem cut_low {S : List (Int × Int)} {j : Nat} {w : Int} (h : S.drop j = []) : (S.filter fun q => decide (q.1 + w < 0)).length ≤ j := by
  have h1 := List.length_filter_le (fun q : Int × Int => decide (q.1 + w < 0)) S
  have h2 : S.length ≤ j := by simpa using h
  omega
theorem srt_fst {a b : Int × Int} (h : leP a b = true) : a.1 ≤ b.1 := by
  unfold leP at h
  simp only [decide_eq_true_eq] at h
  omega
theorem cut_hit {S : List (Int × Int)} {j : Nat} {w : Int} {x : Int × Int} {t : List (Int × Int)} (hs : S.Pairwise fun a b => leP a b = true) (h : S.drop j = x :: t) :
    (0 ≤ x.1 + w → (S.filter fun q => decide (q.1 + w < 0)).length ≤ j) ∧ (x.1 + w < 0 → j < (S.filter fun q => decide (q.1 + w < 0)).length) := by
  have e : S = S.take j ++ (x :: t) := by rw [← h]; simp
  have hj : (S.take j).length = j := by
    have : j < S.length := by
      by_cases z : j < S.length
      · exact z
      · rw [List.drop_eq_nil_of_le (by omega)] at h; cases h
    simp; omega
  rw [e, List.pairwise_append] at hs
  obtain ⟨_, h2, h3⟩ := hs
  rw [e, List.filter_append, List.length_append]
  refine ⟨fun c => ?_, fun c => ?_⟩
  · have z : (x :: t).filter (fun q => decide (q.1 + w < 0)) = [] := by
      rw [List.filter_eq_nil_iff]
      intro q hq
      have : x.1 ≤ q.1 := by
        rcases List.mem_cons.mp hq with rfl | hq
        · exact Int.le_refl _
        · exact srt_fst ((List.pairwise_cons.mp h2).1 q hq)
      simp only [decide_eq_true_eq]
      omega
    rw [z]
    have := List.length_filter_le (fun q : Int × Int => decide (q.1 + w < 0)) (S.take j)
    simp only [List.length_nil]
    omega
  · have z : (S.take j).filter (fun q => decide (q.1 + w < 0)) = S.take j := by
      rw [List.filter_eq_self]
      intro q hq
      have := srt_fst (h3 q hq x (by simp))
      simp only [decide_eq_true_eq]
      omega
    rw [z, hj, List.filter_cons]
    rw [if_pos (by simpa using c)]
    simp
/-- the candidates -/
def cands (r : Rdy) (s p : Int) : List Int := 0 :: (hav r).map fun k => max 0 (-(lat r s p k))
theorem srt_head {l : List Int} {P : Int → Bool} {d : Int} (hs : l.Pairwise (· ≤ ·)) (hm : d ∈ l) (hd : P d = true) (hl : ∀ c ∈ l, P c = true → d ≤ c) : ∃ t, l.filter P = d :: t := by
  induction l with
  | nil => cases hm
  | cons a l ih =>
    rw [List.pairwise_cons] at hs
    rw [List.filter_cons]
    by_cases ha : P a = true
    · rw [if_pos ha]
      have h1 := hl a (by simp) ha
      have h2 : a ≤ d := by
        rcases List.mem_cons.mp hm with rfl | hm
        · exact Int.le_refl _
        · exact hs.1 d hm
      have e : a = d := by omega
      subst e
      exact ⟨_, rfl⟩
    · rw [if_neg ha]
      have hm' : d ∈ l := by
        rcases List.mem_cons.mp hm with rfl | hm
        · exact absurd hd ha
        · exact hm
      exact ih hs.2 hm' fun c hc => hl c (by simp [hc])
theorem cand_pos {r : Rdy} {s p c : Int} (h : c ∈ cands r s p) : 0 ≤ c := by
  unfold cands at h
  rcases List.mem_cons.mp h with rfl | h
  · exact Int.le_refl _
  · obtain ⟨k, _, rfl⟩ := List.mem_map.mp h
    omega
theorem mem_prs {r : Rdy} {s p : Int} {x : Int × Int} (h : x ∈ prs r s p) : ∃ k : Nat, k < r.length ∧ (at' r k).isSome = true ∧ x = (lat r s p k, (k : Int)) := by
  unfold prs hav at h
  obtain ⟨k, hk, rfl⟩ := List.mem_map.mp h
  rw [List.mem_filter, List.mem_range] at hk
  exact ⟨k, hk.1, hk.2, rfl⟩
/-- the answer is the law's -/
theorem ans_right {r : Rdy} {s p : Int} {most : Nat} (h : (nev r).length ≤ most) : ∃ (d : Int) (f : D) (t : List Int), ans r s p most = .tup [.int d, f] ∧ (sortI (cands r s p)).filter (fun w => decide ((late r s p w).length ≤ most)) = d :: t ∧
    ((d = 0 ∧ f = .non) ∨ (0 < d ∧ ∃ k : Nat, f = .int k ∧ k ∈ late r s p (d - 1) ∧ k ∉ late r s p d)) := by
  have hsorted := sortP_sorted (prs r s p)
  have mem : ∀ c, c ∈ sortI (cands r s p) ↔ c ∈ cands r s p := fun c => (sortI_perm _).mem_iff
  have m0 : (0 : Int) ∈ sortI (cands r s p) := (mem 0).mpr (by unfold cands; simp)
  -- nought is enough
  have zero : (late r s p 0).length ≤ most → ∃ t, (sortI (cands r s p)).filter (fun w => decide ((late r s p w).length ≤ most)) = 0 :: t := fun hz =>
    srt_head (sortI_sorted _) m0 (decide_eq_true hz) fun c hc _ => cand_pos ((mem c).mp hc)
  unfold ans
  cases hd : (sortP (prs r s p)).drop (most - (nev r).length) with
  | nil =>
    obtain ⟨t, ht⟩ := zero (by rw [late_len]; have := cut_low (w := 0) hd; omega)
    exact ⟨0, .non, t, rfl, ht, .inl ⟨rfl, rfl⟩⟩
  | cons x t0 =>
    by_cases c : 0 ≤ x.1
    · obtain ⟨t, ht⟩ := zero (by rw [late_len]; have := (cut_hit (w := 0) hsorted hd).1 (by omega); omega)
      exact ⟨0, .non, t, by simp [c], ht, .inl ⟨rfl, rfl⟩⟩
    · have hx : x ∈ prs r s p := (sortP_perm _).mem_iff.mp (List.mem_of_mem_drop (by rw [hd]; simp : x ∈ (sortP (prs r s p)).drop (most - (nev r).length)))
      obtain ⟨k, hk, hsome, rfl⟩ := mem_prs hx
      have hc : -(lat r s p k) ∈ cands r s p := by
        unfold cands hav
        refine List.mem_cons_of_mem _ (List.mem_map.mpr ⟨k, by rw [List.mem_filter, List.mem_range]; exact ⟨hk, hsome⟩, ?_⟩)
        simp only at c
        omega
      have hnone : (at' r k).isNone = false := by cases h : at' r k <;> simp_all
      obtain ⟨t, ht⟩ := srt_head (P := fun w => decide ((late r s p w).length ≤ most)) (sortI_sorted (cands r s p)) ((mem _).mpr hc) (decide_eq_true (by rw [late_len]; have := (cut_hit (w := -(lat r s p k)) hsorted hd).1 (by simp only; omega); omega)) fun q hq hP => by
        have hP := of_decide_eq_true hP
        rw [late_len] at hP
        by_cases z : -(lat r s p k) ≤ q
        · exact z
        · have := (cut_hit (w := q) hsorted hd).2 (by simp only; omega)
          omega
      refine ⟨-(lat r s p k), .int k, t, by simp only at c; simp [c], ht, .inr ⟨by simp only at c; omega, k, rfl, ?_, ?_⟩⟩
      · unfold late
        rw [List.mem_filter, List.mem_range]
        refine ⟨hk, ?_⟩
        rw [hnone, Bool.false_or]
        exact decide_eq_true (by omega)
      · unfold late
        rw [List.mem_filter, List.mem_range]
        rintro ⟨_, z⟩
        rw [hnone, Bool.false_or] at z
        have := of_decide_eq_true z
        omega
end K47
/-! what the defs of k47 compute -/
namespace K47
open PySem PySem.Spec PyProof.Rows L2 VL
theorem isint_i (i : Int) (M : Sto) : g_is_integer [.d (.int i)] M = .ok (.d (.bl true)) M := by
  refine pure_ok (ds := [.int i]) (M' := []) rfl ?_
  simp [e_defM, m_is_integer, isiT]
theorem isint_n (M : Sto) : g_is_integer [.d .non] M = .ok (.d (.bl false)) M := by
  refine pure_ok (ds := [.non]) (M' := []) rfl ?_
  simp [e_defM, m_is_integer, isiT]
structure Ok (r : Rdy) (s p : Int) : Prop where
  len : r.length ≤ 20
  tb : ∀ t, some t ∈ r → t.natAbs < 2 ^ 40
  sb : s.natAbs < 2 ^ 40
  p1 : 1 ≤ p
  p2 : p ≤ 999
theorem times_ok {r : Rdy} {s p : Int} (h : Ok r s p) (M : Sto) : g_check_times [.d (rD r), .d (.int s), .d (.int p)] M = .ok (.d .non) M := by
  refine pure_ok (ds := [rD r, .int s, .int p]) (M' := []) rfl ?_
  have hl := h.len
  have c1 : kCmp (bName 3) bYes (vOr (m2 isNW (mV 3) (mC .non)) (mFn 1 g_is_integer (aCons (mV 3) aNil))) [some (.d (rD r)), some (.d (.int s)), some (.d (.int p)), none] [3] (r.map tD) [] = .ok (.d (.lst (r.map fun _ => .bl true))) [] := by
    refine e_kCmp (ys := r.map fun _ => .bl true) ?_ (by simp [lim]; omega)
    have q := cmpL_pure (b := bName 3) (t := bYes) (e := vOr (m2 isNW (mV 3) (mC .non)) (mFn 1 g_is_integer (aCons (mV 3) aNil))) (ρ := wipeE [some (.d (rD r)), some (.d (.int s)), some (.d (.int p)), none] [3]) (M := []) (f := tD) (y := fun _ => .bl true) (p := fun _ => true) (xs := r) (fun x _ => by
      refine ⟨_, rfl, rfl, fun _ => ?_⟩
      cases x with
      | none => simp [tD, wipeE]
      | some t => simp [tD, wipeE, isint_i])
    rw [q, List.filter_eq_self.mpr (by simp)]
  have hp1 := h.p1
  have hp2 := h.p2
  have c2 : allW (fun bs => bs.all id) [.d (.lst (r.map fun _ => .bl true))] [] = .ok (.d (.bl true)) [] := by
    unfold allW
    simp
  have e1 : rD r = .lst (r.map tD) := rfl
  rw [e1] at c1
  simp only [e1, List.map_cons, List.map_nil]
  simp [e_defM, m_check_times, isiT, c1, c2, isint_i, hp1, hp2]
theorem delay_ok {m : Nat} (h : m ≤ 99999) (M : Sto) : g_check_delay [.d (.int m)] M = .ok (.d .non) M := by
  refine pure_ok (ds := [.int m]) (M' := []) rfl ?_
  have h0 : (m : Int) ≤ 99999 := by omega
  simp [e_defM, m_check_delay, isint_i, h0]
/-! least_delay -/
theorem bTup2 (a b : D) (ρ : VL.Env) : bTup 2 (bCons (bName 7) (bCons (bName 8) bNil)) (.tup [a, b]) ρ = some ((ρ.set 7 (some (.d a))).set 8 (some (.d b))) := rfl
theorem never_cmp (r : Rdy) (a0 a1 a2 a3 a4 a5 a6 a7 a8 : Option W) (M : Sto) : cmpL (bTup 2 (bCons (bName 7) (bCons (bName 8) bNil))) (toB (m2 isNW (mV 8) (mC .non))) (mV 7) (wipeE [a0, a1, a2, a3, a4, a5, a6, a7, a8] [7, 8]) (enumD 0 (r.map tD)) M = .ok ((nev r).map fun (k : Nat) => .int k) M := by
  rw [enum_r]
  refine cmpL_pure fun k _ => ⟨_, rfl, ?_, fun _ => ?_⟩
  · cases h : at' r k with
    | none => simp [h, tD, wipeE]
    | some t => simp [h, tD, wipeE]
  · simp [wipeE]
theorem early_cmp {r : Rdy} {s p : Int} (h : Ok r s p) (a0 a3 a4 a5 a6 a7 a8 : Option W) (M : Sto) :
    cmpL (bTup 2 (bCons (bName 7) (bCons (bName 8) bNil))) (toB (m2 notNW (mV 8) (mC .non))) (mTup (aCons (m2 (intW subI) (m2 addW (mV 1) (m2 mulW (mV 7) (mV 2))) (mV 8)) (aCons (mV 7) aNil))) (wipeE [a0, some (.d (.int s)), some (.d (.int p)), a3, a4, a5, a6, a7, a8] [7, 8]) (enumD 0 (r.map tD)) M = .ok ((prs r s p).map VL.pairD) M := by
  rw [enum_r]
  have q := cmpL_pure (b := bTup 2 (bCons (bName 7) (bCons (bName 8) bNil))) (t := toB (m2 notNW (mV 8) (mC .non))) (e := mTup (aCons (m2 (intW subI) (m2 addW (mV 1) (m2 mulW (mV 7) (mV 2))) (mV 8)) (aCons (mV 7) aNil)))
    (ρ := wipeE [a0, some (.d (.int s)), some (.d (.int p)), a3, a4, a5, a6, a7, a8] [7, 8]) (M := M) (f := fun k : Nat => .tup [.int k, tD (at' r k)]) (y := fun k => VL.pairD (lat r s p k, (k : Int))) (p := fun k => (at' r k).isSome) (xs := List.range r.length) (fun k hk => by
      rw [List.mem_range] at hk
      have hl := h.len
      have mk : mulOk (k : Int) p = true := mulOk_of 20 20 (by omega) (by have := h.p1; have := h.p2; omega) (by decide)
      refine ⟨_, rfl, ?_, fun hs => ?_⟩
      · cases e : at' r k with
        | none => simp [e, tD, wipeE]
        | some t => simp [e, tD, wipeE]
      · cases e : at' r k with
        | none => rw [e] at hs; cases hs
        | some t => simp [e, tD, wipeE, mk, VL.pairD, lat])
  rw [q]
  simp [prs, hav, Function.comp_def]
theorem nev_le (r : Rdy) : (nev r).length ≤ r.length := by
  have := List.length_filter_le (fun k => (at' r k).isNone) (List.range r.length)
  simpa [nev] using this
theorem prs_le (r : Rdy) (s p : Int) : (prs r s p).length ≤ r.length := by
  have := List.length_filter_le (fun k => (at' r k).isSome) (List.range r.length)
  simpa [prs, hav] using this
theorem cut_from {α : Type} (xs : List α) (j : Nat) : VL.cutD xs (some (j : Int)) none = xs.drop j := by
  unfold VL.cutD
  rw [HT.sIx_nat, HT.sIx_none]
  by_cases h : j ≤ xs.length
  · rw [Nat.min_eq_left h, List.take_of_length_le (by simp)]
  · rw [Nat.min_eq_right (by omega), List.drop_eq_nil_of_le (by omega : xs.length ≤ j)]
    simp
theorem okN_pairs (ps : List (Int × Int)) : okN 60 (.lst (ps.map VL.pairD)) = true := by
  simp [okN, VL.pairD]
theorem eqDs_pairs (ps : List (Int × Int)) : eqDs (ps.map VL.pairD) [] = ps.isEmpty := by cases ps <;> rfl
theorem least_ok {r : Rdy} {s p : Int} (h : Ok r s p) {most : Nat} (hm : most ≤ 99999) (hn : (nev r).length ≤ most) (M : Sto) : g_least_delay [.d (rD r), .d (.int s), .d (.int p), .d (.int most)] M = .ok (.d (ans r s p most)) M := by
  refine pure_ok (ds := [rD r, .int s, .int p, .int most]) (M' := [.lst ((nev r).map fun (k : Nat) => .int k)]) rfl ?_
  have e1 : rD r = .lst (r.map tD) := rfl
  have hl := h.len
  have t1 := times_ok h []
  have t2 := delay_ok hm []
  rw [e1] at t1
  have n1 := nev_le r
  have n2 := prs_le r s p
  have c1 := e_kCmpC (never_cmp r (some (.d (.lst (r.map tD)))) (some (.d (.int s))) (some (.d (.int p))) (some (.d (.int most))) none none none none none []) (by simp [lim]; omega)
  have c2 := fun M => e_kCmp (early_cmp h (some (.d (.lst (r.map tD)))) (some (.d (.int most))) (some (.cell 0)) none none none none M) (by simp [lim]; omega)
  have ln : lenW [.cell 0] [.lst ((nev r).map fun (k : Nat) => .int k)] = .ok (.d (.int (nev r).length)) [.lst ((nev r).map fun (k : Nat) => .int k)] := by
    have := len_cell (M := [.lst ((nev r).map fun (k : Nat) => .int k)]) (l := 0) rfl
    simpa using this
  have hlt : ¬ ((most : Int) < ((nev r).length : Int)) := by omega
  have hsub : (most : Int) - ((nev r).length : Int) = ((most - (nev r).length : Nat) : Int) := by omega
  have srt := sort_pairs (M := [.lst ((nev r).map fun (k : Nat) => .int k)]) (prs r s p)
  simp only [e1, List.map_cons, List.map_nil]
  unfold ans
  cases hd : (sortP (prs r s p)).drop (most - (nev r).length) with
  | nil =>
    have hc : VL.cutD ((sortP (prs r s p)).map VL.pairD) (some ((most - (nev r).length : Nat) : Int)) none = [] := by rw [cut_from, ← List.map_drop, hd]; rfl
    have hq : eqW false (.d (.lst [])) (.d (.lst [])) [.lst ((nev r).map fun (k : Nat) => .int k)] = .ok (.d (.bl true)) [.lst ((nev r).map fun (k : Nat) => .int k)] := by
      rw [eq_dd (by decide) (by decide) (by simp)]; simp [eqDs, eqD]
    simp [e_defM, m_least_delay, t1, t2, List.replicate, c1, ln, hlt, c2, srt, hsub, hc, hq]
  | cons x t =>
    have hc : VL.cutD ((sortP (prs r s p)).map VL.pairD) (some ((most - (nev r).length : Nat) : Int)) none = VL.pairD x :: t.map VL.pairD := by rw [cut_from, ← List.map_drop, hd]; rfl
    have hq : eqW false (.d (.lst (VL.pairD x :: t.map VL.pairD))) (.d (.lst [])) [.lst ((nev r).map fun (k : Nat) => .int k)] = .ok (.d (.bl false)) [.lst ((nev r).map fun (k : Nat) => .int k)] := by
      refine (eq_dd (okN_pairs (x :: t)) (b := .lst []) (by decide) (by simp)).trans ?_
      simp [eqDs, eqD]
    have i1 : ixW (.d (.lst (VL.pairD x :: t.map VL.pairD))) (.d (.int 0)) [.lst ((nev r).map fun (k : Nat) => .int k)] = .ok (.d (VL.pairD x)) [.lst ((nev r).map fun (k : Nat) => .int k)] := ix_lst (atI_nat (j := 0) rfl)
    have i2 : ixW (.d (VL.pairD x)) (.d (.int 0)) [.lst ((nev r).map fun (k : Nat) => .int k)] = .ok (.d (.int x.1)) [.lst ((nev r).map fun (k : Nat) => .int k)] := ix_tup (atI_nat (j := 0) rfl)
    have i3 : ixW (.d (VL.pairD x)) (.d (.int 1)) [.lst ((nev r).map fun (k : Nat) => .int k)] = .ok (.d (.int x.2)) [.lst ((nev r).map fun (k : Nat) => .int k)] := ix_tup (atI_nat (j := 1) rfl)
    by_cases c : 0 ≤ x.1
    · simp [e_defM, m_least_delay, t1, t2, List.replicate, c1, ln, hlt, c2, srt, hsub, hc, hq, i1, i2, i3, c]
    · simp [e_defM, m_least_delay, t1, t2, List.replicate, c1, ln, hlt, c2, srt, hsub, hc, hq, i1, i2, i3, c]
theorem least_no {r : Rdy} {s p : Int} (h : Ok r s p) {most : Nat} (hm : most ≤ 99999) (hn : most < (nev r).length) (M : Sto) : g_least_delay [.d (rD r), .d (.int s), .d (.int p), .d (.int most)] M = .ex 2 [.cell M.length] (M ++ [.lst ((nev r).map fun (k : Nat) => .int k)]) := by
  refine pure_exc (ds := [rD r, .int s, .int p, .int most]) (M' := [.lst ((nev r).map fun (k : Nat) => .int k)]) (l := 0) rfl ?_ rfl
  have e1 : rD r = .lst (r.map tD) := rfl
  have hl := h.len
  have t1 := times_ok h []
  have t2 := delay_ok hm []
  rw [e1] at t1
  have n1 := nev_le r
  have c1 := e_kCmpC (never_cmp r (some (.d (.lst (r.map tD)))) (some (.d (.int s))) (some (.d (.int p))) (some (.d (.int most))) none none none none none []) (by simp [lim]; omega)
  have ln : lenW [.cell 0] [.lst ((nev r).map fun (k : Nat) => .int k)] = .ok (.d (.int (nev r).length)) [.lst ((nev r).map fun (k : Nat) => .int k)] := by
    have := len_cell (M := [.lst ((nev r).map fun (k : Nat) => .int k)]) (l := 0) rfl
    simpa using this
  have hlt : ((most : Int) < ((nev r).length : Int)) := by omega
  simp only [e1, List.map_cons, List.map_nil]
  simp [e_defM, m_least_delay, t1, t2, List.replicate, c1, ln, hn]
/-! _law_late -/
theorem late_ok {r : Rdy} {s p : Int} (h : Ok r s p) (w : Int) (M : Sto) : g__law_late [.d (rD r), .d (.int s), .d (.int p), .d (.int w)] M = .ok (.d (natsD (late r s p w))) M := by
  have e1 : rD r = .lst (r.map tD) := rfl
  have hl := h.len
  -- the loop
  have loop : ∃ ρ' M', forL (bName 5) (sIf (bOr (toB (m2 isNW (m2 ixW (mV 0) (mV 5)) (mC .non))) (toB (m2 (intW gtI) (m2 ixW (mV 0) (mV 5)) (m2 addW (m2 addW (mV 1) (m2 mulW (mV 5) (mV 2))) (mV 3))))) (sExpr (mMeth "list" appW (mV 4) (aCons (mV 5) aNil))) sNil)
      ((List.range r.length).map fun (k : Nat) => .int k) [some (.d (.lst (r.map tD))), some (.d (.int s)), some (.d (.int p)), some (.d (.int w)), some (.cell 0), none] [.lst []] = .ok (.nx ρ') M' ∧
      (∃ x, ρ' = [some (.d (.lst (r.map tD))), some (.d (.int s)), some (.d (.int p)), some (.d (.int w)), some (.cell 0), x]) ∧ M' = [.lst (((List.range r.length).filter fun k => (at' r k).isNone || decide (lat r s p k + w < 0)).map fun (k : Nat) => .int k)] := by
    refine forL_inv0 (I := fun pre ρ' M' => (∃ x, ρ' = [some (.d (.lst (r.map tD))), some (.d (.int s)), some (.d (.int p)), some (.d (.int w)), some (.cell 0), x]) ∧ M' = [.lst ((pre.filter fun k => (at' r k).isNone || decide (lat r s p k + w < 0)).map fun (k : Nat) => .int k)]) ⟨⟨_, rfl⟩, rfl⟩ ?_
    rintro pre k post hx ρ M1 ⟨⟨x, rfl⟩, rfl⟩
    have hk : k < r.length := by
      have : k ∈ List.range r.length := by rw [hx]; simp
      simpa using this
    have hpl : pre.length < r.length := by
      have := congrArg List.length hx
      simp at this
      omega
    have mk : mulOk (k : Int) p = true := mulOk_of 20 20 (by omega) (by have := h.p1; have := h.p2; omega) (by decide)
    refine ⟨_, rfl, ?_⟩
    have ix := fun M => ix_lst (M := M) (atI_r hk)
    have hfl : ((pre.filter fun k => (at' r k).isNone || decide (lat r s p k + w < 0)).map fun (k : Nat) => D.int k).length < lim := by
      have := List.length_filter_le (fun k => (at' r k).isNone || decide (lat r s p k + w < 0)) pre
      simp only [List.length_map]
      have : (20 : Nat) < lim := by unfold lim; omega
      omega
    have ty := ty_cell (M := [.lst ((pre.filter fun k => (at' r k).isNone || decide (lat r s p k + w < 0)).map fun (k : Nat) => .int k)]) (l := 0) rfl
    have ap := app_cell (M := [.lst ((pre.filter fun k => (at' r k).isNone || decide (lat r s p k + w < 0)).map fun (k : Nat) => .int k)]) (l := 0) (d := .int k) rfl hfl
    cases e : at' r k with
    | none =>
      refine ⟨_, _, ?_, ⟨⟨some (.d (.int k)), rfl⟩, rfl⟩⟩
      simp [ix, e, tD, e_kM ty, ap]
    | some t =>
      by_cases c : lat r s p k + w < 0
      · have c' : s + ↑k * p + w < t := by unfold lat at c; rw [e] at c; simp only [Option.getD_some] at c; omega
        refine ⟨_, _, ?_, ⟨⟨some (.d (.int k)), rfl⟩, rfl⟩⟩
        simp [ix, e, tD, e_kM ty, ap, mk, c', c]
      · have c' : ¬ s + ↑k * p + w < t := by unfold lat at c; rw [e] at c; simp only [Option.getD_some] at c; omega
        refine ⟨_, _, ?_, ⟨⟨some (.d (.int k)), rfl⟩, rfl⟩⟩
        simp [ix, e, tD, mk, c', c]
  obtain ⟨ρ', M', h1, ⟨x, rfl⟩, rfl⟩ := loop
  refine pure_ok (ds := [rD r, .int s, .int p, .int w]) (M' := [.frz (natsD (late r s p w))]) rfl ?_
  have hr := fun M => e_kR1s (M := M) (n := r.length) (by omega)
  have fz := e_frzC (M := [.lst ((late r s p w).map fun (k : Nat) => .int k)]) (l := 0) rfl
  unfold late at fz
  simp only [e1, List.map_cons, List.map_nil]
  simp [e_defM, m__law_late, List.replicate, hr, h1, fz, natsD, late]
/-! _law_waits -/
theorem waits_ok {r : Rdy} {s p : Int} (h : Ok r s p) (M : Sto) : g__law_waits [.d (rD r), .d (.int s), .d (.int p)] M = .ok (.d (.lst ((sortI (cands r s p)).map .int))) M := by
  have e1 : rD r = .lst (r.map tD) := rfl
  have hl := h.len
  -- what stands in the cell behind the frames pre
  have loop : ∃ ρ' M', forL (bName 4) (sIf (toB (m2 notNW (m2 ixW (mV 0) (mV 4)) (mC .non))) (sExpr (mMeth "list" appW (mV 3) (aCons (mCall max2W (aCons (mC (.int 0)) (aCons (m2 (intW subI) (m2 (intW subI) (m2 ixW (mV 0) (mV 4)) (mV 1)) (m2 mulW (mV 4) (mV 2))) aNil))) aNil))) sNil)
      ((List.range r.length).map fun (k : Nat) => .int k) [some (.d (.lst (r.map tD))), some (.d (.int s)), some (.d (.int p)), some (.cell 0), none] [.lst [.int 0]] = .ok (.nx ρ') M' ∧
      (∃ x, ρ' = [some (.d (.lst (r.map tD))), some (.d (.int s)), some (.d (.int p)), some (.cell 0), x]) ∧ M' = [.lst ((0 :: ((List.range r.length).filter fun k => (at' r k).isSome).map fun k => max 0 (-(lat r s p k))).map .int)] := by
    refine forL_inv0 (I := fun pre ρ' M' => (∃ x, ρ' = [some (.d (.lst (r.map tD))), some (.d (.int s)), some (.d (.int p)), some (.cell 0), x]) ∧ M' = [.lst ((0 :: (pre.filter fun k => (at' r k).isSome).map fun k => max 0 (-(lat r s p k))).map .int)]) ⟨⟨_, rfl⟩, rfl⟩ ?_
    rintro pre k post hx ρ M1 ⟨⟨x, rfl⟩, rfl⟩
    have hk : k < r.length := by
      have : k ∈ List.range r.length := by rw [hx]; simp
      simpa using this
    have hpl : pre.length < r.length := by
      have := congrArg List.length hx
      simp at this
      omega
    have mk : mulOk (k : Int) p = true := mulOk_of 20 20 (by omega) (by have := h.p1; have := h.p2; omega) (by decide)
    refine ⟨_, rfl, ?_⟩
    have ix := fun M => ix_lst (M := M) (atI_r hk)
    generalize hc : (0 :: (pre.filter fun k => (at' r k).isSome).map fun k => max 0 (-(lat r s p k))) = cs
    have hfl : (cs.map D.int).length < lim := by
      have := List.length_filter_le (fun k => (at' r k).isSome) pre
      rw [← hc]
      simp only [List.length_map, List.length_cons]
      unfold lim
      omega
    have ty := ty_cell (M := [.lst (cs.map .int)]) (l := 0) rfl
    cases e : at' r k with
    | none =>
      refine ⟨_, [.lst (cs.map .int)], ?_, ⟨⟨some (.d (.int k)), rfl⟩, ?_⟩⟩
      · simp [ix, e, tD]
      · simp [e, ← hc]
    | some t =>
      have hm : t - s - ↑k * p = -(lat r s p k) := by
        unfold lat
        rw [e]
        simp only [Option.getD_some]
        omega
      have ap := app_cell (M := [.lst (cs.map .int)]) (l := 0) (d := .int (max 0 (-(lat r s p k)))) rfl hfl
      refine ⟨_, [.lst ((cs ++ [max 0 (-(lat r s p k))]).map .int)], ?_, ⟨⟨some (.d (.int k)), rfl⟩, ?_⟩⟩
      · simp [ix, e, tD, e_kM ty, mk, hm, ap]
      · simp [e, ← hc]
  obtain ⟨ρ', M', h1, ⟨x, rfl⟩, rfl⟩ := loop
  refine pure_ok (ds := [rD r, .int s, .int p]) (M' := [.lst ((cands r s p).map .int)]) rfl ?_
  have hr := fun M => e_kR1s (M := M) (n := r.length) (by omega)
  have st := sort_intsC (M := [.lst ((cands r s p).map .int)]) (l := 0) rfl
  have h1' : _ = RS.ok _ [.lst ((cands r s p).map .int)] := h1
  simp only [e1, List.map_cons, List.map_nil]
  simp [e_defM, m__law_waits, List.replicate, hr, h1', st]
/-! _law_caught -/
theorem caught_ok {r : Rdy} {s p : Int} (h : Ok r s p) {most : Nat} (hm : most ≤ 99999) (hn : (nev r).length ≤ most) (M : Sto) : g__law_caught [.d (rD r), .d (.int s), .d (.int p), .d (.int most)] M = .ok (.cell M.length) (M ++ [.wl [.d .non, .d (ans r s p most)]]) := by
  have l1 := least_ok h hm hn M
  simp [g__law_caught, e_defM, m__law_caught, List.replicate, l1]
theorem caught_no {r : Rdy} {s p : Int} (h : Ok r s p) {most : Nat} (hm : most ≤ 99999) (hn : most < (nev r).length) (M : Sto) : g__law_caught [.d (rD r), .d (.int s), .d (.int p), .d (.int most)] M = .ok (.cell (M.length + 1)) (M ++ [.lst ((nev r).map fun (k : Nat) => .int k)] ++ [.wl [.cell M.length, .d .non]]) := by
  have l1 := least_no h hm hn M
  have c1 : cl_NoDelay 2 = some true := rfl
  simp [g__law_caught, e_defM, m__law_caught, List.replicate, l1, e_tryKex c1]
end K47
/-! _law_right, _law_ready, law -/
namespace K47
open PySem PySem.Spec PyProof.Rows L2 VL
theorem tD_ok (x : Option Int) (n : Nat) : okN n (tD x) = true := by cases x <;> cases n <;> rfl
theorem rD_ok (r : Rdy) : okN 60 (rD r) = true := by simp [okN, rD, tD_ok]
theorem rD_say {r : Rdy} (h : ∀ t, some t ∈ r → t.natAbs < 2 ^ 40) : sayD (rD r) = true := by
  unfold rD sayD
  induction r with
  | nil => rfl
  | cons a l ih =>
    simp only [List.map_cons, sayDs, Bool.and_eq_true]
    refine ⟨?_, ih fun t ht => h t (by simp [ht])⟩
    cases a with
    | none => rfl
    | some t =>
      have := log2_le (h t (by simp))
      simp only [tD, sayD]
      exact decide_eq_true (by omega)
theorem rD_len {r : Rdy} {s p : Int} (h : Ok r s p) : rlen (rD r) ≤ lim := by
  have h1 : rlens (r.map tD) ≤ (r.map tD).length * (43 + 2) := rlens_le fun d hd => by
    obtain ⟨x, hx, rfl⟩ := List.mem_map.mp hd
    cases x with
    | none => simp only [tD, rlen]; omega
    | some t =>
      have := log2_le (h.tb t hx)
      simp only [tD, rlen]
      omega
  have := h.len
  rw [List.length_map] at h1
  have : r.length * 45 ≤ 20 * 45 := Nat.mul_le_mul_right _ this
  simp only [rD, rlen, lim]
  omega
theorem small_say {l : List Nat} (h : ∀ k ∈ l, k < 2 ^ 20) : sayD (natsD l) = true := by
  unfold natsD sayD
  have := say_ints (l := l.map fun (k : Nat) => (k : Int)) (fun i hi => by
    obtain ⟨k, hk, rfl⟩ := List.mem_map.mp hi
    have := h k hk
    have : (2 : Nat) ^ 20 ≤ 2 ^ 1900 := Nat.pow_le_pow_right (by decide) (by decide)
    omega)
  rw [List.map_map] at this
  exact this
theorem small_len {l : List Nat} (h : ∀ k ∈ l, k < 2 ^ 20) (hl : l.length ≤ 20) : rlen (natsD l) ≤ lim := by
  have h1 : rlens (l.map fun (k : Nat) => D.int k) ≤ (l.map fun (k : Nat) => D.int k).length * (23 + 2) := rlens_le fun d hd => by
    obtain ⟨k, hk, rfl⟩ := List.mem_map.mp hd
    have := log2_le (n := (k : Int).natAbs) (k := 20) (by have := h k hk; omega)
    simp only [rlen]
    omega
  rw [List.length_map] at h1
  have : l.length * 25 ≤ 20 * 25 := Nat.mul_le_mul_right _ hl
  simp only [natsD, rlen, lim]
  omega
theorem nats_ok (l : List Nat) : okN 60 (natsD l) = true := by simp [okN, natsD]
theorem nev_mem {r : Rdy} {k : Nat} (h : k ∈ nev r) : k < r.length := by
  unfold nev at h
  simpa using (List.mem_filter.mp h).1
theorem at_mem {r : Rdy} {k : Nat} {t : Int} (hk : k < r.length) (h : at' r k = some t) : some t ∈ r := by
  have := at_lt hk
  rw [h] at this
  exact List.mem_of_getElem? this
theorem mul_le {k : Nat} {p : Int} (hk : k ≤ 20) (h1 : 1 ≤ p) (h2 : p ≤ 999) : 0 ≤ (k : Int) * p ∧ (k : Int) * p ≤ 19980 := by
  have a : (k : Int) * p ≤ 20 * 999 := Int.mul_le_mul (by omega) h2 (by omega) (by omega)
  have b : 0 ≤ (k : Int) * p := Int.mul_nonneg (by omega) (by omega)
  omega
theorem cand_small {r : Rdy} {s p c : Int} (h : Ok r s p) (hc : c ∈ cands r s p) : c.natAbs < 2 ^ 42 := by
  unfold cands at hc
  rcases List.mem_cons.mp hc with rfl | hc
  · decide
  · obtain ⟨k, hk, rfl⟩ := List.mem_map.mp hc
    unfold hav at hk
    rw [List.mem_filter, List.mem_range] at hk
    cases e : at' r k with
    | none => rw [e] at hk; exact absurd hk.2 (by simp)
    | some t =>
      have := h.tb t (at_mem hk.1 e)
      have := h.sb
      have := mul_le (k := k) (by have := h.len; omega) h.p1 h.p2
      unfold lat
      rw [e]
      simp only [Option.getD_some]
      omega
theorem in_nats (neg : Bool) (k : Nat) (L : List Nat) (M : Sto) : inW neg (.d (.int k)) (.d (natsD L)) M = .ok (.d (.bl (neg != decide (k ∈ L)))) M := by
  have h1 : (L.map fun (k : Nat) => D.int k).all flatD = true := by simp [flatD]
  have h2 : ((L.map fun (k : Nat) => D.int k).any fun b => eqD b (.int k)) = decide (k ∈ L) := by
    induction L with
    | nil => rfl
    | cons a l ih =>
      simp only [List.map_cons, List.any_cons, eqD]
      rw [ih (by simp [flatD])]
      by_cases z : a = k
      · subst z; simp
      · have z1 : ((a : Int) == (k : Int)) = false := by simp; omega
        have z2 : ¬ k = a := fun e => z e.symm
        simp [z1, z2]
  unfold inW itemsW natsD
  simp only [flatD, h1, Bool.true_and, if_true]
  rw [h2]
theorem kR1_2 (M : Sto) : kR1 [.d (.int 2)] M = .ok [.int 0, .int 1] M := e_kR1s (n := 2) (by decide)
theorem never2 (r : Rdy) (hl : r.length ≤ 20) (a1 a2 a3 a4 a5 a6 a7 a8 a9 a10 a11 a12 a13 : Option W) (M : Sto) : kCmp (bName 11) (toB (m2 isNW (m2 ixW (mV 0) (mV 11)) (mC .non))) (mV 11) [some (.d (.lst (r.map tD))), a1, a2, a3, a4, a5, a6, a7, a8, a9, a10, a11, a12, a13] [11] ((List.range r.length).map fun (k : Nat) => .int k) M = .ok (.d (natsD (nev r))) M := by
  refine e_kCmp (cmpL_pure (p := fun k => (at' r k).isNone) fun k hk => ⟨_, rfl, ?_, fun _ => ?_⟩) (by have := nev_le r; show (List.map _ (nev r)).length ≤ lim; simp [lim]; omega)
  · have ix := ix_lst (M := M) (atI_r (by simpa using hk : k < r.length))
    cases e : at' r k with
    | none => simp [wipeE, ix, e, tD]
    | some t => simp [wipeE, ix, e, tD]
  · simp [wipeE]
theorem fine_cmp {r : Rdy} {s p : Int} (h : Ok r s p) (most : Nat) (a4 a5 a6 a7 a8 a9 a10 a11 a12 a13 : Option W) (M : Sto) :
    kCmp (bName 12) (toB (m2 (intW leI) (mCall lenW (aCons (mFn 4 g__law_late (aCons (mV 0) (aCons (mV 1) (aCons (mV 2) (aCons (mV 12) aNil))))) aNil)) (mV 3))) (mV 12) [some (.d (rD r)), some (.d (.int s)), some (.d (.int p)), some (.d (.int most)), a4, a5, a6, a7, a8, a9, a10, a11, a12, a13] [12] ((sortI (cands r s p)).map .int) M
      = .ok (.d (.lst (((sortI (cands r s p)).filter fun w => decide ((late r s p w).length ≤ most)).map .int))) M := by
  refine e_kCmp (cmpL_pure (f := D.int) (y := D.int) (p := fun w => decide ((late r s p w).length ≤ most)) fun w _ => ⟨_, rfl, ?_, fun _ => ?_⟩) ?_
  · have l := late_ok h w M
    simp [wipeE, l, natsD]
  · simp [wipeE]
  · have h1 := List.length_filter_le (fun w => decide ((late r s p w).length ≤ most)) (sortI (cands r s p))
    have h2 : (sortI (cands r s p)).length = (cands r s p).length := (sortI_perm _).length_eq
    have h3 := List.length_filter_le (fun k => (at' r k).isSome) (List.range r.length)
    have h4 : (cands r s p).length = ((List.range r.length).filter fun k => (at' r k).isSome).length + 1 := by simp [cands, hav]
    have := h.len
    simp only [List.length_map, List.length_range, lim] at *
    omega
theorem two_cmp {r : Rdy} {s p : Int} (h : Ok r s p) (d : Int) (t : List Int) (a3 a4 a5 a6 a7 a8 a10 a11 a12 a13 : Option W) (M : Sto) :
    kCmp (bName 13) bYes (mFn 4 g__law_late (aCons (mV 0) (aCons (mV 1) (aCons (mV 2) (aCons (m2 (intW subI) (m2 ixW (mV 9) (mC (.int 0))) (mV 13)) aNil))))) [some (.d (rD r)), some (.d (.int s)), some (.d (.int p)), a3, a4, a5, a6, a7, a8, some (.d (.lst (D.int d :: t.map .int))), a10, a11, a12, a13] [13] [.int 0, .int 1] M
      = .ok (.d (.lst [natsD (late r s p d), natsD (late r s p (d - 1))])) M := by
  have q := cmpL_pure (b := bName 13) (t := bYes) (e := mFn 4 g__law_late (aCons (mV 0) (aCons (mV 1) (aCons (mV 2) (aCons (m2 (intW subI) (m2 ixW (mV 9) (mC (.int 0))) (mV 13)) aNil)))))
    (ρ := wipeE [some (.d (rD r)), some (.d (.int s)), some (.d (.int p)), a3, a4, a5, a6, a7, a8, some (.d (.lst (D.int d :: t.map .int))), a10, a11, a12, a13] [13]) (M := M) (xs := [(0 : Int), 1]) (f := D.int) (y := fun j => natsD (late r s p (d - j))) (p := fun _ => true) fun w _ => ⟨_, rfl, rfl, fun _ => by
    have l := late_ok h (d - w) M
    have ix : ixW (.d (.lst (D.int d :: t.map .int))) (.d (.int 0)) M = .ok (.d (.int d)) M := ix_lst (atI_nat (j := 0) rfl)
    simp [wipeE, l, ix]⟩
  have e : d - 0 = d := by omega
  refine e_kCmp (ys := [natsD (late r s p d), natsD (late r s p (d - 1))]) (q.trans ?_) (by simp [lim])
  simp
def bodyR : SM :=
   (sSeq (sUnl2 7 8 (mFn 4 g__law_caught (aCons (mV 0) (aCons (mV 1) (aCons (mV 2) (aCons (mV 3) aNil))))))
   (sSeq (sIf (bOr (toB (m2 (eqW true) (mCall reprW (aCons (mV 0) aNil)) (mV 5))) (toB (m2 (eqW true) (m2 isNW (mV 7) (mC .non)) (m2 (intW leI) (mCall lenW (aCons (mV 4) aNil)) (mV 3)))))
    (sRet (mC (.bl false)))
    sNil)
   (sIf (toB (m2 notNW (mV 7) (mC .non)))
    (sSeq (sIf (toB (m2 (eqW true) (mCall reprW (aCons (mV 7) aNil)) (mCall reprW (aCons (mV 4) aNil))))
     (sRet (mC (.bl false)))
     sNil)
    (sExpr (mMeth "list" appW (mV 7) (aCons (mC .non) aNil))))
    (sSeq (sSet 9 (mFn 3 g__law_waits (aCons (mV 0) (aCons (mV 1) (aCons (mV 2) aNil)))))
    (sSeq (sSet 9 (mComp (iSeq (mV 9)) (bName 12) (toB (m2 (intW leI) (mCall lenW (aCons (mFn 4 g__law_late (aCons (mV 0) (aCons (mV 1) (aCons (mV 2) (aCons (mV 12) aNil))))) aNil)) (mV 3))) (mV 12) [12]))
    (sSeq (sIf (bOr (bNot (toB (mIsi "tuple" (mV 8)))) (bOr (toB (m2 (eqW true) (mCall lenW (aCons (mV 8) aNil)) (mC (.int 2)))) (toB (m2 (eqW true) (mCall reprW (aCons (m2 ixW (mV 8) (mC (.int 0))) aNil)) (mCall reprW (aCons (m2 ixW (mV 9) (mC (.int 0))) aNil))))))
     (sRet (mC (.bl false)))
     sNil)
    (sSeq (sIf (bAnd (toB (m2 (eqW false) (m2 ixW (mV 9) (mC (.int 0))) (mC (.int 0)))) (toB (m2 notNW (m2 ixW (mV 8) (mC (.int 1))) (mC .non))))
     (sRet (mC (.bl false)))
     sNil)
    (sSeq (sSet 10 (mComp (iRange1 (aCons (mC (.int 2)) aNil)) (bName 13) bYes (mFn 4 g__law_late (aCons (mV 0) (aCons (mV 1) (aCons (mV 2) (aCons (m2 (intW subI) (m2 ixW (mV 9) (mC (.int 0))) (mV 13)) aNil))))) [13]))
    (sSeq (sIf (bAnd (toB (m2 (intW gtI) (m2 ixW (mV 9) (mC (.int 0))) (mC (.int 0)))) (bOr (toB (m2 (inW true) (m2 ixW (mV 8) (mC (.int 1))) (m2 ixW (mV 10) (mC (.int 1))))) (toB (m2 (inW false) (m2 ixW (mV 8) (mC (.int 1))) (m2 ixW (mV 10) (mC (.int 0)))))))
     (sRet (mC (.bl false)))
     sNil)
    (sIf (toB (mIsi "bool" (m2 ixW (mV 8) (mC (.int 1)))))
     (sRet (mC (.bl false)))
     sNil))))))))))
def InvR (r : Rdy) (s p : Int) (most : Nat) (ρ : VL.Env) (_ : Sto) : Prop := ∃ b6 b7 b8 b9 b10 b11 b12 b13, ρ = [some (.d (rD r)), some (.d (.int s)), some (.d (.int p)), some (.d (.int most)), some (.d (natsD (nev r))), some (.d (.str (reprD (rD r)))), b6, b7, b8, b9, b10, b11, b12, b13]
theorem body_no {r : Rdy} {s p : Int} (h : Ok r s p) {most : Nat} (hm : most ≤ 99999) (hn : most < (nev r).length) (a6 a7 a8 a9 a10 a11 a12 a13 : Option W) (M : Sto) :
    isNx (InvR r s p most) (bodyR [some (.d (rD r)), some (.d (.int s)), some (.d (.int p)), some (.d (.int most)), some (.d (natsD (nev r))), some (.d (.str (reprD (rD r)))), a6, a7, a8, a9, a10, a11, a12, a13] M) := by
  have c1 := caught_no h hm hn M
  generalize hx : M ++ [.lst ((nev r).map fun (k : Nat) => .int k)] ++ [.wl [.cell M.length, .d .non]] = M1 at c1
  have g1 : M1[M.length + 1]? = some (.wl [.cell M.length, .d .non]) := by rw [← hx]; simp
  have g2 : M1[M.length]? = some (.lst ((nev r).map fun (k : Nat) => .int k)) := by rw [← hx]; simp
  have r1 := repr_d (M := M1) (rD_ok r) (rD_say h.tb) (rD_len h)
  have hl := h.len
  have n1 := nev_le r
  have ks : ∀ k ∈ nev r, k < 2 ^ 20 := fun k hk => by have := nev_mem hk; omega
  have r2 := repr_d (M := M1) (nats_ok (nev r)) (small_say ks) (small_len ks (by omega))
  have r3 : reprW [.cell M.length] M1 = .ok (.d (.str (reprD (natsD (nev r))))) M1 := repr_c g2 (nats_ok (nev r)) (small_say ks) (small_len ks (by omega))
  have hlt : ¬ ((nev r).length : Int) ≤ (most : Int) := by omega
  have l1 : lenW [.d (natsD (nev r))] M1 = .ok (.d (.int (nev r).length)) M1 := by unfold natsD; rw [len_lst, List.length_map]
  have ty := ty_cell g2
  have ap := app_cell (d := .non) g2 (by simp [lim]; omega)
  simp [bodyR, c1, e_sUnl2, g1, r1, l1, hlt, hn, r2, r3, e_kM ty, ap]
  exact ⟨_, _, _, _, _, _, _, _, rfl⟩
theorem body_ok {r : Rdy} {s p : Int} (h : Ok r s p) {most : Nat} (hm : most ≤ 99999) (hn : (nev r).length ≤ most) (a6 a7 a8 a9 a10 a11 a12 a13 : Option W) (M : Sto) :
    isNx (InvR r s p most) (bodyR [some (.d (rD r)), some (.d (.int s)), some (.d (.int p)), some (.d (.int most)), some (.d (natsD (nev r))), some (.d (.str (reprD (rD r)))), a6, a7, a8, a9, a10, a11, a12, a13] M) := by
  have c1 := caught_ok h hm hn M
  generalize hx : M ++ [.wl [.d .non, .d (ans r s p most)]] = M1 at c1
  have g1 : M1[M.length]? = some (.wl [.d .non, .d (ans r s p most)]) := by rw [← hx]; simp
  have r1 := repr_d (M := M1) (rD_ok r) (rD_say h.tb) (rD_len h)
  have hl := h.len
  have hlt : ((nev r).length : Int) ≤ (most : Int) := by omega
  have l1 : lenW [.d (natsD (nev r))] M1 = .ok (.d (.int (nev r).length)) M1 := by unfold natsD; rw [len_lst, List.length_map]
  have w1 := waits_ok h M1
  obtain ⟨d, f, t, ha, hf, hcase⟩ := ans_right (s := s) (p := p) hn
  have hd : d ∈ cands r s p := (sortI_perm _).mem_iff.mp (List.mem_filter.mp (by rw [hf]; simp : d ∈ (sortI (cands r s p)).filter fun w => decide ((late r s p w).length ≤ most))).1
  have hdb := cand_small h hd
  have fc := fun a9 => fine_cmp h most (some (.d (natsD (nev r)))) (some (.d (.str (reprD (rD r))))) a6 (some (.d .non)) (some (.d (ans r s p most))) a9 a10 a11 a12 a13 M1
  rw [hf] at fc
  have tc := two_cmp h d t (some (.d (.int most))) (some (.d (natsD (nev r)))) (some (.d (.str (reprD (rD r))))) a6 (some (.d .non)) (some (.d (ans r s p most))) a10 a11 a12 a13 M1
  rw [ha] at fc tc g1
  have i1 : ixW (.d (.tup [.int d, f])) (.d (.int 0)) M1 = .ok (.d (.int d)) M1 := ix_tup (atI_nat (j := 0) rfl)
  have i2 : ixW (.d (.tup [.int d, f])) (.d (.int 1)) M1 = .ok (.d f) M1 := ix_tup (atI_nat (j := 1) rfl)
  have i3 : ixW (.d (.lst (D.int d :: t.map .int))) (.d (.int 0)) M1 = .ok (.d (.int d)) M1 := ix_lst (atI_nat (j := 0) rfl)
  have i4 : ixW (.d (.lst [natsD (late r s p d), natsD (late r s p (d - 1))])) (.d (.int 0)) M1 = .ok (.d (natsD (late r s p d))) M1 := ix_lst (atI_nat (j := 0) rfl)
  have i5 : ixW (.d (.lst [natsD (late r s p d), natsD (late r s p (d - 1))])) (.d (.int 1)) M1 = .ok (.d (natsD (late r s p (d - 1)))) M1 := ix_lst (atI_nat (j := 1) rfl)
  have rd : reprW [.d (.int d)] M1 = .ok (.d (.str (reprD (.int d)))) M1 := repr_d rfl (by have := log2_le hdb; exact decide_eq_true (by omega)) (by have := log2_le hdb; simp only [rlen, lim]; omega)
  have k2 := kR1_2 M1
  simp only [List.map_cons] at fc
  rcases hcase with ⟨rfl, rfl⟩ | ⟨hp, k, rfl, hin, hout⟩
  · simp [bodyR, c1, e_sUnl2, g1, r1, l1, hlt, hn, w1, fc, tc, i1, i2, i3, i4, i5, rd, k2, isiT]
    exact ⟨_, _, _, _, _, _, _, _, rfl⟩
  · have q1 := in_nats true k (late r s p (d - 1)) M1
    have q2 := in_nats false k (late r s p d) M1
    have hd0 : ¬ d = 0 := by omega
    have hd1 : (d == 0) = false := by simp; omega
    simp [bodyR, c1, e_sUnl2, g1, r1, l1, hlt, hn, w1, fc, tc, i1, i2, i3, i4, i5, rd, k2, isiT, q1, q2, hin, hout, hp, hd0, hd1]
    exact ⟨_, _, _, _, _, _, _, _, rfl⟩
end K47
namespace K47
open PySem PySem.Spec PyProof.Rows L2 VL
theorem right_ok {r : Rdy} {s p : Int} (h : Ok r s p) {most : Nat} (hm : most ≤ 99999) (M : Sto) : g__law_right [.d (rD r), .d (.int s), .d (.int p), .d (.int most)] M = .ok (.d (.bl true)) M := by
  have e1 : rD r = .lst (r.map tD) := rfl
  have hl := h.len
  have n1 := never2 r hl (some (.d (.int s))) (some (.d (.int p))) (some (.d (.int most))) none none none none none none none none none none []
  rw [← e1] at n1
  have r1 := repr_d (M := []) (rD_ok r) (rD_say h.tb) (rD_len h)
  have kr := e_kR1s (M := []) (n := r.length) (by omega)
  have ln : lenW [.d (rD r)] [] = .ok (.d (.int r.length)) [] := by rw [e1, len_lst, List.length_map]
  have k2 := kR1_2 []
  have lp := forL_run (b := bName 6) (body := bodyR) (f := D.int) (xs := [(0 : Int), 1]) (I := fun _ => InvR r s p most) (ρ := [some (.d (rD r)), some (.d (.int s)), some (.d (.int p)), some (.d (.int most)), some (.d (natsD (nev r))), some (.d (.str (reprD (rD r)))), none, none, none, none, none, none, none, none]) (M := []) ⟨_, _, _, _, _, _, _, _, rfl⟩ (by
    rintro pre x post hx ρ M ⟨b6, b7, b8, b9, b10, b11, b12, b13, rfl⟩
    refine ⟨_, rfl, ?_⟩
    by_cases c : (nev r).length ≤ most
    · exact body_ok h hm c (some (.d (.int x))) b7 b8 b9 b10 b11 b12 b13 M
    · exact body_no h hm (by omega) (some (.d (.int x))) b7 b8 b9 b10 b11 b12 b13 M)
  obtain ⟨ρ', M', h1, _⟩ := isNx_of lp
  simp only [List.map_cons, List.map_nil] at h1
  unfold bodyR at h1
  refine pure_ok (ds := [rD r, .int s, .int p, .int most]) (M' := M') rfl ?_
  simp only [List.map_cons, List.map_nil]
  simp [e_defM, m__law_right, List.replicate, ln, kr, n1, r1, k2, h1]
/-! the draws -/
theorem dr {K : Int} {l : Nat} {M : Sto} (h : PenAt K l M) (hK : K < 2 ^ 64) (u : Int) (hu : 0 < u) (hu2 : u < 2 ^ 64) :
    ∃ (d : Int) (o : O), 0 ≤ d ∧ d < u ∧ g__law_draw [.cell l, .d (.int u)] M = .ok (.d (.int d)) (M.set l o) ∧ PenAt (K + 1) l (M.set l o) :=
  draw_ok (N := N__law_draw) (N1 := N__law_next) rfl rfl h hK u hu hu2
theorem back {ys : List D} {B : Option Int → Prop} (h : ∀ y ∈ ys, ∃ x, y = tD x ∧ B x) : ∃ r : Rdy, ys = r.map tD ∧ ∀ x ∈ r, B x := by
  induction ys with
  | nil => exact ⟨[], rfl, by simp⟩
  | cons y ys ih =>
    obtain ⟨x, rfl, hx⟩ := h y (by simp)
    obtain ⟨r, rfl, hr⟩ := ih fun z hz => h z (by simp [hz])
    exact ⟨x :: r, rfl, fun z hz => (List.mem_cons.mp hz).elim (fun e => e ▸ hx) (hr z)⟩
theorem ready_ok {K : Int} {l : Nat} {M : Sto} (h : PenAt K l M) (hK : K < 2 ^ 32) : ∃ (r : Rdy) (s p : Int) (o : O), Ok r s p ∧ r.length ≤ 12 ∧ g__law_ready [.cell l, .d (.int 12)] M = .ok (.d (.tup [rD r, .int s, .int p])) (M.set l o) ∧ PenAt (K + 40) l (M.set l o) := by
  obtain ⟨d0, o0, a0, b0, e0, h0⟩ := dr h (by omega) 3 (by decide) (by decide)
  obtain ⟨d1, o1, a1, b1, e1, h1⟩ := dr h0 (by omega) 41 (by decide) (by decide)
  rw [List.set_set] at e1 h1
  obtain ⟨d2, o2, a2, b2, e2, h2⟩ := dr h1 (by omega) 5 (by decide) (by decide)
  rw [List.set_set] at e2 h2
  obtain ⟨d3, o3, a3, b3, e3, h3⟩ := dr h2 (by omega) 13 (by decide) (by decide)
  rw [List.set_set] at e3 h3
  -- the wide
  obtain ⟨x0, i0, m0⟩ := atI_lt (xs := [D.int 3, .int 30, .int 1000000]) a0 (by simpa using b0)
  obtain ⟨wide, rfl, w1, w2⟩ : ∃ w : Int, x0 = .int w ∧ 3 ≤ w ∧ w ≤ 1000000 := by
    simp at m0
    rcases m0 with rfl | rfl | rfl <;> exact ⟨_, rfl, by decide, by decide⟩
  obtain ⟨x2, i2, m2⟩ := atI_lt (xs := [D.int 0, .int 0, .int 0, .int 100000000, .int (-100000000)]) a2 (by simpa using b2)
  obtain ⟨off, rfl, f1, f2⟩ : ∃ w : Int, x2 = .int w ∧ -100000000 ≤ w ∧ w ≤ 100000000 := by
    simp at m2
    rcases m2 with rfl | rfl | rfl <;> exact ⟨_, rfl, by decide, by decide⟩
  have j0 := ix_lst (M := M.set l o0) i0
  have j2 := ix_lst (M := M.set l o2) i2
  obtain ⟨n, rfl⟩ := Int.eq_ofNat_of_zero_le a3
  have kr := e_kR1s (M := M.set l o3) (n := n) (by omega)
  -- the first list
  have c1 := cmpL_inv (b := bName 5) (t := bYes) (e := VL.m2 (intW subI) (VL.m2 addW (mV 3) (mFn 2 g__law_draw (aCons (mV 0) (aCons (VL.m2 mulW (mC (.int 2)) (mV 2)) aNil)))) (VL.m2 (intW divI) (mV 2) (mC (.int 3))))
    (ρ := wipeE [some (.cell l), some (.d (.int 12)), some (.d (.int wide)), some (.d (.int (d1 - 20 + off))), none, none, none] [5]) (f := fun (k : Nat) => D.int k) (P := fun y => ∃ t : Int, y = .int t ∧ t.natAbs < 2 ^ 40) (I := fun n M' => ∃ o, M' = M.set l o ∧ PenAt (K + 4 + n) l M') (xs := List.range n) (n := 0) (M := M.set l o3) ⟨o3, rfl, by simpa [Int.add_assoc] using h3⟩ (by
      rintro x hx j M' hj ⟨o, rfl, hp⟩
      simp only [List.length_range] at hj
      refine ⟨_, rfl, rfl, ?_⟩
      obtain ⟨d, o', q1, q2, q3, q4⟩ := dr hp (by omega) (2 * wide) (by omega) (by omega)
      rw [List.set_set] at q3 q4
      have mk : mulOk 2 wide = true := mulOk_of 8 40 (by decide) (by omega) (by decide)
      refine ⟨.int (d1 - 20 + off + d - wide / 3), M.set l o', ?_, ⟨_, rfl, by omega⟩, o', rfl, ?_⟩
      · simp [wipeE, mk, q3]
      · have e : K + 4 + (j + 1 : Nat) = K + 4 + j + 1 := by omega
        rw [e]; exact q4)
  obtain ⟨ys, M4, g1, g2, g3, o4, rfl, h4⟩ := c1
  simp only [List.length_range] at g2 h4
  have k1 := e_kCmp (ρ := [some (.cell l), some (.d (.int 12)), some (.d (.int wide)), some (.d (.int (d1 - 20 + off))), none, none, none]) (own := [5]) g1 (by simp only [lim]; omega)
  -- the second list
  have c2 := cmpL_inv (b := bName 6) (t := bYes) (e := mIf (toB (VL.m2 (eqW false) (mFn 2 g__law_draw (aCons (mV 0) (aCons (mC (.int 6)) aNil))) (mC (.int 0)))) (mC .non) (mV 6))
    (ρ := wipeE [some (.cell l), some (.d (.int 12)), some (.d (.int wide)), some (.d (.int (d1 - 20 + off))), some (.d (.lst ys)), none, none] [6]) (f := fun y : D => y) (P := fun y => ∃ x : Option Int, y = tD x ∧ ∀ t, x = some t → t.natAbs < 2 ^ 40) (I := fun k M' => ∃ o, M' = M.set l o ∧ PenAt (K + 4 + (0 + n : Nat) + k) l M') (xs := ys) (n := 0) (M := M.set l o4) ⟨o4, rfl, by simpa using h4⟩ (by
      rintro y hy j M' hj ⟨o, rfl, hp⟩
      refine ⟨_, rfl, rfl, ?_⟩
      obtain ⟨d, o', q1, q2, q3, q4⟩ := dr hp (by omega) 6 (by decide) (by decide)
      rw [List.set_set] at q3 q4
      obtain ⟨t, rfl, ht⟩ := g3 y hy
      have e : K + 4 + (0 + n : Nat) + (j + 1 : Nat) = K + 4 + (0 + n : Nat) + j + 1 := by omega
      by_cases c : d = 0
      · subst c
        refine ⟨.non, M.set l o', ?_, ⟨none, rfl, by simp⟩, o', rfl, by rw [e]; exact q4⟩
        simp [wipeE, q3]
      · refine ⟨.int t, M.set l o', ?_, ⟨some t, rfl, fun t' h => by cases h; exact ht⟩, o', rfl, by rw [e]; exact q4⟩
        have c' : (d == 0) = false := by simp [c]
        simp [wipeE, q3, c', c])
  obtain ⟨zs, M5, g5, g6, g7, o5, rfl, h5⟩ := c2
  have mi : ys.map (fun y => y) = ys := List.map_id' ys
  rw [mi] at g5
  have k2 := e_kCmp (ρ := [some (.cell l), some (.d (.int 12)), some (.d (.int wide)), some (.d (.int (d1 - 20 + off))), some (.d (.lst ys)), none, none]) (own := [6]) g5 (by simp only [lim]; omega)
  obtain ⟨r, rfl, hr⟩ := back g7
  obtain ⟨d6, o6, a6, b6, e6, h6⟩ := dr h5 (by omega) 5 (by decide) (by decide)
  rw [List.set_set] at e6 h6
  obtain ⟨x6, i6, m6⟩ := atI_lt (xs := [D.int 1, .int 2, .int 7, .int 10, .int 999]) a6 (by simpa using b6)
  obtain ⟨p, rfl, p1, p2⟩ : ∃ w : Int, x6 = .int w ∧ 1 ≤ w ∧ w ≤ 999 := by
    simp at m6
    rcases m6 with rfl | rfl | rfl | rfl | rfl <;> exact ⟨_, rfl, by decide, by decide⟩
  have j6 := ix_lst (M := M.set l o6) i6
  simp only [List.length_map] at g6
  refine ⟨r, d1 - 20 + off, p, o6, ⟨by omega, fun t ht => hr _ ht t rfl, by omega, p1, p2⟩, by omega, ?_, h6.mono (by omega)⟩
  have hn : D.int (Int.ofNat n) = D.int (n : Int) := rfl
  simp [g__law_ready, e_defM, m__law_ready, e_sAsg0, List.replicate, e0, j0, e1, e2, j2, e3, kr, k1, k2, e6, j6, rD]
def lawB : SM :=
   (sSeq (sAsg (bTup 3 (bCons (bName 3) (bCons (bName 4) (bCons (bName 5) bNil)))) (mFn 2 g__law_ready (aCons (mV 1) (aCons (mC (.int 12)) aNil))))
   (sSeq (sIf (toB (VL.m2 (eqW false) (VL.m2 (intW modI) (mV 2) (mC (.int 3))) (mC (.int 0))))
    (sSet 3 (VL.m2 mulW (mSl (mV 3) oNone (oSome (mC (.int 3)))) (mC (.int 3))))
    sNil)
   (sFor (iSeq (mLst (aCons (mC (.int 0)) (aCons (mC (.int 1)) (aCons (mFn 2 g__law_draw (aCons (mV 1) (aCons (mC (.int 13)) aNil))) (aCons (mCall lenW (aCons (mV 3) aNil)) (aCons (mC (.int 99999)) aNil))))))) (bName 6)
    (sIf (bNot (toB (mFn 4 g__law_right (aCons (mV 3) (aCons (mV 4) (aCons (mV 5) (aCons (mV 6) aNil)))))))
     (sRet (mC (.bl false)))
     sNil))))
def InvL (ns : List Int) (pre : List Nat) (ρ : VL.Env) (M : Sto) : Prop := (∃ b2 b3 b4 b5 b6, ρ = [some (.d (.scr ns)), some (.cell 0), b2, b3, b4, b5, b6]) ∧ PenAt (100 * (pre.length : Nat)) 0 M
theorem inner {ns : List Int} {r : Rdy} {s p : Int} (h : Ok r s p) (K : Int) (M : Sto) (hp : PenAt K 0 M) (xs : List Nat) (hm : ∀ k ∈ xs, k ≤ 99999) (b2 b6 : Option W) :
    isNx (fun ρ M' => (∃ b2 b3 b4 b5 b6, ρ = [some (.d (.scr ns)), some (.cell 0), b2, b3, b4, b5, b6]) ∧ PenAt K 0 M')
      (forL (bName 6) (sIf (bNot (toB (mFn 4 g__law_right (aCons (mV 3) (aCons (mV 4) (aCons (mV 5) (aCons (mV 6) aNil))))))) (sRet (mC (.bl false))) sNil) (xs.map fun (k : Nat) => .int k) [some (.d (.scr ns)), some (.cell 0), b2, some (.d (rD r)), some (.d (.int s)), some (.d (.int p)), b6] M) := by
  have q := forL_run (b := bName 6) (body := sIf (bNot (toB (mFn 4 g__law_right (aCons (mV 3) (aCons (mV 4) (aCons (mV 5) (aCons (mV 6) aNil))))))) (sRet (mC (.bl false))) sNil) (f := fun (k : Nat) => D.int k) (xs := xs)
    (I := fun _ ρ M' => (∃ b6, ρ = [some (.d (.scr ns)), some (.cell 0), b2, some (.d (rD r)), some (.d (.int s)), some (.d (.int p)), b6]) ∧ PenAt K 0 M') (ρ := [some (.d (.scr ns)), some (.cell 0), b2, some (.d (rD r)), some (.d (.int s)), some (.d (.int p)), b6]) (M := M) ⟨⟨_, rfl⟩, hp⟩ (by
      rintro pre k post hx ρ M' ⟨⟨b6, rfl⟩, hp'⟩
      have hk : k ≤ 99999 := hm k (by rw [hx]; simp)
      refine ⟨_, rfl, ?_⟩
      have q := right_ok h hk M'
      simp [q, hp'])
  obtain ⟨ρ', M', e, ⟨b, rfl⟩, hp'⟩ := isNx_of q
  rw [e, isNx_nx]
  exact ⟨⟨_, _, _, _, _, rfl⟩, hp'⟩
theorem five (m l t : Nat) : ([0, 1, m, l, t].map fun (k : Nat) => D.int k) = [D.int 0, .int 1, .int m, .int l, .int t] := by simp
theorem five_le {m l t : Nat} (hm : m ≤ 99999) (hl : l ≤ 99999) (ht : t ≤ 99999) (k : Nat) (h : k ∈ [0, 1, m, l, t]) : k ≤ 99999 := by
  simp only [List.mem_cons, List.not_mem_nil, or_false] at h
  omega
theorem cut_to {α : Type} (xs : List α) (j : Nat) : VL.cutD xs none (some (j : Int)) = xs.take j := by
  unfold VL.cutD
  rw [HT.sIx_nat, HT.sIx_none]
  simp
theorem turn_ok {ns : List Int} {pre : List Nat} {k : Nat} (hk : pre.length < 14) (b2 b3 b4 b5 b6 : Option W) (M : Sto) (hp : PenAt (100 * (pre.length : Nat)) 0 M) :
    isNx (InvL ns (pre ++ [k])) (lawB [some (.d (.scr ns)), some (.cell 0), some (.d (.int k)), b3, b4, b5, b6] M) := by
  obtain ⟨r, s, p, o, hO, hl, e1, hp1⟩ := ready_ok hp (by omega)
  obtain ⟨d, o2, d1, d2, e2, hp2⟩ := dr hp1 (by omega) 13 (by decide) (by decide)
  rw [List.set_set] at e2 hp2
  obtain ⟨m, rfl⟩ := Int.eq_ofNat_of_zero_le d1
  have m13 : m ≤ 99999 := by omega
  obtain ⟨t, ht⟩ : ∃ t : Nat, t = 99999 := ⟨_, rfl⟩
  have ht2 : (t : Int) = 99999 := by omega
  have k100 : 100 * ((pre.length : Nat) : Int) + 40 + 1 ≤ 100 * (((pre ++ [k]).length : Nat) : Int) := by simp; omega
  by_cases c : (k : Int) % 3 = 0
  · -- the first three, three times
    have e1' : rD r = .lst (r.map tD) := rfl
    have hr : (List.replicate 3 ((r.map tD).take 3)).flatten = ((List.replicate 3 (r.take 3)).flatten).map tD := by simp [List.map_take]
    have hlen : ((List.replicate 3 (r.take 3)).flatten).length ≤ 9 := by simp; omega
    have hO' : Ok ((List.replicate 3 (r.take 3)).flatten) s p := ⟨by omega, fun t ht => hO.tb t (by
      obtain ⟨x, hx, hm⟩ := List.mem_flatten.mp ht
      rw [List.eq_of_mem_replicate hx] at hm
      exact List.mem_of_mem_take hm), hO.sb, hO.p1, hO.p2⟩
    have cu : VL.cutD (r.map tD) none (some 3) = (r.map tD).take 3 := cut_to (r.map tD) 3
    have mu : mulW (.d (.lst ((r.map tD).take 3))) (.d (.int 3)) (M.set 0 o) = .ok (.d (rD ((List.replicate 3 (r.take 3)).flatten))) (M.set 0 o) := by
      rw [mul_li (by simp [lim]; omega) (by decide) (by decide)]
      show R.ok (W.d (D.lst (List.replicate 3 ((r.map tD).take 3)).flatten)) _ = _
      rw [hr]; rfl
    generalize hq : (List.replicate 3 (r.take 3)).flatten = r' at hlen hO' mu
    have ln : lenW [.d (rD r')] (M.set 0 o2) = .ok (.d (.int r'.length)) (M.set 0 o2) := by unfold rD; rw [len_lst, List.length_map]
    obtain ⟨ρ', M', e3, ⟨c2, c3, c4, c5, c6, rfl⟩, hp3⟩ := isNx_of (inner (ns := ns) hO' _ _ hp2 _ (five_le m13 (by omega : r'.length ≤ 99999) (Nat.le_of_eq ht)) (some (.d (.int k))) b6)
    have c' : ((k : Int) % 3 == 0) = true := by simp [c]
    have z : InvL ns (pre ++ [k]) [some (.d (.scr ns)), some (.cell 0), c2, c3, c4, c5, c6] M' := ⟨⟨_, _, _, _, _, rfl⟩, hp3.mono k100⟩
    rw [e1'] at e1
    rw [five, ht2] at e3
    simp [lawB, e_sAsg0, e1, c', cu, mu, e2, ln, e3, z]
  · have ln : lenW [.d (rD r)] (M.set 0 o2) = .ok (.d (.int r.length)) (M.set 0 o2) := by unfold rD; rw [len_lst, List.length_map]
    obtain ⟨ρ', M', e3, ⟨c2, c3, c4, c5, c6, rfl⟩, hp3⟩ := isNx_of (inner (ns := ns) hO _ _ hp2 _ (five_le m13 (by omega : r.length ≤ 99999) (Nat.le_of_eq ht)) (some (.d (.int k))) b6)
    have c' : ((k : Int) % 3 == 0) = false := by simp; omega
    have z : InvL ns (pre ++ [k]) [some (.d (.scr ns)), some (.cell 0), c2, c3, c4, c5, c6] M' := ⟨⟨_, _, _, _, _, rfl⟩, hp3.mono k100⟩
    rw [five, ht2] at e3
    simp [lawB, e_sAsg0, e1, c', e2, ln, e3, z]
theorem law_true : ∀ ns : List Int, ns.length ≤ 63 → ∃ M, g_law [.d (.scr ns)] [] = .ok (.d (.bl true)) M := by
  intro ns _
  obtain ⟨ms, hpen⟩ : ∃ ms, g__law_pen [.d (.scr ns)] [] = .ok (.cell 0) [penO ms 0 0] := pen_ok (N := N__law_pen) rfl ns []
  have k14 : kR1 [.d (.int 14)] [penO ms 0 0] = .ok ((List.range 14).map fun (k : Nat) => .int k) [penO ms 0 0] := e_kR1s (n := 14) (by decide)
  have lp := forL_run (b := bName 2) (body := lawB) (f := fun (k : Nat) => D.int k) (xs := List.range 14) (I := InvL ns) (ρ := [some (.d (.scr ns)), some (.cell 0), none, none, none, none, none]) (M := [penO ms 0 0]) ⟨⟨_, _, _, _, _, rfl⟩, ms, 0, 0, rfl, by decide, by decide⟩ (by
    rintro pre k post hx ρ M ⟨⟨b2, b3, b4, b5, b6, rfl⟩, hp⟩
    have hl : pre.length < 14 := by
      have := congrArg List.length hx
      simp at this
      omega
    exact ⟨_, rfl, turn_ok hl b2 b3 b4 b5 b6 M hp⟩)
  obtain ⟨ρ', M, h1, ⟨b2, b3, b4, b5, b6, rfl⟩, _⟩ := isNx_of lp
  unfold lawB at h1
  -- the two at the end
  have O1 : Ok [] 0 1 := ⟨by decide, by simp, by decide, by decide, by decide⟩
  have q1 : g_least_delay [.d (.lst []), .d (.int 0), .d (.int 1), .d (.int 0)] M = .ok (.d (.tup [.int 0, .non])) M := by
    have e : ans [] 0 1 0 = .tup [.int 0, .non] := by simp [ans, prs, hav, sortP, nev]
    rw [← e]
    exact least_ok O1 (most := 0) (by decide) (by decide) M
  have O2 : Ok [none] 3 1 := ⟨by decide, by simp, by decide, by decide, by decide⟩
  have q2 : g__law_caught [.d (.lst [.non]), .d (.int 3), .d (.int 1), .d (.int 0)] M = .ok (.cell (M.length + 1)) (M ++ [.lst [.int 0]] ++ [.wl [.cell M.length, .d .non]]) := caught_no O2 (most := 0) (by decide) (by decide) M
  generalize hM : M ++ [.lst [.int 0]] ++ [.wl [.cell M.length, .d .non]] = M1 at q2
  have g1 : M1[M.length + 1]? = some (.wl [.cell M.length, .d .non]) := by rw [← hM]; simp
  have g2 : M1[M.length]? = some (.lst [.int 0]) := by rw [← hM]; simp
  have q3 : eqW false (.d (.tup [.int 0, .non])) (.d (.tup [.int 0, .non])) M = .ok (.d (.bl true)) M := (eq_dd rfl rfl (by simp)).trans rfl
  have q4 : eqW false (.cell (M.length + 1)) (.d (.lst [.lst [.int 0], .non])) M1 = .ok (.d (.bl true)) M1 := by
    have e : seeW (.cell (M.length + 1)) M1 = some (.lst [.lst [.int 0], .non]) := by
      unfold seeW
      simp only [g1, see1s, see1, g2]
      rfl
    unfold eqW
    rw [e]
    rfl
  refine ⟨M1, ?_⟩
  simp [g_law, e_defM, m_law, List.replicate, hpen, k14, h1, q1, q2, q3, q4]
end K47
namespace K47
open PySem PySem.Spec PyProof.Rows L2 VL
theorem exm_of {K : PySem.W.Frag} {S x : Addr} {b : Bool} (h1 : PySem.W.subIn K (.ref S) (.type "BaseException") = some true) (h2 : PySem.W.isClsIn K S = true) (h3 : PySem.W.typeIn K (.ref S) = some (.type "type")) (h4 : PySem.W.subIn K (.ref x) (.ref S) = some b) :
    PySem.W.exmOne K (.ref x) (.ref S) = some b := by
  have e1 : (PySem.W.subIn K (.ref S) (.type "BaseException") == some true) = true := by rw [h1]; rfl
  have e2 : ((PySem.W.clsIn K S).isSome && PySem.W.typeIn K (.ref S) == some (.type "type")) = true := by
    have q : (PySem.W.clsIn K S).isSome = true := h2
    rw [q, h3]; rfl
  simp only [PySem.W.exmOne, e1, PySem.W.kitCls, e2, if_true]
  exact h4
theorem all_mk {K : PySem.W.Frag} {h : Heap} {mg : Str → Option Value} {fa : Addr} {f_is_integer f_check_times f_check_delay f_least_delay f__law_pen f__law_next f__law_draw f__law_ready f__law_late f__law_caught f__law_waits f__law_right f_law x_InvalidTimes x_InvalidNumber x_NoDelay fi_NoDelay xb : Addr} {od_is_integer an_is_integer od_check_times an_check_times od_check_delay an_check_delay od_least_delay an_least_delay od__law_pen an__law_pen od__law_next an__law_next od__law_draw an__law_draw od__law_ready an__law_ready od__law_late an__law_late od__law_caught an__law_caught od__law_waits an__law_waits od__law_right an__law_right od_law an_law odi_NoDelay ani_NoDelay : Option Addr} {sl_is_integer sl_check_times sl_check_delay sl_least_delay sl__law_pen sl__law_next sl__law_draw sl__law_ready sl__law_late sl__law_caught sl__law_waits sl__law_right sl_law sli_NoDelay : Array (Option Value)} {oc_is_integer kV_is_integer dc_is_integer pm_is_integer cd_is_integer ct_is_integer oc_check_times kV_check_times dc_check_times pm_check_times cd_check_times ct_check_times oc_check_delay kV_check_delay dc_check_delay pm_check_delay cd_check_delay ct_check_delay oc_least_delay kV_least_delay dc_least_delay pm_least_delay cd_least_delay ct_least_delay oc__law_pen kV__law_pen dc__law_pen pm__law_pen cd__law_pen ct__law_pen oc__law_next kV__law_next dc__law_next pm__law_next cd__law_next ct__law_next oc__law_draw kV__law_draw dc__law_draw pm__law_draw cd__law_draw ct__law_draw oc__law_ready kV__law_ready dc__law_ready pm__law_ready cd__law_ready ct__law_ready oc__law_late kV__law_late dc__law_late pm__law_late cd__law_late ct__law_late oc__law_caught kV__law_caught dc__law_caught pm__law_caught cd__law_caught ct__law_caught oc__law_waits kV__law_waits dc__law_waits pm__law_waits cd__law_waits ct__law_waits oc__law_right kV__law_right dc__law_right pm__law_right cd__law_right ct__law_right oc_law kV_law dc_law pm_law cd_law ct_law oci_NoDelay kVi_NoDelay dci_NoDelay pmi_NoDelay cdi_NoDelay cti_NoDelay : Value} {tk_MAX_DELAY : Nat} {tk_MAX_PERIOD : Nat} {nmO_NoDelay qO_NoDelay : Str} {NO_NoDelay : Addr} {bsO_NoDelay bmO_NoDelay : List Value} {snO_NoDelay : List Str} {sbO_NoDelay : List Value} {abO_NoDelay : Bool} {coO_NoDelay : Option Bool} {ddO_NoDelay : Option Addr} {m0_NoDelay m1_NoDelay m2_NoDelay m3_NoDelay m5_NoDelay : Option Value} (X : K.In h) (G : h.Ns mainGlobals mg) (hfa : mg "law" = some (.ref fa))
    (a_is_integer : PySem.W.nsIn K mainGlobals "is_integer" = some (some (.ref f_is_integer)))
    (l_is_integer : K.lookup f_is_integer = some ⟨oc_is_integer, od_is_integer, .func (PySem.W.fnOf "is_integer" "is_integer" (defArgs s_is_integer) (defBody s_is_integer) (defScope s_is_integer) .none kV_is_integer dc_is_integer pm_is_integer an_is_integer cd_is_integer ct_is_integer), sl_is_integer⟩)
    (c_is_integer : PySem.W.codeIn K cd_is_integer "is_integer" = true)
    (k_is_integer : PySem.W.keepIn K (.ref f_is_integer) = true)
    (a_check_times : PySem.W.nsIn K mainGlobals "check_times" = some (some (.ref f_check_times)))
    (l_check_times : K.lookup f_check_times = some ⟨oc_check_times, od_check_times, .func (PySem.W.fnOf "check_times" "check_times" (defArgs s_check_times) (defBody s_check_times) (defScope s_check_times) .none kV_check_times dc_check_times pm_check_times an_check_times cd_check_times ct_check_times), sl_check_times⟩)
    (c_check_times : PySem.W.codeIn K cd_check_times "check_times" = true)
    (k_check_times : PySem.W.keepIn K (.ref f_check_times) = true)
    (a_check_delay : PySem.W.nsIn K mainGlobals "check_delay" = some (some (.ref f_check_delay)))
    (l_check_delay : K.lookup f_check_delay = some ⟨oc_check_delay, od_check_delay, .func (PySem.W.fnOf "check_delay" "check_delay" (defArgs s_check_delay) (defBody s_check_delay) (defScope s_check_delay) .none kV_check_delay dc_check_delay pm_check_delay an_check_delay cd_check_delay ct_check_delay), sl_check_delay⟩)
    (c_check_delay : PySem.W.codeIn K cd_check_delay "check_delay" = true)
    (k_check_delay : PySem.W.keepIn K (.ref f_check_delay) = true)
    (a_least_delay : PySem.W.nsIn K mainGlobals "least_delay" = some (some (.ref f_least_delay)))
    (l_least_delay : K.lookup f_least_delay = some ⟨oc_least_delay, od_least_delay, .func (PySem.W.fnOf "least_delay" "least_delay" (defArgs s_least_delay) (defBody s_least_delay) (defScope s_least_delay) .none kV_least_delay dc_least_delay pm_least_delay an_least_delay cd_least_delay ct_least_delay), sl_least_delay⟩)
    (c_least_delay : PySem.W.codeIn K cd_least_delay "least_delay" = true)
    (k_least_delay : PySem.W.keepIn K (.ref f_least_delay) = true)
    (a__law_pen : PySem.W.nsIn K mainGlobals "_law_pen" = some (some (.ref f__law_pen)))
    (l__law_pen : K.lookup f__law_pen = some ⟨oc__law_pen, od__law_pen, .func (PySem.W.fnOf "_law_pen" "_law_pen" (defArgs s__law_pen) (defBody s__law_pen) (defScope s__law_pen) .none kV__law_pen dc__law_pen pm__law_pen an__law_pen cd__law_pen ct__law_pen), sl__law_pen⟩)
    (c__law_pen : PySem.W.codeIn K cd__law_pen "_law_pen" = true)
    (k__law_pen : PySem.W.keepIn K (.ref f__law_pen) = true)
    (a__law_next : PySem.W.nsIn K mainGlobals "_law_next" = some (some (.ref f__law_next)))
    (l__law_next : K.lookup f__law_next = some ⟨oc__law_next, od__law_next, .func (PySem.W.fnOf "_law_next" "_law_next" (defArgs s__law_next) (defBody s__law_next) (defScope s__law_next) .none kV__law_next dc__law_next pm__law_next an__law_next cd__law_next ct__law_next), sl__law_next⟩)
    (c__law_next : PySem.W.codeIn K cd__law_next "_law_next" = true)
    (k__law_next : PySem.W.keepIn K (.ref f__law_next) = true)
    (a__law_draw : PySem.W.nsIn K mainGlobals "_law_draw" = some (some (.ref f__law_draw)))
    (l__law_draw : K.lookup f__law_draw = some ⟨oc__law_draw, od__law_draw, .func (PySem.W.fnOf "_law_draw" "_law_draw" (defArgs s__law_draw) (defBody s__law_draw) (defScope s__law_draw) .none kV__law_draw dc__law_draw pm__law_draw an__law_draw cd__law_draw ct__law_draw), sl__law_draw⟩)
    (c__law_draw : PySem.W.codeIn K cd__law_draw "_law_draw" = true)
    (k__law_draw : PySem.W.keepIn K (.ref f__law_draw) = true)
    (a__law_ready : PySem.W.nsIn K mainGlobals "_law_ready" = some (some (.ref f__law_ready)))
    (l__law_ready : K.lookup f__law_ready = some ⟨oc__law_ready, od__law_ready, .func (PySem.W.fnOf "_law_ready" "_law_ready" (defArgs s__law_ready) (defBody s__law_ready) (defScope s__law_ready) .none kV__law_ready dc__law_ready pm__law_ready an__law_ready cd__law_ready ct__law_ready), sl__law_ready⟩)
    (c__law_ready : PySem.W.codeIn K cd__law_ready "_law_ready" = true)
    (k__law_ready : PySem.W.keepIn K (.ref f__law_ready) = true)
    (a__law_late : PySem.W.nsIn K mainGlobals "_law_late" = some (some (.ref f__law_late)))
    (l__law_late : K.lookup f__law_late = some ⟨oc__law_late, od__law_late, .func (PySem.W.fnOf "_law_late" "_law_late" (defArgs s__law_late) (defBody s__law_late) (defScope s__law_late) .none kV__law_late dc__law_late pm__law_late an__law_late cd__law_late ct__law_late), sl__law_late⟩)
    (c__law_late : PySem.W.codeIn K cd__law_late "_law_late" = true)
    (k__law_late : PySem.W.keepIn K (.ref f__law_late) = true)
    (a__law_caught : PySem.W.nsIn K mainGlobals "_law_caught" = some (some (.ref f__law_caught)))
    (l__law_caught : K.lookup f__law_caught = some ⟨oc__law_caught, od__law_caught, .func (PySem.W.fnOf "_law_caught" "_law_caught" (defArgs s__law_caught) (defBody s__law_caught) (defScope s__law_caught) .none kV__law_caught dc__law_caught pm__law_caught an__law_caught cd__law_caught ct__law_caught), sl__law_caught⟩)
    (c__law_caught : PySem.W.codeIn K cd__law_caught "_law_caught" = true)
    (k__law_caught : PySem.W.keepIn K (.ref f__law_caught) = true)
    (a__law_waits : PySem.W.nsIn K mainGlobals "_law_waits" = some (some (.ref f__law_waits)))
    (l__law_waits : K.lookup f__law_waits = some ⟨oc__law_waits, od__law_waits, .func (PySem.W.fnOf "_law_waits" "_law_waits" (defArgs s__law_waits) (defBody s__law_waits) (defScope s__law_waits) .none kV__law_waits dc__law_waits pm__law_waits an__law_waits cd__law_waits ct__law_waits), sl__law_waits⟩)
    (c__law_waits : PySem.W.codeIn K cd__law_waits "_law_waits" = true)
    (k__law_waits : PySem.W.keepIn K (.ref f__law_waits) = true)
    (a__law_right : PySem.W.nsIn K mainGlobals "_law_right" = some (some (.ref f__law_right)))
    (l__law_right : K.lookup f__law_right = some ⟨oc__law_right, od__law_right, .func (PySem.W.fnOf "_law_right" "_law_right" (defArgs s__law_right) (defBody s__law_right) (defScope s__law_right) .none kV__law_right dc__law_right pm__law_right an__law_right cd__law_right ct__law_right), sl__law_right⟩)
    (c__law_right : PySem.W.codeIn K cd__law_right "_law_right" = true)
    (k__law_right : PySem.W.keepIn K (.ref f__law_right) = true)
    (a_law : PySem.W.nsIn K mainGlobals "law" = some (some (.ref f_law)))
    (l_law : K.lookup f_law = some ⟨oc_law, od_law, .func (PySem.W.fnOf "law" "law" (defArgs s_law) (defBody s_law) (defScope s_law) .none kV_law dc_law pm_law an_law cd_law ct_law), sl_law⟩)
    (c_law : PySem.W.codeIn K cd_law "law" = true)
    (k_law : PySem.W.keepIn K (.ref f_law) = true)
    (n_all : PySem.W.nsIn K mainGlobals "all" = some none)
    (n_bool : PySem.W.nsIn K mainGlobals "bool" = some none)
    (n_enumerate : PySem.W.nsIn K mainGlobals "enumerate" = some none)
    (n_int : PySem.W.nsIn K mainGlobals "int" = some none)
    (n_isinstance : PySem.W.nsIn K mainGlobals "isinstance" = some none)
    (n_len : PySem.W.nsIn K mainGlobals "len" = some none)
    (n_list : PySem.W.nsIn K mainGlobals "list" = some none)
    (n_max : PySem.W.nsIn K mainGlobals "max" = some none)
    (n_range : PySem.W.nsIn K mainGlobals "range" = some none)
    (n_repr : PySem.W.nsIn K mainGlobals "repr" = some none)
    (n_sorted : PySem.W.nsIn K mainGlobals "sorted" = some none)
    (n_tuple : PySem.W.nsIn K mainGlobals "tuple" = some none)
    (c_MAX_DELAY : PySem.W.nsIn K mainGlobals "MAX_DELAY" = some (some (.int 99999 tk_MAX_DELAY)))
    (c_MAX_PERIOD : PySem.W.nsIn K mainGlobals "MAX_PERIOD" = some (some (.int 999 tk_MAX_PERIOD)))
    (aX_InvalidTimes : PySem.W.nsIn K mainGlobals "InvalidTimes" = some (some (.ref x_InvalidTimes)))
    (kX_InvalidTimes : PySem.W.keepIn K (.ref x_InvalidTimes) = true)
    (eX_InvalidTimes : PySem.W.subIn K (.ref x_InvalidTimes) (.type "BaseException") = some true)
    (tX_InvalidTimes : PySem.W.typeIn K (.ref x_InvalidTimes) = some (.type "type"))
    (xX_InvalidTimes : PySem.W.excIn K x_InvalidTimes [.type "ValueError", .type "Exception", .type "BaseException", .type "object"] "ValueError.__new__" = true)
    (aX_InvalidNumber : PySem.W.nsIn K mainGlobals "InvalidNumber" = some (some (.ref x_InvalidNumber)))
    (kX_InvalidNumber : PySem.W.keepIn K (.ref x_InvalidNumber) = true)
    (eX_InvalidNumber : PySem.W.subIn K (.ref x_InvalidNumber) (.type "BaseException") = some true)
    (tX_InvalidNumber : PySem.W.typeIn K (.ref x_InvalidNumber) = some (.type "type"))
    (xX_InvalidNumber : PySem.W.excIn K x_InvalidNumber [.type "ValueError", .type "Exception", .type "BaseException", .type "object"] "ValueError.__new__" = true)
    (aX_NoDelay : PySem.W.nsIn K mainGlobals "NoDelay" = some (some (.ref x_NoDelay)))
    (kX_NoDelay : PySem.W.keepIn K (.ref x_NoDelay) = true)
    (eX_NoDelay : PySem.W.subIn K (.ref x_NoDelay) (.type "BaseException") = some true)
    (tX_NoDelay : PySem.W.typeIn K (.ref x_NoDelay) = some (.type "type"))
    (xL_NoDelay : K.lookup x_NoDelay = some (excClassObj nmO_NoDelay qO_NoDelay x_NoDelay NO_NoDelay bsO_NoDelay bmO_NoDelay true snO_NoDelay sbO_NoDelay abO_NoDelay coO_NoDelay ddO_NoDelay m0_NoDelay m1_NoDelay m2_NoDelay m3_NoDelay m5_NoDelay "ValueError.__new__"))
    (rb_NoDelay : PySem.HandSPX.refsVE bmO_NoDelay = true)
    (sa_NoDelay : PySem.W.findIn K (.ref x_NoDelay) "__setattr__" = some (some (.builtin "object.__setattr__")))
    (ga_NoDelay : PySem.W.findIn K (.ref x_NoDelay) "__getattribute__" = some (some (.builtin "BaseException.__getattribute__")))
    (gg_NoDelay : PySem.W.findIn K (.ref x_NoDelay) "__getattr__" = some none)
    (hd_NoDelay : PySem.W.hasDictIn K x_NoDelay = true)
    (no_NoDelay : PySem.W.findIn K (.ref x_NoDelay) "missing" = some none)
    (i_NoDelay : PySem.W.findIn K (.ref x_NoDelay) "__init__" = some (some (.ref fi_NoDelay)))
    (ti_NoDelay : PySem.W.typeIn K (.ref fi_NoDelay) = some (.type "function"))
    (li_NoDelay : K.lookup fi_NoDelay = some ⟨oci_NoDelay, odi_NoDelay, .func (PySem.W.fnOf "__init__" "NoDelay.__init__" (defArgs s_init_NoDelay) (defBody s_init_NoDelay) (defScope s_init_NoDelay) .none kVi_NoDelay dci_NoDelay pmi_NoDelay ani_NoDelay cdi_NoDelay cti_NoDelay), sli_NoDelay⟩)
    (ci_NoDelay : PySem.W.codeIn K cdi_NoDelay "NoDelay.__init__" = true)
    (ki_NoDelay : PySem.W.keepIn K (.ref fi_NoDelay) = true)
    (ic_NoDelay : PySem.W.isClsIn K x_NoDelay = true)
    (aB : PySem.W.nsIn K mainGlobals "PlayError" = some (some (.ref xb)))
    (rdB : PySem.W.readsIn K xb (.type "type") = true)
    (gaB : PySem.W.specialIn K (.ref xb) "__getattribute__" = some (some (.builtin "type.__getattribute__")))
    (fcB : PySem.W.findCls K (.ref xb) (.type "type") "__init__" = some (.val (.builtin "ValueError.__init__")))
    (s_NoDelay_InvalidTimes : PySem.W.subIn K (.ref x_InvalidTimes) (.ref x_NoDelay) = some false)
    (s_NoDelay_InvalidNumber : PySem.W.subIn K (.ref x_InvalidNumber) (.ref x_NoDelay) = some false)
    (s_NoDelay_NoDelay : PySem.W.subIn K (.ref x_NoDelay) (.ref x_NoDelay) = some true) :
    ∃ T : TX K mg, T.f_law = fa := by
  have e := hfa.symm.trans (PySem.W.mg_of X G a_law)
  obtain rfl : f_law = fa := by cases e; rfl
  exact ⟨{
    f_is_integer := f_is_integer, d_is_integer := _, F_is_integer := fun_mk (st := s_is_integer) l_is_integer c_is_integer k_is_integer, g_is_integer := PySem.W.mg_of X G a_is_integer, k_is_integer := k_is_integer,
    b_is_integer := (fun_mk (st := s_is_integer) l_is_integer c_is_integer k_is_integer).binds (ps := ["thing"]) fun _ _ _ _ _ _ us hl => (match us, hl with | [_], _ => rfl),
    f_check_times := f_check_times, d_check_times := _, F_check_times := fun_mk (st := s_check_times) l_check_times c_check_times k_check_times, g_check_times := PySem.W.mg_of X G a_check_times, k_check_times := k_check_times,
    b_check_times := (fun_mk (st := s_check_times) l_check_times c_check_times k_check_times).binds (ps := ["ready", "start", "period"]) fun _ _ _ _ _ _ us hl => (match us, hl with | [_, _, _], _ => rfl),
    f_check_delay := f_check_delay, d_check_delay := _, F_check_delay := fun_mk (st := s_check_delay) l_check_delay c_check_delay k_check_delay, g_check_delay := PySem.W.mg_of X G a_check_delay, k_check_delay := k_check_delay,
    b_check_delay := (fun_mk (st := s_check_delay) l_check_delay c_check_delay k_check_delay).binds (ps := ["thing"]) fun _ _ _ _ _ _ us hl => (match us, hl with | [_], _ => rfl),
    f_least_delay := f_least_delay, d_least_delay := _, F_least_delay := fun_mk (st := s_least_delay) l_least_delay c_least_delay k_least_delay, g_least_delay := PySem.W.mg_of X G a_least_delay, k_least_delay := k_least_delay,
    b_least_delay := (fun_mk (st := s_least_delay) l_least_delay c_least_delay k_least_delay).binds (ps := ["ready", "start", "period", "allowed"]) fun _ _ _ _ _ _ us hl => (match us, hl with | [_, _, _, _], _ => rfl),
    f__law_pen := f__law_pen, d__law_pen := _, F__law_pen := fun_mk (st := s__law_pen) l__law_pen c__law_pen k__law_pen, g__law_pen := PySem.W.mg_of X G a__law_pen, k__law_pen := k__law_pen,
    b__law_pen := (fun_mk (st := s__law_pen) l__law_pen c__law_pen k__law_pen).binds (ps := ["_law_script"]) fun _ _ _ _ _ _ us hl => (match us, hl with | [_], _ => rfl),
    f__law_next := f__law_next, d__law_next := _, F__law_next := fun_mk (st := s__law_next) l__law_next c__law_next k__law_next, g__law_next := PySem.W.mg_of X G a__law_next, k__law_next := k__law_next,
    b__law_next := (fun_mk (st := s__law_next) l__law_next c__law_next k__law_next).binds (ps := ["_law_pen_here"]) fun _ _ _ _ _ _ us hl => (match us, hl with | [_], _ => rfl),
    f__law_draw := f__law_draw, d__law_draw := _, F__law_draw := fun_mk (st := s__law_draw) l__law_draw c__law_draw k__law_draw, g__law_draw := PySem.W.mg_of X G a__law_draw, k__law_draw := k__law_draw,
    b__law_draw := (fun_mk (st := s__law_draw) l__law_draw c__law_draw k__law_draw).binds (ps := ["_law_pen_here", "_law_under"]) fun _ _ _ _ _ _ us hl => (match us, hl with | [_, _], _ => rfl),
    f__law_ready := f__law_ready, d__law_ready := _, F__law_ready := fun_mk (st := s__law_ready) l__law_ready c__law_ready k__law_ready, g__law_ready := PySem.W.mg_of X G a__law_ready, k__law_ready := k__law_ready,
    b__law_ready := (fun_mk (st := s__law_ready) l__law_ready c__law_ready k__law_ready).binds (ps := ["_law_pen_here", "_law_most"]) fun _ _ _ _ _ _ us hl => (match us, hl with | [_, _], _ => rfl),
    f__law_late := f__law_late, d__law_late := _, F__law_late := fun_mk (st := s__law_late) l__law_late c__law_late k__law_late, g__law_late := PySem.W.mg_of X G a__law_late, k__law_late := k__law_late,
    b__law_late := (fun_mk (st := s__law_late) l__law_late c__law_late k__law_late).binds (ps := ["_law_ready_here", "_law_start", "_law_period", "_law_wait"]) fun _ _ _ _ _ _ us hl => (match us, hl with | [_, _, _, _], _ => rfl),
    f__law_caught := f__law_caught, d__law_caught := _, F__law_caught := fun_mk (st := s__law_caught) l__law_caught c__law_caught k__law_caught, g__law_caught := PySem.W.mg_of X G a__law_caught, k__law_caught := k__law_caught,
    b__law_caught := (fun_mk (st := s__law_caught) l__law_caught c__law_caught k__law_caught).binds (ps := ["_law_ready_here", "_law_start", "_law_period", "_law_most"]) fun _ _ _ _ _ _ us hl => (match us, hl with | [_, _, _, _], _ => rfl),
    f__law_waits := f__law_waits, d__law_waits := _, F__law_waits := fun_mk (st := s__law_waits) l__law_waits c__law_waits k__law_waits, g__law_waits := PySem.W.mg_of X G a__law_waits, k__law_waits := k__law_waits,
    b__law_waits := (fun_mk (st := s__law_waits) l__law_waits c__law_waits k__law_waits).binds (ps := ["_law_ready_here", "_law_start", "_law_period"]) fun _ _ _ _ _ _ us hl => (match us, hl with | [_, _, _], _ => rfl),
    f__law_right := f__law_right, d__law_right := _, F__law_right := fun_mk (st := s__law_right) l__law_right c__law_right k__law_right, g__law_right := PySem.W.mg_of X G a__law_right, k__law_right := k__law_right,
    b__law_right := (fun_mk (st := s__law_right) l__law_right c__law_right k__law_right).binds (ps := ["_law_ready_here", "_law_start", "_law_period", "_law_most"]) fun _ _ _ _ _ _ us hl => (match us, hl with | [_, _, _, _], _ => rfl),
    f_law := f_law, d_law := _, F_law := fun_mk (st := s_law) l_law c_law k_law, g_law := PySem.W.mg_of X G a_law, k_law := k_law,
    b_law := (fun_mk (st := s_law) l_law c_law k_law).binds (ps := ["_law_script"]) fun _ _ _ _ _ _ us hl => (match us, hl with | [_], _ => rfl),
    n_all := PySem.W.mg_none_of X G n_all,
    n_bool := PySem.W.mg_none_of X G n_bool,
    n_enumerate := PySem.W.mg_none_of X G n_enumerate,
    n_int := PySem.W.mg_none_of X G n_int,
    n_isinstance := PySem.W.mg_none_of X G n_isinstance,
    n_len := PySem.W.mg_none_of X G n_len,
    n_list := PySem.W.mg_none_of X G n_list,
    n_max := PySem.W.mg_none_of X G n_max,
    n_range := PySem.W.mg_none_of X G n_range,
    n_repr := PySem.W.mg_none_of X G n_repr,
    n_sorted := PySem.W.mg_none_of X G n_sorted,
    n_tuple := PySem.W.mg_none_of X G n_tuple,
    c_MAX_DELAY := ⟨_, PySem.W.mg_of X G c_MAX_DELAY, ⟨_, rfl⟩⟩,
    c_MAX_PERIOD := ⟨_, PySem.W.mg_of X G c_MAX_PERIOD, ⟨_, rfl⟩⟩,
    a_InvalidTimes := x_InvalidTimes, g_InvalidTimes := PySem.W.mg_of X G aX_InvalidTimes, k_InvalidTimes := kX_InvalidTimes, e_InvalidTimes := eX_InvalidTimes, t_InvalidTimes := tX_InvalidTimes,
    x_InvalidTimes := xX_InvalidTimes,
    a_InvalidNumber := x_InvalidNumber, g_InvalidNumber := PySem.W.mg_of X G aX_InvalidNumber, k_InvalidNumber := kX_InvalidNumber, e_InvalidNumber := eX_InvalidNumber, t_InvalidNumber := tX_InvalidNumber,
    x_InvalidNumber := xX_InvalidNumber,
    a_NoDelay := x_NoDelay, g_NoDelay := PySem.W.mg_of X G aX_NoDelay, k_NoDelay := kX_NoDelay, e_NoDelay := eX_NoDelay, t_NoDelay := tX_NoDelay,
    o_NoDelay := ⟨⟨_, _, _, _, _, _, _, _, _, _, _, _, _, _, _, xL_NoDelay, rb_NoDelay⟩, sa_NoDelay, eX_NoDelay, tX_NoDelay, kX_NoDelay⟩, xf_NoDelay := ⟨ga_NoDelay, gg_NoDelay, eX_NoDelay, hd_NoDelay⟩, no_NoDelay := no_NoDelay,
    fi_NoDelay := fi_NoDelay, di_NoDelay := _, Fi_NoDelay := fun_mk (st := s_init_NoDelay) li_NoDelay ci_NoDelay ki_NoDelay, i_NoDelay := i_NoDelay, ti_NoDelay := ti_NoDelay,
    bi_NoDelay := (fun_mk (st := s_init_NoDelay) li_NoDelay ci_NoDelay ki_NoDelay).binds (ps := ["self", "missing"]) fun _ _ _ _ _ _ us hl => (match us, hl with | [_, _], _ => rfl),
    a_PlayError := xb, g_PlayError := PySem.W.mg_of X G aB, mc := .type "type", rd_PlayError := rdB, ga_PlayError := gaB, fc_PlayError := fcB,
    m_NoDelay_InvalidTimes := exm_of eX_NoDelay ic_NoDelay tX_NoDelay s_NoDelay_InvalidTimes,
    m_NoDelay_InvalidNumber := exm_of eX_NoDelay ic_NoDelay tX_NoDelay s_NoDelay_InvalidNumber,
    m_NoDelay_NoDelay := exm_of eX_NoDelay ic_NoDelay tX_NoDelay s_NoDelay_NoDelay,
    B_law := fun s u => .of_eq rfl }, rfl⟩
theorem all_fin {P : Program} {w : World} {K : PySem.W.Frag} {mg : Str → Option Value} {fa : Addr} (TT : ∃ T : TX K mg, T.f_law = fa) :
    ∃ (fd : FuncData) (G : GT) (g : List W → Sto → R W), (∀ (s : Shared) (u : Value), BindsTo s fd ⟨[u], []⟩ [("_law_script", u)]) ∧ G.K = K ∧ (∀ ns : List Int, ns.length ≤ 63 → ∃ M, g [.d (.scr ns)] [] = .ok (.d (.bl true)) M) ∧
      ∀ base : Heap, K.In base → base.Ns mainGlobals mg → Fnk P w K mg base 6 fa fd ["_law_script"] (spM G 1 g) := by
  obtain ⟨T, rfl⟩ := TT
  exact ⟨T.d_law, T.G, g_law, T.B_law, rfl, law_true, fun base _ _ => ok_law T⟩
end K47
set_option maxRecDepth 100000 in
set_option maxHeartbeats 0 in
theorem PySem.Challenge.cw_evenplay_k47_least_delays_holds : PySem.Challenge.rw_evenplay_k47_least_delays.Holds := by
  open PySem PySem.W PyProof.Rows in
  w_on; o_law; k_head; (case hw => w_witness2)
  k_fill
  refine VL.law_end (l := PySem.Challenge.rw_evenplay_k47_least_delays) (n := 63) (k := 6) (x := "_law_script") rfl (by decide) rfl ⟨rfl, by decide, by decide⟩ rfl (fun w h Y => PySem.W.kIn_of Y) ?F
  case F =>
    intro w mg fa h KX G hmg
    refine K47.all_fin ?TT
    refine' K47.all_mk KX G hmg ?a_is_integer ?l_is_integer ?c_is_integer ?k_is_integer ?a_check_times ?l_check_times ?c_check_times ?k_check_times ?a_check_delay ?l_check_delay ?c_check_delay ?k_check_delay ?a_least_delay ?l_least_delay ?c_least_delay ?k_least_delay ?a__law_pen ?l__law_pen ?c__law_pen ?k__law_pen ?a__law_next ?l__law_next ?c__law_next ?k__law_next ?a__law_draw ?l__law_draw ?c__law_draw ?k__law_draw ?a__law_ready ?l__law_ready ?c__law_ready ?k__law_ready ?a__law_late ?l__law_late ?c__law_late ?k__law_late ?a__law_caught ?l__law_caught ?c__law_caught ?k__law_caught ?a__law_waits ?l__law_waits ?c__law_waits ?k__law_waits ?a__law_right ?l__law_right ?c__law_right ?k__law_right ?a_law ?l_law ?c_law ?k_law ?n_all ?n_bool ?n_enumerate ?n_int ?n_isinstance ?n_len ?n_list ?n_max ?n_range ?n_repr ?n_sorted ?n_tuple ?c_MAX_DELAY ?c_MAX_PERIOD ?aX_InvalidTimes ?kX_InvalidTimes ?eX_InvalidTimes ?tX_InvalidTimes ?xX_InvalidTimes ?aX_InvalidNumber ?kX_InvalidNumber ?eX_InvalidNumber ?tX_InvalidNumber ?xX_InvalidNumber ?aX_NoDelay ?kX_NoDelay ?eX_NoDelay ?tX_NoDelay ?xL_NoDelay ?rb_NoDelay ?sa_NoDelay ?ga_NoDelay ?gg_NoDelay ?hd_NoDelay ?no_NoDelay ?i_NoDelay ?ti_NoDelay ?li_NoDelay ?ci_NoDelay ?ki_NoDelay ?ic_NoDelay ?aB ?rdB ?gaB ?fcB ?s_NoDelay_InvalidTimes ?s_NoDelay_InvalidNumber ?s_NoDelay_NoDelay
    (case a_is_integer => k_is)
    (case l_is_integer => k_is)
    (case c_is_integer => k_is)
    (case k_is_integer => k_is)
    (case a_check_times => k_is)
    (case l_check_times => k_is)
    (case c_check_times => k_is)
    (case k_check_times => k_is)
    (case a_check_delay => k_is)
    (case l_check_delay => k_is)
    (case c_check_delay => k_is)
    (case k_check_delay => k_is)
    (case a_least_delay => k_is)
    (case l_least_delay => k_is)
    (case c_least_delay => k_is)
    (case k_least_delay => k_is)
    (case a__law_pen => k_is)
    (case l__law_pen => k_is)
    (case c__law_pen => k_is)
    (case k__law_pen => k_is)
    (case a__law_next => k_is)
    (case l__law_next => k_is)
    (case c__law_next => k_is)
    (case k__law_next => k_is)
    (case a__law_draw => k_is)
    (case l__law_draw => k_is)
    (case c__law_draw => k_is)
    (case k__law_draw => k_is)
    (case a__law_ready => k_is)
    (case l__law_ready => k_is)
    (case c__law_ready => k_is)
    (case k__law_ready => k_is)
    (case a__law_late => k_is)
    (case l__law_late => k_is)
    (case c__law_late => k_is)
    (case k__law_late => k_is)
    (case a__law_caught => k_is)
    (case l__law_caught => k_is)
    (case c__law_caught => k_is)
    (case k__law_caught => k_is)
    (case a__law_waits => k_is)
    (case l__law_waits => k_is)
    (case c__law_waits => k_is)
    (case k__law_waits => k_is)
    (case a__law_right => k_is)
    (case l__law_right => k_is)
    (case c__law_right => k_is)
    (case k__law_right => k_is)
    (case a_law => k_is)
    (case l_law => k_is)
    (case c_law => k_is)
    (case k_law => k_is)
    (case n_all => k_is)
    (case n_bool => k_is)
    (case n_enumerate => k_is)
    (case n_int => k_is)
    (case n_isinstance => k_is)
    (case n_len => k_is)
    (case n_list => k_is)
    (case n_max => k_is)
    (case n_range => k_is)
    (case n_repr => k_is)
    (case n_sorted => k_is)
    (case n_tuple => k_is)
    (case c_MAX_DELAY => k_is)
    (case c_MAX_PERIOD => k_is)
    (case aX_InvalidTimes => k_is)
    (case kX_InvalidTimes => k_is)
    (case eX_InvalidTimes => k_is)
    (case tX_InvalidTimes => k_is)
    (case xX_InvalidTimes => k_exc)
    (case aX_InvalidNumber => k_is)
    (case kX_InvalidNumber => k_is)
    (case eX_InvalidNumber => k_is)
    (case tX_InvalidNumber => k_is)
    (case xX_InvalidNumber => k_exc)
    (case aX_NoDelay => k_is)
    (case kX_NoDelay => k_is)
    (case eX_NoDelay => k_is)
    (case tX_NoDelay => k_is)
    (case xL_NoDelay => k_is)
    (case rb_NoDelay => first | rfl | decide +kernel)
    (case sa_NoDelay => k_is)
    (case ga_NoDelay => k_is)
    (case gg_NoDelay => k_is)
    (case hd_NoDelay => k_is)
    (case no_NoDelay => k_is)
    (case i_NoDelay => k_is)
    (case ti_NoDelay => k_is)
    (case li_NoDelay => k_is)
    (case ci_NoDelay => k_is)
    (case ki_NoDelay => k_is)
    (case ic_NoDelay => k_is)
    (case aB => k_is)
    (case rdB => k_is)
    (case gaB => k_is)
    (case fcB => k_is)
    (case s_NoDelay_InvalidTimes => first | rfl | k_is)
    (case s_NoDelay_InvalidNumber => first | rfl | k_is)
    (case s_NoDelay_NoDelay => first | rfl | k_is)
